import PyProof.Rows.All
import Wide.All
import OpenK.AllK
import Wide.FinOn
import HandS.ForMost
import HandS.Wide
import HandS.Evl
import HandS.TupAny
import HandS.IsInst
import HandS.Exc
import HandS.TryOnly
import HandS.ExcOwn
import HandS.CallSlots
import HandS.WordsExc
import HandS.Dict
import HandS.More
import HandS.TupLe
import HandS.Deep
import HandS.Words
import HandS.Text
import PyProof.P3Eq
import HandS.Base
import HandS.Call
import HandS.List
import HandS.SortKw
import KE.SortData
import HandS.Defaults
import HandS.EndBits
import PySem.Challenge.RW_kithwhole_k04_heard_lists_fit
set_option Elab.async false
set_option linter.all false
set_option maxRecDepth 100000
/-! Tq1: data as trees, cells that may turn, the state's truth in the heap. -/
namespace Tq
open PySem PySem.Spec PyProof.Rows L2

/-- other objects with parts: a dict by ints and texts, a dict by tuples of these, an instance of the class under a global name -/
inductive Hd where
  | dic (ks : List Key) | dit (ks : List (List Key)) | ins (C : Str) (fs : List Str)
/-- data that nobody changes -/
inductive D where
  | non | bl (b : Bool) | int (i : Int) | str (x : Str) | tup (xs : List D) | kt (xs : List D) | lst (xs : List D) | scr (ns : List Int) | fn (x : Str) | nd (h : Hd) (xs : List D)
/-- values: data, a cell, a tuple with cells in it -/
inductive A where
  | d (x : D) | r (k : Nat) | tup (ws : List A)
/-- what a cell holds -/
inductive O where
  | lst (ws : List A) | nd (h : Hd) (ws : List A) | dead
abbrev Hq := List O
abbrev Sl := List (Option A)
/-- an exception: of an own class, bare or with one field; of a built-in class -/
inductive Xc where
  | own (C : Str) | fld (C f : Str) (w : A) | blt (T : String)

def glAt (K : PySem.W.Frag) (C : Str) : Option Addr := match PySem.W.nsIn K mainGlobals C with | some (some (.ref c)) => some c | _ => none
inductive HdAt (K : PySem.W.Frag) (H : Hp) (a : Addr) : Hd → List V → List Addr → Prop
  | dic {ks : List Key} {vs : List V} : H a = some (.dK (ks.zip vs)) → ks.length = vs.length → HdAt K H a (.dic ks) vs [a]
  | dit {ks : List (List Key)} {vs : List V} : H a = some (.dT (ks.zip vs)) → ks.length = vs.length → HdAt K H a (.dit ks) vs [a]
  | ins {C : Str} {ca dx : Addr} {fs : List Str} {vs : List V} : glAt K C = some ca → H a = some (.ins ca dx (fs.zip vs)) → H dx = some (.own a) → fs.length = vs.length → HdAt K H a (.ins C fs) vs [a, dx]
theorem HdAt.to {K : PySem.W.Frag} {H H' : Hp} {a : Addr} {h : Hd} {vs : List V} {own : List Addr} (x : HdAt K H a h vs own) (e : ∀ b ∈ own, ∀ o, H b = some o → H' b = some o) : HdAt K H' a h vs own := by
  cases x with
  | dic h1 h2 => exact .dic (e _ (by simp) _ h1) h2
  | dit h1 h2 => exact .dit (e _ (by simp) _ h1) h2
  | ins h0 h1 h2 h4 => exact .ins h0 (e _ (by simp) _ h1) (e _ (by simp) _ h2) h4
theorem HdAt.own_or {K : PySem.W.Frag} {H : Hp} {a : Addr} {h : Hd} {vs : List V} {own : List Addr} (x : HdAt K H a h vs own) : a ∈ own ∧ (∀ b ∈ own, b = a ∨ H b = some (.own a)) ∧ (∀ b ∈ own, H b ≠ none) ∧ H a ≠ none ∧ ∀ z, H a ≠ some (.own z) := by
  cases x with
  | dic h1 h2 => exact ⟨by simp, by simp, by simp [h1], by simp [h1], by simp [h1]⟩
  | dit h1 h2 => exact ⟨by simp, by simp, by simp [h1], by simp [h1], by simp [h1]⟩
  | ins h0 h1 h2 h4 => exact ⟨by simp, by simp [h2], by simp [h1, h2], by simp [h1], by simp [h1]⟩
theorem sqt_of {K : PySem.W.Frag} {B : Hp} {a : Addr} {xs : List V} (h : B a = some (.tup xs)) : SqT K B a xs := .inl (.inl h)
theorem sqt_mono {K : PySem.W.Frag} {B B' : Hp} {a : Addr} {xs : List V} (e : Same B B') (h : SqT K B a xs) : SqT K B' a xs := by
  rcases h with (h | ⟨o, h⟩) | h
  · exact .inl (.inl (e _ _ h))
  · exact .inl (.inr ⟨o, e _ _ h⟩)
  · exact .inr h
mutual
inductive Rp (K : PySem.W.Frag) (B : Hp) : V → D → Prop
  | non : Rp K B .non .non
  | bl (b : Bool) : Rp K B (.bl b) (.bl b)
  | int (i : Int) : Rp K B (.int i) (.int i)
  | str (x : Str) : Rp K B (.str x) (.str x)
  | tup {a : Addr} {vs : List V} {ds : List D} : B a = some (.tup vs) → RpL K B vs ds → Rp K B (.ref a) (.tup ds)
  | kt {a : Addr} {vs : List V} {ds : List D} : SqT K B a vs → RpL K B vs ds → Rp K B (.ref a) (.kt ds)
  | lst {a : Addr} {vs : List V} {ds : List D} : B a = some (.lst vs) → RpL K B vs ds → Rp K B (.ref a) (.lst ds)
  | scr {a : Addr} {ns : List Int} : SqL K B a (ns.map V.int) → Rp K B (.ref a) (.scr ns)
  | fn {a : Addr} {x : Str} : glAt K x = some a → Rp K B (.ref a) (.fn x)
  | nd {a : Addr} {h : Hd} {vs : List V} {ds : List D} {own : List Addr} : HdAt K B a h vs own → RpL K B vs ds → Rp K B (.ref a) (.nd h ds)
inductive RpL (K : PySem.W.Frag) (B : Hp) : List V → List D → Prop
  | nil : RpL K B [] []
  | cons {v : V} {vs : List V} {d : D} {ds : List D} : Rp K B v d → RpL K B vs ds → RpL K B (v :: vs) (d :: ds)
end
section
variable {K : PySem.W.Frag} {B B' H H' : Hp}
mutual
theorem Rp.mono (e : Same B B') : ∀ {v : V} {d : D}, Rp K B v d → Rp K B' v d
  | _, _, .non => .non
  | _, _, .bl b => .bl b
  | _, _, .int i => .int i
  | _, _, .str x => .str x
  | _, _, .tup h r => .tup (e _ _ h) (RpL.mono e r)
  | _, _, .kt h r => .kt (sqt_mono e h) (RpL.mono e r)
  | _, _, .lst h r => .lst (e _ _ h) (RpL.mono e r)
  | _, _, .scr h => .scr (e.seq h)
  | _, _, .fn h => .fn h
  | _, _, .nd h r => .nd (h.to fun _ _ _ z => e _ _ z) (RpL.mono e r)
theorem RpL.mono (e : Same B B') : ∀ {vs : List V} {ds : List D}, RpL K B vs ds → RpL K B' vs ds
  | _, _, .nil => .nil
  | _, _, .cons h r => .cons (Rp.mono e h) (RpL.mono e r)
end
theorem RpL.length : ∀ {vs : List V} {ds : List D}, RpL K B vs ds → vs.length = ds.length
  | _, _, .nil => rfl
  | _, _, .cons _ r => congrArg (· + 1) r.length
theorem RpL.get : ∀ {vs : List V} {ds : List D} {i : Nat} {d : D}, RpL K B vs ds → ds[i]? = some d → ∃ v, vs[i]? = some v ∧ Rp K B v d
  | _, _, _, _, .nil, e => by simp at e
  | _, _, 0, _, .cons r _, e => by simp at e; subst e; exact ⟨_, rfl, r⟩
  | _, _, i + 1, d, .cons _ t, e => by
    obtain ⟨u, h1, h2⟩ := RpL.get (i := i) (d := d) t (by simpa using e)
    exact ⟨u, by simpa using h1, h2⟩
theorem RpL.append : ∀ {vs ws : List V} {ds es : List D}, RpL K B vs ds → RpL K B ws es → RpL K B (vs ++ ws) (ds ++ es)
  | _, _, _, _, .nil, s => s
  | _, _, _, _, .cons r t, s => .cons r (RpL.append t s)
end
mutual
inductive RA (K : PySem.W.Frag) (B : Hp) (ρ : Nat → Option Addr) : V → A → Prop
  | d {v : V} {x : D} : Rp K B v x → RA K B ρ v (.d x)
  | r {k : Nat} {a : Addr} : ρ k = some a → RA K B ρ (.ref a) (.r k)
  | tup {a : Addr} {vs : List V} {ws : List A} : B a = some (.tup vs) → RAL K B ρ vs ws → RA K B ρ (.ref a) (.tup ws)
inductive RAL (K : PySem.W.Frag) (B : Hp) (ρ : Nat → Option Addr) : List V → List A → Prop
  | nil : RAL K B ρ [] []
  | cons {v : V} {vs : List V} {w : A} {ws : List A} : RA K B ρ v w → RAL K B ρ vs ws → RAL K B ρ (v :: vs) (w :: ws)
end
/-- from state to state, while Z stands aside -/
structure Gr (Z B : Hp) (ρ : Nat → Option Addr) (B' : Hp) (ρ' : Nat → Option Addr) : Prop where
  bb : Same B B'
  rr : ∀ k a, ρ k = some a → ρ' k = some a
  fz : ∀ a, B a = none → B' a ≠ none → Z a = none
section
variable {K : PySem.W.Frag} {Z B B' B'' H H' : Hp} {ρ ρ' ρ'' : Nat → Option Addr}
theorem Gr.refl : Gr Z B ρ B ρ := ⟨fun _ _ h => h, fun _ _ h => h, fun a h h' => absurd h h'⟩
theorem Gr.trans (f : Gr Z B ρ B' ρ') (g : Gr Z B' ρ' B'' ρ'') : Gr Z B ρ B'' ρ'' := by
  refine ⟨fun a o h => g.bb a o (f.bb a o h), fun k a h => g.rr k a (f.rr k a h), fun a h h' => ?_⟩
  by_cases e : B' a = none
  · exact g.fz a e h'
  · exact f.fz a h e
mutual
theorem RA.mono (g : Gr Z B ρ B' ρ') : ∀ {v : V} {w : A}, RA K B ρ v w → RA K B' ρ' v w
  | _, _, .d r => .d (r.mono g.bb)
  | _, _, .r h => .r (g.rr _ _ h)
  | _, _, .tup h r => .tup (g.bb _ _ h) (RAL.mono g r)
theorem RAL.mono (g : Gr Z B ρ B' ρ') : ∀ {vs : List V} {ws : List A}, RAL K B ρ vs ws → RAL K B' ρ' vs ws
  | _, _, .nil => .nil
  | _, _, .cons h r => .cons (RA.mono g h) (RAL.mono g r)
end
theorem RAL.length : ∀ {vs : List V} {ws : List A}, RAL K B ρ vs ws → vs.length = ws.length
  | _, _, .nil => rfl
  | _, _, .cons _ r => congrArg (· + 1) r.length
theorem RAL.get : ∀ {vs : List V} {ds : List A} {i : Nat} {d : A}, RAL K B ρ vs ds → ds[i]? = some d → ∃ v, vs[i]? = some v ∧ RA K B ρ v d
  | _, _, _, _, .nil, e => by simp at e
  | _, _, 0, _, .cons r _, e => by simp at e; subst e; exact ⟨_, rfl, r⟩
  | _, _, i + 1, d, .cons _ t, e => by
    obtain ⟨u, h1, h2⟩ := RAL.get (i := i) (d := d) t (by simpa using e)
    exact ⟨u, by simpa using h1, h2⟩
theorem RAL.append : ∀ {vs ws : List V} {ds es : List A}, RAL K B ρ vs ds → RAL K B ρ ws es → RAL K B ρ (vs ++ ws) (ds ++ es)
  | _, _, _, _, .nil, s => s
  | _, _, _, _, .cons r t, s => .cons r (RAL.append t s)
theorem RAL.take : ∀ {vs : List V} {ds : List A} (n : Nat), RAL K B ρ vs ds → RAL K B ρ (vs.take n) (ds.take n)
  | _, _, 0, _ => by simpa using RAL.nil
  | _, _, _ + 1, .nil => .nil
  | _, _, n + 1, .cons r t => .cons r (RAL.take n t)
theorem RAL.drop : ∀ {vs : List V} {ds : List A} (n : Nat), RAL K B ρ vs ds → RAL K B ρ (vs.drop n) (ds.drop n)
  | _, _, 0, r => by simpa using r
  | _, _, _ + 1, .nil => .nil
  | _, _, n + 1, .cons _ t => RAL.drop n t
theorem RAL.set : ∀ {vs : List V} {ds : List A} (n : Nat) {v : V} {w : A}, RAL K B ρ vs ds → RA K B ρ v w → RAL K B ρ (vs.set n v) (ds.set n w)
  | _, _, _, _, _, .nil, _ => by simpa using RAL.nil
  | _, _, 0, _, _, .cons _ t, w => .cons w t
  | _, _, n + 1, _, _, .cons r t, w => .cons r (RAL.set n t w)
theorem RAL.reverse {vs : List V} {ds : List A} (h : RAL K B ρ vs ds) : RAL K B ρ vs.reverse ds.reverse := by
  induction vs generalizing ds with
  | nil => cases h; exact .nil
  | cons v vs ih =>
    cases h with
    | cons r t =>
      rw [List.reverse_cons, List.reverse_cons]
      exact (ih t).append (.cons r .nil)
theorem ral_ds : ∀ {vs : List V} {ds : List D}, RpL K B vs ds → RAL K B ρ vs (ds.map A.d)
  | _, _, .nil => .nil
  | _, _, .cons r t => .cons (.d r) (ral_ds t)
theorem ral_rpl : ∀ {ds : List D} {vs : List V}, RAL K B ρ vs (ds.map A.d) → RpL K B vs ds
  | [], _, h => by cases h; exact .nil
  | d :: r, _, h => by
    cases h with
    | cons h t =>
      cases h with
      | d h => exact .cons h (ral_rpl t)
theorem rpl_ints : ∀ (ns : List Int), RpL K B (ns.map V.int) (ns.map D.int)
  | [] => .nil
  | n :: r => .cons (.int n) (rpl_ints r)
end

/-! ### cells -/
inductive CeAt (K : PySem.W.Frag) (Z B H : Hp) (ρ : Nat → Option Addr) (a : Addr) : O → Prop
  | lst {vs : List V} {ws : List A} : H a = some (.lst vs) → RAL K B ρ vs ws → B a = none → Z a = none → CeAt K Z B H ρ a (.lst ws)
  | nd {hd : Hd} {vs : List V} {ws : List A} {own : List Addr} : HdAt K H a hd vs own → RAL K B ρ vs ws → (∀ b ∈ own, B b = none ∧ Z b = none) → CeAt K Z B H ρ a (.nd hd ws)
  | dead : Z a = none → CeAt K Z B H ρ a .dead
structure Ok (K : PySem.W.Frag) (Z B : Hp) (ρ : Nat → Option Addr) (H : Hp) (h : Hq) : Prop where
  ex : Same B H
  zz : Same Z H
  ce : ∀ (k : Nat) (o : O), h[k]? = some o → ∃ a, ρ k = some a ∧ CeAt K Z B H ρ a o
  nj : ∀ i j a, ρ i = some a → ρ j = some a → i = j
  al : ∀ k a, ρ k = some a → H a ≠ none
  up : ∀ k, h.length ≤ k → ρ k = none
section
variable {K : PySem.W.Frag} {Z B B' H H' : Hp} {ρ ρ' : Nat → Option Addr} {h : Hq} {σ : L2.St} {τ : Sl}
/-- a new object that nobody changes -/
theorem Ok.newB {q : Addr} {o : HO} (ok : Ok K Z B ρ H h) (hq : H q = none) : Ok K Z (upd B q o) ρ (upd H q o) h ∧ Gr Z B ρ (upd B q o) ρ := by
  have hb : B q = none := by
    cases z : B q with
    | none => rfl
    | some u => rw [ok.ex q u z] at hq; cases hq
  have hz : Z q = none := by
    cases z : Z q with
    | none => rfl
    | some u => rw [ok.zz q u z] at hq; cases hq
  have g : Gr Z B ρ (upd B q o) ρ := ⟨fun a u e => by rw [upd_ne (ne_of_none e hb)]; exact e, fun _ _ e => e, fun a e e' => by
    by_cases z : a = q
    · rw [z]; exact hz
    · rw [upd_ne z] at e'; exact absurd e e'⟩
  refine ⟨⟨fun a u e => ?_, fun a u e => ?_, fun k c e => ?_, ok.nj, fun k a e => ?_, ok.up⟩, g⟩
  · by_cases z : a = q
    · subst z; rw [upd_same] at e ⊢; exact e
    · rw [upd_ne z] at e ⊢; exact ok.ex a u e
  · rw [upd_ne (ne_of_none e hz)]; exact ok.zz a u e
  · obtain ⟨a, h1, h2⟩ := ok.ce k c e
    refine ⟨a, h1, ?_⟩
    cases h2 with
    | lst e1 e2 e3 e4 =>
      have n : a ≠ q := fun z => by subst z; rw [hq] at e1; cases e1
      exact .lst (by rw [upd_ne n]; exact e1) (e2.mono g) (by rw [upd_ne n]; exact e3) e4
    | nd e1 e2 e3 =>
      have n : ∀ b ∈ _, b ≠ q := fun b hb' z => e1.own_or.2.2.1 b hb' (by rw [z]; exact hq)
      exact .nd (e1.to fun b hb' u e => by rw [upd_ne (n b hb')]; exact e) (e2.mono g) fun b hb' => ⟨by rw [upd_ne (n b hb')]; exact (e3 b hb').1, (e3 b hb').2⟩
    | dead ed => exact .dead ed
  · by_cases z : a = q
    · subst z; rw [upd_same]; simp
    · rw [upd_ne z]; exact ok.al k a e
/-- a new cell -/
theorem Ok.newC {q : Addr} {o : O} (ok : Ok K Z B ρ H h) (hq : H q = none) (hh : ∀ b u, H b = some u → H' b = some u) (hq' : H' q ≠ none) (c : CeAt K Z B H' ρ q o) :
    Ok K Z B (fun k => if k = h.length then some q else ρ k) H' (h ++ [o]) ∧ Gr Z B ρ B (fun k => if k = h.length then some q else ρ k) := by
  have g : Gr Z B ρ B (fun k => if k = h.length then some q else ρ k) := ⟨fun _ _ e => e, fun k a e => by
    have : k ≠ h.length := fun z => by rw [ok.up k (by omega)] at e; cases e
    show (if k = h.length then some q else ρ k) = some a
    rw [if_neg this]; exact e, fun a e e' => absurd e e'⟩
  refine ⟨⟨fun a u e => hh _ _ (ok.ex a u e), fun a u e => hh _ _ (ok.zz a u e), fun k c' e => ?_, fun i j a e1 e2 => ?_, fun k a e => ?_, fun k e => ?_⟩, g⟩
  · by_cases z : k = h.length
    · subst z
      rw [List.getElem?_append_right (by omega), Nat.sub_self] at e
      cases e
      refine ⟨q, if_pos rfl, ?_⟩
      cases c with
      | lst e1 e2 e3 e4 => exact .lst e1 (e2.mono g) e3 e4
      | nd e1 e2 e3 => exact .nd e1 (e2.mono g) e3
      | dead ed => exact .dead ed
    · have hk : k < h.length := by
        have := (List.getElem?_eq_some_iff.mp e).1
        rw [List.length_append, List.length_singleton] at this
        omega
      rw [List.getElem?_append_left hk] at e
      obtain ⟨a, h1, h2⟩ := ok.ce k c' e
      refine ⟨a, g.rr k a h1, ?_⟩
      cases h2 with
      | lst e1 e2 e3 e4 => exact .lst (hh _ _ e1) (e2.mono g) e3 e4
      | nd e1 e2 e3 => exact .nd (e1.to fun b _ u e => hh _ _ e) (e2.mono g) e3
      | dead ed => exact .dead ed
  · have e1 : (if i = h.length then some q else ρ i) = some a := e1
    have e2 : (if j = h.length then some q else ρ j) = some a := e2
    split at e1 <;> split at e2
    · omega
    · cases e1; exact absurd hq (ok.al _ _ e2)
    · cases e2; exact absurd hq (ok.al _ _ e1)
    · exact ok.nj i j a e1 e2
  · have e : (if k = h.length then some q else ρ k) = some a := e
    split at e
    · cases e; exact hq'
    · have := ok.al k a e
      cases z : H a with
      | none => exact absurd z this
      | some u => rw [hh _ _ z]; simp
  · rw [List.length_append, List.length_singleton] at e
    show (if k = h.length then some q else ρ k) = none
    rw [if_neg (by omega)]
    exact ok.up k (by omega)
/-- a cell turns -/
theorem Ok.mut {k : Nat} {a : Addr} {o o' : O} {ob : HO} (ok : Ok K Z B ρ H h) (e : h[k]? = some o) (hr : ρ k = some a) (hn : ∀ z, H a ≠ some (.own z)) (hb : B a = none) (hz : Z a = none) (c : CeAt K Z B (upd H a ob) ρ a o') : Ok K Z B ρ (upd H a ob) (h.set k o') := by
  have hk : k < h.length := (List.getElem?_eq_some_iff.mp e).1
  refine ⟨fun b u q => ?_, fun b u q => ?_, fun j c' q => ?_, ok.nj, fun j b q => ?_, fun j q => ok.up j (by rwa [List.length_set] at q)⟩
  · rw [upd_ne (ne_of_none q hb)]; exact ok.ex b u q
  · rw [upd_ne (ne_of_none q hz)]; exact ok.zz b u q
  · by_cases z : j = k
    · subst z
      rw [List.getElem?_set_self hk] at q
      cases q
      exact ⟨a, hr, c⟩
    · rw [List.getElem?_set_ne (Ne.symm z)] at q
      obtain ⟨b, h1, h2⟩ := ok.ce j c' q
      have nab : b ≠ a := fun y => z (ok.nj j k a (by rw [← y]; exact h1) hr)
      refine ⟨b, h1, ?_⟩
      cases h2 with
      | lst e1 e2 e3 e4 => exact .lst (by rw [upd_ne nab]; exact e1) e2 e3 e4
      | nd e1 e2 e3 =>
        refine .nd (e1.to fun y hy u eu => ?_) e2 e3
        rcases e1.own_or.2.1 y hy with w | w
        · subst w; rw [upd_ne nab]; exact eu
        · rw [upd_ne fun v => hn b (by rw [← v]; exact w)]; exact eu
      | dead ed => exact .dead ed
  · by_cases z : b = a
    · subst z; rw [upd_same]; simp
    · rw [upd_ne z]; exact ok.al j b q
/-- other heaps that agree where it counts -/
theorem Ok.grow {H' : Hp} (ok : Ok K Z B ρ H h) (hh : ∀ b u, H b = some u → H' b = some u) : Ok K Z B ρ H' h := by
  refine ⟨fun a u e => hh _ _ (ok.ex a u e), fun a u e => hh _ _ (ok.zz a u e), fun k c e => ?_, ok.nj, fun k a e => ?_, ok.up⟩
  · obtain ⟨a, h1, h2⟩ := ok.ce k c e
    refine ⟨a, h1, ?_⟩
    cases h2 with
    | lst e1 e2 e3 e4 => exact .lst (hh _ _ e1) e2 e3 e4
    | nd e1 e2 e3 => exact .nd (e1.to fun b _ u e => hh _ _ e) e2 e3
    | dead ed => exact .dead ed
  · have := ok.al k a e
    cases z : H a with
    | none => exact absurd z this
    | some u => rw [hh _ _ z]; simp

/-! ### slots -/
structure SlOk (K : PySem.W.Frag) (B : Hp) (ρ : Nat → Option Addr) (σ : L2.St) (τ : Sl) : Prop where
  ln : σ.length = τ.length
  at_ : ∀ (i : Nat) (w : A), τ[i]? = some (some w) → ∃ v, σ[i]? = some (some v) ∧ RA K B ρ v w
theorem SlOk.mono (s : SlOk K B ρ σ τ) (g : Gr Z B ρ B' ρ') : SlOk K B' ρ' σ τ := ⟨s.ln, fun i w e => let ⟨v, h1, h2⟩ := s.at_ i w e; ⟨v, h1, h2.mono g⟩⟩
theorem SlOk.put (s : SlOk K B ρ σ τ) {i : Nat} {v : V} {w : A} (r : RA K B ρ v w) : SlOk K B ρ (σ.set i (some v)) (τ.set i (some w)) := by
  refine ⟨by rw [List.length_set, List.length_set]; exact s.ln, fun j u e => ?_⟩
  by_cases z : i = j
  · subst z
    have hi : i < τ.length := by
      have := (List.getElem?_eq_some_iff.mp e).1
      rwa [List.length_set] at this
    rw [List.getElem?_set_self hi] at e
    cases e
    exact ⟨v, List.getElem?_set_self (by rw [s.ln]; exact hi), r⟩
  · rw [List.getElem?_set_ne z] at e
    obtain ⟨x, h1, h2⟩ := s.at_ j u e
    exact ⟨x, by rw [List.getElem?_set_ne z]; exact h1, h2⟩
end

/-! ### trees of values -/
def mapMn {α β : Type} (f : α → Option β) : List α → Option (List β)
  | [] => some []
  | a :: r => match f a with | some b => (match mapMn f r with | some bs => some (b :: bs) | none => none) | none => none
def vw : Nat → Hq → A → Option D
  | _, _, .d x => some x
  | 0, _, _ => none
  | n + 1, h, .r k => match h[k]? with
    | some (.lst ws) => (mapMn (vw n h) ws).map .lst
    | some (.nd hd ws) => (mapMn (vw n h) ws).map (.nd hd)
    | _ => none
  | n + 1, h, .tup ws => (mapMn (vw n h) ws).map .tup
abbrev view (h : Hq) (w : A) : Option D := vw 32 h w
@[simp] theorem vw_d (n : Nat) (h : Hq) (x : D) : vw n h (.d x) = some x := by cases n <;> rfl
theorem mapMn_d : ∀ (f : A → Option D) (ds : List D), (∀ x, f (.d x) = some x) → mapMn f (ds.map A.d) = some ds
  | _, [], _ => rfl
  | f, d :: r, h => by
    rw [List.map_cons]
    unfold mapMn
    rw [h, mapMn_d f r h]
theorem vw_cell {n : Nat} {h : Hq} {k : Nat} {ds : List D} (e : h[k]? = some (.lst (ds.map A.d))) : vw (n + 1) h (.r k) = some (.lst ds) := by
  unfold vw
  rw [e]
  dsimp only
  rw [mapMn_d _ _ (vw_d n h)]
  rfl
section
variable {K : PySem.W.Frag} {Z B H : Hp} {ρ : Nat → Option Addr} {h : Hq}
theorem vws_of {f : A → Option D} {P : Hp} (hf : ∀ v w d, RA K B ρ v w → f w = some d → Rp K P v d) : ∀ {vs : List V} {ws : List A} {ds : List D}, RAL K B ρ vs ws → mapMn f ws = some ds → RpL K P vs ds
  | _, _, _, .nil, e => by cases e; exact .nil
  | _, w :: r, ds, .cons ra ral, e => by
    unfold mapMn at e
    split at e
    · rename_i b e1
      split at e
      · rename_i bs e2
        cases e
        exact .cons (hf _ _ _ ra e1) (vws_of hf ral e2)
      · cases e
    · cases e
/-- seen at a heap that holds what is frozen and the cells -/
theorem vw_at {P : Hp} (ok : Ok K Z B ρ H h) (e1 : Same B P) (e2 : ∀ b, Z b = none → B b = none → ∀ u, H b = some u → P b = some u) : ∀ (n : Nat) (v : V) (w : A) (d : D), RA K B ρ v w → vw n h w = some d → Rp K P v d
  | n, _, .d x, d, .d r, e => by rw [vw_d] at e; cases e; exact r.mono e1
  | 0, _, .r k, d, _, e => by cases e
  | 0, _, .tup ws, d, _, e => by cases e
  | n + 1, _, .r k, d, .r hr, e => by
    unfold vw at e
    split at e
    · rename_i ws e3
      obtain ⟨ds, e4, rfl⟩ := Option.map_eq_some_iff.mp e
      obtain ⟨a', h1, h2⟩ := ok.ce k _ e3
      rw [hr] at h1
      cases h1
      cases h2 with
      | lst q1 q2 q3 q4 => exact .lst (e2 _ q4 q3 _ q1) (vws_of (vw_at ok e1 e2 n) q2 e4)
    · rename_i hd ws e3
      obtain ⟨ds, e4, rfl⟩ := Option.map_eq_some_iff.mp e
      obtain ⟨a', h1, h2⟩ := ok.ce k _ e3
      rw [hr] at h1
      cases h1
      cases h2 with
      | nd q1 q2 q3 => exact .nd (q1.to fun b hb u eu => e2 b (q3 b hb).2 (q3 b hb).1 u eu) (vws_of (vw_at ok e1 e2 n) q2 e4)
    · cases e
  | n + 1, _, .tup ws, d, .tup ht rl, e => by
    unfold vw at e
    obtain ⟨ds, e4, rfl⟩ := Option.map_eq_some_iff.mp e
    exact .tup (e1 _ _ ht) (vws_of (vw_at ok e1 e2 n) rl e4)
theorem Ok.see (ok : Ok K Z B ρ H h) {n : Nat} {v : V} {w : A} {d : D} (r : RA K B ρ v w) (e : vw n h w = some d) : Rp K H v d := vw_at ok ok.ex (fun _ _ _ _ e => e) n v w d r e
end

/-! ### outcomes -/
inductive Rs (α : Type) where
  | ok (a : α) (h : Hq) | ex (x : Xc) (h : Hq)
abbrev E (α : Type) := Sl → Hq → Option (Rs α)
def bd {α β : Type} (r : Option (Rs α)) (k : α → Hq → Option (Rs β)) : Option (Rs β) := match r with
  | some (.ok a h) => k a h
  | some (.ex x h) => some (.ex x h)
  | none => none
@[simp] theorem bd_ok {α β : Type} (a : α) (h : Hq) (k : α → Hq → Option (Rs β)) : bd (some (.ok a h)) k = k a h := rfl
@[simp] theorem bd_ex {α β : Type} (x : Xc) (h : Hq) (k : α → Hq → Option (Rs β)) : bd (some (.ex x h)) k = some (.ex x h) := rfl
@[simp] theorem bd_no {α β : Type} (k : α → Hq → Option (Rs β)) : bd none k = none := rfl
inductive XcAt (K : PySem.W.Frag) (B : Hp) (ρ : Nat → Option Addr) (H : Hp) : Xc → Value → Option Addr → Prop
  | own {C : Str} {c : Addr} : glAt K C = some c → XcAt K B ρ H (.own C) (.ref c) none
  | fld {C f : Str} {c d : Addr} {v : V} {w : A} : glAt K C = some c → H d = some (.xd [(f, v)]) → RA K B ρ v w → XcAt K B ρ H (.fld C f w) (.ref c) (some d)
  | blt {T : String} : XcAt K B ρ H (.blt T) (.type T) none
def Post {α : Type} (K : PySem.W.Frag) (Z : Hp) (W : XK) (B : Hp) (ρ : Nat → Option Addr) (R : α → Hq → Hp → (Nat → Option Addr) → Hp → Prop) : Option (Rs α) → Prop
  | none => False
  | some (.ok a h) => ∀ B' ρ' H', Ok K Z B' ρ' H' h → Gr Z B ρ B' ρ' → R a h B' ρ' H'
  | some (.ex x h) => ∀ B' ρ' H' cls d, Ok K Z B' ρ' H' h → Gr Z B ρ B' ρ' → XcAt K B' ρ' H' x cls d → W cls d H'
section
variable {α β : Type} {K : PySem.W.Frag} {Z B B' H : Hp} {ρ ρ' : Nat → Option Addr} {h : Hq} {W : XK} {R : α → Hq → Hp → (Nat → Option Addr) → Hp → Prop} {r : Option (Rs α)}
theorem Post.from (q : Post K Z W B ρ R r) (g : Gr Z B ρ B' ρ') : Post K Z W B' ρ' R r := by
  match r, q with
  | some (.ok a h), q => exact fun B2 ρ2 H2 ok g2 => q B2 ρ2 H2 ok (g.trans g2)
  | some (.ex x h), q => exact fun B2 ρ2 H2 cls d ok g2 x => q B2 ρ2 H2 cls d ok (g.trans g2) x
theorem Post.imp {R' : α → Hq → Hp → (Nat → Option Addr) → Hp → Prop} (q : Post K Z W B ρ R r) (i : ∀ a h B' ρ' H', Ok K Z B' ρ' H' h → Gr Z B ρ B' ρ' → R a h B' ρ' H' → R' a h B' ρ' H') : Post K Z W B ρ R' r := by
  match r, q with
  | some (.ok a h), q => exact fun B2 ρ2 H2 ok g2 => i _ _ _ _ _ ok g2 (q B2 ρ2 H2 ok g2)
  | some (.ex x h), q => exact q
theorem Post.bd {R : β → Hq → Hp → (Nat → Option Addr) → Hp → Prop} {k : α → Hq → Option (Rs β)} (q : Post K Z W B ρ R (Tq.bd r k)) : Post K Z W B ρ (fun a h B' ρ' H' => Post K Z W B' ρ' R (k a h)) r := by
  match r, q with
  | some (.ok a h), q => exact fun B2 ρ2 H2 ok g2 => Post.from q g2
  | some (.ex x h), q => exact q
end
end Tq

/-! Tq2: expressions. -/
namespace Tq
open PySem PySem.Spec PyProof.Rows L2

abbrev LIM : Nat := 16777216
theorem lim_eq : LIM = sizeLine := by rw [sizeLine_eq]
abbrev Wx := WX
def tE (K : PySem.W.Frag) (W : WX) (m : E A) : TE := fun σ H Q => ∃ Z B ρ τ h, Ok K Z B ρ H h ∧ SlOk K B ρ σ τ ∧ Post K Z (fun c d H' => W c d σ H') B ρ (fun w _ B' ρ' H' => ∀ v, RA K B' ρ' v w → Q v H') (m τ h)
structure RX (X : Cx) (W : WX) (e : Expr) (m : E A) : Prop where
  pe : PE X e (tE X.K W m)
theorem pe_imp {X : Cx} {e : Expr} {t t' : TE} (h : PE X e t) (i : ∀ σ H Q, t' σ H Q → t σ H Q) : PE X e t' := ⟨fun pins s σ H Q I q => h.run pins s σ H Q I (i _ _ _ q)⟩
theorem pt_imp {X : Cx} {e : Expr} {t t' : TT} (h : PT X e t) (i : ∀ σ H Q, t' σ H Q → t σ H Q) : PT X e t' := ⟨fun pins s σ H Q I q => h.run pins s σ H Q I (i _ _ _ q)⟩
theorem pw_imp {X : Cx} {e : Expr} {t t' : TT} (h : PW X e t) (i : ∀ σ H Q, t' σ H Q → t σ H Q) : PW X e t' := ⟨fun w pins s σ H Q I q => h.run w pins s σ H Q I (i _ _ _ q)⟩
theorem pa_imp {X : Cx} {e : List Expr} {t t' : TA} (h : PA X e t) (i : ∀ σ H Q, t' σ H Q → t σ H Q) : PA X e t' := ⟨fun pos pins s σ H Q I q => h.run pos pins s σ H Q I (i _ _ _ q)⟩
theorem ps_imp {X : Cx} {e : Stmt} {t t' : TS} (h : PS X e t) (i : ∀ D σ H, t' D σ H → t D σ H) : PS X e t' := ⟨fun pins s σ H D I q => h.run pins s σ H D I (i _ _ _ q)⟩
theorem pss_imp {X : Cx} {e : List Stmt} {t t' : TS} (h : PSs X e t) (i : ∀ D σ H, t' D σ H → t D σ H) : PSs X e t' := ⟨fun pins s σ H D I q => h.run pins s σ H D I (i _ _ _ q)⟩
theorem po_imp {X : Cx} {e : Option Expr} {t t' : TO} (h : PO X e t) (i : ∀ σ H Q, t' σ H Q → t σ H Q) : PO X e t' := by
  constructor
  intros
  rename_i I q
  exact h.run _ _ _ _ _ I (i _ _ _ q)
theorem pe_or {X : Cx} {e : Expr} {t t' : TE} (h : PE X e t) (h' : PE X e t') : PE X e fun σ H Q => t σ H Q ∨ t' σ H Q := ⟨fun pins s σ H Q I q => q.elim (h.run pins s σ H Q I) (h'.run pins s σ H Q I)⟩

section
variable {α β : Type} {K : PySem.W.Frag} {W : WX} {σ : L2.St} {τ : Sl} {H : Hp} {Q : VK} {Z B : Hp} {ρ : Nat → Option Addr} {h : Hq}
/-- a step: e is m, and what follows -/
theorem te_bd {m : E A} {k : A → Hq → Option (Rs β)} {R : β → Hq → Hp → (Nat → Option Addr) → Hp → Prop} (ok : Ok K Z B ρ H h) (sl : SlOk K B ρ σ τ) (q : Post K Z (fun c d H' => W c d σ H') B ρ R (bd (m τ h) k))
    (c : ∀ v w h1 B1 ρ1 H1, RA K B1 ρ1 v w → Ok K Z B1 ρ1 H1 h1 → SlOk K B1 ρ1 σ τ → Gr Z B ρ B1 ρ1 → Post K Z (fun c d H' => W c d σ H') B1 ρ1 R (k w h1) → Q v H1) : tE K W m σ H Q :=
  ⟨Z, B, ρ, τ, h, ok, sl, q.bd.imp fun w h1 B1 ρ1 H1 ok1 g1 q1 v r => c v w h1 B1 ρ1 H1 r ok1 (sl.mono g1) g1 q1⟩
theorem te_last {m : E A} (ok : Ok K Z B ρ H h) (sl : SlOk K B ρ σ τ) {R : A → Hq → Hp → (Nat → Option Addr) → Hp → Prop} (q : Post K Z (fun c d H' => W c d σ H') B ρ R (m τ h))
    (c : ∀ v w h1 B1 ρ1 H1, RA K B1 ρ1 v w → Ok K Z B1 ρ1 H1 h1 → SlOk K B1 ρ1 σ τ → Gr Z B ρ B1 ρ1 → R w h1 B1 ρ1 H1 → Q v H1) : tE K W m σ H Q :=
  ⟨Z, B, ρ, τ, h, ok, sl, q.imp fun w h1 B1 ρ1 H1 ok1 g1 q1 v r => c v w h1 B1 ρ1 H1 r ok1 (sl.mono g1) g1 q1⟩
end
def pu {α : Type} (a : α) (h : Hq) : Option (Rs α) := some (.ok a h)
section
variable {α : Type} {K : PySem.W.Frag} {W : XK} {Z B : Hp} {ρ : Nat → Option Addr} {H : Hp} {h : Hq} {R : α → Hq → Hp → (Nat → Option Addr) → Hp → Prop}
theorem Post.now {a : α} (q : Post K Z W B ρ R (some (.ok a h))) (ok : Ok K Z B ρ H h) : R a h B ρ H := q B ρ H ok Gr.refl
end

/-! ### leaves -/
def mC (d : D) : E A := fun _ h => some (.ok (.d d) h)
def mVar (i : Nat) : E A := fun τ h => match τ[i]? with | some (some w) => some (.ok w h) | _ => none
def mNo {α : Type} : E α := fun _ _ => none
section
variable {X : Cx} {W : WX} {e a b c : Expr} {m ma mb mc : E A} {pos : Pos}
theorem rx_no : RX X W e mNo := ⟨⟨fun pins s σ H Q I q => by
  obtain ⟨_, _, _, _, _, _, _, q⟩ := q
  exact q.elim⟩⟩
theorem rx_const {v : V} {d : D} (h : PE X e (tC v)) (r : ∀ B, Rp X.K B v d) : RX X W e (mC d) := ⟨pe_imp h fun σ H Q q => by
  obtain ⟨Z, B, ρ, τ, h, ok, sl, q⟩ := q
  exact q.now ok v (.d (r B))⟩
theorem rx_int {i j pos} : RX X W (.Constant (.int i) j pos) (mC (.int i)) := rx_const pe_int fun _ => .int i
theorem rx_bl {i j pos} : RX X W (.Constant (.bool i) j pos) (mC (.bl i)) := rx_const pe_bl fun _ => .bl i
theorem rx_str {i j pos} : RX X W (.Constant (.str i) j pos) (mC (.str i)) := rx_const pe_str fun _ => .str i
theorem rx_non {j pos} : RX X W (.Constant .none j pos) (mC .non) := rx_const pe_non fun _ => .non
theorem rx_glob {x : Str} {v : V} {d : D} {u : Value} (hm : X.mg x = some u) (r : RelV v u) (rp : ∀ B, Rp X.K B v d) (hg : Gl X x := by rfl) (hd : (x == ("__debug__" : Str)) = false := by decide) : RX X W (.Name x pos) (mC d) :=
  rx_const (pe_glob hg hm r hd) rp
theorem rx_var (i : Nat) {x : Str} (hN : X.N[i]? = some x := by rfl) (hv : Vis X.env.scope x := by first | exact Or.inl rfl | exact Or.inr (Or.inl rfl) | exact Or.inr (Or.inr rfl)) (hd : (x == ("__debug__" : Str)) = false := by decide)
    (hcd : (x == ("__classdict__" : Str)) = false := by decide) : RX X W (.Name x pos) (mVar i) := ⟨pe_imp (pv i hN hv hd hcd) fun σ H Q q => by
  obtain ⟨Z, B, ρ, τ, h, ok, sl, q⟩ := q
  unfold mVar at q
  split at q
  · rename_i w e1
    obtain ⟨v, h1, h2⟩ := sl.at_ i w e1
    exact ⟨v, h1, q.now ok v h2⟩
  · exact q.elim⟩

/-! ### operators -/
abbrev G2 := A → A → Hq → Option (Rs A)
abbrev G1 := A → Hq → Option (Rs A)
def mBin (g : G2) (ma mb : E A) : E A := fun τ h => bd (ma τ h) fun a h1 => bd (mb τ h1) fun b h2 => g a b h2
def mUn (g : G1) (ma : E A) : E A := fun τ h => bd (ma τ h) fun a h1 => g a h1
def Op2 (K : PySem.W.Frag) (r : R2) (g : G2) : Prop := ∀ (Z B : Hp) (ρ : Nat → Option Addr) (H : Hp) (h : Hq) (x y : V) (a b : A) (W : XK) (Q : VK), Ok K Z B ρ H h → RA K B ρ x a → RA K B ρ y b →
  Post K Z W B ρ (fun w _ B' ρ' H' => ∀ v, RA K B' ρ' v w → Q v H') (g a b h) → r x y H Q
def Op1 (K : PySem.W.Frag) (r : V → Hp → VK → Prop) (g : G1) : Prop := ∀ (Z B : Hp) (ρ : Nat → Option Addr) (H : Hp) (h : Hq) (x : V) (a : A) (W : XK) (Q : VK), Ok K Z B ρ H h → RA K B ρ x a →
  Post K Z W B ρ (fun w _ B' ρ' H' => ∀ v, RA K B' ρ' v w → Q v H') (g a h) → r x H Q
theorem rx_op2 {g : G2} {r : R2} {ee : Expr} (ha : RX X W a ma) (hb : RX X W b mb) (og : Op2 X.K r g) (he : ∀ {ta tb : TE}, PE X a ta → PE X b tb → PE X ee (tOp r ta tb)) : RX X W ee (mBin g ma mb) := ⟨pe_imp (he ha.pe hb.pe) fun σ H Q q => by
  obtain ⟨Z, B, ρ, τ, h, ok, sl, q⟩ := q
  exact te_bd ok sl q fun x a h1 B1 ρ1 H1 rx ok1 sl1 g1 q1 => te_bd ok1 sl1 q1 fun y b h2 B2 ρ2 H2 ry ok2 sl2 g2 q2 => og Z B2 ρ2 H2 h2 x y a b _ Q ok2 (rx.mono g2) ry q2⟩
theorem rx_bin {op : Operator} {g : G2} {r : R2} (ho : OpR X (binaryOp op) r) (og : Op2 X.K r g) (ha : RX X W a ma) (hb : RX X W b mb) : RX X W (.BinOp a op b pos) (mBin g ma mb) :=
  rx_op2 ha hb og fun h1 h2 => pe_op ho h1 h2
theorem rx_cmp {op : CmpOp} {g : G2} {r : R2} (ho : OpR X (compareOp op) r) (og : Op2 X.K r g) (ha : RX X W a ma) (hb : RX X W b mb) (hm : behindInMarks op b = false) : RX X W (.Compare a [op] [b] pos) (mBin g ma mb) :=
  rx_op2 ha hb og fun h1 h2 => pe_cmpR ho h1 h2 hm
theorem rx_op1 {g : G1} {r : V → Hp → VK → Prop} {ee : Expr} (ha : RX X W a ma) (og : Op1 X.K r g) (he : ∀ {ta : TE}, PE X a ta → PE X ee (tUn r ta)) : RX X W ee (mUn g ma) := ⟨pe_imp (he ha.pe) fun σ H Q q => by
  obtain ⟨Z, B, ρ, τ, h, ok, sl, q⟩ := q
  exact te_bd ok sl q fun x a h1 B1 ρ1 H1 rx ok1 sl1 g1 q1 => og Z B1 ρ1 H1 h1 x a _ Q ok1 rx q1⟩
theorem rx_un {op : UnaryOp} {g : G1} {r : V → Hp → VK → Prop} (ho : UnR X (unaryOp op) r) (og : Op1 X.K r g) (ha : RX X W a ma) : RX X W (.UnaryOp op a pos) (mUn g ma) :=
  rx_op1 ha og fun h1 => pe_un ho h1

/-! ### argument lists -/
def tAs (K : PySem.W.Frag) (W : WX) (m : E (List A)) : TA := fun σ H Q => ∃ Z B ρ τ h, Ok K Z B ρ H h ∧ SlOk K B ρ σ τ ∧ Post K Z (fun c d H' => W c d σ H') B ρ (fun ws _ B' ρ' H' => ∀ vs, RAL K B' ρ' vs ws → Q vs H') (m τ h)
structure RAs (X : Cx) (W : WX) (es : List Expr) (m : E (List A)) : Prop where
  pa : PA X es (tAs X.K W m)
def maNil : E (List A) := fun _ h => some (.ok [] h)
def maCons (ma : E A) (mr : E (List A)) : E (List A) := fun τ h => bd (ma τ h) fun a h1 => bd (mr τ h1) fun r h2 => some (.ok (a :: r) h2)
variable {es : List Expr} {mr : E (List A)}
theorem ra_nil : RAs X W [] maNil := ⟨pa_imp pa_nil fun σ H Q q => by
  obtain ⟨Z, B, ρ, τ, h, ok, sl, q⟩ := q
  exact q.now ok [] .nil⟩
theorem ra_cons (ha : RX X W a ma) (hr : RAs X W es mr) (hs : starEach (a :: es) X.env = (false, eval a X.env) :: starEach es X.env := by rfl) : RAs X W (a :: es) (maCons ma mr) := ⟨pa_imp (pa_cons ha.pe hr.pa hs) fun σ H Q q => by
  obtain ⟨Z, B, ρ, τ, h, ok, sl, q⟩ := q
  refine te_bd ok sl q fun x a h1 B1 ρ1 H1 rx ok1 sl1 g1 q1 => ?_
  refine ⟨Z, B1, ρ1, τ, h1, ok1, sl1, q1.bd.imp fun ws h2 B2 ρ2 H2 ok2 g2 q2 vs rl => ?_⟩
  exact q2.now ok2 (x :: vs) (.cons (rx.mono g2) rl)⟩

/-! ### new lists and tuples -/
def A.toD? : A → Option D
  | .d x => some x
  | _ => none
def allD : List A → Option (List D) := mapMn A.toD?
theorem allD_of : ∀ {ws : List A} {ds : List D}, allD ws = some ds → ws = ds.map A.d
  | [], ds, h => by cases h; rfl
  | w :: r, ds, h => by
    unfold allD mapMn at h
    split at h
    · rename_i b e1
      split at h
      · rename_i bs e2
        cases h
        cases w with
        | d x =>
          cases e1
          rw [allD_of (ws := r) e2]
          rfl
        | r _ => cases e1
        | tup _ => cases e1
      · cases h
    · cases h
@[simp] theorem allD_map (ds : List D) : allD (ds.map A.d) = some ds := mapMn_d _ ds fun _ => rfl
/-- a new list: a cell, or data at once -/
def mkL (o : Bool) (ws : List A) (h : Hq) : Option (Rs A) := if ws.length ≤ LIM then (if o then some (.ok (.r h.length) (h ++ [.lst ws])) else (allD ws).map fun ds => .ok (.d (.lst ds)) h) else none
def mkT (ws : List A) (h : Hq) : Option (Rs A) := if ws.length ≤ LIM then (match allD ws with | some ds => some (.ok (.d (.tup ds)) h) | none => some (.ok (.tup ws) h)) else none
section
variable {K : PySem.W.Frag} {W : XK} {Z B : Hp} {ρ : Nat → Option Addr} {H : Hp} {h : Hq} {Q : VK} {ws : List A} {vs : List V} {o : Bool}
theorem mkL_len {R : A → Hq → Hp → (Nat → Option Addr) → Hp → Prop} (q : Post K Z W B ρ R (mkL o ws h)) : ws.length ≤ LIM := by
  unfold mkL at q
  split at q
  · assumption
  · exact q.elim
theorem mkL_ok (ok : Ok K Z B ρ H h) (r : RAL K B ρ vs ws) (q : Post K Z W B ρ (fun w _ B' ρ' H' => ∀ v, RA K B' ρ' v w → Q v H') (mkL o ws h)) {p : Addr} (hp : H p = none) : Q (.ref p) (upd H p (.lst vs)) := by
  unfold mkL at q
  split at q
  · split at q
    · have hb : B p = none := by
        cases z : B p with
        | none => rfl
        | some u => rw [ok.ex p u z] at hp; cases hp
      have hz : Z p = none := by
        cases z : Z p with
        | none => rfl
        | some u => rw [ok.zz p u z] at hp; cases hp
      obtain ⟨ok2, g⟩ := ok.newC (q := p) (H' := upd H p (.lst vs)) (o := .lst ws) hp (fun b u e => by rw [upd_ne (ne_of_none e hp)]; exact e) (by rw [upd_same]; simp) (.lst upd_same r hb hz)
      exact q _ _ _ ok2 g (.ref p) (.r (if_pos rfl))
    · cases e : allD ws with
      | none => rw [e] at q; exact q.elim
      | some ds =>
        rw [e] at q
        cases allD_of e
        obtain ⟨ok2, g⟩ := ok.newB (o := .lst vs) hp
        exact q _ _ _ ok2 g (.ref p) (.d (.lst upd_same ((ral_rpl r).mono g.bb)))
  · exact q.elim
theorem mkT_len {R : A → Hq → Hp → (Nat → Option Addr) → Hp → Prop} (q : Post K Z W B ρ R (mkT ws h)) : ws.length ≤ LIM := by
  unfold mkT at q
  split at q
  · assumption
  · exact q.elim
/-- a tuple that stands -/
theorem mkT_at (ok : Ok K Z B ρ H h) {p : Addr} (ht : B p = some (.tup vs)) (r : RAL K B ρ vs ws) (q : Post K Z W B ρ (fun w _ B' ρ' H' => ∀ v, RA K B' ρ' v w → Q v H') (mkT ws h)) : Q (.ref p) H := by
  unfold mkT at q
  split at q
  · cases e : allD ws with
    | none =>
      rw [e] at q
      exact q.now ok (.ref p) (.tup ht r)
    | some ds =>
      rw [e] at q
      cases allD_of e
      exact q.now ok (.ref p) (.d (.tup ht (ral_rpl r)))
  · exact q.elim
theorem mkT_ok (ok : Ok K Z B ρ H h) (r : RAL K B ρ vs ws) (q : Post K Z W B ρ (fun w _ B' ρ' H' => ∀ v, RA K B' ρ' v w → Q v H') (mkT ws h)) {p : Addr} (hp : H p = none) : Q (.ref p) (upd H p (.tup vs)) := by
  obtain ⟨ok2, g⟩ := ok.newB (o := .tup vs) hp
  exact mkT_at ok2 upd_same (r.mono g) (q.from g)
end
def mTup (mr : E (List A)) : E A := fun τ h => bd (mr τ h) fun ws h1 => mkT ws h1
def mLst (o : Bool) (mr : E (List A)) : E A := fun τ h => bd (mr τ h) fun ws h1 => mkL o ws h1
theorem rx_tup {x1} (hr : RAs X W es mr) : RX X W (.Tuple es x1 pos) (mTup mr) := ⟨pe_imp (pe_tup hr.pa) fun σ H Q q => by
  obtain ⟨Z, B, ρ, τ, h, ok, sl, q⟩ := q
  refine ⟨Z, B, ρ, τ, h, ok, sl, q.bd.imp fun ws h1 B1 ρ1 H1 ok1 g1 q1 vs rl => ?_⟩
  exact ⟨by rw [rl.length, ← lim_eq]; exact mkT_len q1, fun p hp => mkT_ok ok1 rl q1 hp⟩⟩
theorem rx_lst (o : Bool) (hr : RAs X W es mr) : RX X W (.List es pos) (mLst o mr) := ⟨pe_imp (pe_lst hr.pa) fun σ H Q q => by
  obtain ⟨Z, B, ρ, τ, h, ok, sl, q⟩ := q
  refine ⟨Z, B, ρ, τ, h, ok, sl, q.bd.imp fun ws h1 B1 ρ1 H1 ok1 g1 q1 vs rl => ?_⟩
  exact ⟨by rw [rl.length, ← lim_eq]; exact mkL_len q1, fun p hp => mkL_ok ok1 rl q1 hp⟩⟩
end
end Tq

/-! Tq3: operations. -/
namespace Tq
open PySem PySem.Spec PyProof.Rows L2

mutual
def D.toP : D → PyData
  | .non => .none | .bl b => .bool b | .int i => .int i | .str x => .str x
  | .tup xs => .tuple (D.toPs xs)
  | .kt xs => .tuple (D.toPs xs)
  | .lst xs => .list (D.toPs xs)
  | .scr ns => .list (ns.map PyData.int)
  | .fn _ => .dict []
  | .nd _ _ => .dict []
def D.toPs : List D → List PyData
  | [] => []
  | d :: r => d.toP :: D.toPs r
end
theorem D.toPs_eq : ∀ xs : List D, D.toPs xs = xs.map D.toP
  | [] => rfl
  | d :: r => by rw [D.toPs, D.toPs_eq r, List.map_cons]
theorem D.toP_tup (xs : List D) : (D.tup xs).toP = .tuple (xs.map D.toP) := by rw [D.toP, D.toPs_eq]
theorem D.toP_kt (xs : List D) : (D.kt xs).toP = .tuple (xs.map D.toP) := by rw [D.toP, D.toPs_eq]
theorem D.toP_lst (xs : List D) : (D.lst xs).toP = .list (xs.map D.toP) := by rw [D.toP, D.toPs_eq]
theorem dp_ints {K : PySem.W.Frag} {H : Hp} : ∀ ns : List Int, DpAll K H (ns.map V.int) (ns.map PyData.int)
  | [] => .nil
  | n :: r => .cons (.int n) (dp_ints r)
section
variable {K : PySem.W.Frag} {B H : Hp}
mutual
theorem Rp.dp0 : ∀ {v : V} {d : D}, Rp K B v d → d.toP.canLay0 = true → Dp K B v d.toP
  | _, _, .non, _ => .non
  | _, _, .bl b, _ => .bl b
  | _, _, .int i, _ => .int i
  | _, _, .str x, _ => .str x
  | _, _, .tup h r, c => by rw [D.toP_tup] at c ⊢; exact .tup (sqt_of h) (RpL.dp0 r c)
  | _, _, .kt h r, c => by rw [D.toP_kt] at c ⊢; exact .tup h (RpL.dp0 r c)
  | _, _, .lst h r, c => by rw [D.toP_lst] at c ⊢; exact .lst (SqL.of h) (RpL.dp0 r c)
  | _, _, .scr h, _ => by rw [D.toP]; exact .lst h (dp_ints _)
  | _, _, .fn _, c => by rw [D.toP] at c; cases c
  | _, _, .nd _ _, c => by rw [D.toP] at c; cases c
theorem RpL.dp0 : ∀ {vs : List V} {ds : List D}, RpL K B vs ds → PyData.canLayAll0 (ds.map D.toP) = true → DpAll K B vs (ds.map D.toP)
  | _, _, .nil, _ => .nil
  | _, _, .cons h r, c => by
    have c2 := Bool.and_eq_true_iff.mp c
    exact .cons (Rp.dp0 h c2.1) (RpL.dp0 r c2.2)
end
theorem Rp.dp {v : V} {d : D} (h : Rp K B v d) (hs : SeqAt.shaped d.toP = true) : Dp K B v d.toP := h.dp0 (SeqAt.canLay_of_shaped hs)
end
def D.eqv (a b : D) : Bool := PyData.eqv a.toP b.toP
def D.shp (a : D) : Bool := SeqAt.shaped a.toP

/-! ### what a value is -/
theorem rp_int {K : PySem.W.Frag} {B : Hp} {v : V} {i : Int} (r : Rp K B v (.int i)) : v = .int i := by cases r; rfl
theorem rp_str {K : PySem.W.Frag} {B : Hp} {v : V} {i : Str} (r : Rp K B v (.str i)) : v = .str i := by cases r; rfl
theorem rp_bl {K : PySem.W.Frag} {B : Hp} {v : V} {i : Bool} (r : Rp K B v (.bl i)) : v = .bl i := by cases r; rfl
theorem rp_non {K : PySem.W.Frag} {B : Hp} {v : V} (r : Rp K B v .non) : v = .non := by cases r; rfl
theorem ra_d {K : PySem.W.Frag} {B : Hp} {ρ : Nat → Option Addr} {v : V} {x : D} (w : RA K B ρ v (.d x)) : Rp K B v x := by
  cases w with
  | d r => exact r
theorem ra_int {K : PySem.W.Frag} {B : Hp} {ρ : Nat → Option Addr} {v : V} {i : Int} (w : RA K B ρ v (.d (.int i))) : v = .int i := rp_int (ra_d w)
theorem ra_str {K : PySem.W.Frag} {B : Hp} {ρ : Nat → Option Addr} {v : V} {i : Str} (w : RA K B ρ v (.d (.str i))) : v = .str i := rp_str (ra_d w)
def tupOf : A → Option (List A)
  | .d (.tup ds) => some (ds.map A.d)
  | .tup ws => some ws
  | _ => none
def lstOf (h : Hq) : A → Option (List A)
  | .d (.lst ds) => some (ds.map A.d)
  | .r k => match h[k]? with | some (.lst ws) => some ws | _ => none
  | _ => none
section
variable {K : PySem.W.Frag} {Z B H : Hp} {ρ : Nat → Option Addr} {h : Hq} {v : V} {a : A} {ws : List A}
theorem tupOf_ra (r : RA K B ρ v a) (e : tupOf a = some ws) : ∃ p vs, v = .ref p ∧ B p = some (.tup vs) ∧ RAL K B ρ vs ws := by
  unfold tupOf at e
  split at e
  · cases e
    cases ra_d r with
    | tup h1 r1 => exact ⟨_, _, rfl, h1, ral_ds r1⟩
  · cases e
    cases r with
    | tup h1 r1 => exact ⟨_, _, rfl, h1, r1⟩
  · cases e
theorem lstOf_ra (ok : Ok K Z B ρ H h) (r : RA K B ρ v a) (e : lstOf h a = some ws) : ∃ p vs, v = .ref p ∧ H p = some (.lst vs) ∧ RAL K B ρ vs ws := by
  unfold lstOf at e
  split at e
  · cases e
    cases ra_d r with
    | lst h1 r1 => exact ⟨_, _, rfl, ok.ex _ _ h1, ral_ds r1⟩
  · split at e
    · rename_i ws' e1
      cases e
      cases r with
      | r hr =>
        obtain ⟨p, h1, h2⟩ := ok.ce _ _ e1
        rw [hr] at h1
        cases h1
        cases h2 with
        | lst q1 q2 q3 q4 => exact ⟨_, _, rfl, q1, q2⟩
    · cases e
  · cases e
end

/-! ### operators that give flat data -/
def D.flat : D → Bool
  | .non => true | .bl _ => true | .int _ => true | .str _ => true | _ => false
theorem rp_flat {K : PySem.W.Frag} {B B' : Hp} {v : V} {d : D} (r : Rp K B v d) (h : d.flat = true) : Rp K B' v d := by
  cases r with
  | non => exact .non
  | bl b => exact .bl b
  | int i => exact .int i
  | str x => exact .str x
  | tup _ _ => cases h
  | kt _ _ => cases h
  | lst _ _ => cases h
  | scr _ => cases h
  | fn _ => cases h
  | nd _ _ => cases h
def gII (C : Int → Int → Bool) (f : Int → Int → Int) : G2 := fun a b h => match a, b with
  | .d (.int i), .d (.int j) => if C i j then some (.ok (.d (.int (f i j))) h) else none
  | _, _ => none
theorem og_ii {K : PySem.W.Frag} {C : Int → Int → Bool} {P : Int → Int → Prop} {f : Int → Int → Int} (hc : ∀ i j, C i j = true → P i j) : Op2 K (rI P fun i j => .int (f i j)) (gII C f) := by
  intro Z B ρ H h x y a b W Q ok rx ry q
  unfold gII at q
  split at q
  · split at q
    · rename_i hl
      exact ⟨_, _, ra_int rx, ra_int ry, hc _ _ hl, q.now ok _ (.d (.int _))⟩
    · exact q.elim
  · exact q.elim
def gSub : G2 := fun a b h => match a, b with
  | .d (.int i), .d (.int j) => some (.ok (.d (.int (i - j))) h)
  | _, _ => none
theorem og_sub {K : PySem.W.Frag} : Op2 K (rI0 fun i j => .int (i - j)) gSub := by
  intro Z B ρ H h x y a b W Q ok rx ry q
  unfold gSub at q
  split at q
  · exact ⟨_, _, ra_int rx, ra_int ry, q.now ok _ (.d (.int _))⟩
  · exact q.elim
/-- * of two factors of together less than 134 million bits -/
def CMulB (i j : Int) : Prop := i.natAbs.log2 + j.natAbs.log2 < 134000000
theorem CMulB.ok {i j : Int} (h : CMulB i j) : IntMulOk i j := by
  have b : ∀ x : Int, Builtin.Int.intBits x ≤ x.natAbs.log2 + 1 := fun x => by
    unfold Builtin.Int.intBits
    split <;> omega
  have h1 := b i
  have h2 := b j
  have h3 : i.natAbs.log2 + j.natAbs.log2 < 134000000 := h
  have e : bitsLine = 134217728 := by decide
  unfold IntMulOk
  intro z
  rw [Bool.and_eq_true] at z
  have z2 := z.2
  unfold Builtin.Int.intTooBig at z2
  have z3 := of_decide_eq_true z2
  rw [e] at z3
  omega
theorem op_mulB {X : Cx} : OpR X (binaryOp .Mult) (rI CMulB fun i j => .int (i * j)) := opI fun _ _ _ _ _ _ _ hc q => mul_int q hc.ok
def mulOk (i j : Int) : Bool := decide (i.natAbs.log2 + j.natAbs.log2 < 134000000)
def divOk (_ j : Int) : Bool := decide (0 < j) && decide (j.natAbs.log2 < 9000)
def modOk (_ j : Int) : Bool := decide (0 < j)
def powOk (i j : Int) : Bool := decide (0 ≤ j) && decide (j ≤ 1000000) && decide (i.natAbs < 2 ^ 64)
abbrev gMul := gII mulOk fun i j => i * j
abbrev gDiv := gII divOk fun i j => i / j
abbrev gMod := gII modOk fun i j => i % j
abbrev gPow := gII powOk fun i j => i ^ j.toNat
theorem og_mul {K : PySem.W.Frag} : Op2 K (rI CMulB fun i j => .int (i * j)) gMul := og_ii fun i j h => show i.natAbs.log2 + j.natAbs.log2 < 134000000 from of_decide_eq_true h
theorem og_div {K : PySem.W.Frag} : Op2 K (rI CDivW fun i j => .int (i / j)) gDiv := og_ii fun i j h => by
  unfold divOk at h
  rw [Bool.and_eq_true] at h
  exact ⟨of_decide_eq_true h.1, of_decide_eq_true h.2⟩
theorem og_mod {K : PySem.W.Frag} : Op2 K (rI (fun _ j => 0 < j) fun i j => .int (i % j)) gMod := og_ii fun i j h => of_decide_eq_true h
theorem og_pow {K : PySem.W.Frag} : Op2 K (rI CPow fun i j => .int (i ^ j.toNat)) gPow := og_ii fun i j h => by
  unfold powOk at h
  rw [Bool.and_eq_true, Bool.and_eq_true] at h
  exact ⟨of_decide_eq_true h.1.1, of_decide_eq_true h.1.2, of_decide_eq_true h.2⟩
def gNeg : G1 := fun a h => match a with
  | .d (.int i) => some (.ok (.d (.int (-i))) h)
  | _ => none
theorem og_neg {K : PySem.W.Frag} : Op1 K (rU fun i => .int (-i)) gNeg := by
  intro Z B ρ H h x a W Q ok rx q
  unfold gNeg at q
  split at q
  · exact ⟨_, ra_int rx, q.now ok _ (.d (.int _))⟩
  · exact q.elim
/-- + : o: a new list is a cell -/
def gAdd (o : Bool) : G2 := fun a b h => match a, b with
  | .d (.int i), .d (.int j) => some (.ok (.d (.int (i + j))) h)
  | .d (.str s), .d (.str t) => if s.length + t.length ≤ LIM then some (.ok (.d (.str (s ++ t))) h) else none
  | a, b => match tupOf a, tupOf b with
    | some xs, some ys => mkT (xs ++ ys) h
    | _, _ => match lstOf h a, lstOf h b with
      | some xs, some ys => mkL o (xs ++ ys) h
      | _, _ => none
abbrev rAddA (K : PySem.W.Frag) : R2 := fun x y H Q => rI0 (fun i j => .int (i + j)) x y H Q ∨ (∃ i j, x = .str i ∧ y = .str j ∧ i.length + j.length ≤ sizeLine ∧ Q (.str (i ++ j)) H) ∨ rCatA K x y H Q ∨ rCat x y H Q
theorem op_addA {X : Cx} : OpR X (binaryOp .Add) (rAddA X.K) := op_add.or (op_add_str.or (op_catA.or op_cat))
theorem og_add {K : PySem.W.Frag} {o : Bool} : Op2 K (rAddA K) (gAdd o) := by
  intro Z B ρ H h x y a b W Q ok rx ry q
  unfold gAdd at q
  split at q
  · exact .inl ⟨_, _, ra_int rx, ra_int ry, q.now ok _ (.d (.int _))⟩
  · split at q
    · rename_i hl
      exact .inr (.inl ⟨_, _, ra_str rx, ra_str ry, by rw [← lim_eq]; exact hl, q.now ok _ (.d (.str _))⟩)
    · exact q.elim
  · split at q
    · rename_i xs ys e1 e2
      obtain ⟨p, vs, rfl, h1, r1⟩ := tupOf_ra rx e1
      obtain ⟨p', us, rfl, h2, r2⟩ := tupOf_ra ry e2
      have hl := mkT_len q
      rw [List.length_append] at hl
      refine .inr (.inr (.inl ⟨p, p', vs, us, rfl, rfl, sqt_of (ok.ex _ _ h1), sqt_of (ok.ex _ _ h2), by rw [r1.length, r2.length, ← lim_eq]; exact hl, fun e => ?_, fun _ e => ?_, fun _ _ c hc => ?_⟩))
      · subst e
        cases r1
        exact mkT_at ok h2 r2 q
      · subst e
        cases r2
        rw [List.append_nil] at q
        exact mkT_at ok h1 r1 q
      · exact mkT_ok ok (r1.append r2) q hc
    · split at q
      · rename_i xs ys e1 e2
        obtain ⟨p, vs, rfl, h1, r1⟩ := lstOf_ra ok rx e1
        obtain ⟨p', us, rfl, h2, r2⟩ := lstOf_ra ok ry e2
        have hl := mkL_len q
        rw [List.length_append] at hl
        exact .inr (.inr (.inr ⟨p, p', vs, us, rfl, rfl, h1, h2, by rw [r1.length, r2.length, ← lim_eq]; exact hl, fun c hc => mkL_ok ok (r1.append r2) q hc⟩))
      · exact q.elim

/-! ### comparisons -/
/-- of data seen as a whole -/
def g2V (g : D → D → Option Bool) : G2 := fun a b h => match view h a with
  | some x => (match view h b with | some y => (match g x y with | some k => some (.ok (.d (.bl k)) h) | none => none) | none => none)
  | none => none
theorem og_2v {K : PySem.W.Frag} {g : D → D → Option Bool} {r : R2} (hg : ∀ H x y d e k Q, Rp K H x d → Rp K H y e → g d e = some k → Q (.bl k) H → r x y H Q) : Op2 K r (g2V g) := by
  intro Z B ρ H h x y a b W Q ok rx ry q
  unfold g2V at q
  split at q
  · rename_i d e1
    split at q
    · rename_i e e2
      split at q
      · rename_i k e3
        exact hg H x y d e k Q (ok.see rx e1) (ok.see ry e2) e3 (q.now ok _ (.d (.bl k)))
      · exact q.elim
    · exact q.elim
  · exact q.elim
def eqD (neg : Bool) (x y : D) : Option Bool := if x.shp && y.shp then some (if neg then !D.eqv x y else D.eqv x y) else none
abbrev gEq (neg : Bool) : G2 := g2V (eqD neg)
theorem og_eq {K : PySem.W.Frag} : Op2 K (rEqD K) (gEq false) := og_2v fun H x y d e k Q rx ry hk q => by
  unfold eqD at hk
  split at hk
  · rename_i hs
    rw [Bool.and_eq_true] at hs
    cases hk
    exact ⟨_, _, rx.dp hs.1, ry.dp hs.2, hs.1, hs.2, q⟩
  · cases hk
theorem og_ne {K : PySem.W.Frag} : Op2 K (rNeD K) (gEq true) := og_2v fun H x y d e k Q rx ry hk q => by
  unfold eqD at hk
  split at hk
  · rename_i hs
    rw [Bool.and_eq_true] at hs
    cases hk
    exact ⟨_, _, rx.dp hs.1, ry.dp hs.2, hs.1, hs.2, q⟩
  · cases hk
def gCmp (p : Int → Int → Bool) : G2 := fun a b h => match a, b with
  | .d (.int i), .d (.int j) => some (.ok (.d (.bl (p i j))) h)
  | _, _ => none
theorem og_cmp {K : PySem.W.Frag} {p : Int → Int → Bool} : Op2 K (rI0 fun i j => .bl (p i j)) (gCmp p) := by
  intro Z B ρ H h x y a b W Q ok rx ry q
  unfold gCmp at q
  split at q
  · exact ⟨_, _, ra_int rx, ra_int ry, q.now ok _ (.d (.bl _))⟩
  · exact q.elim
abbrev gLt := gCmp fun i j => decide (i < j)
abbrev gLe := gCmp fun i j => decide (i ≤ j)
abbrev gGt := gCmp fun i j => decide (j < i)
abbrev gGe := gCmp fun i j => decide (j ≤ i)
theorem og_lt {K : PySem.W.Frag} : Op2 K (rI0 fun i j => .bl (decide (i < j))) gLt := og_cmp
theorem og_le {K : PySem.W.Frag} : Op2 K (rI0 fun i j => .bl (decide (i ≤ j))) gLe := og_cmp
theorem og_gt {K : PySem.W.Frag} : Op2 K (rI0 fun i j => .bl (decide (j < i))) gGt := og_cmp
theorem og_ge {K : PySem.W.Frag} : Op2 K (rI0 fun i j => .bl (decide (j ≤ i))) gGe := og_cmp
def A.isNon : A → Bool | .d .non => true | _ => false
def A.isBl (b : Bool) : A → Bool | .d (.bl c) => c == b | _ => false
def gIs (neg : Bool) : G2 := fun a b h => match b with
  | .d .non => some (.ok (.d (.bl (neg != a.isNon))) h)
  | .d (.bl c) => some (.ok (.d (.bl (neg != a.isBl c))) h)
  | _ => none
def rIsA (neg : Bool) : R2 := fun x y H Q => (y = .non ∨ ∃ b, y = .bl b) ∧ Q (.bl (neg != decide (x = y))) H
theorem plain_of {x y : V} {v u : Value} (rx : RelV x v) (ry : RelV y u) (h : y = .non ∨ ∃ b, y = .bl b) : plainIs v u = true ∧ (v == u) = decide (x = y) := by
  rcases h with rfl | ⟨b, rfl⟩
  · cases ry
    cases x with
    | non => cases rx; exact ⟨rfl, rfl⟩
    | bl _ => cases rx; exact ⟨rfl, rfl⟩
    | int _ => obtain ⟨t, rfl⟩ := rx; exact ⟨rfl, rfl⟩
    | str _ => obtain ⟨t, rfl⟩ := rx; exact ⟨rfl, rfl⟩
    | byt _ => obtain ⟨t, rfl⟩ := rx; exact ⟨rfl, rfl⟩
    | flt _ => obtain ⟨t, rfl⟩ := rx; exact ⟨rfl, rfl⟩
    | ref _ => cases rx; exact ⟨rfl, rfl⟩
    | ty _ => cases rx; exact ⟨rfl, rfl⟩
  · cases ry
    cases x with
    | non => cases rx; exact ⟨rfl, rfl⟩
    | bl c => cases rx; exact ⟨rfl, by cases c <;> cases b <;> rfl⟩
    | int _ => obtain ⟨t, rfl⟩ := rx; exact ⟨rfl, rfl⟩
    | str _ => obtain ⟨t, rfl⟩ := rx; exact ⟨rfl, rfl⟩
    | byt _ => obtain ⟨t, rfl⟩ := rx; exact ⟨rfl, rfl⟩
    | flt _ => obtain ⟨t, rfl⟩ := rx; exact ⟨rfl, rfl⟩
    | ref _ => cases rx; exact ⟨rfl, rfl⟩
    | ty _ => cases rx; exact ⟨rfl, rfl⟩
theorem op_isA {X : Cx} : OpR X (compareOp .Is) (rIsA false) := by
  intro pins s σ H x y v u Q I rx ry h
  obtain ⟨hy, q⟩ := h
  obtain ⟨h1, h2⟩ := plain_of rx ry hy
  exact wpAny_is_plain h1 (fin_bl I q (by rw [h2]; simp))
theorem op_isNotA {X : Cx} : OpR X (compareOp .IsNot) (rIsA true) := by
  intro pins s σ H x y v u Q I rx ry h
  obtain ⟨hy, q⟩ := h
  obtain ⟨h1, h2⟩ := plain_of rx ry hy
  exact wpAny_isNot_plain h1 (fin_bl I q (by rw [h2]; simp))
theorem og_is {K : PySem.W.Frag} {neg : Bool} : Op2 K (rIsA neg) (gIs neg) := by
  intro Z B ρ H h x y a b W Q ok rx ry q
  unfold gIs at q
  split at q
  · obtain rfl := rp_non (ra_d ry)
    refine ⟨.inl rfl, ?_⟩
    have z : decide (x = V.non) = a.isNon := by
      cases rx with
      | d r => cases r <;> rfl
      | r _ => rfl
      | tup _ _ => rfl
    rw [z]
    exact q.now ok _ (.d (.bl _))
  · rename_i c
    obtain rfl := rp_bl (ra_d ry)
    refine ⟨.inr ⟨c, rfl⟩, ?_⟩
    have z : decide (x = V.bl c) = a.isBl c := by
      cases rx with
      | d r => cases r <;> first | rfl | (rename_i k; cases k <;> cases c <;> rfl)
      | r _ => rfl
      | tup _ _ => rfl
    rw [z]
    exact q.now ok _ (.d (.bl _))
  · exact q.elim

/-! ### items -/
theorem atI_some {α : Type} {xs : List α} {i : Int} {v : α} (h : atI xs i = some v) : ∃ j, ixN xs.length i = some j ∧ xs[j]? = some v := by
  unfold atI at h
  cases e : ixN xs.length i with
  | none => rw [e] at h; cases h
  | some j => rw [e] at h; exact ⟨j, rfl, h⟩
theorem atI_of {α β : Type} {xs : List α} {ys : List β} {i : Int} {j : Nat} {v : β} (hl : ys.length = xs.length) (h : ixN xs.length i = some j) (h2 : ys[j]? = some v) : atI ys i = some v := by
  unfold atI
  rw [hl, h]
  exact h2
def gIx : G2 := fun a b h => match b with
  | .d (.int i) => (match a with
    | .d (.str z) => if z.length ≤ LIM then (match atI z.cps.toList i with | some c => some (.ok (.d (.str ⟨#[c]⟩)) h) | none => none) else none
    | .d (.scr ns) => (match atI ns i with | some n => some (.ok (.d (.int n)) h) | none => none)
    | .d (.kt ds) => (match atI ds i with | some d => some (.ok (.d d) h) | none => none)
    | a => match tupOf a with
      | some ws => (match atI ws i with | some w => some (.ok w h) | none => none)
      | none => match lstOf h a with
        | some ws => (match atI ws i with | some w => some (.ok w h) | none => none)
        | none => none)
  | _ => none
theorem og_ix {K : PySem.W.Frag} : Op2 K (rIx K) gIx := by
  intro Z B ρ H h x y a b W Q ok rx ry q
  unfold gIx at q
  split at q
  · rename_i i
    cases ra_int ry
    split at q
    · split at q
      · rename_i hl
        split at q
        · rename_i c e3
          cases ra_str rx
          exact .inr (.inr ⟨_, _, _, rfl, rfl, by rw [← lim_eq]; exact hl, e3, q.now ok _ (.d (.str _))⟩)
        · exact q.elim
      · exact q.elim
    · split at q
      · rename_i n e3
        cases ra_d rx with
        | scr h1 =>
          obtain ⟨j, e4, e5⟩ := atI_some e3
          exact .inl ⟨_, _, _, .int n, rfl, rfl, ok.ex.seq h1, atI_of (List.length_map ..) e4 (by rw [List.getElem?_map, e5]; rfl), q.now ok _ (.d (.int n))⟩
      · exact q.elim
    · split at q
      · rename_i d e3
        cases ra_d rx with
        | kt h1 r1 =>
          obtain ⟨j, e4, e5⟩ := atI_some e3
          obtain ⟨v, e6, r2⟩ := r1.get e5
          exact .inr (.inl ⟨_, _, _, _, rfl, rfl, sqt_mono ok.ex h1, atI_of r1.length e4 e6, q.now ok _ (.d r2)⟩)
      · exact q.elim
    · split at q
      · rename_i ws e1
        split at q
        · rename_i w e3
          obtain ⟨p, vs, rfl, h1, r1⟩ := tupOf_ra rx e1
          obtain ⟨j, e4, e5⟩ := atI_some e3
          obtain ⟨v, e6, r2⟩ := r1.get e5
          exact .inr (.inl ⟨_, _, _, _, rfl, rfl, sqt_of (ok.ex _ _ h1), atI_of r1.length e4 e6, q.now ok _ r2⟩)
        · exact q.elim
      · split at q
        · rename_i ws e1
          split at q
          · rename_i w e3
            obtain ⟨p, vs, rfl, h1, r1⟩ := lstOf_ra ok rx e1
            obtain ⟨j, e4, e5⟩ := atI_some e3
            obtain ⟨v, e6, r2⟩ := r1.get e5
            exact .inl ⟨_, _, _, _, rfl, rfl, SqL.of h1, atI_of r1.length e4 e6, q.now ok _ r2⟩
          · exact q.elim
        · exact q.elim
  · exact q.elim
theorem rx_ix {X : Cx} {W : WX} {a b : Expr} {pos : Pos} {ma mb : E A} (ha : RX X W a ma) (hb : RX X W b mb) (hs : PlainIx b := by exact fun _ _ => rfl) : RX X W (.Subscript a b pos) (mBin gIx ma mb) := ⟨pe_imp (pe_ix ix_seq ha.pe hb.pe hs) fun σ H Q q => by
  obtain ⟨Z, B, ρ, τ, h, ok, sl, q⟩ := q
  exact te_bd ok sl q fun x a h1 B1 ρ1 H1 rx ok1 sl1 g1 q1 => te_bd ok1 sl1 q1 fun y b h2 B2 ρ2 H2 ry ok2 sl2 g2 q2 => og_ix Z B2 ρ2 H2 h2 x y a b _ Q ok2 (rx.mono g2) ry q2⟩

/-! ### slices -/
def tOo (K : PySem.W.Frag) (W : WX) (m : E (Option Int)) : TO := fun σ H Q => ∃ Z B ρ τ h, Ok K Z B ρ H h ∧ SlOk K B ρ σ τ ∧ Post K Z (fun c d H' => W c d σ H') B ρ (fun o _ B' ρ' H' => Q o H') (m τ h)
structure RO (X : Cx) (W : WX) (e : Option Expr) (m : E (Option Int)) : Prop where
  po : PO X e (tOo X.K W m)
def moN : E (Option Int) := fun _ h => some (.ok none h)
def moS (m : E A) : E (Option Int) := fun τ h => bd (m τ h) fun a h1 => match a with | .d (.int i) => some (.ok (some i) h1) | _ => none
theorem ro_none {X : Cx} {W : WX} : RO X W none moN := ⟨po_imp po_none fun σ H Q q => by
  obtain ⟨Z, B, ρ, τ, h, ok, sl, q⟩ := q
  exact q.now ok⟩
theorem ro_some {X : Cx} {W : WX} {e : Expr} {m : E A} (hm : RX X W e m) : RO X W (some e) (moS m) := ⟨po_imp (po_some hm.pe) fun σ H Q q => by
  obtain ⟨Z, B, ρ, τ, h, ok, sl, q⟩ := q
  refine te_bd ok sl q fun x a h1 B1 ρ1 H1 rx ok1 sl1 g1 q1 => ?_
  split at q1
  · exact ⟨_, ra_int rx, q1.now ok1⟩
  · exact q1.elim⟩
def cut {α : Type} (xs : List α) (lo hi : Option Int) : List α := (xs.drop (HT.sIx xs.length 0 lo)).take (HT.sIx xs.length xs.length hi - HT.sIx xs.length 0 lo)
theorem RAL.cut {K : PySem.W.Frag} {B : Hp} {ρ : Nat → Option Addr} {vs : List V} {ds : List A} (r : RAL K B ρ vs ds) (lo hi : Option Int) : RAL K B ρ (cutV vs lo hi) (cut ds lo hi) := by
  unfold cutV Tq.cut
  rw [r.length]
  exact (r.drop _).take _
theorem map_cut {α β : Type} (f : α → β) (xs : List α) (lo hi : Option Int) : cut (xs.map f) lo hi = (cut xs lo hi).map f := by
  unfold cut
  rw [List.length_map, List.map_take, List.map_drop]
def gSl (o : Bool) (a : A) (lo hi : Option Int) (h : Hq) : Option (Rs A) := match a with
  | .d (.str z) => if z.length ≤ LIM then some (.ok (.d (.str (cutS z lo hi))) h) else none
  | .d (.scr ns) => mkL o ((cut ns lo hi).map fun i => .d (.int i)) h
  | a => match tupOf a with
    | some ws => mkT (cut ws lo hi) h
    | none => match lstOf h a with
      | some ws => mkL o (cut ws lo hi) h
      | none => none
abbrev rSlAll (K : PySem.W.Frag) : V → Option Int → Option Int → Hp → VK → Prop := fun x lo hi H Q => rSlL K x lo hi H Q ∨ rSlA K x lo hi H Q ∨ rSlS x lo hi H Q
theorem og_sl {K : PySem.W.Frag} {o : Bool} {Z B H : Hp} {ρ : Nat → Option Addr} {h : Hq} {x : V} {a : A} {lo hi : Option Int} {W : XK} {Q : VK} (ok : Ok K Z B ρ H h) (rx : RA K B ρ x a) (q : Post K Z W B ρ (fun w _ B' ρ' H' => ∀ v, RA K B' ρ' v w → Q v H') (gSl o a lo hi h)) : rSlAll K x lo hi H Q := by
  unfold gSl at q
  split at q
  · split at q
    · rename_i hl
      cases ra_str rx
      exact .inr (.inr ⟨_, rfl, by rw [← lim_eq]; exact hl, q.now ok _ (.d (.str _))⟩)
    · exact q.elim
  · rename_i ns
    cases ra_d rx with
    | scr h1 =>
      refine .inl ⟨_, _, rfl, ok.ex.seq h1, fun p hp => ?_⟩
      have z : cutV (ns.map V.int) lo hi = (cut ns lo hi).map V.int := map_cut V.int ns lo hi
      refine mkL_ok ok ?_ q hp
      rw [z]
      have e := ral_ds (K := K) (B := B) (ρ := ρ) (rpl_ints (K := K) (B := B) (cut ns lo hi))
      rwa [List.map_map] at e
  · split at q
    · rename_i ws e1
      obtain ⟨p, vs, rfl, h1, r1⟩ := tupOf_ra rx e1
      refine .inr (.inl ⟨p, vs, rfl, sqt_of (ok.ex _ _ h1), fun e => ?_, fun _ c hc => mkT_ok ok (r1.cut lo hi) q hc⟩)
      have z : cut ws lo hi = ws := by
        unfold cut
        rw [← r1.length, e.1, e.2, List.drop_zero, Nat.sub_zero, r1.length, List.take_length]
      rw [z] at q
      exact mkT_at ok h1 r1 q
    · split at q
      · rename_i ws e1
        obtain ⟨p, vs, rfl, h1, r1⟩ := lstOf_ra ok rx e1
        exact .inl ⟨p, vs, rfl, SqL.of h1, fun c hc => mkL_ok ok (r1.cut lo hi) q hc⟩
      · exact q.elim
def mSl (o : Bool) (ma : E A) (ml mh : E (Option Int)) : E A := fun τ h => bd (ma τ h) fun a h1 => bd (ml τ h1) fun lo h2 => bd (mh τ h2) fun hi h3 => gSl o a lo hi h3
theorem rx_slice {X : Cx} {W : WX} (o : Bool) {a : Expr} {lo hi : Option Expr} {p2 pos : Pos} {ma : E A} {ml mh : E (Option Int)} (ha : RX X W a ma) (hl : RO X W lo ml) (hh : RO X W hi mh) :
    RX X W (.Subscript a (.Slice lo hi none p2) pos) (mSl o ma ml mh) := ⟨pe_imp (pe_slice (sl_list.or (sl_tupA.or sl_str)) ha.pe hl.po hh.po) fun σ H Q q => by
  obtain ⟨Z, B, ρ, τ, h, ok, sl, q⟩ := q
  refine te_bd ok sl q fun x a h1 B1 ρ1 H1 rx ok1 sl1 g1 q1 => ?_
  refine ⟨Z, B1, ρ1, τ, h1, ok1, sl1, q1.bd.imp fun lo h2 B2 ρ2 H2 ok2 g2 q2 => ?_⟩
  refine ⟨Z, B2, ρ2, τ, h2, ok2, sl1.mono g2, q2.bd.imp fun hi h3 B3 ρ3 H3 ok3 g3 q3 => ?_⟩
  exact og_sl ok3 (rx.mono (g2.trans g3)) q3⟩
end Tq

/-! Tq4: tests, conditional values, built-ins. -/
namespace Tq
open PySem PySem.Spec PyProof.Rows L2

def tT (K : PySem.W.Frag) (W : WX) (m : E Bool) : TT := fun σ H Q => ∃ Z B ρ τ h, Ok K Z B ρ H h ∧ SlOk K B ρ σ τ ∧ Post K Z (fun c d H' => W c d σ H') B ρ (fun b _ B' ρ' H' => Q b H') (m τ h)
structure RT (X : Cx) (W : WX) (e : Expr) (m : E Bool) : Prop where
  pt : PT X e (tT X.K W m)
structure RWt (X : Cx) (W : WX) (e : Expr) (m : E Bool) : Prop where
  pw : PW X e (tT X.K W m)
def truD : D → Option Bool
  | .non => some false | .bl b => some b | .int i => some (i != 0)
  | .str x => if x.length ≤ LIM then some ((x.length : Int) != 0) else none
  | .lst xs => some (!xs.isEmpty) | .tup xs => some (!xs.isEmpty) | .kt xs => some (!xs.isEmpty) | .scr ns => some (!ns.isEmpty)
  | .nd (.dic ks) xs => if xs.length = ks.length then some (!ks.isEmpty) else none
  | _ => none
def truA (h : Hq) : A → Option Bool
  | .d x => truD x
  | .tup ws => some (!ws.isEmpty)
  | .r k => match h[k]? with | some (.lst ws) => some (!ws.isEmpty) | some (.nd (.dic ks) ws) => some (!ks.isEmpty) | _ => none
def mTru (m : E A) : E Bool := fun τ h => bd (m τ h) fun a h1 => match truA h1 a with | some b => some (.ok b h1) | none => none
def mTB (m : E A) : E Bool := fun τ h => bd (m τ h) fun a h1 => match a with | .d (.bl b) => some (.ok b h1) | _ => none
def mNotT (m : E Bool) : E Bool := fun τ h => bd (m τ h) fun b h1 => some (.ok (!b) h1)
def mAndT (ma mb : E Bool) : E Bool := fun τ h => bd (ma τ h) fun b h1 => match b with | true => mb τ h1 | false => some (.ok false h1)
def mOrT (ma mb : E Bool) : E Bool := fun τ h => bd (ma τ h) fun b h1 => match b with | false => mb τ h1 | true => some (.ok true h1)
section
variable {X : Cx} {W : WX} {e a b c : Expr} {es rest : List Expr} {m ma mb mc : E A} {t ta tb : E Bool} {pos : Pos}
theorem zip_empty {κ : Type} : ∀ {ks : List κ} {vs : List V}, ks.length = vs.length → (ks.zip vs).isEmpty = ks.isEmpty
  | [], _, _ => rfl
  | _ :: _, [], h => by simp at h
  | _ :: _, _ :: _, _ => rfl
theorem tru_rp {K : PySem.W.Frag} {H : Hp} {v : V} {d : D} {k : Bool} (r : Rp K H v d) (h : truD d = some k) : TruV K v H k := by
  cases r with
  | non => cases h; rfl
  | bl b => cases h; rfl
  | int i => cases h; rfl
  | str x =>
    have h : (if x.length ≤ LIM then some ((x.length : Int) != 0) else none) = some k := h
    split at h
    · rename_i hl
      cases h
      exact ⟨by rw [← lim_eq]; exact hl, rfl⟩
    · cases h
  | tup h1 r1 =>
    cases h
    refine .inr (.inl ⟨_, sqt_of h1, ?_⟩)
    cases r1 <;> rfl
  | kt h1 r1 =>
    cases h
    refine .inr (.inl ⟨_, h1, ?_⟩)
    cases r1 <;> rfl
  | lst h1 r1 =>
    cases h
    refine .inl ⟨_, SqL.of h1, ?_⟩
    cases r1 <;> rfl
  | scr h1 =>
    rename_i a ns
    cases h
    refine .inl ⟨_, h1, ?_⟩
    cases ns <;> rfl
  | fn _ => cases h
  | nd h1 r1 =>
    cases h1 with
    | dic e1 e2 =>
      rename_i ks
      have h : (if _ then some (!ks.isEmpty) else none) = some k := h
      split at h
      · cases h
        exact .inr (.inr ⟨_, e1, by rw [zip_empty e2]⟩)
      · cases h
    | dit => cases h
    | ins => cases h
theorem tru_ra {K : PySem.W.Frag} {Z B H : Hp} {ρ : Nat → Option Addr} {h : Hq} {v : V} {a : A} {k : Bool} (ok : Ok K Z B ρ H h) (r : RA K B ρ v a) (e : truA h a = some k) : TruV K v H k := by
  unfold truA at e
  split at e
  · exact tru_rp ((ra_d r).mono ok.ex) e
  · cases e
    cases r with
    | tup h1 r1 =>
      refine .inr (.inl ⟨_, sqt_of (ok.ex _ _ h1), ?_⟩)
      cases r1 <;> rfl
  · split at e
    · rename_i ws e1
      cases e
      cases r with
      | r hr =>
        obtain ⟨p, h1, h2⟩ := ok.ce _ _ e1
        rw [hr] at h1
        cases h1
        cases h2 with
        | lst q1 q2 q3 q4 =>
          refine .inl ⟨_, SqL.of q1, ?_⟩
          cases q2 <;> rfl
    · rename_i ks ws e1
      cases e
      cases r with
      | r hr =>
        obtain ⟨p, h1, h2⟩ := ok.ce _ _ e1
        rw [hr] at h1
        cases h1
        cases h2 with
        | nd q1 q2 q3 =>
          cases q1 with
          | dic e1 e2 => exact .inr (.inr ⟨_, e1, by rw [zip_empty e2]⟩)
    · cases e
theorem rt_truth (ha : RX X W a m) (he : ∀ whole, isTrue a X.env whole = (do let v ← whole; standAt a.pos; holding [v] (truthy v)) := by exact fun _ => rfl) : RT X W a (mTru m) := ⟨pt_imp (pt_truth ha.pe he) fun σ H Q q => by
  obtain ⟨Z, B, ρ, τ, h, ok, sl, q⟩ := q
  refine te_bd ok sl q fun x a h1 B1 ρ1 H1 rx ok1 sl1 g1 q1 => ?_
  split at q1
  · rename_i k e
    exact ⟨k, tru_ra ok1 rx e, q1.now ok1⟩
  · exact q1.elim⟩
theorem rt_cmp {op : CmpOp} {g : G2} {r : R2} (ho : OpR X (compareOp op) r) (og : Op2 X.K r g) (ha : RX X W a ma) (hb : RX X W b mb) (hm : behindInMarks op b = false) : RT X W (.Compare a [op] [b] pos) (mTB (mBin g ma mb)) := ⟨pt_imp (pt_cmpR ho ha.pe hb.pe hm) fun σ H Q q => by
  obtain ⟨Z, B, ρ, τ, h, ok, sl, q⟩ := q
  have q2 := q.bd
  unfold mBin at q2
  exact te_bd ok sl q2 fun x a h1 B1 ρ1 H1 rx ok1 sl1 g1 q1 => te_bd ok1 sl1 q1 fun y b h2 B2 ρ2 H2 ry ok2 sl2 g2 q2 => og Z B2 ρ2 H2 h2 x y a b _ _ ok2 (rx.mono g2) ry (q2.imp fun w h3 B3 ρ3 H3 ok3 g3 q3 v rv => by
    split at q3
    · exact ⟨_, rp_bl (ra_d rv), q3.now ok3⟩
    · exact q3.elim)⟩
/-- a value that is True or False, as a test -/
theorem rt_val (ha : RX X W a m) (he : ∀ whole, isTrue a X.env whole = (do let v ← whole; standAt a.pos; holding [v] (truthy v)) := by exact fun _ => rfl) : RT X W a (mTru m) := rt_truth ha he
theorem rt_no : RT X W e mNo := ⟨⟨fun pins s σ H Q I q => by
  obtain ⟨_, _, _, _, _, _, _, q⟩ := q
  exact q.elim⟩⟩
theorem rt_not (h : RT X W a t) : RT X W (.UnaryOp .Not a pos) (mNotT t) := ⟨pt_imp (pt_not h.pt) fun σ H Q q => by
  obtain ⟨Z, B, ρ, τ, h, ok, sl, q⟩ := q
  exact ⟨Z, B, ρ, τ, h, ok, sl, q.bd.imp fun b h1 B1 ρ1 H1 ok1 g1 q1 => q1.now ok1⟩⟩
theorem RWt.rt (h : RWt X W e t) : RT X W e t := ⟨h.pw.pt⟩
theorem rw_and1 (h : RT X W a t) : RWt X W (.BoolOp .And [a] pos) t := ⟨pw_and1 h.pt⟩
theorem rw_or1 (h : RT X W a t) : RWt X W (.BoolOp .Or [a] pos) t := ⟨pw_or1 h.pt⟩
theorem rw_and (ha : RT X W a ta) (hb : RWt X W (.BoolOp .And (b :: rest) pos) tb) : RWt X W (.BoolOp .And (a :: b :: rest) pos) (mAndT ta tb) := ⟨pw_imp (pw_and ha.pt hb.pw) fun σ H Q q => by
  obtain ⟨Z, B, ρ, τ, h, ok, sl, q⟩ := q
  refine ⟨Z, B, ρ, τ, h, ok, sl, q.bd.imp fun b h1 B1 ρ1 H1 ok1 g1 q1 => ?_⟩
  cases b with
  | true => exact iteT ⟨Z, B1, ρ1, τ, h1, ok1, sl.mono g1, q1⟩
  | false => exact iteF (q1.now ok1)⟩
theorem rw_or (ha : RT X W a ta) (hb : RWt X W (.BoolOp .Or (b :: rest) pos) tb) : RWt X W (.BoolOp .Or (a :: b :: rest) pos) (mOrT ta tb) := ⟨pw_imp (pw_or ha.pt hb.pw) fun σ H Q q => by
  obtain ⟨Z, B, ρ, τ, h, ok, sl, q⟩ := q
  refine ⟨Z, B, ρ, τ, h, ok, sl, q.bd.imp fun b h1 B1 ρ1 H1 ok1 g1 q1 => ?_⟩
  cases b with
  | true => exact iteT (q1.now ok1)
  | false => exact iteF ⟨Z, B1, ρ1, τ, h1, ok1, sl.mono g1, q1⟩⟩

/-! ### and, or, not as values; a if t else b -/
def mAndV (ma mb : E A) : E A := fun τ h => bd (ma τ h) fun a h1 => match a with | .d (.bl true) => mb τ h1 | .d (.bl false) => some (.ok (.d (.bl false)) h1) | _ => none
def mOrV (ma mb : E A) : E A := fun τ h => bd (ma τ h) fun a h1 => match a with | .d (.bl false) => mb τ h1 | .d (.bl true) => some (.ok (.d (.bl true)) h1) | _ => none
def mNotV (ma : E A) : E A := fun τ h => bd (ma τ h) fun a h1 => match a with | .d (.bl b) => some (.ok (.d (.bl (!b))) h1) | _ => none
def mIfE (t : E Bool) (ma mb : E A) : E A := fun τ h => bd (t τ h) fun b h1 => match b with | true => ma τ h1 | false => mb τ h1
theorem rx_if (hc : RT X W c t) (ha : RX X W a ma) (hb : RX X W b mb) : RX X W (.IfExp c a b pos) (mIfE t ma mb) := ⟨pe_imp (pe_ifExp hc.pt ha.pe hb.pe) fun σ H Q q => by
  obtain ⟨Z, B, ρ, τ, h, ok, sl, q⟩ := q
  refine ⟨Z, B, ρ, τ, h, ok, sl, q.bd.imp fun b h1 B1 ρ1 H1 ok1 g1 q1 => ?_⟩
  cases b with
  | true => exact iteT ⟨Z, B1, ρ1, τ, h1, ok1, sl.mono g1, q1⟩
  | false => exact iteF ⟨Z, B1, ρ1, τ, h1, ok1, sl.mono g1, q1⟩⟩
theorem rx_one {op} (h : RX X W a m) : RX X W (.BoolOp op [a] pos) m := ⟨pe_one h.pe⟩
theorem rx_and (ha : RX X W a ma) (hb : RX X W (.BoolOp .And (b :: rest) pos) mb) : RX X W (.BoolOp .And (a :: b :: rest) pos) (mAndV ma mb) := ⟨pe_imp (pe_and ha.pe hb.pe) fun σ H Q q => by
  obtain ⟨Z, B, ρ, τ, h, ok, sl, q⟩ := q
  refine te_bd ok sl q fun x a h1 B1 ρ1 H1 rx ok1 sl1 g1 q1 => ?_
  split at q1
  · exact ⟨true, rp_bl (ra_d rx), iteT ⟨Z, B1, ρ1, τ, h1, ok1, sl1, q1⟩⟩
  · exact ⟨false, rp_bl (ra_d rx), iteF (q1.now ok1 _ (.d (.bl false)))⟩
  · exact q1.elim⟩
theorem rx_or (ha : RX X W a ma) (hb : RX X W (.BoolOp .Or (b :: rest) pos) mb) : RX X W (.BoolOp .Or (a :: b :: rest) pos) (mOrV ma mb) := ⟨pe_imp (L2.pe_or ha.pe hb.pe) fun σ H Q q => by
  obtain ⟨Z, B, ρ, τ, h, ok, sl, q⟩ := q
  refine te_bd ok sl q fun x a h1 B1 ρ1 H1 rx ok1 sl1 g1 q1 => ?_
  split at q1
  · exact ⟨false, rp_bl (ra_d rx), iteF ⟨Z, B1, ρ1, τ, h1, ok1, sl1, q1⟩⟩
  · exact ⟨true, rp_bl (ra_d rx), iteT (q1.now ok1 _ (.d (.bl true)))⟩
  · exact q1.elim⟩
theorem rx_not (ha : RX X W a ma) : RX X W (.UnaryOp .Not a pos) (mNotV ma) := ⟨pe_imp (pe_not ha.pe) fun σ H Q q => by
  obtain ⟨Z, B, ρ, τ, h, ok, sl, q⟩ := q
  refine te_bd ok sl q fun x a h1 B1 ρ1 H1 rx ok1 sl1 g1 q1 => ?_
  split at q1
  · exact ⟨_, rp_bl (ra_d rx), q1.now ok1 _ (.d (.bl _))⟩
  · exact q1.elim⟩
/-- a < b < c -/
def mChain (g1 g2 : G2) (ma mb mc : E A) : E A := fun τ h => bd (ma τ h) fun a h1 => bd (mb τ h1) fun b h2 => bd (g1 a b h2) fun k h3 => match k with
  | .d (.bl true) => bd (mc τ h3) fun c h4 => g2 b c h4
  | .d (.bl false) => some (.ok (.d (.bl false)) h3)
  | _ => none

/-! ### calls of built-ins -/
theorem rx_b1 {id : String} {x : Str} {r : List V → Hp → VK → Prop} {g : G1} {px : Pos} (hc : CallR X (.builtin id) r) (og : Op1 X.K (fun x H Q => r [x] H Q) g) (ha : RX X W a ma) (hm : X.mg x = none) (hv : bootBuiltins x = some (.builtin id) := by decide +kernel) (hg : Gl X x := by rfl)
    (hn : x ≠ "__name__" := by decide) (hdb : (x == ("__debug__" : Str)) = false := by decide) (he : starEach [a] X.env = (false, eval a X.env) :: starEach [] X.env := by rfl) : RX X W (.Call (.Name x px) [a] [] pos) (mUn g ma) :=
  rx_op1 ha og fun h1 => pe_callB hc hg hm hv (pa_cons h1 pa_nil he) hn hdb he
theorem rx_t1 {T : String} {x : Str} {r : List V → Hp → VK → Prop} {g : G1} {px : Pos} (hc : CallR X (.type T) r) (og : Op1 X.K (fun x H Q => r [x] H Q) g) (ha : RX X W a ma) (hm : X.mg x = none) (hv : bootBuiltins x = some (.type T) := by decide +kernel) (hg : Gl X x := by rfl)
    (hn : x ≠ "__name__" := by decide) (hdb : (x == ("__debug__" : Str)) = false := by decide) (he : starEach [a] X.env = (false, eval a X.env) :: starEach [] X.env := by rfl) : RX X W (.Call (.Name x px) [a] [] pos) (mUn g ma) :=
  rx_op1 ha og fun h1 => pe_callTy hc hg hm hv (pa_cons h1 pa_nil he) hn hdb he
theorem rx_b2 {id : String} {x : Str} {r : List V → Hp → VK → Prop} {g : G2} {px : Pos} (hc : CallR X (.builtin id) r) (og : Op2 X.K (fun x y H Q => r [x, y] H Q) g) (ha : RX X W a ma) (hb : RX X W b mb) (hm : X.mg x = none) (hv : bootBuiltins x = some (.builtin id) := by decide +kernel) (hg : Gl X x := by rfl)
    (hn : x ≠ "__name__" := by decide) (hdb : (x == ("__debug__" : Str)) = false := by decide) (he : starEach [a, b] X.env = (false, eval a X.env) :: starEach [b] X.env := by rfl) (he2 : starEach [b] X.env = (false, eval b X.env) :: starEach [] X.env := by rfl) (hpl : (backTo pos (starEach [b] X.env)).any (·.1) = false := by rfl) : RX X W (.Call (.Name x px) [a, b] [] pos) (mBin g ma mb) :=
  rx_op2 ha hb og fun h1 h2 => pe_callB hc hg hm hv (pa_cons h1 (pa_cons h2 pa_nil he2) he) hn hdb he hpl
/-- len -/
def lenA (h : Hq) : A → Option Nat
  | .d (.str x) => if x.length ≤ LIM then some x.length else none
  | .d (.scr ns) => some ns.length
  | .d (.kt ds) => some ds.length
  | a => match tupOf a with
    | some ws => some ws.length
    | none => match lstOf h a with | some ws => some ws.length | none => none
def gLen : G1 := fun a h => match lenA h a with | some n => some (.ok (.d (.int (n : Nat))) h) | none => none
theorem og_len {K : PySem.W.Frag} : Op1 K (fun x H Q => ∃ x' n, [x] = [x'] ∧ LenV K x' H n ∧ Q (.int n) H) gLen := by
  intro Z B ρ H h x a W Q ok rx q
  unfold gLen at q
  split at q
  · rename_i n e
    refine ⟨x, n, rfl, ?_, q.now ok _ (.d (.int _))⟩
    unfold lenA at e
    split at e
    · split at e
      · cases e
        cases ra_str rx
        exact ⟨by rw [← lim_eq]; assumption, rfl⟩
      · cases e
    · cases e
      cases ra_d rx with
      | scr h1 => exact .inl ⟨_, ok.ex.seq h1, (List.length_map ..).symm⟩
    · cases e
      cases ra_d rx with
      | kt h1 r1 => exact .inr ⟨_, sqt_mono ok.ex h1, r1.length.symm⟩
    · split at e
      · rename_i ws e1
        cases e
        obtain ⟨p, vs, rfl, h1, r1⟩ := tupOf_ra rx e1
        exact .inr ⟨_, sqt_of (ok.ex _ _ h1), r1.length.symm⟩
      · split at e
        · rename_i ws e1
          cases e
          obtain ⟨p, vs, rfl, h1, r1⟩ := lstOf_ra ok rx e1
          exact .inl ⟨_, SqL.of h1, r1.length.symm⟩
        · cases e
  · exact q.elim
/-- int of an int, of a bool -/
def gInt : G1 := fun a h => match a with
  | .d (.int i) => some (.ok (.d (.int i)) h)
  | .d (.bl b) => some (.ok (.d (.int (if b then 1 else 0))) h)
  | _ => none
theorem og_int {K : PySem.W.Frag} : Op1 K (fun x H Q => (∃ i, [x] = [.int i] ∧ Q (.int i) H) ∨ ∃ k, [x] = [.bl k] ∧ Q (.int (if k then 1 else 0)) H) gInt := by
  intro Z B ρ H h x a W Q ok rx q
  unfold gInt at q
  split at q
  · cases ra_int rx
    exact .inl ⟨_, rfl, q.now ok _ (.d (.int _))⟩
  · cases rp_bl (ra_d rx)
    exact .inr ⟨_, rfl, q.now ok _ (.d (.int _))⟩
  · exact q.elim
def gAbs : G1 := fun a h => match a with
  | .d (.int i) => some (.ok (.d (.int (if i < 0 then -i else i))) h)
  | _ => none
theorem og_abs {K : PySem.W.Frag} : Op1 K (fun x H Q => ∃ i, [x] = [.int i] ∧ Q (.int (if i < 0 then -i else i)) H) gAbs := by
  intro Z B ρ H h x a W Q ok rx q
  unfold gAbs at q
  split at q
  · cases ra_int rx
    exact ⟨_, rfl, q.now ok _ (.d (.int _))⟩
  · exact q.elim
def gMax2 : G2 := fun a b h => match a, b with
  | .d (.int i), .d (.int j) => some (.ok (.d (.int (if j > i then j else i))) h)
  | _, _ => none
theorem og_max2 {K : PySem.W.Frag} : Op2 K (fun x y H Q => ∃ i j, [x, y] = [.int i, .int j] ∧ Q (.int (if j > i then j else i)) H) gMax2 := by
  intro Z B ρ H h x y a b W Q ok rx ry q
  unfold gMax2 at q
  split at q
  · cases ra_int rx
    cases ra_int ry
    exact ⟨_, _, rfl, q.now ok _ (.d (.int _))⟩
  · exact q.elim
def gMin2 : G2 := fun a b h => match a, b with
  | .d (.int i), .d (.int j) => some (.ok (.d (.int (if j < i then j else i))) h)
  | _, _ => none
theorem og_min2 {K : PySem.W.Frag} : Op2 K (fun x y H Q => ∃ i j, [x, y] = [.int i, .int j] ∧ Q (.int (if j < i then j else i)) H) gMin2 := by
  intro Z B ρ H h x y a b W Q ok rx ry q
  unfold gMin2 at q
  split at q
  · cases ra_int rx
    cases ra_int ry
    exact ⟨_, _, rfl, q.now ok _ (.d (.int _))⟩
  · exact q.elim
/-- tuple(list), tuple(tuple) -/
def gTupOf : G1 := fun a h => match tupOf a with
  | some ws => mkT ws h
  | none => match lstOf h a with | some ws => mkT ws h | none => none
theorem og_tupOf {K : PySem.W.Frag} : Op1 K (fun x H Q => ∃ p ys, [x] = [.ref p] ∧ ((SqL K H p ys ∧ ∀ l, H l = none → Q (.ref l) (upd H l (.tup ys))) ∨ (SqT K H p ys ∧ Q (.ref p) H))) gTupOf := by
  intro Z B ρ H h x a W Q ok rx q
  unfold gTupOf at q
  split at q
  · rename_i ws e1
    obtain ⟨p, vs, rfl, h1, r1⟩ := tupOf_ra rx e1
    exact ⟨_, _, rfl, .inr ⟨sqt_of (ok.ex _ _ h1), mkT_at ok h1 r1 q⟩⟩
  · split at q
    · rename_i ws e1
      obtain ⟨p, vs, rfl, h1, r1⟩ := lstOf_ra ok rx e1
      exact ⟨_, _, rfl, .inl ⟨SqL.of h1, fun l hl => mkT_ok ok r1 q hl⟩⟩
    · exact q.elim
/-- list(list), list(tuple), list(script) -/
def gLstOf (o : Bool) : G1 := fun a h => match a with
  | .d (.scr ns) => mkL o (ns.map fun i => .d (.int i)) h
  | a => match tupOf a with
    | some ws => mkL o ws h
    | none => match lstOf h a with | some ws => mkL o ws h | none => none
theorem ral_ints {K : PySem.W.Frag} {B : Hp} {ρ : Nat → Option Addr} (ns : List Int) : RAL K B ρ (ns.map V.int) (ns.map fun i => A.d (.int i)) := by
  have e := ral_ds (ρ := ρ) (rpl_ints (K := K) (B := B) ns)
  rwa [List.map_map] at e
theorem og_lstOf {K : PySem.W.Frag} {o : Bool} : Op1 K (fun x H Q => ∃ p ys, [x] = [.ref p] ∧ (SqL K H p ys ∨ SqT K H p ys) ∧ ∀ l, H l = none → Q (.ref l) (upd H l (.lst ys))) (gLstOf o) := by
  intro Z B ρ H h x a W Q ok rx q
  unfold gLstOf at q
  split at q
  · rename_i ns
    cases ra_d rx with
    | scr h1 => exact ⟨_, _, rfl, .inl (ok.ex.seq h1), fun l hl => mkL_ok ok (ral_ints ns) q hl⟩
  · split at q
    · rename_i ws e1
      obtain ⟨p, vs, rfl, h1, r1⟩ := tupOf_ra rx e1
      exact ⟨_, _, rfl, .inr (sqt_of (ok.ex _ _ h1)), fun l hl => mkL_ok ok r1 q hl⟩
    · split at q
      · rename_i ws e1
        obtain ⟨p, vs, rfl, h1, r1⟩ := lstOf_ra ok rx e1
        exact ⟨_, _, rfl, .inl (SqL.of h1), fun l hl => mkL_ok ok r1 q hl⟩
      · exact q.elim
/-- str of an int -/
def gStrI : G1 := fun a h => match a with
  | .d (.int i) => if i.natAbs.log2 < 1920 then some (.ok (.d (.str (toString i))) h) else none
  | _ => none
theorem og_strI {K : PySem.W.Frag} : Op1 K (fun x H Q => ∃ i, [x] = [.int i] ∧ i.natAbs.log2 < 1920 ∧ Q (.str (toString i)) H) gStrI := by
  intro Z B ρ H h x a W Q ok rx q
  unfold gStrI at q
  split at q
  · split at q
    · rename_i hl
      cases ra_int rx
      exact ⟨_, rfl, hl, q.now ok _ (.d (.str _))⟩
    · exact q.elim
  · exact q.elim
def gOrd : G1 := fun a h => match a with
  | .d (.str x) => if x.length = 1 then some (.ok (.d (.int (x.cps.getD 0 0 : Nat))) h) else none
  | _ => none
theorem og_ord1 {K : PySem.W.Frag} : Op1 K (fun x H Q => ∃ z, [x] = [.str z] ∧ z.length = 1 ∧ Q (.int (z.cps.getD 0 0 : Nat)) H) gOrd := by
  intro Z B ρ H h x a W Q ok rx q
  unfold gOrd at q
  split at q
  · split at q
    · rename_i hl
      cases ra_str rx
      exact ⟨_, rfl, hl, q.now ok _ (.d (.int _))⟩
    · exact q.elim
  · exact q.elim
def gChr : G1 := fun a h => match a with
  | .d (.int i) => if 0 ≤ i ∧ i ≤ 1114111 then some (.ok (.d (.str ⟨#[i.toNat]⟩)) h) else none
  | _ => none
theorem og_chr {K : PySem.W.Frag} : Op1 K (fun x H Q => ∃ i, [x] = [.int i] ∧ 0 ≤ i ∧ i ≤ 1114111 ∧ Q (.str ⟨#[i.toNat]⟩) H) gChr := by
  intro Z B ρ H h x a W Q ok rx q
  unfold gChr at q
  split at q
  · split at q
    · rename_i hl
      cases ra_int rx
      exact ⟨_, rfl, hl.1, hl.2, q.now ok _ (.d (.str _))⟩
    · exact q.elim
  · exact q.elim

/-! ### sep.join(texts) -/
def strsA : List A → Option (List Str) := mapMn fun a => match a with | .d (.str x) => some x | _ => none
theorem strsA_ra {K : PySem.W.Frag} {B : Hp} {ρ : Nat → Option Addr} : ∀ {vs : List V} {ws : List A} {ys : List Str}, RAL K B ρ vs ws → strsA ws = some ys → vs = ys.map V.str
  | _, _, ys, .nil, h => by cases h; rfl
  | _, w :: r, ys, .cons ra ral, h => by
    unfold strsA mapMn at h
    split at h
    · rename_i b e1
      split at h
      · rename_i bs e2
        cases h
        split at e1
        · cases e1
          rw [strsA_ra ral e2, ra_str ra]
          rfl
        · cases e1
      · cases h
    · cases h
def gJoin : G2 := fun s u h => match s with
  | .d (.str a) => (match (match tupOf u with | some ws => some ws | none => lstOf h u) with
    | some ws => (match strsA ws with
      | some ys => if (ys.map (·.length)).sum + ys.length * a.length ≤ LIM then some (.ok (.d (.str (Txt.join a ys))) h) else none
      | none => none)
    | none => none)
  | _ => none
/-- a method of a built-in type with one argument -/
theorem rx_m1 {T id : String} {name : Str} {apos : Pos} {r : V → List V → Hp → VK → Prop} {g : G2} (pa : PlainAttrs T) (slot : Slot T name id) (hty : typeOf (.builtin id) = pure (.type "method_descriptor")) (hm : MtR X id r)
    (tok : A → Hq → Bool) (hC : ∀ (Z B : Hp) (ρ : Nat → Option Addr) (H : Hp) (h : Hq) (x : V) (a : A), Ok X.K Z B ρ H h → RA X.K B ρ x a → tok a h = true → tyV X.K T x H) (og : Op2 X.K (fun x y H Q => r x [y] H Q) g) (ha : RX X W a ma) (hb : RX X W b mb)
    (hbase : attributeBase a name X.env (eval a X.env) = eval a X.env := by rfl)
    (hfew : ((backTo pos (starEach (b :: []) X.env)).all (fun x => !x.1) && (backToKw pos (keywordEach [] X.env)).all (fun x => x.1.isSome)
      && decide ((b :: []).length + ([] : List Keyword).length + (if ([] : List Keyword).isEmpty then 0 else 1) < 30)) = true := by rfl)
    (hline : (apos.endLine == pos.line) = true := by rfl) (hs : starEach (b :: []) X.env = (false, eval b X.env) :: starEach [] X.env := by rfl) :
    RX X W (.Call (.Attribute a name apos) [b] [] pos) (fun τ h => bd (ma τ h) fun a h1 => if tok a h1 = true then bd (mb τ h1) fun b h2 => g a b h2 else none) := ⟨pe_imp (pe_bm pa slot hty hm ha.pe (pa_cons hb.pe pa_nil hs) hbase hfew hline hs) fun σ H Q q => by
  obtain ⟨Z, B, ρ, τ, h, ok, sl, q⟩ := q
  refine te_bd ok sl q fun x a h1 B1 ρ1 H1 rx ok1 sl1 g1 q1 => ?_
  split at q1
  · rename_i ht
    exact ⟨hC Z B1 ρ1 H1 h1 x a ok1 rx ht, te_bd ok1 sl1 q1 fun y b h2 B2 ρ2 H2 ry ok2 sl2 g2 q2 => og Z B2 ρ2 H2 h2 x y a b _ Q ok2 (rx.mono g2) ry q2⟩
  · exact q1.elim⟩
/-- a method of a built-in type without arguments -/
theorem rx_m0 {T id : String} {name : Str} {apos : Pos} {r : V → List V → Hp → VK → Prop} {g : G1} (pa : PlainAttrs T) (slot : Slot T name id) (hty : typeOf (.builtin id) = pure (.type "method_descriptor")) (hm : MtR X id r)
    (tok : A → Hq → Bool) (hC : ∀ (Z B : Hp) (ρ : Nat → Option Addr) (H : Hp) (h : Hq) (x : V) (a : A), Ok X.K Z B ρ H h → RA X.K B ρ x a → tok a h = true → tyV X.K T x H) (og : Op1 X.K (fun x H Q => r x [] H Q) g) (ha : RX X W a ma)
    (hbase : attributeBase a name X.env (eval a X.env) = eval a X.env := by rfl)
    (hline : (apos.endLine == pos.line) = true := by rfl) :
    RX X W (.Call (.Attribute a name apos) [] [] pos) (fun τ h => bd (ma τ h) fun a h1 => if tok a h1 = true then g a h1 else none) := ⟨pe_imp (pe_bm0 pa slot hty hm ha.pe hbase hline) fun σ H Q q => by
  obtain ⟨Z, B, ρ, τ, h, ok, sl, q⟩ := q
  refine te_bd ok sl q fun x a h1 B1 ρ1 H1 rx ok1 sl1 g1 q1 => ?_
  split at q1
  · rename_i ht
    exact ⟨hC Z B1 ρ1 H1 h1 x a ok1 rx ht, og Z B1 ρ1 H1 h1 x a _ Q ok1 rx q1⟩
  · exact q1.elim⟩
def tokS : A → Hq → Bool := fun a _ => match a with | .d (.str _) => true | _ => false
def tokL : A → Hq → Bool := fun a h => (lstOf h a).isSome
theorem tokS_ty {K : PySem.W.Frag} (Z B : Hp) (ρ : Nat → Option Addr) (H : Hp) (h : Hq) (x : V) (a : A) (ok : Ok K Z B ρ H h) (r : RA K B ρ x a) (e : tokS a h = true) : tyV K "str" x H := by
  unfold tokS at e
  split at e
  · cases ra_str r
    rfl
  · cases e
theorem tokL_ty {K : PySem.W.Frag} (Z B : Hp) (ρ : Nat → Option Addr) (H : Hp) (h : Hq) (x : V) (a : A) (ok : Ok K Z B ρ H h) (r : RA K B ρ x a) (e : tokL a h = true) : tyV K "list" x H := by
  unfold tokL at e
  obtain ⟨ws, e⟩ := Option.isSome_iff_exists.mp e
  obtain ⟨p, vs, rfl, h1, r1⟩ := lstOf_ra ok r e
  exact .inl ⟨rfl, _, SqL.of h1⟩
theorem og_join {K : PySem.W.Frag} : Op2 K (fun x y H Q => ∃ a p, ∃ ys : List Str, x = .str a ∧ [y] = [.ref p] ∧ (SqL K H p (ys.map V.str) ∨ SqT K H p (ys.map V.str)) ∧
      (ys.map (·.length)).sum + ys.length * a.length ≤ 16777216 ∧ Q (.str (Txt.join a ys)) H) gJoin := by
  intro Z B ρ H h x y a b W Q ok rx ry q
  unfold gJoin at q
  split at q
  · rename_i a
    split at q
    · rename_i ws e
      split at q
      · rename_i ys e2
        split at q
        · rename_i hl
          cases ra_str rx
          have z : ∃ p, y = .ref p ∧ (SqL K H p (ys.map V.str) ∨ SqT K H p (ys.map V.str)) := by
            split at e
            · rename_i ws' e1
              cases e
              obtain ⟨p, vs, rfl, h1, r1⟩ := tupOf_ra ry e1
              exact ⟨p, rfl, .inr (by rw [← strsA_ra r1 e2]; exact sqt_of (ok.ex _ _ h1))⟩
            · obtain ⟨p, vs, rfl, h1, r1⟩ := lstOf_ra ok ry e
              exact ⟨p, rfl, .inl (by rw [← strsA_ra r1 e2]; exact SqL.of h1)⟩
          obtain ⟨p, rfl, hp⟩ := z
          exact ⟨a, p, ys, rfl, rfl, hp, hl, q.now ok _ (.d (.str _))⟩
        · exact q.elim
      · exact q.elim
    · exact q.elim
  · exact q.elim
def mM1 (tok : A → Hq → Bool) (g : G2) (ma mb : E A) : E A := fun τ h => bd (ma τ h) fun a h1 => if tok a h1 = true then bd (mb τ h1) fun b h2 => g a b h2 else none
def mM0 (tok : A → Hq → Bool) (g : G1) (ma : E A) : E A := fun τ h => bd (ma τ h) fun a h1 => if tok a h1 = true then g a h1 else none
theorem rx_join {apos : Pos} (ha : RX X W a ma) (hb : RX X W b mb) (hbase : attributeBase a "join" X.env (eval a X.env) = eval a X.env := by rfl)
    (hfew : ((backTo pos (starEach (b :: []) X.env)).all (fun x => !x.1) && (backToKw pos (keywordEach [] X.env)).all (fun x => x.1.isSome)
      && decide ((b :: []).length + ([] : List Keyword).length + (if ([] : List Keyword).isEmpty then 0 else 1) < 30)) = true := by rfl)
    (hline : (apos.endLine == pos.line) = true := by rfl) (hs : starEach (b :: []) X.env = (false, eval b X.env) :: starEach [] X.env := by rfl) : RX X W (.Call (.Attribute a "join" apos) [b] [] pos) (mM1 tokS gJoin ma mb) :=
  rx_m1 F.plainAttrs_str F.slot_str_join F.type_str_join mt_join tokS tokS_ty og_join ha hb hbase hfew hline hs

/-! ### isinstance of built-in classes -/
def tyD : D → Option String
  | .non => some "NoneType" | .bl _ => some "bool" | .int _ => some "int" | .str _ => some "str" | .tup _ => some "tuple" | .kt _ => some "tuple" | .lst _ => some "list" | .scr _ => some "list"
  | .nd (.dic _) _ => some "dict" | .nd (.dit _) _ => some "dict" | _ => none
def tyA (h : Hq) : A → Option String
  | .d x => tyD x
  | .tup _ => some "tuple"
  | .r k => match h[k]? with | some (.lst _) => some "list" | some (.nd (.dic _) _) => some "dict" | some (.nd (.dit _) _) => some "dict" | _ => none
def isiN (T n : String) : Bool := n == T || (n == "bool" && T == "int")
def gIsi (T : String) : G1 := fun a h => match tyA h a with | some n => some (.ok (.d (.bl (isiN T n))) h) | none => none
theorem hd_ty {K : PySem.W.Frag} {H : Hp} {a : Addr} {hd : Hd} {vs : List V} {own : List Addr} (x : HdAt K H a hd vs own) (h : ∀ C fs, hd ≠ .ins C fs) : TyX K H (.ref a) (.type "dict") := by
  cases x with
  | dic h1 _ => exact .base (.dK h1)
  | dit h1 _ => exact .base (.dT h1)
  | ins => exact absurd rfl (h _ _)
theorem sqt_ty {K : PySem.W.Frag} {H : Hp} {a : Addr} {xs : List V} (h : SqT K H a xs) : TyX K H (.ref a) (.type "tuple") := by
  rcases h with (h | ⟨o, h⟩) | ⟨o, its, n, h, hc, _⟩
  · exact .base (.tup h)
  · exact .fTuple h
  · exact .kTuple h hc
theorem sql_ty {K : PySem.W.Frag} {H : Hp} {a : Addr} {xs : List V} (h : SqL K H a xs) : TyX K H (.ref a) (.type "list") := by
  rcases h with (h | ⟨o, h⟩) | ⟨o, its, n, h, hc, _⟩
  · exact .base (.lst h)
  · exact .base (.frz h)
  · exact .kList h hc
theorem tyx_rp {K : PySem.W.Frag} {H : Hp} {v : V} {d : D} {n : String} (r : Rp K H v d) (e : tyD d = some n) : TyX K H v (.type n) ∧ n ∈ ["NoneType", "bool", "int", "str", "tuple", "list", "dict"] := by
  cases r with
  | non => cases e; exact ⟨.base .non, by decide⟩
  | bl b => cases e; exact ⟨.base (.bl b), by decide⟩
  | int i => cases e; exact ⟨.base (.int i), by decide⟩
  | str x => cases e; exact ⟨.base (.str x), by decide⟩
  | tup h r => cases e; exact ⟨sqt_ty (sqt_of h), by decide⟩
  | kt h r => cases e; exact ⟨sqt_ty h, by decide⟩
  | lst h r => cases e; exact ⟨sql_ty (SqL.of h), by decide⟩
  | scr h => cases e; exact ⟨sql_ty h, by decide⟩
  | fn _ => cases e
  | nd h r =>
    rename_i hd _ _ _
    cases hd with
    | dic ks => cases e; exact ⟨hd_ty h (fun _ _ z => by cases z), by decide⟩
    | dit ks => cases e; exact ⟨hd_ty h (fun _ _ z => by cases z), by decide⟩
    | ins C fs => cases e
theorem tyx_ra {K : PySem.W.Frag} {Z B H : Hp} {ρ : Nat → Option Addr} {h : Hq} {v : V} {a : A} {n : String} (ok : Ok K Z B ρ H h) (r : RA K B ρ v a) (e : tyA h a = some n) : TyX K H v (.type n) ∧ n ∈ ["NoneType", "bool", "int", "str", "tuple", "list", "dict"] := by
  unfold tyA at e
  split at e
  · exact tyx_rp ((ra_d r).mono ok.ex) e
  · cases e
    cases r with
    | tup h1 r1 => exact ⟨sqt_ty (sqt_of (ok.ex _ _ h1)), by decide⟩
  · cases r with
    | r hr =>
      split at e
      · rename_i e1
        cases e
        obtain ⟨p, h1, h2⟩ := ok.ce _ _ e1
        rw [hr] at h1
        cases h1
        cases h2 with
        | lst q1 q2 q3 q4 => exact ⟨sql_ty (SqL.of q1), by decide⟩
      · rename_i e1
        cases e
        obtain ⟨p, h1, h2⟩ := ok.ce _ _ e1
        rw [hr] at h1
        cases h1
        cases h2 with
        | nd q1 q2 q3 => exact ⟨hd_ty q1 (fun _ _ z => by cases z), by decide⟩
      · rename_i e1
        cases e
        obtain ⟨p, h1, h2⟩ := ok.ce _ _ e1
        rw [hr] at h1
        cases h1
        cases h2 with
        | nd q1 q2 q3 => exact ⟨hd_ty q1 (fun _ _ z => by cases z), by decide⟩
      · cases e
theorem kit_isiN {K : PySem.W.Frag} {T n : String} (hT : T ∈ ["bool", "int", "str", "tuple", "list", "dict"]) (hn : n ∈ ["NoneType", "bool", "int", "str", "tuple", "list", "dict"]) : PySem.W.kitOne K (.type n) (.type T) = some (isiN T n) := by
  rcases (by simpa using hT : T = "bool" ∨ T = "int" ∨ T = "str" ∨ T = "tuple" ∨ T = "list" ∨ T = "dict") with rfl | rfl | rfl | rfl | rfl | rfl <;>
    rcases (by simpa using hn : n = "NoneType" ∨ n = "bool" ∨ n = "int" ∨ n = "str" ∨ n = "tuple" ∨ n = "list" ∨ n = "dict") with rfl | rfl | rfl | rfl | rfl | rfl | rfl <;> exact kit_ty (by decide +kernel)
theorem og_isi {K : PySem.W.Frag} {T : String} (hT : T ∈ ["bool", "int", "str", "tuple", "list", "dict"]) : Op1 K (fun x H Q => rIsi K [x, .ty T] H Q) (gIsi T) := by
  intro Z B ρ H h x a W Q ok rx q
  unfold gIsi at q
  split at q
  · rename_i n e
    obtain ⟨h1, h2⟩ := tyx_ra ok rx e
    exact ⟨x, .ty T, .type n, .type T, _, rfl, .ty T, h1, kit_isiN hT h2, q.now ok _ (.d (.bl _))⟩
  · exact q.elim
theorem rx_isi {x : Str} {Ts : String} {px py : Pos} (ha : RX X W a ma) (hmi : X.mg "isinstance" = none) (hmT : X.mg x = none) (hv : bootBuiltins x = some (.type Ts) := by decide +kernel) (hT : Ts ∈ ["bool", "int", "str", "tuple", "list", "dict"] := by decide)
    (hgi : Gl X "isinstance" := by rfl) (hg : Gl X x := by rfl) (hn : x ≠ "__name__" := by decide) (hdb : (x == ("__debug__" : Str)) = false := by decide)
    (he : starEach [a, .Name x py] X.env = (false, eval a X.env) :: starEach [.Name x py] X.env := by rfl) (he2 : starEach [.Name x py] X.env = (false, eval (.Name x py) X.env) :: starEach [] X.env := by rfl) (hpl : (backTo pos (starEach [.Name x py] X.env)).any (·.1) = false := by rfl) :
    RX X W (.Call (.Name "isinstance" px) [a, .Name x py] [] pos) (mUn (gIsi Ts) ma) :=
  rx_op1 ha (og_isi hT) fun h1 => pe_callB call_isi hgi hmi (by decide +kernel) (pa_cons h1 (pa_cons (pe_bltn (v := .ty Ts) hg hmT hv rfl hn hdb) pa_nil he2) he) (by decide) (by decide) he hpl
end
end Tq

/-! Tq5: statements, targets, for, while. -/
namespace Tq
open PySem PySem.Spec PyProof.Rows L2

inductive So where
  | nx (τ : Sl) (h : Hq) | bk (τ : Sl) (h : Hq) | ct (τ : Sl) (h : Hq) | rt (w : A) (h : Hq) | ex (x : Xc) (τ : Sl) (h : Hq)
abbrev MS := Sl → Hq → Option So
def PostS (K : PySem.W.Frag) (Z : Hp) (W : WX) (B : Hp) (ρ : Nat → Option Addr) (D : Ends) : Option So → Prop
  | none => False
  | some (.nx τ h) => ∀ σ' B' ρ' H', Ok K Z B' ρ' H' h → SlOk K B' ρ' σ' τ → Gr Z B ρ B' ρ' → D.nx σ' H'
  | some (.bk τ h) => ∀ σ' B' ρ' H', Ok K Z B' ρ' H' h → SlOk K B' ρ' σ' τ → Gr Z B ρ B' ρ' → D.bk σ' H'
  | some (.ct τ h) => ∀ σ' B' ρ' H', Ok K Z B' ρ' H' h → SlOk K B' ρ' σ' τ → Gr Z B ρ B' ρ' → D.ct σ' H'
  | some (.rt w h) => ∀ v B' ρ' H', RA K B' ρ' v w → Ok K Z B' ρ' H' h → Gr Z B ρ B' ρ' → D.rt v H'
  | some (.ex x τ h) => ∀ σ' B' ρ' H' cls d, Ok K Z B' ρ' H' h → SlOk K B' ρ' σ' τ → Gr Z B ρ B' ρ' → XcAt K B' ρ' H' x cls d → W cls d σ' H'
def tS (K : PySem.W.Frag) (W : WX) (m : MS) : TS := fun D σ H => ∃ Z B ρ τ h, Ok K Z B ρ H h ∧ SlOk K B ρ σ τ ∧ PostS K Z W B ρ D (m τ h)
structure RS (X : Cx) (W : WX) (st : Stmt) (m : MS) : Prop where
  ps : PS X st (tS X.K W m)
structure RSs (X : Cx) (W : WX) (st : List Stmt) (m : MS) : Prop where
  ps : PSs X st (tS X.K W m)
def sb {α : Type} (τ : Sl) (r : Option (Rs α)) (k : α → Hq → Option So) : Option So := match r with
  | some (.ok a h) => k a h
  | some (.ex x h) => some (.ex x τ h)
  | none => none
@[simp] theorem sb_ok {α : Type} (τ : Sl) (a : α) (h : Hq) (k : α → Hq → Option So) : sb τ (some (.ok a h)) k = k a h := rfl
@[simp] theorem sb_ex {α : Type} (τ : Sl) (x : Xc) (h : Hq) (k : α → Hq → Option So) : sb τ (some (.ex x h)) k = some (.ex x τ h) := rfl
@[simp] theorem sb_no {α : Type} (τ : Sl) (k : α → Hq → Option So) : sb τ none k = none := rfl
section
variable {α : Type} {K : PySem.W.Frag} {Z B B' H : Hp} {ρ ρ' : Nat → Option Addr} {h : Hq} {σ : L2.St} {τ : Sl} {W : WX} {D D' : Ends} {r : Option So}
theorem PostS.from (q : PostS K Z W B ρ D r) (g : Gr Z B ρ B' ρ') : PostS K Z W B' ρ' D r := by
  match r, q with
  | some (.nx τ h), q => exact fun σ2 B2 ρ2 H2 ok sl g2 => q σ2 B2 ρ2 H2 ok sl (g.trans g2)
  | some (.bk τ h), q => exact fun σ2 B2 ρ2 H2 ok sl g2 => q σ2 B2 ρ2 H2 ok sl (g.trans g2)
  | some (.ct τ h), q => exact fun σ2 B2 ρ2 H2 ok sl g2 => q σ2 B2 ρ2 H2 ok sl (g.trans g2)
  | some (.rt w h), q => exact fun v B2 ρ2 H2 rv ok g2 => q v B2 ρ2 H2 rv ok (g.trans g2)
  | some (.ex x τ h), q => exact fun σ2 B2 ρ2 H2 cls d ok sl g2 x => q σ2 B2 ρ2 H2 cls d ok sl (g.trans g2) x
theorem PostS.sb {r : Option (Rs α)} {k : α → Hq → Option So} (sl : SlOk K B ρ σ τ) (q : PostS K Z W B ρ D (Tq.sb τ r k)) : Post K Z (fun c d H' => W c d σ H') B ρ (fun a h B' ρ' H' => PostS K Z W B' ρ' D (k a h)) r := by
  match r, q with
  | some (.ok a h), q => exact fun B2 ρ2 H2 ok g2 => PostS.from q g2
  | some (.ex x h), q => exact fun B2 ρ2 H2 cls d ok g2 x => q σ B2 ρ2 H2 cls d ok (sl.mono g2) g2 x
theorem ts_bd {m : E A} {k : A → Hq → Option So} {Q : VK} (ok : Ok K Z B ρ H h) (sl : SlOk K B ρ σ τ) (q : PostS K Z W B ρ D (Tq.sb τ (m τ h) k))
    (c : ∀ v w h1 B1 ρ1 H1, RA K B1 ρ1 v w → Ok K Z B1 ρ1 H1 h1 → SlOk K B1 ρ1 σ τ → Gr Z B ρ B1 ρ1 → PostS K Z W B1 ρ1 D (k w h1) → Q v H1) : tE K W m σ H Q :=
  ⟨Z, B, ρ, τ, h, ok, sl, (q.sb sl).imp fun w h1 B1 ρ1 H1 ok1 g1 q1 v r => c v w h1 B1 ρ1 H1 r ok1 (sl.mono g1) g1 q1⟩
theorem PostS.nx1 {D : Ends} (q : PostS K Z W B ρ D (some (.nx τ h))) (ok : Ok K Z B ρ H h) (sl : SlOk K B ρ σ τ) : D.nx σ H := q σ B ρ H ok sl Gr.refl
end

/-! ### m's -/
def mNx : MS := fun τ h => some (.nx τ h)
def mSeq (m1 m2 : MS) : MS := fun τ h => match m1 τ h with | some (.nx τ' h') => m2 τ' h' | r => r
def mIf (t : E Bool) (m1 m2 : MS) : MS := fun τ h => sb τ (t τ h) fun b h1 => match b with | true => m1 τ h1 | false => m2 τ h1
def mSet (i : Nat) (m : E A) : MS := fun τ h => sb τ (m τ h) fun w h1 => some (.nx (τ.set i (some w)) h1)
def mDrop (m : E A) : MS := fun τ h => sb τ (m τ h) fun _ h1 => some (.nx τ h1)
def mRet (m : E A) : MS := fun τ h => sb τ (m τ h) fun w h1 => some (.rt w h1)
def mRetN : MS := fun _ h => some (.rt (.d .non) h)
def mBk : MS := fun τ h => some (.bk τ h)
def mCt : MS := fun τ h => some (.ct τ h)
def mNoS : MS := fun _ _ => none
section
variable {X : Cx} {W : WX} {st : Stmt} {rest b1 b2 : List Stmt} {m m1 m2 : MS} {me : E A} {t : E Bool} {e c : Expr} {pos : Pos}
theorem rs_no : RS X W st mNoS := ⟨⟨fun pins s σ H D I q => by
  obtain ⟨_, _, _, _, _, _, _, q⟩ := q
  exact q.elim⟩⟩
theorem rss_no {st : List Stmt} : RSs X W st mNoS := ⟨⟨fun pins s σ H D I q => by
  obtain ⟨_, _, _, _, _, _, _, q⟩ := q
  exact q.elim⟩⟩
theorem rss_nil : RSs X W [] mNx := ⟨pss_imp pss_nil fun D σ H q => by
  obtain ⟨Z, B, ρ, τ, h, ok, sl, q⟩ := q
  exact q.nx1 ok sl⟩
theorem rss_cons (h1 : RS X W st m1) (h2 : RSs X W rest m2) : RSs X W (st :: rest) (mSeq m1 m2) := ⟨pss_imp (pss_cons h1.ps h2.ps) fun D σ H q => by
  obtain ⟨Z, B, ρ, τ, h, ok, sl, q⟩ := q
  refine ⟨Z, B, ρ, τ, h, ok, sl, ?_⟩
  unfold mSeq at q
  split at q
  · rename_i τ1 h1 e1
    rw [e1]
    exact fun σ' B' ρ' H' ok' sl' g => ⟨Z, B', ρ', τ1, h1, ok', sl', q.from g⟩
  · rename_i hn
    revert q hn
    cases m1 τ h with
    | none => exact fun _ q => q.elim
    | some r =>
      cases r with
      | nx τ1 h1 => exact fun hn _ => (hn _ _ rfl).elim
      | bk _ _ => exact fun _ q => q
      | ct _ _ => exact fun _ q => q
      | rt _ _ => exact fun _ q => q
      | ex _ _ _ => exact fun _ q => q⟩
theorem rss_one (h1 : RS X W st m1) : RSs X W [st] m1 := ⟨pss_one h1.ps⟩
theorem rs_pass : RS X W (.Pass pos) mNx := ⟨ps_imp ps_pass fun D σ H q => by
  obtain ⟨Z, B, ρ, τ, h, ok, sl, q⟩ := q
  exact q.nx1 ok sl⟩
theorem rs_break : RS X W (.Break pos) mBk := ⟨ps_imp ps_break fun D σ H q => by
  obtain ⟨Z, B, ρ, τ, h, ok, sl, q⟩ := q
  exact q σ B ρ H ok sl Gr.refl⟩
theorem rs_cont : RS X W (.Continue pos) mCt := ⟨ps_imp ps_continue fun D σ H q => by
  obtain ⟨Z, B, ρ, τ, h, ok, sl, q⟩ := q
  exact q σ B ρ H ok sl Gr.refl⟩
theorem rs_doc {x j pos'} : RS X W (.Expr (.Constant (.str x) j pos) pos') mNx := ⟨ps_imp ps_doc fun D σ H q => by
  obtain ⟨Z, B, ρ, τ, h, ok, sl, q⟩ := q
  exact q.nx1 ok sl⟩
theorem rs_if (hc : RT X W c t) (ha : RSs X W b1 m1) (hb : RSs X W b2 m2) : RS X W (.If c b1 b2 pos) (mIf t m1 m2) := ⟨ps_imp (ps_if hc.pt ha.ps hb.ps) fun D σ H q => by
  obtain ⟨Z, B, ρ, τ, h, ok, sl, q⟩ := q
  refine ⟨Z, B, ρ, τ, h, ok, sl, (q.sb sl).imp fun b h1 B1 ρ1 H1 ok1 g1 q1 => ?_⟩
  cases b with
  | true => exact iteT ⟨Z, B1, ρ1, τ, h1, ok1, sl.mono g1, q1⟩
  | false => exact iteF ⟨Z, B1, ρ1, τ, h1, ok1, sl.mono g1, q1⟩⟩
theorem rs_set {i : Nat} {x : Str} {pos' : Pos} (hN : X.N.Nodup) (he : RX X W e me) (hi : X.N[i]? = some x := by rfl) (hx : Loc X.env.scope x := by first | exact .inl rfl | exact .inr rfl) (hs : swapsWith e (some (.Name x pos')) pos.line X.env = pure false := by rfl)
    (hf : X.fn x = true ∨ X.env.scope.names.lookup x = some .local := by first | exact .inl rfl | exact .inr rfl | assumption) : RS X W (.Assign [.Name x pos'] e pos) (mSet i me) := ⟨ps_imp (ps_set hN hi hx he.pe hs hf) fun D σ H q => by
  obtain ⟨Z, B, ρ, τ, h, ok, sl, q⟩ := q
  exact ts_bd ok sl q fun v w h1 B1 ρ1 H1 rv ok1 sl1 g1 q1 => q1.nx1 ok1 (sl1.put rv)⟩
theorem rs_drop (he : RX X W e me) (hs : swapsWith e none pos.line X.env = pure false := by rfl) : RS X W (.Expr e pos) (mDrop me) := ⟨ps_imp (ps_expr he.pe hs) fun D σ H q => by
  obtain ⟨Z, B, ρ, τ, h, ok, sl, q⟩ := q
  exact ts_bd ok sl q fun v w h1 B1 ρ1 H1 rv ok1 sl1 g1 q1 => q1.nx1 ok1 sl1⟩
theorem rs_ret (he : RX X W e me) : RS X W (.Return (some e) pos) (mRet me) := ⟨ps_imp (ps_ret he.pe) fun D σ H q => by
  obtain ⟨Z, B, ρ, τ, h, ok, sl, q⟩ := q
  exact ts_bd ok sl q fun v w h1 B1 ρ1 H1 rv ok1 sl1 g1 q1 => q1 v B1 ρ1 H1 rv ok1 Gr.refl⟩
theorem rs_retN : RS X W (.Return none pos) mRetN := ⟨ps_imp ps_retN fun D σ H q => by
  obtain ⟨Z, B, ρ, τ, h, ok, sl, q⟩ := q
  exact q .non B ρ H (.d .non) ok Gr.refl⟩

/-! ### targets -/
def Apart (vs : List Nat) (σ σ' : L2.St) : Prop := σ'.length = σ.length ∧ ∀ j, j ∉ vs → σ'[j]? = σ[j]?
theorem Apart.refl {vs : List Nat} {σ : L2.St} : Apart vs σ σ := ⟨rfl, fun _ _ => rfl⟩
theorem Apart.trans {vs : List Nat} {σ σ1 σ2 : L2.St} (a : Apart vs σ σ1) (b : Apart vs σ1 σ2) : Apart vs σ σ2 := ⟨b.1.trans a.1, fun j h => (b.2 j h).trans (a.2 j h)⟩
theorem Apart.set {vs : List Nat} {σ : L2.St} {i : Nat} {v : Option V} (h : i ∈ vs) : Apart vs σ (σ.set i v) := ⟨List.length_set .., fun j hj => List.getElem?_set_ne fun e => hj (by rw [← e]; exact h)⟩
structure RG (X : Cx) (vs : List Nat) (tg : Expr) (mg : A → Sl → Hq → Option Sl) : Prop where
  pg : PG X tg fun v σ H Q => ∃ Z B ρ w τ τ' h, Ok X.K Z B ρ H h ∧ SlOk X.K B ρ σ τ ∧ RA X.K B ρ v w ∧ mg w τ h = some τ' ∧ ∀ σ', SlOk X.K B ρ σ' τ' → Apart vs σ σ' → Q σ' H
def mgName (i : Nat) : A → Sl → Hq → Option Sl := fun w τ _ => some (τ.set i (some w))
theorem pg_imp {X : Cx} {e : Expr} {t t' : TG} (h : PG X e t) (i : ∀ v σ H Q, t' v σ H Q → t v σ H Q) : PG X e t' := ⟨fun pins s σ H v u Q I r q => h.run pins s σ H v u Q I r (i _ _ _ _ q)⟩
theorem pg_or {X : Cx} {e : Expr} {t t' : TG} (h : PG X e t) (h' : PG X e t') : PG X e fun v σ H Q => t v σ H Q ∨ t' v σ H Q := ⟨fun pins s σ H v u Q I r q => q.elim (h.run pins s σ H v u Q I r) (h'.run pins s σ H v u Q I r)⟩
theorem pgs_imp {X : Cx} {es : List Expr} {t t' : TGs} (h : PGs X es t) (i : ∀ v σ H Q, t' v σ H Q → t v σ H Q) : PGs X es t' := ⟨fun pins s σ H v u Q I r q => h.run pins s σ H v u Q I r (i _ _ _ _ q)⟩
theorem rg_name {vs : List Nat} {i : Nat} {x : Str} (hN : X.N.Nodup) (hm : i ∈ vs := by decide) (hi : X.N[i]? = some x := by rfl) (hx : Loc X.env.scope x := by first | exact .inl rfl | exact .inr rfl) (hf : X.fn x = true ∨ X.env.scope.names.lookup x = some .local := by first | exact .inl rfl | exact .inr rfl | assumption) :
    RG X vs (.Name x pos) (mgName i) := ⟨pg_imp (pg_name hN hi hx hf) fun v σ H Q q => by
  obtain ⟨Z, B, ρ, w, τ, τ', h, ok, sl, r, e, q⟩ := q
  cases e
  exact q _ (sl.put r) (Apart.set hm)⟩
structure RGs (X : Cx) (is : List Nat) (tgs : List Expr) (mg : List A → Sl → Hq → Option Sl) : Prop where
  pg : PGs X tgs fun vs σ H Q => ∃ Z B ρ ws τ τ' h, Ok X.K Z B ρ H h ∧ SlOk X.K B ρ σ τ ∧ RAL X.K B ρ vs ws ∧ mg ws τ h = some τ' ∧ ∀ σ', SlOk X.K B ρ σ' τ' → Apart is σ σ' → Q σ' H
def mgNil : List A → Sl → Hq → Option Sl := fun ws τ _ => match ws with | [] => some τ | _ => none
def mgCons (g : A → Sl → Hq → Option Sl) (gs : List A → Sl → Hq → Option Sl) : List A → Sl → Hq → Option Sl := fun ws τ h => match ws with
  | w :: r => (match g w τ h with | some τ1 => gs r τ1 h | none => none)
  | [] => none
/-- a, b = a tuple or a list of n -/
def mgTup (n : Nat) (gs : List A → Sl → Hq → Option Sl) : A → Sl → Hq → Option Sl := fun w τ h => match tupOf w with
  | some ws => if ws.length = n then gs ws τ h else none
  | none => match lstOf h w with
    | some ws => if ws.length = n then gs ws τ h else none
    | none => none
theorem rgs_nil {is : List Nat} : RGs X is [] mgNil := ⟨pgs_imp pgs_nil fun vs σ H Q q => by
  obtain ⟨Z, B, ρ, ws, τ, τ', h, ok, sl, r, e, q⟩ := q
  cases r with
  | nil => cases e; exact ⟨rfl, q σ sl Apart.refl⟩
  | cons _ _ => cases e⟩
theorem rgs_cons {is : List Nat} {es : List Expr} {g : A → Sl → Hq → Option Sl} {gs : List A → Sl → Hq → Option Sl} (h1 : RG X is e g) (h2 : RGs X is es gs)
    (hs : (assignEach (e :: es) X.env).map (·.2) = assign e X.env :: (assignEach es X.env).map (·.2) := by rfl) : RGs X is (e :: es) (mgCons g gs) := ⟨pgs_imp (pgs_cons h1.pg h2.pg hs) fun vs σ H Q q => by
  obtain ⟨Z, B, ρ, ws, τ, τ', h, ok, sl, r, e, q⟩ := q
  cases r with
  | nil => cases e
  | cons r rr =>
    unfold mgCons at e
    split at e
    · rename_i w r1 e0
      cases e0
      split at e
      · rename_i τ1 e1
        exact ⟨_, _, rfl, Z, B, ρ, _, τ, τ1, h, ok, sl, r, e1, fun σ1 sl1 a1 => ⟨Z, B, ρ, _, τ1, τ', h, ok, sl1, rr, e, fun σ2 sl2 a2 => q σ2 sl2 (a1.trans a2)⟩⟩
      · cases e
    · cases e⟩
theorem rg_tup {is : List Nat} {es : List Expr} {k : Nat} {gs : List A → Sl → Hq → Option Sl} (hc : X.calm = true) (h : RGs X is es gs) (n : Nat)
    (hn : (assignEach es X.env).length = n := by rfl) (hst : (assignEach es X.env).findIdx? (·.1) = none := by rfl) : RG X is (.Tuple es k pos) (mgTup n gs) := ⟨pg_imp (pg_or (pg_tup hc h.pg hn hst) (pg_lst hc h.pg hn hst)) fun v σ H Q q => by
  obtain ⟨Z, B, ρ, w, τ, τ', h, ok, sl, r, e, q⟩ := q
  unfold mgTup at e
  split at e
  · rename_i ws e1
    split at e
    · rename_i hl
      obtain ⟨p, vs, rfl, h1, r1⟩ := tupOf_ra r e1
      exact .inl ⟨p, vs, rfl, sqt_of (ok.ex _ _ h1), by rw [r1.length]; exact hl, Z, B, ρ, ws, τ, τ', h, ok, sl, r1, e, q⟩
    · cases e
  · split at e
    · rename_i ws e1
      split at e
      · rename_i hl
        obtain ⟨p, vs, rfl, h1, r1⟩ := lstOf_ra ok r e1
        exact .inr ⟨p, vs, rfl, SqL.of h1, by rw [r1.length]; exact hl, Z, B, ρ, ws, τ, τ', h, ok, sl, r1, e, q⟩
      · cases e
    · cases e⟩
def mAsg (g : A → Sl → Hq → Option Sl) (m : E A) : MS := fun τ h => sb τ (m τ h) fun w h1 => match g w τ h1 with | some τ1 => some (.nx τ1 h1) | none => none
theorem rs_asg {is : List Nat} {tg : Expr} {g : A → Sl → Hq → Option Sl} (he : RX X W e me) (hg : RG X is tg g) (hs : swapsWithSole [tg] e pos.line X.env = pure false := by rfl) (hw : swappedStores [tg] e X.env = pure none := by rfl)
    (h1 : (assignEach [tg] X.env).map (·.2) = [assign tg X.env] := by rfl) : RS X W (.Assign [tg] e pos) (mAsg g me) := ⟨ps_imp (ps_asg he.pe hg.pg hs hw h1) fun D σ H q => by
  obtain ⟨Z, B, ρ, τ, h, ok, sl, q⟩ := q
  refine ts_bd ok sl q fun v w h1 B1 ρ1 H1 rv ok1 sl1 g1 q1 => ?_
  split at q1
  · rename_i τ1 e1
    exact ⟨Z, B1, ρ1, w, τ, τ1, h1, ok1, sl1, rv, e1, fun σ' sl' _ => q1.nx1 ok1 sl'⟩
  · exact q1.elim⟩

/-! ### name op= e -/
def mAug (i : Nat) (g : G2) (m : E A) : MS := fun τ h => match τ[i]? with
  | some (some a) => sb τ (m τ h) fun b h1 => sb τ (g a b h1) fun w h2 => some (.nx (τ.set i (some w)) h2)
  | _ => none
theorem rs_aug {i : Nat} {x : Str} {op : Operator} {r : R2} {g : G2} {pos' : Pos} (hN : X.N.Nodup) (ho : OpR X (inplaceOp op) r) (og : Op2 X.K r g) (he : RX X W e me) (hi : X.N[i]? = some x := by rfl) (hx : Loc X.env.scope x := by first | exact .inl rfl | exact .inr rfl)
    (hf : X.fn x = true ∨ X.env.scope.names.lookup x = some .local := by first | exact .inl rfl | exact .inr rfl | assumption) : RS X W (.AugAssign (.Name x pos') op e pos) (mAug i g me) := ⟨ps_imp (ps_aug hN hi hx he.pe ho hf) fun D σ H q => by
  obtain ⟨Z, B, ρ, τ, h, ok, sl, q⟩ := q
  unfold mAug at q
  split at q
  · rename_i a e0
    obtain ⟨v0, h1, h2⟩ := sl.at_ _ _ e0
    refine ⟨v0, h1, ts_bd ok sl q fun v w h1 B1 ρ1 H1 rv ok1 sl1 g1 q1 => ?_⟩
    refine og Z B1 ρ1 H1 h1 v0 v a w _ _ ok1 (h2.mono g1) rv ((q1.sb sl1).imp fun u h3 B3 ρ3 H3 ok3 g3 q3 z rz => ?_)
    exact q3.nx1 ok3 ((sl1.mono g3).put rz)
  · exact q.elim⟩
theorem iop_addA {X : Cx} : OpR X (inplaceOp .Add) (fun x y H Q => rI0 (fun i j => .int (i + j)) x y H Q ∨ (∃ i j, x = .str i ∧ y = .str j ∧ i.length + j.length ≤ sizeLine ∧ Q (.str (i ++ j)) H)) := iop_add.or iop_add_str
def gIAdd : G2 := fun a b h => match a, b with
  | .d (.int i), .d (.int j) => some (.ok (.d (.int (i + j))) h)
  | .d (.str s), .d (.str t) => if s.length + t.length ≤ LIM then some (.ok (.d (.str (s ++ t))) h) else none
  | _, _ => none
theorem og_iadd {K : PySem.W.Frag} : Op2 K (fun x y H Q => rI0 (fun i j => .int (i + j)) x y H Q ∨ (∃ i j, x = .str i ∧ y = .str j ∧ i.length + j.length ≤ sizeLine ∧ Q (.str (i ++ j)) H)) gIAdd := by
  intro Z B ρ H h x y a b W Q ok rx ry q
  unfold gIAdd at q
  split at q
  · exact .inl ⟨_, _, ra_int rx, ra_int ry, q.now ok _ (.d (.int _))⟩
  · split at q
    · rename_i hl
      exact .inr ⟨_, _, ra_str rx, ra_str ry, by rw [← lim_eq]; exact hl, q.now ok _ (.d (.str _))⟩
    · exact q.elim
  · exact q.elim
theorem og_isub {K : PySem.W.Frag} : Op2 K (rI0 fun i j => .int (i - j)) gSub := og_sub
end

/-! ### what is walked -/
/-- by place: stuck, over, or the next -/
abbrev Nxt := Nat → Hq → Option (Option A)
abbrev NZ : Hp := fun _ => none
theorem Gr.wk {Z B B' : Hp} {ρ ρ' : Nat → Option Addr} (g : Gr Z B ρ B' ρ') : Gr NZ B ρ B' ρ' := ⟨g.bb, g.rr, fun _ _ _ => rfl⟩
def Walk (K : PySem.W.Frag) (B : Hp) (ρ : Nat → Option Addr) (J : It) (nx : Nxt) : Prop := ∀ (Z B2 : Hp) (ρ2 : Nat → Option Addr) (H2 : Hp) (h2 : Hq) (i : Nat), Ok K Z B2 ρ2 H2 h2 → Gr NZ B ρ B2 ρ2 →
  (nx i h2 = some none → J.stop i H2) ∧ ∀ w, nx i h2 = some (some w) → J.go i H2 ∧ ∀ x H', J.yld i H2 x H' → ∃ B3, RA K B3 ρ2 x w ∧ Ok K Z B3 ρ2 H' h2 ∧ Gr Z B2 ρ2 B3 ρ2
/-- data, places 0 .. -/
def nxL (ws : List A) : Nxt := fun i _ => some ws[i]?
/-- a cell, as it is then -/
def nxC (k : Nat) : Nxt := fun i h => match h[k]? with | some (.lst ws) => some ws[i]? | _ => none
structure RI (X : Cx) (W : WX) (tg iter : Expr) (m : E Nxt) : Prop where
  pi : PI X tg iter fun σ H R => ∃ Z B ρ τ h, Ok X.K Z B ρ H h ∧ SlOk X.K B ρ σ τ ∧ Post X.K Z (fun c d H' => W c d σ H') B ρ (fun nx _ B' ρ' H' => ∀ J, Walk X.K B' ρ' J nx → R J H') (m τ h)
theorem pi_imp {X : Cx} {tg e : Expr} {t t' : TI} (h : PI X tg e t) (i : ∀ σ H R, t' σ H R → t σ H R) : PI X tg e t' := ⟨fun pins s σ H R I q => h.run pins s σ H R I (i _ _ _ q)⟩
theorem pi_or {X : Cx} {tg e : Expr} {t t' : TI} (h : PI X tg e t) (h' : PI X tg e t') : PI X tg e fun σ H R => t σ H R ∨ t' σ H R := ⟨fun pins s σ H R I q => q.elim (h.run pins s σ H R I) (h'.run pins s σ H R I)⟩
/-- what stands to be walked -/
def itemsA : A → Option Nxt
  | .d (.lst xs) => some (nxL (xs.map A.d)) | .d (.tup xs) => some (nxL (xs.map A.d)) | .d (.kt xs) => some (nxL (xs.map A.d)) | .d (.scr ns) => some (nxL (ns.map fun i => .d (.int i)))
  | .d (.str x) => some (nxL (x.cps.toList.map fun c => .d (.str ⟨#[c]⟩)))
  | .tup ws => some (nxL ws)
  | .r k => some (nxC k)
  | _ => none
def mItems (m : E A) : E Nxt := fun τ h => bd (m τ h) fun a h1 => match a with
  | .r k => (match h1[k]? with | some (.lst _) => some (.ok (nxC k) h1) | _ => none)
  | a => match itemsA a with | some nx => some (.ok nx h1) | none => none
def rangeA (lo : Int) (n : Nat) : List A := (List.range n).map fun i => .d (.int (lo + (i : Nat)))
def mRange1 (m : E A) : E Nxt := fun τ h => bd (m τ h) fun a h1 => match a with
  | .d (.int j) => if -(2 ^ 62) ≤ j ∧ j < 2 ^ 62 then some (.ok (nxL (rangeA 0 j.toNat)) h1) else none
  | _ => none
def mRange2 (ma mb : E A) : E Nxt := fun τ h => bd (ma τ h) fun a h1 => bd (mb τ h1) fun b h2 => match a, b with
  | .d (.int i), .d (.int j) => if -(2 ^ 62) ≤ i ∧ i < 2 ^ 62 ∧ -(2 ^ 62) ≤ j ∧ j < 2 ^ 62 then some (.ok (nxL (rangeA i (j - i).toNat)) h2) else none
  | _, _ => none
section
variable {X : Cx} {W : WX} {tg iter e a b : Expr} {m ma mb : E A} {mi : E Nxt} {pos : Pos}
theorem walk_seq {K : PySem.W.Frag} {B : Hp} {ρ : Nat → Option Addr} {J : It} {vs : List V} {ws : List A} (r : RAL K B ρ vs ws)
    (hstop : ∀ Z B2 ρ2 H2 h2 i, Ok K Z B2 ρ2 H2 h2 → Gr NZ B ρ B2 ρ2 → vs.length ≤ i → J.stop i H2) (hgo : ∀ Z B2 ρ2 H2 h2 i v, Ok K Z B2 ρ2 H2 h2 → Gr NZ B ρ B2 ρ2 → vs[i]? = some v → J.go i H2 ∧ ∀ x H', J.yld i H2 x H' → x = v ∧ H' = H2) : Walk K B ρ J (nxL ws) := by
  intro Z B2 ρ2 H2 h2 i ok2 g2
  refine ⟨fun e => hstop Z B2 ρ2 H2 h2 i ok2 g2 ?_, fun w e => ?_⟩
  · have e : ws[i]? = none := Option.some.inj e
    rw [r.length]
    exact List.getElem?_eq_none_iff.mp e
  · have e : ws[i]? = some w := Option.some.inj e
    obtain ⟨v, h1, h2'⟩ := r.get e
    obtain ⟨k1, k2⟩ := hgo Z B2 ρ2 H2 h2 i v ok2 g2 h1
    refine ⟨k1, fun x H' y => ?_⟩
    obtain ⟨rfl, rfl⟩ := k2 x H' y
    exact ⟨B2, h2'.mono g2, ok2, Gr.refl⟩
theorem walk_list {K : PySem.W.Frag} {B : Hp} {ρ : Nat → Option Addr} {a : Addr} {vs : List V} {ws : List A} (h : SqL K B a vs) (r : RAL K B ρ vs ws) : Walk K B ρ (Itl K a) (nxL ws) :=
  walk_seq r (fun Z B2 ρ2 H2 h2 i ok2 g2 hl => ⟨vs, ok2.ex.seq (g2.bb.seq h), hl⟩) fun Z B2 ρ2 H2 h2 i v ok2 g2 hv => by
    have hq : SqL K H2 a vs := ok2.ex.seq (g2.bb.seq h)
    refine ⟨⟨vs, v, hq, hv⟩, fun x H' y => ?_⟩
    obtain ⟨rfl, y⟩ := y
    exact ⟨Option.some.inj ((y vs hq).symm.trans hv), rfl⟩
theorem walk_tup {K : PySem.W.Frag} {B : Hp} {ρ : Nat → Option Addr} {a : Addr} {vs : List V} {ws : List A} (h : SqT K B a vs) (r : RAL K B ρ vs ws) : Walk K B ρ (Itt K a) (nxL ws) :=
  walk_seq r (fun Z B2 ρ2 H2 h2 i ok2 g2 hl => ⟨vs, sqt_mono ok2.ex (sqt_mono g2.bb h), hl⟩) fun Z B2 ρ2 H2 h2 i v ok2 g2 hv => by
    have hq : SqT K H2 a vs := sqt_mono ok2.ex (sqt_mono g2.bb h)
    refine ⟨⟨vs, v, hq, hv⟩, fun x H' y => ?_⟩
    obtain ⟨rfl, y⟩ := y
    exact ⟨Option.some.inj ((y vs hq).symm.trans hv), rfl⟩
theorem walk_cell {K : PySem.W.Frag} {B : Hp} {ρ : Nat → Option Addr} {k : Nat} {a : Addr} (hr : ρ k = some a) : Walk K B ρ (Itl K a) (nxC k) := by
  intro Z B2 ρ2 H2 h2 i ok2 g2
  have at_ : ∀ ws, h2[k]? = some (.lst ws) → ∃ vs, H2 a = some (.lst vs) ∧ RAL K B2 ρ2 vs ws := fun ws e => by
    obtain ⟨p, h1, h3⟩ := ok2.ce _ _ e
    rw [g2.rr _ _ hr] at h1
    cases h1
    cases h3 with
    | lst q1 q2 q3 q4 => exact ⟨_, q1, q2⟩
  refine ⟨fun e => ?_, fun w e => ?_⟩
  · unfold nxC at e
    split at e
    · rename_i ws e1
      obtain ⟨vs, h1, h3⟩ := at_ ws e1
      have e : ws[i]? = none := Option.some.inj e
      exact ⟨vs, SqL.of h1, by rw [h3.length]; exact List.getElem?_eq_none_iff.mp e⟩
    · cases e
  · unfold nxC at e
    split at e
    · rename_i ws e1
      obtain ⟨vs, h1, h3⟩ := at_ ws e1
      have e : ws[i]? = some w := Option.some.inj e
      obtain ⟨v, h4, h5⟩ := h3.get e
      refine ⟨⟨vs, v, SqL.of h1, h4⟩, fun x H' y => ?_⟩
      obtain ⟨rfl, y⟩ := y
      have : x = v := Option.some.inj ((y vs (SqL.of h1)).symm.trans h4)
      subst this
      exact ⟨B2, h5, ok2, Gr.refl⟩
    · cases e
theorem walk_range {K : PySem.W.Frag} {B : Hp} {ρ : Nat → Option Addr} {lo : Int} {n : Nat} : Walk K B ρ (Itr lo n) (nxL (rangeA lo n)) := by
  have hl : (rangeA lo n).length = n := by unfold rangeA; rw [List.length_map, List.length_range]
  intro Z B2 ρ2 H2 h2 i ok2 g2
  refine ⟨fun e => ?_, fun w e => ?_⟩
  · have e : (rangeA lo n)[i]? = none := Option.some.inj e
    have := List.getElem?_eq_none_iff.mp e
    rw [hl] at this
    exact this
  · have e : (rangeA lo n)[i]? = some w := Option.some.inj e
    have hi : i < n := by
      rw [← hl]
      exact (List.getElem?_eq_some_iff.mp e).1
    refine ⟨hi, fun x H' y => ?_⟩
    obtain ⟨rfl, rfl⟩ := y
    unfold rangeA at e
    rw [List.getElem?_map, List.getElem?_range hi] at e
    cases e
    exact ⟨B2, .d (.int _), ok2, Gr.refl⟩
theorem walk_str {K : PySem.W.Frag} {B : Hp} {ρ : Nat → Option Addr} {x : Str} : Walk K B ρ (Its x) (nxL (x.cps.toList.map fun c => .d (.str ⟨#[c]⟩))) := by
  intro Z B2 ρ2 H2 h2 i ok2 g2
  refine ⟨fun e => ?_, fun w e => ?_⟩
  · have e : (x.cps.toList.map fun c => A.d (.str ⟨#[c]⟩))[i]? = none := Option.some.inj e
    have := List.getElem?_eq_none_iff.mp e
    show x.cps.size ≤ i
    simpa using this
  · have e : (x.cps.toList.map fun c => A.d (.str ⟨#[c]⟩))[i]? = some w := Option.some.inj e
    have hi : i < x.cps.size := by
      have z := (List.getElem?_eq_some_iff.mp e).1
      simpa using z
    refine ⟨hi, fun v H' y => ?_⟩
    obtain ⟨rfl, c, h1, rfl⟩ := y
    rw [List.getElem?_map, Array.getElem?_toList, h1] at e
    cases e
    exact ⟨B2, .d (.str _), ok2, Gr.refl⟩
/-- a list, a tuple, the script, a text, a cell -/
theorem ri_items (he : RX X W e m) : RI X W tg e (mItems m) := ⟨pi_imp (pi_or (pi_list he.pe) (pi_or (pi_tup he.pe) (pi_str he.pe))) fun σ H R q => by
  obtain ⟨Z, B, ρ, τ, h, ok, sl, q⟩ := q
  have dec : ∀ (r : Option (Rs A)), Post X.K Z (fun c d H' => W c d σ H') B ρ (fun nx _ B' ρ' H' => ∀ J, Walk X.K B' ρ' J nx → R J H') (bd r fun a h1 => match a with
      | .r k => (match h1[k]? with | some (.lst _) => some (.ok (nxC k) h1) | _ => none)
      | a => match itemsA a with | some nx => some (.ok nx h1) | none => none) →
      Post X.K Z (fun c d H' => W c d σ H') B ρ (fun w _ B' ρ' H' => ∀ v, RA X.K B' ρ' v w → ∃ a, v = .ref a ∧ (∃ xs, SqL X.K H' a xs) ∧ R (Itl X.K a) H') r ∨
      Post X.K Z (fun c d H' => W c d σ H') B ρ (fun w _ B' ρ' H' => ∀ v, RA X.K B' ρ' v w → ∃ a, v = .ref a ∧ (∃ xs, SqT X.K H' a xs) ∧ R (Itt X.K a) H') r ∨
      Post X.K Z (fun c d H' => W c d σ H') B ρ (fun w _ B' ρ' H' => ∀ v, RA X.K B' ρ' v w → ∃ x, v = .str x ∧ R (Its x) H') r := by
    intro r q
    match r, q with
    | some (.ex x h), q => exact .inl q
    | some (.ok a h1), q =>
      cases a with
      | r k =>
        refine .inl fun B1 ρ1 H1 ok1 g1 v rv => ?_
        have q : Post X.K Z (fun c d H' => W c d σ H') B ρ (fun nx _ B' ρ' H' => ∀ J, Walk X.K B' ρ' J nx → R J H') (match h1[k]? with | some (.lst _) => some (.ok (nxC k) h1) | _ => none) := q
        split at q
        · rename_i ws e1
          cases rv with
          | r hr =>
            obtain ⟨p, h2, h3⟩ := ok1.ce _ _ e1
            rw [hr] at h2
            cases h2
            cases h3 with
            | lst q1 q2 q3 q4 => exact ⟨_, rfl, ⟨_, SqL.of q1⟩, q B1 ρ1 H1 ok1 g1 _ (walk_cell hr)⟩
        · exact q.elim
      | tup ws =>
        refine .inr (.inl fun B1 ρ1 H1 ok1 g1 v rv => ?_)
        cases rv with
        | tup ht r1 => exact ⟨_, rfl, ⟨_, sqt_of (ok1.ex _ _ ht)⟩, q B1 ρ1 H1 ok1 g1 _ (walk_tup (sqt_of ht) r1)⟩
      | d x =>
        cases x with
        | lst xs =>
          refine .inl fun B1 ρ1 H1 ok1 g1 v rv => ?_
          cases ra_d rv with
          | lst h2 r1 => exact ⟨_, rfl, ⟨_, SqL.of (ok1.ex _ _ h2)⟩, q B1 ρ1 H1 ok1 g1 _ (walk_list (SqL.of h2) (ral_ds r1))⟩
        | scr ns =>
          refine .inl fun B1 ρ1 H1 ok1 g1 v rv => ?_
          cases ra_d rv with
          | scr h2 => exact ⟨_, rfl, ⟨_, ok1.ex.seq h2⟩, q B1 ρ1 H1 ok1 g1 _ (walk_list h2 (ral_ints ns))⟩
        | tup xs =>
          refine .inr (.inl fun B1 ρ1 H1 ok1 g1 v rv => ?_)
          cases ra_d rv with
          | tup h2 r1 => exact ⟨_, rfl, ⟨_, sqt_of (ok1.ex _ _ h2)⟩, q B1 ρ1 H1 ok1 g1 _ (walk_tup (sqt_of h2) (ral_ds r1))⟩
        | kt xs =>
          refine .inr (.inl fun B1 ρ1 H1 ok1 g1 v rv => ?_)
          cases ra_d rv with
          | kt h2 r1 => exact ⟨_, rfl, ⟨_, sqt_mono ok1.ex h2⟩, q B1 ρ1 H1 ok1 g1 _ (walk_tup h2 (ral_ds r1))⟩
        | str x =>
          refine .inr (.inr fun B1 ρ1 H1 ok1 g1 v rv => ?_)
          cases ra_str rv
          exact ⟨x, rfl, q B1 ρ1 H1 ok1 g1 _ walk_str⟩
        | non => exact q.elim
        | bl _ => exact q.elim
        | int _ => exact q.elim
        | fn _ => exact q.elim
        | nd _ _ => exact q.elim
  have q : Post X.K Z (fun c d H' => W c d σ H') B ρ (fun nx _ B' ρ' H' => ∀ J, Walk X.K B' ρ' J nx → R J H') (bd (m τ h) fun a h1 => match a with
      | .r k => (match h1[k]? with | some (.lst _) => some (.ok (nxC k) h1) | _ => none)
      | a => match itemsA a with | some nx => some (.ok nx h1) | none => none) := q
  rcases dec (m τ h) q with q | q | q
  · exact .inl ⟨Z, B, ρ, τ, h, ok, sl, q⟩
  · exact .inr (.inl ⟨Z, B, ρ, τ, h, ok, sl, q⟩)
  · exact .inr (.inr ⟨Z, B, ρ, τ, h, ok, sl, q⟩)⟩
theorem ri_range1 {px : Pos} (he : RX X W a m) (hm : X.mg "range" = none) (hg : Gl X "range" := by rfl) (hs : starEach [a] X.env = [(false, eval a X.env)] := by rfl) : RI X W tg (.Call (.Name "range" px) [a] [] pos) (mRange1 m) := ⟨pi_imp (pi_range1 hg hm (pa_cons he.pe pa_nil hs) hs) fun σ H R q => by
  obtain ⟨Z, B, ρ, τ, h, ok, sl, q⟩ := q
  refine te_bd ok sl q fun x a h1 B1 ρ1 H1 rx ok1 sl1 g1 q1 => ?_
  split at q1
  · split at q1
    · rename_i j hj
      cases ra_int rx
      exact ⟨j, rfl, hj.1, hj.2, q1.now ok1 _ walk_range⟩
    · exact q1.elim
  · exact q1.elim⟩
theorem ri_range2 {px : Pos} (ha : RX X W a ma) (hb : RX X W b mb) (hm : X.mg "range" = none) (hg : Gl X "range" := by rfl) (hs : starEach [a, b] X.env = [(false, eval a X.env), (false, eval b X.env)] := by rfl) (hs2 : starEach [b] X.env = [(false, eval b X.env)] := by rfl) :
    RI X W tg (.Call (.Name "range" px) [a, b] [] pos) (mRange2 ma mb) := ⟨pi_imp (pi_range2 hg hm (pa_cons ha.pe (pa_cons hb.pe pa_nil hs2) (by rw [hs, hs2])) hs hs2) fun σ H R q => by
  obtain ⟨Z, B, ρ, τ, h, ok, sl, q⟩ := q
  refine te_bd ok sl q fun x a h1 B1 ρ1 H1 rx ok1 sl1 g1 q1 => te_bd ok1 sl1 q1 fun y b h2 B2 ρ2 H2 ry ok2 sl2 g2 q2 => ?_
  split at q2
  · split at q2
    · rename_i i j hj
      cases ra_int rx
      cases ra_int ry
      exact ⟨i, j, rfl, hj, q2.now ok2 _ walk_range⟩
    · exact q2.elim
  · exact q2.elim⟩

/-! ### for -/
/-- f: turns left -/
def forM (nx : Nxt) (g : A → Sl → Hq → Option Sl) (mb : MS) : Nat → Nat → MS
  | 0, _, _, _ => none
  | f + 1, i, τ, h => match nx i h with
    | some none => some (.nx τ h)
    | some (some w) => (match g w τ h with
      | some τ1 => (match mb τ1 h with
        | some (.nx τ2 h2) => forM nx g mb f (i + 1) τ2 h2
        | some (.ct τ2 h2) => forM nx g mb f (i + 1) τ2 h2
        | some (.bk τ2 h2) => some (.nx τ2 h2)
        | r => r)
      | none => none)
    | none => none
abbrev FU : Nat := 16777217
def mFor (mi : E Nxt) (g : A → Sl → Hq → Option Sl) (mb : MS) : MS := fun τ h => sb τ (mi τ h) fun nx h1 => forM nx g mb FU 0 τ h1
variable {g : A → Sl → Hq → Option Sl} {mbd : MS} {body : List Stmt} {c : Expr} {t : E Bool}
theorem rs_for {is : List Nat} (hp : PassesOwn (model X.prog X.w) X.A X.env X.xe) (hc : X.calm = true) (hi : RI X W tg iter mi) (hg : RG X is tg g) (hb : RSs X W body mbd) (hs : ∀ x, foldedSetIterable iter X.env x = pure x := by intro _; rfl) : RS X W (.For tg iter body [] pos) (mFor mi g mbd) := ⟨ps_imp (ps_for hp hc hi.pi hg.pg hb.ps hs) fun D σ H q => by
  obtain ⟨Z, B, ρ, τ, h, ok, sl, q⟩ := q
  refine ⟨Z, B, ρ, τ, h, ok, sl, (q.sb sl).imp fun nx h1 B1 ρ1 H1 ok1 g1 q1 J wk => ?_⟩
  refine ⟨fun i m σ' H' => ∃ B' ρ' τ' h', Ok X.K Z B' ρ' H' h' ∧ SlOk X.K B' ρ' σ' τ' ∧ Gr Z B1 ρ1 B' ρ' ∧ PostS X.K Z W B' ρ' D (forM nx g mbd m i τ' h'), ⟨FU, B1, ρ1, τ, h1, ok1, sl.mono g1, Gr.refl, q1⟩, ?_⟩
  rintro i m σ2 H2 ⟨B2, ρ2, τ2, h2, ok2, sl2, g2, post⟩
  obtain ⟨stop, go⟩ := wk Z B2 ρ2 H2 h2 i ok2 g2.wk
  cases m with
  | zero => exact post.elim
  | succ m =>
    unfold forM at post
    split at post
    · rename_i e1
      exact .inl ⟨stop e1, post.nx1 ok2 sl2⟩
    · rename_i w e1
      obtain ⟨k1, k2⟩ := go w e1
      refine .inr ⟨k1, fun σ' H' => ∃ B' ρ' τ' h', Ok X.K Z B' ρ' H' h' ∧ SlOk X.K B' ρ' σ' τ' ∧ Gr Z B1 ρ1 B' ρ' ∧ PostS X.K Z W B' ρ' D (forM nx g mbd m (i + 1) τ' h'), fun σ' H' n => ⟨m, Nat.lt_succ_self m, n⟩, fun x H3 y => ?_⟩
      obtain ⟨B3, rx, ok3, g3⟩ := k2 x H3 y
      split at post
      · rename_i τ3 e3
        refine ⟨Z, B3, ρ2, w, τ2, τ3, h2, ok3, sl2.mono g3, rx, e3, fun σ4 sl4 _ => ?_⟩
        refine ⟨Z, B3, ρ2, τ3, h2, ok3, sl4, ?_⟩
        have post := post.from g3
        have g13 := g2.trans g3
        revert post
        cases mbd τ3 h2 with
        | none => exact fun h => h
        | some r =>
          cases r with
          | nx τ4 h4 => exact fun post σ5 B5 ρ5 H5 ok5 sl5 g5 => ⟨B5, ρ5, τ4, h4, ok5, sl5, g13.trans g5, post.from g5⟩
          | ct τ4 h4 => exact fun post σ5 B5 ρ5 H5 ok5 sl5 g5 => ⟨B5, ρ5, τ4, h4, ok5, sl5, g13.trans g5, post.from g5⟩
          | bk τ4 h4 => exact fun post => post
          | rt w h4 => exact fun post => post
          | ex x τ4 h4 => exact fun post => post
      · exact post.elim
    · exact post.elim⟩

/-! ### while: n turns at most -/
def mWhile (t : E Bool) (mb : MS) : Nat → MS
  | 0, _, _ => none
  | n + 1, τ, h => sb τ (t τ h) fun b h1 => match b with
    | false => some (.nx τ h1)
    | true => match mb τ h1 with
      | some (.nx τ2 h2) => mWhile t mb n τ2 h2
      | some (.ct τ2 h2) => mWhile t mb n τ2 h2
      | some (.bk τ2 h2) => some (.nx τ2 h2)
      | r => r
theorem rs_while (n : Nat) (hp : PassesOwn (model X.prog X.w) X.A X.env X.xe) (hc : RT X W c t) (hb : RSs X W body mbd) : RS X W (.While c body [] pos) (mWhile t mbd n) := ⟨ps_imp (ps_while hp hc.pt hb.ps) fun D σ H q => by
  refine ⟨fun m σ' H' => ∃ Z B' ρ' τ' h', Ok X.K Z B' ρ' H' h' ∧ SlOk X.K B' ρ' σ' τ' ∧ PostS X.K Z W B' ρ' D (mWhile t mbd m τ' h'), ⟨n, q⟩, ?_⟩
  rintro m σ2 H2 ⟨Z, B2, ρ2, τ2, h2, ok2, sl2, post⟩
  refine ⟨Z, B2, ρ2, τ2, h2, ok2, sl2, ?_⟩
  cases m with
  | zero => exact post.elim
  | succ m =>
    unfold mWhile at post
    refine (post.sb sl2).imp fun b h3 B3 ρ3 H3 ok3 g3 q3 => ?_
    cases b with
    | false => exact iteF (q3.nx1 ok3 (sl2.mono g3))
    | true =>
      refine iteT ⟨fun σ' H' => ∃ Z B' ρ' τ' h', Ok X.K Z B' ρ' H' h' ∧ SlOk X.K B' ρ' σ' τ' ∧ PostS X.K Z W B' ρ' D (mWhile t mbd m τ' h'), fun σ' H' h => ⟨m, Nat.lt_succ_self m, h⟩, Z, B3, ρ3, τ2, h3, ok3, sl2.mono g3, ?_⟩
      revert q3
      show PostS X.K Z W B3 ρ3 D (match mbd τ2 h3 with
        | some (.nx τ2 h2) => mWhile t mbd m τ2 h2
        | some (.ct τ2 h2) => mWhile t mbd m τ2 h2
        | some (.bk τ2 h2) => some (.nx τ2 h2)
        | r => r) → _
      cases mbd τ2 h3 with
      | none => exact fun h => h
      | some r =>
        cases r with
        | nx τ4 h4 => exact fun post σ5 B5 ρ5 H5 ok5 sl5 g5 => ⟨Z, B5, ρ5, τ4, h4, ok5, sl5, post.from g5⟩
        | ct τ4 h4 => exact fun post σ5 B5 ρ5 H5 ok5 sl5 g5 => ⟨Z, B5, ρ5, τ4, h4, ok5, sl5, post.from g5⟩
        | bk τ4 h4 => exact fun post => post
        | rt w h4 => exact fun post => post
        | ex x τ4 h4 => exact fun post => post⟩
end
end Tq

/-! Tq6: comprehensions. -/
namespace Tq
open PySem PySem.Spec PyProof.Rows L2

def wipeT (τ : Sl) : List Nat → Sl
  | [] => τ
  | v :: vs => (wipeT τ vs).set v none
theorem wipeT_length (τ : Sl) : ∀ vs : List Nat, (wipeT τ vs).length = τ.length
  | [] => rfl
  | v :: vs => by unfold wipeT; rw [List.length_set, wipeT_length τ vs]
theorem wipe_get (σ : L2.St) : ∀ (vs : List Nat) (i : Nat), (L2.wipe σ vs)[i]? = if i ∈ vs ∧ i < σ.length then some none else σ[i]?
  | [], i => by simp [L2.wipe]
  | v :: vs, i => by
    unfold L2.wipe
    rw [List.getElem?_set, wipe_get σ vs i, L2.wipe_length]
    by_cases e : v = i
    · subst e
      by_cases hl : v < σ.length
      · simp [hl]
      · simp [hl]
    · rw [if_neg e]
      simp [List.mem_cons, Ne.symm e]
theorem wipeT_get (τ : Sl) : ∀ (vs : List Nat) (i : Nat), (wipeT τ vs)[i]? = if i ∈ vs ∧ i < τ.length then some none else τ[i]?
  | [], i => by simp [wipeT]
  | v :: vs, i => by
    unfold wipeT
    rw [List.getElem?_set, wipeT_get τ vs i, wipeT_length]
    by_cases e : v = i
    · subst e
      by_cases hl : v < τ.length
      · simp [hl]
      · simp [hl]
    · rw [if_neg e]
      simp [List.mem_cons, Ne.symm e]
theorem wipe_apart {σ1 σ2 : L2.St} {vs : List Nat} (h : Apart vs σ1 σ2) : L2.wipe σ2 vs = L2.wipe σ1 vs := by
  apply List.ext_getElem?
  intro i
  rw [wipe_get, wipe_get, h.1]
  by_cases z : i ∈ vs
  · by_cases hl : i < σ1.length
    · rw [if_pos ⟨z, hl⟩, if_pos ⟨z, hl⟩]
    · have h1 := h.1
      rw [if_neg fun y => hl y.2, if_neg fun y => hl y.2, List.getElem?_eq_none (by omega : σ2.length ≤ i), List.getElem?_eq_none (by omega : σ1.length ≤ i)]
  · rw [if_neg fun y => z y.1, if_neg fun y => z y.1, h.2 i z]
theorem wipe_wipe (σ : L2.St) (vs : List Nat) : L2.wipe (L2.wipe σ vs) vs = L2.wipe σ vs := by
  apply List.ext_getElem?
  intro i
  rw [wipe_get, wipe_get, L2.wipe_length]
  by_cases z : i ∈ vs ∧ i < σ.length
  · rw [if_pos z]
    try rw [if_pos z]
  · rw [if_neg z]
    try rw [if_neg z]
theorem SlOk.wipe {K : PySem.W.Frag} {B : Hp} {ρ : Nat → Option Addr} {σ : L2.St} {τ : Sl} (s : SlOk K B ρ σ τ) (vs : List Nat) : SlOk K B ρ (L2.wipe σ vs) (wipeT τ vs) := by
  refine ⟨by rw [L2.wipe_length, wipeT_length]; exact s.ln, fun i w e => ?_⟩
  rw [wipeT_get] at e
  split at e
  · cases e
  · rename_i hn
    rw [wipe_get, if_neg (by rw [s.ln]; exact hn)]
    exact s.at_ i w e

/-! ### an object of the reading's own, that stands aside -/
section
variable {K : PySem.W.Frag} {Z B H : Hp} {ρ : Nat → Option Addr} {h : Hq} {q : Addr} {o o2 : HO}
theorem CeAt.zs {Z2 : Hp} {a : Addr} {c : O} (x : CeAt K Z B H ρ a c) (hz : ∀ b, Z b = none → H b ≠ none → Z2 b = none) (ha : H a ≠ none) : CeAt K Z2 B H ρ a c := by
  cases x with
  | lst e1 e2 e3 e4 => exact .lst e1 e2 e3 (hz _ e4 ha)
  | nd e1 e2 e3 => exact .nd e1 e2 fun b hb => ⟨(e3 b hb).1, hz b (e3 b hb).2 (e1.own_or.2.2.1 b hb)⟩
  | dead e => exact .dead (hz _ e ha)
/-- a new object stands aside -/
theorem Ok.aside (ok : Ok K Z B ρ H h) (hq : H q = none) : Ok K (upd Z q o) B ρ (upd H q o) h := by
  have ok2 := ok.grow (H' := upd H q o) fun b u e => by rw [upd_ne (ne_of_none e hq)]; exact e
  refine ⟨ok2.ex, fun b u e => ?_, fun k c e => ?_, ok2.nj, ok2.al, ok2.up⟩
  · by_cases z : b = q
    · subst z; rw [upd_same] at e ⊢; exact e
    · rw [upd_ne z] at e; exact ok2.zz b u e
  · obtain ⟨a, h1, h2⟩ := ok.ce k c e
    have ha := ok.al k a h1
    obtain ⟨a', h1', h3⟩ := ok2.ce k c e
    rw [h1] at h1'
    cases h1'
    refine ⟨a, h1, ?_⟩
    have n : a ≠ q := fun z => ha (by rw [z]; exact hq)
    cases h2 with
    | lst e1 e2 e3 e4 => exact .lst (by rw [upd_ne n]; exact e1) e2 e3 (by rw [upd_ne n]; exact e4)
    | nd e1 e2 e3 =>
      have nb : ∀ b ∈ _, b ≠ q := fun b hb z => e1.own_or.2.2.1 b hb (by rw [z]; exact hq)
      exact .nd (e1.to fun b hb u e => by rw [upd_ne (nb b hb)]; exact e) e2 fun b hb => ⟨(e3 b hb).1, by rw [upd_ne (nb b hb)]; exact (e3 b hb).2⟩
    | dead e1 => exact .dead (by rw [upd_ne n]; exact e1)
/-- it turns -/
theorem Ok.turn (ok : Ok K (upd Z q o) B ρ H h) (hb : B q = none) (hz : Z q = none) : Ok K (upd Z q o2) B ρ (upd H q o2) h := by
  have hq : H q = some o := ok.zz q o upd_same
  refine ⟨fun b u e => by rw [upd_ne (ne_of_none e hb)]; exact ok.ex b u e, fun b u e => ?_, fun k c e => ?_, ok.nj, fun k a e => ?_, ok.up⟩
  · by_cases z : b = q
    · subst z; rw [upd_same] at e ⊢; exact e
    · rw [upd_ne z] at e ⊢
      exact ok.zz b u (by rw [upd_ne z]; exact e)
  · obtain ⟨a, h1, h2⟩ := ok.ce k c e
    refine ⟨a, h1, ?_⟩
    have ne : ∀ {b : Addr}, upd Z q o b = none → b ≠ q ∧ Z b = none := fun {b} e => by
      have z : b ≠ q := fun z => by rw [z, upd_same] at e; cases e
      rw [upd_ne z] at e
      exact ⟨z, e⟩
    cases h2 with
    | lst e1 e2 e3 e4 => exact .lst (by rw [upd_ne (ne e4).1]; exact e1) e2 e3 (by rw [upd_ne (ne e4).1]; exact (ne e4).2)
    | nd e1 e2 e3 =>
      exact .nd (e1.to fun b hb u e => by rw [upd_ne (ne (e3 b hb).2).1]; exact e) e2 fun b hb => ⟨(e3 b hb).1, by rw [upd_ne (ne (e3 b hb).2).1]; exact (ne (e3 b hb).2).2⟩
    | dead e1 => exact .dead (by rw [upd_ne (ne e1).1]; exact (ne e1).2)
  · by_cases z : a = q
    · subst z; rw [upd_same]; simp
    · rw [upd_ne z]; exact ok.al k a e
theorem Gr.aside {B' : Hp} {ρ' : Nat → Option Addr} (g : Gr (upd Z q o) B ρ B' ρ') (hz : Z q = none) : Gr Z B ρ B' ρ' := ⟨g.bb, g.rr, fun a e e' => by
  have z := g.fz a e e'
  by_cases y : a = q
  · subst y; exact hz
  · rwa [upd_ne y] at z⟩
theorem Ok.bare (ok : Ok K (upd Z q o) B ρ H h) (hz : Z q = none) : Ok K Z B ρ H h := ⟨ok.ex, fun b u e => ok.zz b u (by rw [upd_ne (ne_of_none e hz)]; exact e), fun k c e => by
  obtain ⟨a, h1, h2⟩ := ok.ce k c e
  refine ⟨a, h1, h2.zs (fun b e _ => ?_) (ok.al k a h1)⟩
  by_cases z : b = q
  · rw [z]; exact hz
  · rwa [upd_ne z] at e, ok.nj, ok.al, ok.up⟩
/-- it becomes a cell, or data -/
theorem Ok.adopt {W : XK} {Q : VK} {vs : List V} {ws : List A} {o : Bool} (ok : Ok K (upd Z q (.lst vs)) B ρ H h) (hb : B q = none) (hz : Z q = none) (r : RAL K B ρ vs ws) (p : Post K Z W B ρ (fun w _ B' ρ' H' => ∀ v, RA K B' ρ' v w → Q v H') (mkL o ws h)) : Q (.ref q) H := by
  have hq : H q = some (.lst vs) := ok.zz q _ upd_same
  have fresh : ∀ k a, ρ k = some a → a ≠ q := fun k a e z => by
    have hk : k < h.length := by
      apply Classical.byContradiction
      intro y
      rw [ok.up k (by omega)] at e
      cases e
    obtain ⟨c, hc⟩ : ∃ c, h[k]? = some c := ⟨_, List.getElem?_eq_getElem hk⟩
    obtain ⟨a', h1, h2⟩ := ok.ce k c hc
    rw [e] at h1
    cases h1
    have key : upd Z q (.lst vs) a = none := by
      cases h2 with
      | lst _ _ _ e4 => exact e4
      | nd e1 _ e3 => exact (e3 _ e1.own_or.1).2
      | dead e4 => exact e4
    rw [z, upd_same] at key
    cases key
  have ok0 := ok.bare hz
  have own_ne : ∀ (k : Nat) (c : O) (a : Addr), h[k]? = some c → ρ k = some a → CeAt K Z (upd B q (.lst vs)) H ρ a c ∧ CeAt K Z B H ρ a c := fun k c a e ea => by
    obtain ⟨a', h1, h2⟩ := ok.ce k c e
    rw [ea] at h1
    cases h1
    have ne : ∀ {b : Addr}, upd Z q (.lst vs) b = none → b ≠ q ∧ Z b = none := fun {b} e => by
      have z : b ≠ q := fun z => by rw [z, upd_same] at e; cases e
      rw [upd_ne z] at e
      exact ⟨z, e⟩
    have gg : Gr Z B ρ (upd B q (.lst vs)) ρ := ⟨fun a u e => by rw [upd_ne (ne_of_none e hb)]; exact e, fun _ _ e => e, fun a e e' => by
      by_cases z : a = q
      · rw [z]; exact hz
      · rw [upd_ne z] at e'; exact absurd e e'⟩
    cases h2 with
    | lst e1 e2 e3 e4 => exact ⟨.lst e1 (e2.mono gg) (by rw [upd_ne (ne e4).1]; exact e3) (ne e4).2, .lst e1 e2 e3 (ne e4).2⟩
    | nd e1 e2 e3 => exact ⟨.nd e1 (e2.mono gg) fun b hb => ⟨by rw [upd_ne (ne (e3 b hb).2).1]; exact (e3 b hb).1, (ne (e3 b hb).2).2⟩, .nd e1 e2 fun b hb => ⟨(e3 b hb).1, (ne (e3 b hb).2).2⟩⟩
    | dead e1 => exact ⟨.dead (ne e1).2, .dead (ne e1).2⟩
  unfold mkL at p
  split at p
  · split at p
    · have gg : Gr Z B ρ B (fun k => if k = h.length then some q else ρ k) := ⟨fun _ _ e => e, fun k a e => by
        have : k ≠ h.length := fun z => by rw [ok.up k (by omega)] at e; cases e
        show (if k = h.length then some q else ρ k) = some a
        rw [if_neg this]; exact e, fun a e e' => absurd e e'⟩
      refine p B (fun k => if k = h.length then some q else ρ k) H ⟨ok0.ex, ok0.zz, fun k c e => ?_, fun i j a e1 e2 => ?_, fun k a e => ?_, fun k e => ?_⟩ gg (.ref q) (.r (if_pos rfl))
      · by_cases z : k = h.length
        · subst z
          rw [List.getElem?_append_right (by omega), Nat.sub_self] at e
          cases e
          exact ⟨q, if_pos rfl, .lst hq (r.mono gg) hb hz⟩
        · have hk : k < h.length := by
            have := (List.getElem?_eq_some_iff.mp e).1
            rw [List.length_append, List.length_singleton] at this
            omega
          rw [List.getElem?_append_left hk] at e
          obtain ⟨a, h1, _⟩ := ok.ce k c e
          refine ⟨a, gg.rr k a h1, ?_⟩
          cases (own_ne k c a e h1).2 with
          | lst e1 e2 e3 e4 => exact .lst e1 (e2.mono gg) e3 e4
          | nd e1 e2 e3 => exact .nd e1 (e2.mono gg) e3
          | dead e1 => exact .dead e1
      · have e1 : (if i = h.length then some q else ρ i) = some a := e1
        have e2 : (if j = h.length then some q else ρ j) = some a := e2
        split at e1 <;> split at e2
        · omega
        · cases e1; exact absurd rfl (fresh _ _ e2)
        · cases e2; exact absurd rfl (fresh _ _ e1)
        · exact ok.nj i j a e1 e2
      · have e : (if k = h.length then some q else ρ k) = some a := e
        split at e
        · cases e; rw [hq]; simp
        · exact ok.al k a e
      · rw [List.length_append, List.length_singleton] at e
        show (if k = h.length then some q else ρ k) = none
        rw [if_neg (by omega)]
        exact ok.up k (by omega)
    · cases e : allD ws with
      | none => rw [e] at p; exact p.elim
      | some ds =>
        rw [e] at p
        cases allD_of e
        have gg : Gr Z B ρ (upd B q (.lst vs)) ρ := ⟨fun a u e => by rw [upd_ne (ne_of_none e hb)]; exact e, fun _ _ e => e, fun a e e' => by
          by_cases z : a = q
          · rw [z]; exact hz
          · rw [upd_ne z] at e'; exact absurd e e'⟩
        refine p (upd B q (.lst vs)) ρ H ⟨fun b u e => ?_, ok0.zz, fun k c e => ?_, ok.nj, ok.al, ok.up⟩ gg (.ref q) (.d (.lst upd_same ((ral_rpl r).mono gg.bb)))
        · by_cases z : b = q
          · subst z; rw [upd_same] at e; rw [hq]; exact e
          · rw [upd_ne z] at e; exact ok.ex b u e
        · obtain ⟨a, h1, _⟩ := ok.ce k c e
          exact ⟨a, h1, (own_ne k c a e h1).1⟩
  · exact p.elim
end

/-! ### comprehensions -/
def compM (nx : Nxt) (g : A → Sl → Hq → Option Sl) (mt : E Bool) (me : E A) (τw : Sl) : Nat → Nat → Hq → Option (List A × Hq)
  | 0, _, _ => none
  | f + 1, i, h => match nx i h with
    | some none => some ([], h)
    | some (some w) => (match g w τw h with
      | some τ1 => (match mt τ1 h with
        | some (.ok true h1) => (match me τ1 h1 with
          | some (.ok a h2) => (match compM nx g mt me τw f (i + 1) h2 with | some (r, h3) => some (a :: r, h3) | none => none)
          | _ => none)
        | some (.ok false h1) => compM nx g mt me τw f (i + 1) h1
        | _ => none)
      | none => none)
    | none => none
def mYes : E Bool := fun _ h => some (.ok true h)
def mLC (o : Bool) (mi : E Nxt) (g : A → Sl → Hq → Option Sl) (mt : E Bool) (me : E A) (vs : List Nat) : E A := fun τ h => bd (mi τ h) fun nx h1 => match compM nx g mt me (wipeT τ vs) FU 0 h1 with
  | some (ws, h2) => if ws.length ≤ LIM then mkL o ws h2 else none
  | none => none
structure RTs (X : Cx) (W : WX) (ifs : List Expr) (m : E Bool) : Prop where
  pt : PTs X ifs (tT X.K W m)
theorem pts_imp {X : Cx} {e : List Expr} {t t' : TT} (h : PTs X e t) (i : ∀ σ H Q, t' σ H Q → t σ H Q) : PTs X e t' := ⟨fun pins s σ H Q I q => h.run pins s σ H Q I (i _ _ _ q)⟩
theorem rts_nil {X : Cx} {W : WX} : RTs X W [] mYes := ⟨pts_imp pts_nil fun σ H Q q => by
  obtain ⟨Z, B, ρ, τ, h, ok, sl, q⟩ := q
  exact q.now ok⟩
theorem rts_one {X : Cx} {W : WX} {c : Expr} {m : E Bool} (h : RT X W c m) : RTs X W [c] m := ⟨pts_one h.pt⟩
abbrev W0 : WX := fun _ _ _ _ => False
/-- what stays true in the making of the list -/
theorem lc_reads {X : Cx} {vs : List Nat} {g : A → Sl → Hq → Option Sl} {mt : E Bool} {me : E A} {gg : TG} {tt : TT} {te : TE} {o : Bool}
    (hgg : ∀ v σ H Q, (∃ Z B ρ w τ τ' h, Ok X.K Z B ρ H h ∧ SlOk X.K B ρ σ τ ∧ RA X.K B ρ v w ∧ g w τ h = some τ' ∧ ∀ σ', SlOk X.K B ρ σ' τ' → Apart vs σ σ' → Q σ' H) → gg v σ H Q)
    (htt : ∀ σ H Q, tT X.K W0 mt σ H Q → tt σ H Q) (hte : ∀ σ H Q, tE X.K W0 me σ H Q → te σ H Q)
    {σ : L2.St} {Z B1 H1 : Hp} {ρ1 : Nat → Option Addr} {h1 h2 : Hq} {τ : Sl} {nx : Nxt} {J : It} {ws : List A} {Q : VK} {W : XK} (ok1 : Ok X.K Z B1 ρ1 H1 h1) (sl1 : SlOk X.K B1 ρ1 σ τ) (wk : Walk X.K B1 ρ1 J nx)
    (e : compM nx g mt me (wipeT τ vs) FU 0 h1 = some (ws, h2)) (hl : ws.length ≤ LIM) (k : Post X.K Z W B1 ρ1 (fun w _ B' ρ' H' => ∀ v, RA X.K B' ρ' v w → Q v H') (mkL o ws h2)) :
    ∀ D, H1 D = none → ∃ Wv : Nat → Nat → Hp → Prop, (∃ m, Wv 0 m (upd H1 D (.lst []))) ∧ ∀ i m H, Wv i m H →
  (J.stop i H ∧ Q (.ref D) H) ∨ (J.go i H ∧ ∃ Nx : Hp → Prop, (∀ H', Nx H' → ∃ m', m' < m ∧ Wv (i + 1) m' H') ∧ ∀ x H', J.yld i H x H' → gg x (L2.wipe σ vs) H' fun σ2 H2 => L2.wipe σ2 vs = L2.wipe σ vs ∧ tt σ2 H2 fun b H3 =>
    if b = true then te σ2 H3 fun y H4 => ∃ acc, H4 D = some (.lst acc) ∧ acc.length < sizeLine ∧ Nx (upd H4 D (.lst (acc ++ [y]))) else Nx H3) := by
  intro D hD
  have hzD : Z D = none := by
    cases z : Z D with
    | none => rfl
    | some u => rw [ok1.zz D u z] at hD; cases hD
  have hbD : B1 D = none := by
    cases z : B1 D with
    | none => rfl
    | some u => rw [ok1.ex D u z] at hD; cases hD
  refine ⟨fun i m H' => ∃ B' ρ' h' acc as rest, Ok X.K (upd Z D (.lst acc)) B' ρ' H' h' ∧ Gr Z B1 ρ1 B' ρ' ∧ B' D = none ∧ RAL X.K B' ρ' acc as ∧
      compM nx g mt me (wipeT τ vs) m i h' = some (rest, h2) ∧ ws = as ++ rest,
    ⟨FU, B1, ρ1, h1, [], [], ws, ok1.aside hD, Gr.refl, hbD, .nil, e, rfl⟩, ?_⟩
  rintro i m H2 ⟨B2, ρ2, h', acc, as, rest, ok2, g2, hb2, ra, ec, ew⟩
  cases m with
  | zero => cases ec
  | succ m =>
    obtain ⟨stop, go⟩ := wk _ B2 ρ2 H2 h' i ok2 g2.wk
    unfold compM at ec
    split at ec
    · rename_i e1
      cases ec
      rw [List.append_nil] at ew
      subst ew
      exact .inl ⟨stop e1, ok2.adopt hb2 hzD ra (k.from g2)⟩
    · rename_i w e1
      obtain ⟨k1, k2⟩ := go w e1
      refine .inr ⟨k1, fun H' => ∃ B' ρ' h' acc as rest, Ok X.K (upd Z D (.lst acc)) B' ρ' H' h' ∧ Gr Z B1 ρ1 B' ρ' ∧ B' D = none ∧ RAL X.K B' ρ' acc as ∧
        compM nx g mt me (wipeT τ vs) m (i + 1) h' = some (rest, h2) ∧ ws = as ++ rest, fun H' q => ⟨m, Nat.lt_succ_self m, q⟩, fun x H3 y => ?_⟩
      obtain ⟨B3, rx, ok3, g3⟩ := k2 x H3 y
      have keep : ∀ {B' : Hp} {ρ' : Nat → Option Addr} {Ba : Hp} {ρa : Nat → Option Addr}, Ba D = none → Gr (upd Z D (.lst acc)) Ba ρa B' ρ' → B' D = none := fun {B' ρ' Ba ρa} hn g => by
        cases z : B' D with
        | none => rfl
        | some u =>
          have := g.fz D hn (by rw [z]; simp)
          rw [upd_same] at this
          cases this
      have hb3 := keep hb2 g3
      have g13 := g2.trans (g3.aside hzD)
      split at ec
      · rename_i τ3 e3
        refine hgg _ _ _ _ ⟨_, B3, ρ2, w, wipeT τ vs, τ3, h', ok3, (sl1.mono g13).wipe vs, rx, e3, fun σ4 sl4 a4 => ⟨(wipe_apart a4).trans (wipe_wipe σ vs), htt _ _ _ ⟨_, B3, ρ2, τ3, h', ok3, sl4, ?_⟩⟩⟩
        split at ec
        · rename_i h5 e5
          rw [e5]
          intro B5 ρ5 H5 ok5 g5
          refine iteT (hte _ _ _ ⟨_, B5, ρ5, τ3, h5, ok5, sl4.mono g5, ?_⟩)
          have hb5 := keep hb3 g5
          split at ec
          · rename_i a h6 e6
            rw [e6]
            intro B6 ρ6 H6 ok6 g6 v rv
            have hb6 := keep hb5 g6
            split at ec
            · rename_i r h7 e7
              cases ec
              have g36 := (g5.trans g6).aside hzD
              refine ⟨acc, ok6.zz D _ upd_same, ?_, B6, ρ6, h6, acc ++ [v], as ++ [a], r, ok6.turn hb6 hzD, g13.trans g36, hb6, (ra.mono ((g3.aside hzD).trans g36)).append (.cons rv .nil), e7, by rw [ew, List.append_assoc]; rfl⟩
              rw [ra.length, ← lim_eq]
              rw [ew, List.length_append, List.length_cons] at hl
              omega
            · cases ec
          · cases ec
        · rename_i h5 e5
          rw [e5]
          intro B5 ρ5 H5 ok5 g5
          exact iteF ⟨B5, ρ5, h5, acc, as, rest, ok5, g13.trans (g5.aside hzD), keep hb3 g5, ra.mono ((g3.aside hzD).trans (g5.aside hzD)), ec, ew⟩
        · cases ec
      · cases ec
    · cases ec
section
variable {X : Cx} {W : WX} {tg iter elt : Expr} {ifs : List Expr} {scope : Scope} {mi : E Nxt} {g : A → Sl → Hq → Option Sl} {mt : E Bool} {me : E A} {pos : Pos}
theorem rx_lc (o : Bool) (hc : X.calm = true) (hN : X.N.Nodup) (own : List (Str × Nat)) (hi : RI X W tg iter mi)
    (hg : ∀ (s : Shared) (H : Hp) (C : Addr) (cl : List (Str × Addr)) (fp : List Addr), RG (X.blk s H scope (compEnvC scope cl C X.env) fp) (own.map (·.2)) tg g) (ht : ∀ (s : Shared) (H : Hp) (C : Addr) (cl : List (Str × Addr)) (fp : List Addr), RTs (X.blk s H scope (compEnvC scope cl C X.env) fp) W0 ifs mt)
    (he : ∀ (s : Shared) (H : Hp) (C : Addr) (cl : List (Str × Addr)) (fp : List Addr), RX (X.blk s H scope (compEnvC scope cl C X.env) fp) W0 elt me) (ok : BlkOk X.N X.env.scope scope own)
    (hs : ∀ x, foldedSetIterable iter X.env x = pure x := by intro _; rfl) : RX X W (.ListComp elt [⟨tg, iter, ifs, 0⟩] scope pos) (mLC o mi g mt me (own.map (·.2))) := ⟨pe_imp (pe_lc hc hN hi.pi ok (g := fun v σ H Q => ∃ Z B ρ w τ τ' h, Ok X.K Z B ρ H h ∧ SlOk X.K B ρ σ τ ∧ RA X.K B ρ v w ∧ g w τ h = some τ' ∧ ∀ σ', SlOk X.K B ρ σ' τ' → Apart (own.map (·.2)) σ σ' → Q σ' H) (tt := tT X.K W0 mt) (te := tE X.K W0 me)
    (fun s H C cl fp => (hg s H C cl fp).pg) (fun s H C cl fp => (ht s H C cl fp).pt) (fun s H C cl fp => (he s H C cl fp).pe) hs) fun σ H Q q => by
  obtain ⟨Z, B, ρ, τ, h, okk, sl, q⟩ := q
  unfold mLC at q
  refine ⟨Z, B, ρ, τ, h, okk, sl, q.bd.imp fun nx h1 B1 ρ1 H1 ok1 g1 q1 J wk => ?_⟩
  split at q1
  · rename_i ws h2 e1
    split at q1
    · rename_i hl
      exact lc_reads (X := X) (fun _ _ _ _ h => h) (fun _ _ _ h => h) (fun _ _ _ h => h) ok1 (sl.mono g1) wk e1 hl q1
    · exact q1.elim
  · exact q1.elim⟩
theorem rs_setLc (o : Bool) {i : Nat} {y : Str} {py spos : Pos} (hc : X.calm = true) (hN : X.N.Nodup) (own : List (Str × Nat)) (hi : RI X W tg iter mi)
    (hg : ∀ (s : Shared) (H : Hp) (C : Addr) (cl : List (Str × Addr)) (fp : List Addr), RG (X.blk s H scope (compEnvC scope cl C X.env) fp) (own.map (·.2)) tg g) (ht : ∀ (s : Shared) (H : Hp) (C : Addr) (cl : List (Str × Addr)) (fp : List Addr), RTs (X.blk s H scope (compEnvC scope cl C X.env) fp) W0 ifs mt)
    (he : ∀ (s : Shared) (H : Hp) (C : Addr) (cl : List (Str × Addr)) (fp : List Addr), RX (X.blk s H scope (compEnvC scope cl C X.env) fp) W0 elt me) (ok : BlkOk X.N X.env.scope scope own)
    (hsw : swapsWith (.ListComp elt [⟨tg, iter, ifs, 0⟩] scope pos) (some (.Name y py)) spos.line X.env = pure true) (hy : X.N[i]? = some y := by rfl) (hyl : X.env.scope.names.lookup y = some .local := by rfl)
    (hs : ∀ x, foldedSetIterable iter X.env x = pure x := by intro _; rfl) : RS X W (.Assign [.Name y py] (.ListComp elt [⟨tg, iter, ifs, 0⟩] scope pos) spos) (mSet i (mLC o mi g mt me (own.map (·.2)))) := ⟨ps_imp (ps_setLc hc hN hy hyl hsw hi.pi ok (g := fun v σ H Q => ∃ Z B ρ w τ τ' h, Ok X.K Z B ρ H h ∧ SlOk X.K B ρ σ τ ∧ RA X.K B ρ v w ∧ g w τ h = some τ' ∧ ∀ σ', SlOk X.K B ρ σ' τ' → Apart (own.map (·.2)) σ σ' → Q σ' H) (tt := tT X.K W0 mt) (te := tE X.K W0 me)
    (fun s H C cl fp => (hg s H C cl fp).pg) (fun s H C cl fp => (ht s H C cl fp).pt) (fun s H C cl fp => (he s H C cl fp).pe) hs) fun D σ H q => by
  obtain ⟨Z, B, ρ, τ, h, okk, sl, q⟩ := q
  have q2 := q.sb sl
  unfold mLC at q2
  refine ⟨Z, B, ρ, τ, h, okk, sl, q2.bd.imp fun nx h1 B1 ρ1 H1 ok1 g1 q1 J wk => ?_⟩
  split at q1
  · rename_i ws h2 e1
    split at q1
    · rename_i hl
      refine lc_reads (X := X) (Q := fun x H1 => gName i x σ H1 D.nx) (fun _ _ _ _ h => h) (fun _ _ _ h => h) (fun _ _ _ h => h) ok1 (sl.mono g1) wk e1 hl (q1.imp fun w h3 B3 ρ3 H3 ok3 g3 q3 v rv => ?_)
      exact q3.nx1 ok3 (((sl.mono g1).mono g3).put rv)
    · exact q1.elim
  · exact q1.elim⟩
end
end Tq

/-! Tq7: cells that turn: lists, fields, dicts. -/
namespace Tq
open PySem PySem.Spec PyProof.Rows L2
theorem ps_or {X : Cx} {e : Stmt} {t t' : TS} (h : PS X e t) (h' : PS X e t') : PS X e fun D σ H => t D σ H ∨ t' D σ H := ⟨fun pins s σ H D I q => q.elim (h.run pins s σ H D I) (h'.run pins s σ H D I)⟩
section
variable {K : PySem.W.Frag} {Z B H : Hp} {ρ : Nat → Option Addr} {h : Hq} {v : V} {k : Nat} {ws : List A}
theorem cell_lst (ok : Ok K Z B ρ H h) (r : RA K B ρ v (.r k)) (e : h[k]? = some (.lst ws)) : ∃ a vs, v = .ref a ∧ ρ k = some a ∧ H a = some (.lst vs) ∧ RAL K B ρ vs ws ∧
    ∀ vs' ws', RAL K B ρ vs' ws' → Ok K Z B ρ (upd H a (.lst vs')) (h.set k (.lst ws')) := by
  cases r with
  | r hr =>
    obtain ⟨a, h1, h2⟩ := ok.ce _ _ e
    rw [hr] at h1
    cases h1
    cases h2 with
    | lst q1 q2 q3 q4 => exact ⟨_, _, rfl, hr, q1, q2, fun vs' ws' r' => ok.mut e hr (fun z y => by rw [q1] at y; cases y) q3 q4 (.lst upd_same r' q3 q4)⟩
end
/-! ### list methods -/
def gApp : G2 := fun a w h => match a with
  | .r k => (match h[k]? with | some (.lst ws) => if ws.length < LIM then some (.ok (.d .non) (h.set k (.lst (ws ++ [w])))) else none | _ => none)
  | _ => none
theorem og_app {K : PySem.W.Frag} : Op2 K (fun x y H Q => rAppend x [y] H Q) gApp := by
  intro Z B ρ H h x y a b W Q ok rx ry q
  unfold gApp at q
  split at q
  · split at q
    · rename_i ws e
      split at q
      · rename_i hl
        obtain ⟨p, vs, rfl, hr, h1, r1, up⟩ := cell_lst ok rx e
        exact ⟨p, vs, y, rfl, rfl, h1, by rw [r1.length, ← lim_eq]; exact hl, q.now (up _ _ (r1.append (.cons ry .nil))) |> fun z => q B ρ _ (up _ _ (r1.append (.cons ry .nil))) Gr.refl _ (.d .non)⟩
      · exact q.elim
    · exact q.elim
  · exact q.elim
def gExt : G2 := fun a w h => match a with
  | .r k => (match h[k]? with
    | some (.lst ws) => (match lstOf h w with
      | some us => if ws.length + us.length ≤ LIM then some (.ok (.d .non) (h.set k (.lst (ws ++ us)))) else none
      | none => none)
    | _ => none)
  | _ => none
theorem og_ext {K : PySem.W.Frag} : Op2 K (fun x y H Q => rExtend x [y] H Q) gExt := by
  intro Z B ρ H h x y a b W Q ok rx ry q
  unfold gExt at q
  split at q
  · split at q
    · rename_i ws e
      split at q
      · rename_i us e2
        split at q
        · rename_i hl
          obtain ⟨p, vs, rfl, hr, h1, r1, up⟩ := cell_lst ok rx e
          obtain ⟨p', zs, rfl, h2, r2⟩ := lstOf_ra ok ry e2
          exact ⟨p, p', vs, zs, rfl, rfl, h1, h2, by rw [r1.length, r2.length, ← lim_eq]; exact hl, q B ρ _ (up _ _ (r1.append r2)) Gr.refl _ (.d .non)⟩
        · exact q.elim
      · exact q.elim
    · exact q.elim
  · exact q.elim
def gRev : G1 := fun a h => match a with
  | .r k => (match h[k]? with | some (.lst ws) => some (.ok (.d .non) (h.set k (.lst ws.reverse))) | _ => none)
  | _ => none
theorem og_rev {K : PySem.W.Frag} : Op1 K (fun x H Q => rReverse x [] H Q) gRev := by
  intro Z B ρ H h x a W Q ok rx q
  unfold gRev at q
  split at q
  · split at q
    · rename_i ws e
      obtain ⟨p, vs, rfl, hr, h1, r1, up⟩ := cell_lst ok rx e
      exact ⟨p, vs, rfl, rfl, h1, q B ρ _ (up _ _ r1.reverse) Gr.refl _ (.d .non)⟩
    · exact q.elim
  · exact q.elim
def gPop : G1 := fun a h => match a with
  | .r k => (match h[k]? with | some (.lst ws) => (match ws[ws.length - 1]? with | some w => some (.ok w (h.set k (.lst ws.dropLast))) | none => none) | _ => none)
  | _ => none
theorem RAL.dropLast {K : PySem.W.Frag} {B : Hp} {ρ : Nat → Option Addr} {vs : List V} {ws : List A} (r : RAL K B ρ vs ws) : RAL K B ρ vs.dropLast ws.dropLast := by
  rw [List.dropLast_eq_take, List.dropLast_eq_take, r.length]
  exact r.take _
theorem og_pop {K : PySem.W.Frag} : Op1 K (fun x H Q => rPop x [] H Q) gPop := by
  intro Z B ρ H h x a W Q ok rx q
  unfold gPop at q
  split at q
  · split at q
    · rename_i ws e
      split at q
      · rename_i w e2
        obtain ⟨p, vs, rfl, hr, h1, r1, up⟩ := cell_lst ok rx e
        obtain ⟨v, h2, r2⟩ := r1.get e2
        exact ⟨p, vs, v, rfl, rfl, h1, by rw [r1.length]; exact h2, q B ρ _ (up _ _ r1.dropLast) Gr.refl _ r2⟩
      · exact q.elim
    · exact q.elim
  · exact q.elim
section
variable {X : Cx} {W : WX} {a b : Expr} {ma mb : E A} {pos apos : Pos}
theorem rx_append (ha : RX X W a ma) (hb : RX X W b mb) (hbase : attributeBase a "append" X.env (eval a X.env) = eval a X.env := by rfl)
    (hfew : ((backTo pos (starEach (b :: []) X.env)).all (fun x => !x.1) && (backToKw pos (keywordEach [] X.env)).all (fun x => x.1.isSome)
      && decide ((b :: []).length + ([] : List Keyword).length + (if ([] : List Keyword).isEmpty then 0 else 1) < 30)) = true := by rfl)
    (hline : (apos.endLine == pos.line) = true := by rfl) (hs : starEach (b :: []) X.env = (false, eval b X.env) :: starEach [] X.env := by rfl) : RX X W (.Call (.Attribute a "append" apos) [b] [] pos) (mM1 tokL gApp ma mb) :=
  rx_m1 F.plainAttrs_list F.slot_list_append F.type_list_append mt_append tokL tokL_ty og_app ha hb hbase hfew hline hs
theorem rx_extend (ha : RX X W a ma) (hb : RX X W b mb) (hbase : attributeBase a "extend" X.env (eval a X.env) = eval a X.env := by rfl)
    (hfew : ((backTo pos (starEach (b :: []) X.env)).all (fun x => !x.1) && (backToKw pos (keywordEach [] X.env)).all (fun x => x.1.isSome)
      && decide ((b :: []).length + ([] : List Keyword).length + (if ([] : List Keyword).isEmpty then 0 else 1) < 30)) = true := by rfl)
    (hline : (apos.endLine == pos.line) = true := by rfl) (hs : starEach (b :: []) X.env = (false, eval b X.env) :: starEach [] X.env := by rfl) : RX X W (.Call (.Attribute a "extend" apos) [b] [] pos) (mM1 tokL gExt ma mb) :=
  rx_m1 F.plainAttrs_list F.slot_list_extend F.type_list_extend mt_extend tokL tokL_ty og_ext ha hb hbase hfew hline hs
theorem rx_reverse (ha : RX X W a ma) (hbase : attributeBase a "reverse" X.env (eval a X.env) = eval a X.env := by rfl) (hline : (apos.endLine == pos.line) = true := by rfl) : RX X W (.Call (.Attribute a "reverse" apos) [] [] pos) (mM0 tokL gRev ma) :=
  rx_m0 F.plainAttrs_list F.slot_list_reverse F.type_list_reverse mt_reverse tokL tokL_ty og_rev ha hbase hline
theorem rx_pop0 (ha : RX X W a ma) (hbase : attributeBase a "pop" X.env (eval a X.env) = eval a X.env := by rfl) (hline : (apos.endLine == pos.line) = true := by rfl) : RX X W (.Call (.Attribute a "pop" apos) [] [] pos) (mM0 tokL gPop ma) :=
  rx_m0 F.plainAttrs_list F.slot_list_pop F.type_list_pop mt_pop tokL tokL_ty og_pop ha hbase hline
end

/-! ### keys, parts by keys -/
def keyD : D → Option Key
  | .int i => some (.inl i)
  | .str x => some (.inr x)
  | _ => none
def keysD : List D → Option (List Key)
  | [] => some []
  | d :: r => match keyD d, keysD r with | some k, some ks => some (k :: ks) | _, _ => none
def keyA : A → Option Key
  | .d d => keyD d
  | _ => none
def keyT : A → Option (List Key)
  | .d (.tup ds) => keysD ds
  | _ => none
theorem keyD_rp {K : PySem.W.Frag} {B : Hp} {v : V} {d : D} {k : Key} (r : Rp K B v d) (h : keyD d = some k) : v = kV k := by
  cases r <;> first | (cases h; rfl) | cases h
theorem keysD_rp {K : PySem.W.Frag} {B : Hp} : ∀ {vs : List V} {ds : List D} {ks : List Key}, RpL K B vs ds → keysD ds = some ks → vs = ks.map kV
  | _, _, _, .nil, h => by cases h; rfl
  | _, d :: r, ks, .cons w wl, h => by
    unfold keysD at h
    split at h
    · rename_i k ks' h1 h2
      cases h
      rw [keyD_rp w h1, keysD_rp wl h2]
      rfl
    · cases h
section
variable {κ α : Type} [DecidableEq κ]
def dGet (k : κ) : List κ → List α → Option α
  | k' :: ks, s :: ss => if k' = k then some s else dGet k ks ss
  | _, _ => none
def dPut (k : κ) (s : α) : List κ → List α → List κ × List α
  | k' :: ks, s' :: ss => if k' = k then (k' :: ks, s :: ss) else ((k' :: (dPut k s ks ss).1), (s' :: (dPut k s ks ss).2))
  | ks, _ => if ks = [] then ([k], [s]) else (ks, [])
end
section
variable {κ : Type} [DecidableEq κ] {K : PySem.W.Frag} {B : Hp} {ρ : Nat → Option Addr}
theorem dGet_ok {k : κ} : ∀ {ks : List κ} {vs : List V} {ws : List A}, RAL K B ρ vs ws → ks.length = vs.length →
    (dGet k ks ws = none → valV (ks.zip vs) k = none) ∧ ∀ w, dGet k ks ws = some w → ∃ v, valV (ks.zip vs) k = some v ∧ RA K B ρ v w
  | [], _, _, r, _ => ⟨fun _ => by simp [valV], fun w h => by cases r <;> cases h⟩
  | k' :: ks, _, _, .nil, e => by simp at e
  | k' :: ks, _, _, .cons (v := v) (vs := vr) (w := s) (ws := sr) w wl, e => by
    have ih := dGet_ok (k := k) (ks := ks) wl (by simpa using e)
    by_cases z : k' = k
    · refine ⟨fun h => ?_, fun x h => ⟨v, ?_, ?_⟩⟩
      · simp [dGet, z] at h
      · rw [List.zip_cons_cons]; exact valV_pos z
      · simp [dGet, z] at h
        subst h
        exact w
    · have e1 : dGet k (k' :: ks) (s :: sr) = dGet k ks sr := by simp [dGet, z]
      have e2 : valV ((k' :: ks).zip (v :: vr)) k = valV (ks.zip vr) k := by rw [List.zip_cons_cons]; exact valV_neg z
      rw [e1, e2]
      exact ih
/-- the pairs with k: v, by place -/
def putZ (k : κ) (v : V) : List (κ × V) → List (κ × V)
  | [] => [(k, v)]
  | (k', x) :: r => if k' = k then (k', v) :: r else (k', x) :: putZ k v r
theorem map_other {k : κ} {v : V} : ∀ {l : List (κ × V)}, (∀ p ∈ l, p.1 ≠ k) → l.map (fun kv => if kv.1 = k then (kv.1, v) else kv) = l
  | [], _ => rfl
  | p :: r, h => by
    rw [List.map_cons, if_neg (h p (List.mem_cons_self ..)), map_other fun q hq => h q (List.mem_cons_of_mem _ hq)]
theorem putK_eq {k : κ} {v : V} : ∀ {l : List (κ × V)}, (l.map (·.1)).Nodup → putK l k v = putZ k v l
  | [], _ => by simp [putK, putZ]
  | (k', x) :: r, nd => by
    have nd : (k' :: r.map (·.1)).Nodup := nd
    obtain ⟨n1, n2⟩ := List.nodup_cons.mp nd
    have ih := putK_eq (k := k) (v := v) n2
    unfold putZ
    by_cases z : k' = k
    · subst z
      rw [if_pos rfl]
      unfold putK
      have : ((k', x) :: r).any (fun kv => decide (kv.1 = k')) = true := by simp
      rw [if_pos this, List.map_cons, if_pos rfl, map_other fun p hp e => n1 (by rw [← e]; exact List.mem_map_of_mem hp)]
    · rw [if_neg z]
      unfold putK at ih ⊢
      have e1 : ((k', x) :: r).any (fun kv => decide (kv.1 = k)) = r.any (fun kv => decide (kv.1 = k)) := by simp [z]
      rw [e1]
      by_cases y : r.any (fun kv => decide (kv.1 = k)) = true
      · rw [if_pos y] at ih ⊢
        rw [List.map_cons, if_neg z, ih]
      · rw [if_neg y] at ih ⊢
        rw [List.cons_append, ih]
theorem dPut_ok {k : κ} {v : V} {w : A} (rv : RA K B ρ v w) : ∀ {ks : List κ} {vs : List V} {ws : List A}, RAL K B ρ vs ws → ks.length = vs.length →
    ∃ vs', putZ k v (ks.zip vs) = (dPut k w ks ws).1.zip vs' ∧ (dPut k w ks ws).1.length = vs'.length ∧ RAL K B ρ vs' (dPut k w ks ws).2 ∧ (dPut k w ks ws).1 = if k ∈ ks then ks else ks ++ [k]
  | [], _, _, r, e => by
    cases r with
    | nil => exact ⟨[v], by simp [dPut, putZ], by simp [dPut], by simpa [dPut] using RAL.cons rv .nil, by simp [dPut]⟩
    | cons _ _ => simp at e
  | k' :: ks, _, _, .nil, e => by simp at e
  | k' :: ks, _, _, .cons (v := u) (vs := vr) (w := s) (ws := sr) w0 wl, e => by
    obtain ⟨vs', h1, h2, h3, h4⟩ := dPut_ok (k := k) rv (ks := ks) wl (by simpa using e)
    by_cases z : k' = k
    · refine ⟨v :: vr, ?_, ?_, ?_, ?_⟩
      · simp [dPut, putZ, z]
      · simp [dPut, z]; simpa using e
      · simp only [dPut, if_pos z]; exact .cons rv wl
      · simp [dPut, z]
    · refine ⟨u :: vs', ?_, ?_, ?_, ?_⟩
      · simp only [dPut, if_neg z, List.zip_cons_cons, putZ]
        rw [h1]
      · simp [dPut, z, h2]
      · simp only [dPut, if_neg z]; exact .cons w0 h3
      · simp only [dPut, if_neg z, List.mem_cons, Ne.symm z, false_or]
        rw [h4]
        by_cases y : k ∈ ks
        · rw [if_pos y, if_pos y]
        · rw [if_neg y, if_neg y]; rfl
end
/-- what is at a key; none: the value has no such reading; some none: nothing is there -/
def hGet (hd : Hd) (ws : List A) (kd : A) : Option (Option A) := match hd with
  | .dic ks => (keyA kd).map fun k => dGet k ks ws
  | .dit ks => (keyT kd).map fun k => dGet k ks ws
  | .ins _ _ => none
def hPut (hd : Hd) (ws : List A) (kd w : A) : Option (Hd × List A) := match hd with
  | .dic ks => if ks.Nodup ∧ ks.length < LIM then (keyA kd).map fun k => (.dic (dPut k w ks ws).1, (dPut k w ks ws).2) else none
  | .dit ks => if ks.Nodup ∧ ks.length < LIM then (keyT kd).map fun k => (.dit (dPut k w ks ws).1, (dPut k w ks ws).2) else none
  | .ins _ _ => none
/-- a dict, whatever it is in -/
def dicOf (h : Hq) : A → Option (Hd × List A)
  | .d (.nd hd xs) => some (hd, xs.map A.d)
  | .r k => match h[k]? with | some (.nd hd ws) => some (hd, ws) | _ => none
  | _ => none
section
variable {K : PySem.W.Frag} {Z B H : Hp} {ρ : Nat → Option Addr} {h : Hq} {x y v : V} {a kd w : A} {hd : Hd} {ws : List A}
theorem dicOf_ra (ok : Ok K Z B ρ H h) (r : RA K B ρ x a) (e : dicOf h a = some (hd, ws)) : ∃ p vs own, x = .ref p ∧ HdAt K H p hd vs own ∧ RAL K B ρ vs ws := by
  unfold dicOf at e
  split at e
  · cases e
    cases ra_d r with
    | nd h1 r1 => exact ⟨_, _, _, rfl, h1.to fun b _ u z => ok.ex b u z, ral_ds r1⟩
  · split at e
    · rename_i e1
      cases e
      cases r with
      | r hr =>
        obtain ⟨p, h1, h2⟩ := ok.ce _ _ e1
        rw [hr] at h1
        cases h1
        cases h2 with
        | nd q1 q2 q3 => exact ⟨_, _, _, rfl, q1, q2⟩
    · cases e
  · cases e
theorem hGet_isD {p : Addr} {vs : List V} {own : List Addr} {o : Option A} (x : HdAt K H p hd vs own) (e : hGet hd ws kd = some o) : IsD H p := by
  cases x with
  | dic h1 _ => exact .inl ⟨_, .inl h1⟩
  | dit h1 _ => exact .inr ⟨_, .inl h1⟩
  | ins => cases e
theorem hGet_ok {p : Addr} {vs : List V} {own : List Addr} {o : Option A} (ok : Ok K Z B ρ H h) (x : HdAt K H p hd vs own) (r : RAL K B ρ vs ws) (ry : RA K B ρ y kd) (e : hGet hd ws kd = some o) :
    (o = none → DGet H p y none) ∧ ∀ w, o = some w → ∃ v, DGet H p y (some v) ∧ RA K B ρ v w := by
  cases x with
  | dic h1 h2 =>
    obtain ⟨k, hk, rfl⟩ := Option.map_eq_some_iff.mp e
    have hy : y = kV k := by
      unfold keyA at hk
      split at hk
      · exact keyD_rp (ra_d ry) hk
      · cases hk
    subst hy
    obtain ⟨g1, g2⟩ := dGet_ok (k := k) r h2
    refine ⟨fun z => ?_, fun w z => ?_⟩
    · rw [← g1 z]; exact .k h1
    · obtain ⟨v, q1, q2⟩ := g2 w z
      exact ⟨v, by rw [← q1]; exact .k h1, q2⟩
  | dit h1 h2 =>
    obtain ⟨k, hk, rfl⟩ := Option.map_eq_some_iff.mp e
    have hy : ∃ b, y = .ref b ∧ H b = some (.tup (k.map kV)) := by
      unfold keyT at hk
      split at hk
      · cases ra_d ry with
        | tup q1 q2 => exact ⟨_, rfl, by rw [ok.ex _ _ q1, keysD_rp q2 hk]⟩
      · cases hk
    obtain ⟨b, rfl, hb⟩ := hy
    obtain ⟨g1, g2⟩ := dGet_ok (k := k) r h2
    refine ⟨fun z => ?_, fun w z => ?_⟩
    · rw [← g1 z]; exact .t h1 hb
    · obtain ⟨v, q1, q2⟩ := g2 w z
      exact ⟨v, by rw [← q1]; exact .t h1 hb, q2⟩
  | ins => cases e
theorem map_fst_zip {κ : Type} : ∀ {ks : List κ} {vs : List V}, ks.length = vs.length → (ks.zip vs).map (·.1) = ks
  | [], _, _ => rfl
  | _ :: _, [], e => by simp at e
  | k :: ks, v :: vs, e => by rw [List.zip_cons_cons, List.map_cons, map_fst_zip (by simpa using e)]
theorem hPut_ok {p : Addr} {vs : List V} {own : List Addr} {hd' : Hd} {ws' : List A} (ok : Ok K Z B ρ H h) (x : HdAt K H p hd vs own) (r : RAL K B ρ vs ws) (ry : RA K B ρ y kd) (rv : RA K B ρ v w) (e : hPut hd ws kd w = some (hd', ws')) :
    ∃ (o : HO) (vs' : List V), DPut H p y v (upd H p o) ∧ own = [p] ∧ HdAt K (upd H p o) p hd' vs' own ∧ RAL K B ρ vs' ws' := by
  cases x with
  | dic h1 h2 =>
    unfold hPut at e
    dsimp only at e
    split at e
    · rename_i hn
      obtain ⟨k, hk, e⟩ := Option.map_eq_some_iff.mp e
      cases e
      have hy : y = kV k := by
        unfold keyA at hk
        split at hk
        · exact keyD_rp (ra_d ry) hk
        · cases hk
      subst hy
      obtain ⟨vs', q1, q2, q3, _⟩ := dPut_ok (k := k) rv r h2
      refine ⟨_, vs', .k h1 (by rw [List.length_zip, ← h2, Nat.min_self, ← lim_eq]; exact hn.2), rfl, .dic ?_ q2, q3⟩
      rw [upd_same, putK_eq (by rw [map_fst_zip h2]; exact hn.1), q1]
    · cases e
  | dit h1 h2 =>
    unfold hPut at e
    dsimp only at e
    split at e
    · rename_i hn
      obtain ⟨k, hk, e⟩ := Option.map_eq_some_iff.mp e
      cases e
      have hy : ∃ b, y = .ref b ∧ H b = some (.tup (k.map kV)) := by
        unfold keyT at hk
        split at hk
        · cases ra_d ry with
          | tup q1 q2 => exact ⟨_, rfl, by rw [ok.ex _ _ q1, keysD_rp q2 hk]⟩
        · cases hk
      obtain ⟨b, rfl, hb⟩ := hy
      obtain ⟨vs', q1, q2, q3, _⟩ := dPut_ok (k := k) rv r h2
      refine ⟨_, vs', .t h1 hb (by rw [List.length_zip, ← h2, Nat.min_self, ← lim_eq]; exact hn.2), rfl, .dit ?_ q2, q3⟩
      rw [upd_same, putK_eq (by rw [map_fst_zip h2]; exact hn.1), q1]
    · cases e
  | ins => cases e
/-- a cell with parts turns, its own dict stays -/
theorem cell_nd (ok : Ok K Z B ρ H h) {k : Nat} (r : RA K B ρ v (.r k)) (e : h[k]? = some (.nd hd ws)) : ∃ a vs own, v = .ref a ∧ ρ k = some a ∧ HdAt K H a hd vs own ∧ RAL K B ρ vs ws ∧
    ∀ o hd' vs' ws', HdAt K (upd H a o) a hd' vs' own → RAL K B ρ vs' ws' → Ok K Z B ρ (upd H a o) (h.set k (.nd hd' ws')) := by
  cases r with
  | r hr =>
    obtain ⟨a, h1, h2⟩ := ok.ce _ _ e
    rw [hr] at h1
    cases h1
    cases h2 with
    | nd q1 q2 q3 => exact ⟨_, _, _, rfl, hr, q1, q2, fun o hd' vs' ws' x' r' => ok.mut e hr q1.own_or.2.2.2.2 (q3 _ q1.own_or.1).1 (q3 _ q1.own_or.1).2 (.nd x' r' q3)⟩
end

/-! ### xs[i], d[k] -/
def gGetD : G2 := fun a kd h => match dicOf h a with
  | some (hd, ws) => (match hGet hd ws kd with | some (some w) => some (.ok w h) | _ => none)
  | none => none
def gGet : G2 := fun a kd h => if (dicOf h a).isSome then gGetD a kd h else gIx a kd h
section
variable {X : Cx} {W : WX} {a b : Expr} {ma mb : E A} {pos : Pos}
/-- of a list, a tuple, a text, a dict -/
theorem rx_sub (hu : X.A.units + 1 < cLine) (ha : RX X W a ma) (hb : RX X W b mb) (hs : PlainIx b := by exact fun _ _ => rfl) (hs2 : NoSl b := by exact fun _ _ => rfl) : RX X W (.Subscript a b pos) (mBin gGet ma mb) := ⟨pe_imp (pe_or (pe_ix ix_seq ha.pe hb.pe hs) (pe_dget hu ha.pe hb.pe hs2)) fun σ H Q q => by
  obtain ⟨Z, B, ρ, τ, h, ok, sl, q⟩ := q
  unfold mBin at q
  have dec : ∀ (r : Option (Rs A)), Post X.K Z (fun c d H' => W c d σ H') B ρ (fun w _ B' ρ' H' => ∀ v, RA X.K B' ρ' v w → Q v H') (bd r fun a h1 => bd (mb τ h1) fun b h2 => gGet a b h2) →
      Post X.K Z (fun c d H' => W c d σ H') B ρ (fun w _ B' ρ' H' => ∀ v, RA X.K B' ρ' v w → tE X.K W mb σ H' fun y H2 => rIx X.K v y H2 Q) r ∨
      Post X.K Z (fun c d H' => W c d σ H') B ρ (fun w _ B' ρ' H' => ∀ v, RA X.K B' ρ' v w → tE X.K W mb σ H' fun y H2 => ∃ a v', v = .ref a ∧ DGet H2 a y (some v') ∧ Q v' H2) r := by
    intro r q
    match r, q with
    | some (.ex x h), q => exact .inl q
    | some (.ok a h1), q =>
      have q : Post X.K Z (fun c d H' => W c d σ H') B ρ (fun w _ B' ρ' H' => ∀ v, RA X.K B' ρ' v w → Q v H') (bd (mb τ h1) fun b h2 => gGet a b h2) := q
      -- what the other evaluation says
      have dec2 : ∀ (r2 : Option (Rs A)), Post X.K Z (fun c d H' => W c d σ H') B ρ (fun w _ B' ρ' H' => ∀ v, RA X.K B' ρ' v w → Q v H') (bd r2 fun b h2 => gGet a b h2) →
          (∀ b h2, r2 = some (.ok b h2) → dicOf h2 a = none) ∨ ∃ b h2 hw, r2 = some (.ok b h2) ∧ dicOf h2 a = some hw := by
        intro r2 _
        match r2 with
        | none => exact .inl fun _ _ e => by cases e
        | some (.ex _ _) => exact .inl fun _ _ e => by cases e
        | some (.ok b h2) =>
          cases e : dicOf h2 a with
          | none => exact .inl fun _ _ z => by cases z; exact e
          | some hw => exact .inr ⟨b, h2, hw, rfl, e⟩
      rcases dec2 (mb τ h1) q with hn | ⟨b, h2, hw, e1, e2⟩
      · refine .inl fun B1 ρ1 H1 ok1 g1 v rv => ⟨Z, B1, ρ1, τ, h1, ok1, sl.mono g1, ?_⟩
        have q := (q.from g1).bd
        revert q hn
        cases mb τ h1 with
        | none => exact fun _ q => q
        | some r2 =>
          cases r2 with
          | ex _ _ => exact fun _ q => q
          | ok b h2 =>
            intro hn q B2 ρ2 H2 ok2 g2 y ry
            have q : Post X.K Z (fun c d H' => W c d σ H') B2 ρ2 (fun w _ B' ρ' H' => ∀ v, RA X.K B' ρ' v w → Q v H') (gGet a b h2) := q B2 ρ2 H2 ok2 g2
            unfold gGet at q
            rw [hn b h2 rfl] at q
            exact og_ix Z B2 ρ2 H2 h2 v y a b _ Q ok2 (rv.mono g2) ry q
      · refine .inr fun B1 ρ1 H1 ok1 g1 v rv => ⟨Z, B1, ρ1, τ, h1, ok1, sl.mono g1, ?_⟩
        have q := (q.from g1).bd
        rw [e1] at q ⊢
        intro B2 ρ2 H2 ok2 g2 y ry
        have q : Post X.K Z (fun c d H' => W c d σ H') B2 ρ2 (fun w _ B' ρ' H' => ∀ v, RA X.K B' ρ' v w → Q v H') (gGet a b h2) := q B2 ρ2 H2 ok2 g2
        unfold gGet at q
        rw [e2] at q
        have q : Post X.K Z (fun c d H' => W c d σ H') B2 ρ2 (fun w _ B' ρ' H' => ∀ v, RA X.K B' ρ' v w → Q v H') (gGetD a b h2) := q
        unfold gGetD at q
        rw [e2] at q
        obtain ⟨hd, ws⟩ := hw
        dsimp only at q
        split at q
        · rename_i w e3
          obtain ⟨p, vs, own, rfl, x1, r1⟩ := dicOf_ra ok2 (rv.mono g2) e2
          obtain ⟨v', g, rv'⟩ := (hGet_ok ok2 x1 r1 ry e3).2 w rfl
          exact ⟨p, v', rfl, g, q.now ok2 _ rv'⟩
        · exact q.elim
  rcases dec (ma τ h) q with q | q
  · exact .inl ⟨Z, B, ρ, τ, h, ok, sl, q⟩
  · exact .inr ⟨Z, B, ρ, τ, h, ok, sl, q⟩⟩
end
/-! ### a[i] = v, d[k] = v -/
def putA (a kd w : A) (h : Hq) : Option Hq := match a with
  | .r k => (match h[k]? with
    | some (.lst ws) => (match kd with
      | .d (.int i) => (match ixN ws.length i with | some n => some (h.set k (.lst (ws.set n w))) | none => none)
      | _ => none)
    | some (.nd hd ws) => (match hPut hd ws kd w with | some (hd', ws') => some (h.set k (.nd hd' ws')) | none => none)
    | _ => none)
  | _ => none
def isLst (h : Hq) : A → Bool
  | .r k => match h[k]? with | some (.lst _) => true | _ => false
  | _ => false
/-- value, object, index -/
def mSetI (lst : Bool) (mo mi mv : E A) : MS := fun τ h => sb τ (mv τ h) fun w h1 => sb τ (mo τ h1) fun a h2 => sb τ (mi τ h2) fun kd h3 => if isLst h3 a = lst then (match putA a kd w h3 with | some h4 => some (.nx τ h4) | none => none) else none
section
variable {X : Cx} {W : WX} {o i e : Expr} {mo mi mv : E A} {pos tpos : Pos}
theorem rs_setL (ho : RX X W o mo) (hi : RX X W i mi) (hv : RX X W e mv) (hs : swapsWithSole [.Subscript o i tpos] e pos.line X.env = pure false := by rfl) (hw : swappedStores [.Subscript o i tpos] e X.env = pure none := by rfl)
    (h1 : (assignEach [.Subscript o i tpos] X.env).map (·.2) = [assign (.Subscript o i tpos) X.env] := by rfl)
    (ha : ∀ v, assign (.Subscript o i tpos) X.env v = (do
      let ov ← holding [v] (eval o X.env)
      let iv ← holding [v, ov] (eval i X.env)
      standAt tpos
      holding [v, ov, iv] (setItem ov iv v)
      release [v, ov, iv] []) := by intro _; rfl) : RS X W (.Assign [.Subscript o i tpos] e pos) (mSetI true mo mi mv) := ⟨ps_imp (ps_asg hv.pe (pg_sub ho.pe hi.pe set_list ha) hs hw h1) fun D σ H q => by
  obtain ⟨Z, B, ρ, τ, h, ok, sl, q⟩ := q
  refine ts_bd ok sl q fun v w h1 B1 ρ1 H1 rv ok1 sl1 g1 q1 => ts_bd ok1 sl1 q1 fun x a h2 B2 ρ2 H2 rx ok2 sl2 g2 q2 => ts_bd ok2 sl2 q2 fun y kd h3 B3 ρ3 H3 ry ok3 sl3 g3 q3 => ?_
  split at q3
  · rename_i hl
    split at q3
    · rename_i h4 e4
      unfold isLst at hl
      split at hl
      · split at hl
        · rename_i k ws e5
          unfold putA at e4
          dsimp only at e4
          rw [e5] at e4
          dsimp only at e4
          split at e4
          · rename_i j
            split at e4
            · rename_i n e6
              cases e4
              cases ra_int ry
              obtain ⟨p, vs, rfl, hr, h1', r1, up⟩ := cell_lst ok3 (rx.mono g3) e5
              exact ⟨p, vs, j, n, rfl, rfl, h1', by rw [r1.length]; exact e6, q3.nx1 (up _ _ (r1.set n (rv.mono (g2.trans g3)))) sl3⟩
            · cases e4
          · cases e4
        · cases hl
      · cases hl
    · exact q3.elim
  · exact q3.elim⟩
theorem rs_setD (hu : X.A.units + 1 < cLine) (ho : RX X W o mo) (hi : RX X W i mi) (hv : RX X W e mv) (hs : swapsWith e (some (.Subscript o i tpos)) pos.line X.env = pure false := by rfl) : RS X W (.Assign [.Subscript o i tpos] e pos) (mSetI false mo mi mv) := ⟨ps_imp (ps_dput hu ho.pe hi.pe hv.pe hs) fun D σ H q => by
  obtain ⟨Z, B, ρ, τ, h, ok, sl, q⟩ := q
  refine ts_bd ok sl q fun v w h1 B1 ρ1 H1 rv ok1 sl1 g1 q1 => ts_bd ok1 sl1 q1 fun x a h2 B2 ρ2 H2 rx ok2 sl2 g2 q2 => ts_bd ok2 sl2 q2 fun y kd h3 B3 ρ3 H3 ry ok3 sl3 g3 q3 => ?_
  split at q3
  · rename_i hl
    split at q3
    · rename_i h4 e4
      unfold putA at e4
      split at e4
      · rename_i k
        split at e4
        · rename_i ws e5
          unfold isLst at hl
          dsimp only at hl
          rw [e5] at hl
          cases hl
        · rename_i hd ws e5
          split at e4
          · rename_i hd' ws' e6
            cases e4
            obtain ⟨p, vs, own, rfl, hr, x1, r1, up⟩ := cell_nd ok3 (rx.mono g3) e5
            obtain ⟨o', vs', d1, d2, d3, d4⟩ := hPut_ok ok3 x1 r1 ry (rv.mono (g2.trans g3)) e6
            exact ⟨p, _, rfl, d1, q3.nx1 (up _ _ _ _ d3 d4) sl3⟩
          · cases e4
        · cases e4
      · cases e4
    · exact q3.elim
  · exact q3.elim⟩
/-- o[i] op= e: object, index, what is there, value -/
def mAugI (lst : Bool) (g : G2) (mo mi mv : E A) : MS := fun τ h => sb τ (mo τ h) fun a h1 => sb τ (mi τ h1) fun kd h2 => sb τ (if lst = true then (if isLst h2 a = true then gIx a kd h2 else none) else gGetD a kd h2) fun u h2' => sb τ (mv τ h2') fun w h3 => sb τ (g u w h3) fun z h4 =>
  if isLst h4 a = lst then (match putA a kd z h4 with | some h5 => some (.nx τ h5) | none => none) else none
theorem get_list : ∀ (pins : List (Addr × Obj)) (s : Shared) (σ : L2.St) (H : Hp) (o i : V) (ov iv : Value) (Q : VK), Inv X pins σ H s → RelV o ov → RelV i iv → rIxL X.K o i H Q →
    wpAny (model X.prog X.w) X.A (getItem ov iv) (EP X pins σ Q) X.xe s := by
  intro pins s σ H x y v u Q I rx ry h
  obtain ⟨p, xs, i, z, rfl, rfl, hq, he, q⟩ := h
  cases rx
  obtain ⟨t, rfl⟩ := ry
  obtain ⟨its, r, pl, hz⟩ := I.list hq
  obtain ⟨j, h1, h2, h3, h4, h5⟩ := atI_get he
  obtain ⟨w, ew, rw'⟩ := r.get h2
  have hl := r.length
  have hn := line63
  have fin : EP X pins σ Q w s := ⟨z, H, I, rw', q⟩
  by_cases h0 : 0 ≤ i
  · have hj : i.toNat = j := by
      rw [seqIndex_of h0 h5] at h1
      exact Option.some.inj h1
    exact wpAny_getItem_list pl.isList h0 (by omega) (by rw [hj]; simpa using ew) fin
  · have hj : (i + (its.toArray.size : Int)).toNat = j := by
      rw [seqIndex_neg (by omega) h4] at h1
      rw [List.size_toArray, ← hl]
      exact Option.some.inj h1
    exact wpAny_getItem_list_neg pl.isList (by omega) (by rw [List.size_toArray] <;> omega) (by omega) (by rw [hj]; simpa using ew) fin
theorem rs_augL {op : Operator} {r : R2} {g : G2} (hop : OpR X (inplaceOp op) r) (og : Op2 X.K r g) (ho : RX X W o mo) (hi : RX X W i mi) (hv : RX X W e mv)
    (ha : ∀ ov iv new, augStore i ov iv new = (do holding [new, ov, iv] (setItem ov iv new); release [new, ov, iv] []; pure .next) := by intros; rfl) : RS X W (.AugAssign (.Subscript o i tpos) op e pos) (mAugI true g mo mi mv) := ⟨ps_imp (ps_augS ho.pe hi.pe get_list hv.pe hop set_list ha) fun D σ H q => by
  obtain ⟨Z, B, ρ, τ, h, ok, sl, q⟩ := q
  refine ts_bd ok sl q fun x a h1 B1 ρ1 H1 rx ok1 sl1 g1 q1 => ts_bd ok1 sl1 q1 fun y kd h2 B2 ρ2 H2 ry ok2 sl2 g2 q2 => ?_
  rw [if_pos rfl] at q2
  split at q2
  · rename_i hl2
    have rx2 := rx.mono g2
    unfold isLst at hl2
    split at hl2
    · rename_i k
      split at hl2
      · rename_i ws e5
        obtain ⟨p, vs, rfl, hr, h1', r1, up⟩ := cell_lst ok2 rx2 e5
        have tn : tupOf (.r k) = none := rfl
        have ln : lstOf h2 (.r k) = some ws := by unfold lstOf; dsimp only; rw [e5]
        unfold gIx at q2
        split at q2
        · rename_i j
          dsimp only at q2
          rw [tn, ln] at q2
          dsimp only at q2
          cases e6 : atI ws j with
          | none => rw [e6] at q2; exact q2.elim
          | some u =>
            rw [e6] at q2
            cases ra_int ry
            obtain ⟨n, e4, e5'⟩ := atI_some e6
            obtain ⟨v0, e7, r2⟩ := r1.get e5'
            refine ⟨p, vs, j, v0, rfl, rfl, SqL.of h1', atI_of r1.length e4 e7, ts_bd ok2 sl2 q2 fun v w h3 B3 ρ3 H3 rv ok3 sl3 g3 q3 => ?_⟩
            refine og Z B3 ρ3 H3 h3 v0 v u w _ _ ok3 (r2.mono g3) rv ((q3.sb sl3).imp fun z h4 B4 ρ4 H4 ok4 g4 q4 zv rz => ?_)
            split at q4
            · rename_i hl4
              split at q4
              · rename_i h5 e8
                unfold isLst at hl4
                dsimp only at hl4
                split at hl4
                · rename_i ws4 e9
                  unfold putA at e8
                  dsimp only at e8
                  rw [e9] at e8
                  dsimp only at e8
                  split at e8
                  · rename_i n4 e10
                    cases e8
                    obtain ⟨p4, vs4, ep, hr4, h4', r4, up4⟩ := cell_lst ok4 (rx2.mono (g3.trans g4)) e9
                    cases ep
                    exact ⟨p, vs4, j, n4, rfl, rfl, h4', by rw [r4.length]; exact e10, q4.nx1 (up4 _ _ (r4.set n4 rz)) (sl3.mono g4)⟩
                  · cases e8
                · cases hl4
              · exact q4.elim
            · exact q4.elim
        · exact q2.elim
      · cases hl2
    · cases hl2
  · exact q2.elim⟩
theorem rs_augD {op : Operator} {r : R2} {g : G2} (hu : X.A.units + 1 < cLine) (hop : OpR X (inplaceOp op) r) (og : Op2 X.K r g) (ho : RX X W o mo) (hi : RX X W i mi) (hv : RX X W e mv)
    (ha : ∀ ov iv new, augStore i ov iv new = (do holding [new, ov, iv] (setItem ov iv new); release [new, ov, iv] []; pure .next) := by intro _ _ _; rfl) : RS X W (.AugAssign (.Subscript o i tpos) op e pos) (mAugI false g mo mi mv) := ⟨ps_imp (ps_daug hu ho.pe hi.pe hv.pe (fun pins s σ H x y u v Q I rx ry h => hop pins s σ H x y u v Q I rx ry h) ha) fun D σ H q => by
  obtain ⟨Z, B, ρ, τ, h, ok, sl, q⟩ := q
  refine ts_bd ok sl q fun x a h1 B1 ρ1 H1 rx ok1 sl1 g1 q1 => ts_bd ok1 sl1 q1 fun y kd h2 B2 ρ2 H2 ry ok2 sl2 g2 q2 => ?_
  rw [if_neg (by simp)] at q2
  · unfold gGetD at q2
    split at q2
    · rename_i hd ws e5
      split at q2
      · rename_i u e6
        obtain ⟨p, vs, own, rfl, x1, r1⟩ := dicOf_ra ok2 (rx.mono g2) e5
        obtain ⟨v0, gg, r2⟩ := (hGet_ok ok2 x1 r1 ry e6).2 u rfl
        refine ⟨p, v0, rfl, gg, ts_bd ok2 sl2 q2 fun v w h3 B3 ρ3 H3 rv ok3 sl3 g3 q3 => ?_⟩
        refine og Z B3 ρ3 H3 h3 v0 v u w _ _ ok3 (r2.mono g3) rv ((q3.sb sl3).imp fun z h4 B4 ρ4 H4 ok4 g4 q4 zv rz => ?_)
        split at q4
        · rename_i hl4
          split at q4
          · rename_i h5 e8
            unfold putA at e8
            split at e8
            · rename_i k
              split at e8
              · rename_i ws4 e9
                unfold isLst at hl4
                dsimp only at hl4
                rw [e9] at hl4
                cases hl4
              · rename_i hd4 ws4 e9
                split at e8
                · rename_i hd' ws' e10
                  cases e8
                  obtain ⟨p4, vs4, own4, ep, hr4, x4, r4, up4⟩ := cell_nd ok4 (rx.mono (g2.trans (g3.trans g4))) e9
                  cases ep
                  obtain ⟨o', vs', d1, d2, d3, d4⟩ := hPut_ok ok4 x4 r4 (ry.mono (g3.trans g4)) rz e10
                  exact ⟨_, d1, q4.nx1 (up4 _ _ _ _ d3 d4) (sl3.mono g4)⟩
                · cases e8
              · cases e8
            · cases e8
          · exact q4.elim
        · exact q4.elim
      · exact q2.elim
    · exact q2.elim⟩
end
end Tq

/-! Tq8: fields, instances, calls, defs. -/
namespace Tq
open PySem PySem.Spec PyProof.Rows L2

/-! ### fields -/
/-- classes of the text: the names of their instances' fields -/
abbrev FTab := List (Str × List Str)
def fOk (T : FTab) (C f : Str) : Bool := T.any fun p => decide (p.1 = C) && decide (f ∈ p.2)
structure ClsT (K : PySem.W.Frag) (T : FTab) : Prop where
  at_ : ∀ C f, fOk T C f = true → ∃ ca, glAt K C = some ca ∧ Cls K ca ∧ NoAttr K ca f
theorem clsT_nil {K : PySem.W.Frag} : ClsT K [] := ⟨fun _ _ h => by cases h⟩
theorem clsT_cons {K : PySem.W.Frag} {C : Str} {fs : List Str} {ca : Addr} {T : FTab} (h0 : glAt K C = some ca) (h1 : Cls K ca) (h2 : ∀ f ∈ fs, NoAttr K ca f) (h3 : ClsT K T) : ClsT K ((C, fs) :: T) := ⟨fun D f h => by
  unfold fOk at h
  rw [List.any_cons, Bool.or_eq_true] at h
  rcases h with h | h
  · rw [Bool.and_eq_true] at h
    have e : C = D := of_decide_eq_true h.1
    subst e
    exact ⟨ca, h0, h1, h2 f (of_decide_eq_true h.2)⟩
  · exact h3.at_ D f h⟩
def fGet (f : Str) : List Str → List A → Option A
  | g :: fs, w :: ws => if g = f then some w else fGet f fs ws
  | _, _ => none
def fPut (f : Str) (w : A) : List Str → List A → List Str × List A
  | g :: fs, u :: ws => if g = f then (g :: fs, w :: ws) else (g :: (fPut f w fs ws).1, u :: (fPut f w fs ws).2)
  | fs, _ => if fs = [] then ([f], [w]) else (fs, [])
section
variable {K : PySem.W.Frag} {B : Hp} {ρ : Nat → Option Addr}
theorem fGet_ok {f : Str} : ∀ {fs : List Str} {vs : List V} {ws : List A} {w : A}, RAL K B ρ vs ws → fGet f fs ws = some w → ∃ v, (fs.zip vs).lookup f = some v ∧ RA K B ρ v w
  | [], _, _, _, r, h => by cases r <;> cases h
  | g :: fs, _, _, _, .nil, h => by cases h
  | g :: fs, _, _, w, .cons (v := v) r rl, h => by
    unfold fGet at h
    split at h
    · rename_i e
      cases h
      subst e
      exact ⟨v, by simp, r⟩
    · rename_i e
      obtain ⟨u, h1, h2⟩ := fGet_ok (fs := fs) rl h
      refine ⟨u, ?_, h2⟩
      rw [List.zip_cons_cons, List.lookup_cons]
      have : (f == g) = false := by simpa using Ne.symm e
      rw [this]
      exact h1
theorem fPut_ok {f : Str} {v : V} {w : A} (rv : RA K B ρ v w) : ∀ {fs : List Str} {vs : List V} {ws : List A}, RAL K B ρ vs ws → fs.length = vs.length →
    ∃ vs', putF f v (fs.zip vs) = (fPut f w fs ws).1.zip vs' ∧ (fPut f w fs ws).1.length = vs'.length ∧ RAL K B ρ vs' (fPut f w fs ws).2
  | [], _, _, r, e => by
    cases r with
    | nil => exact ⟨[v], by simp [fPut, putF], by simp [fPut], by simpa [fPut] using RAL.cons rv .nil⟩
    | cons _ _ => simp at e
  | g :: fs, _, _, .nil, e => by simp at e
  | g :: fs, _, _, .cons (v := u) (vs := vr) (w := s) (ws := sr) w0 wl, e => by
    obtain ⟨vs', h1, h2, h3⟩ := fPut_ok (f := f) rv (fs := fs) wl (by simpa using e)
    by_cases z : g = f
    · refine ⟨v :: vr, ?_, ?_, ?_⟩
      · simp [fPut, putF, z]
      · simp [fPut, z]; simpa using e
      · simp only [fPut, if_pos z]; exact .cons rv wl
    · refine ⟨u :: vs', ?_, ?_, ?_⟩
      · simp only [fPut, if_neg z, List.zip_cons_cons, putF]
        rw [h1]
      · simp [fPut, z, h2]
      · simp only [fPut, if_neg z]; exact .cons w0 h3
end
def gFld (T : FTab) (f : Str) : G1 := fun a h => match dicOf h a with
  | some (.ins C fs, ws) => if fOk T C f = true then (match fGet f fs ws with | some w => some (.ok w h) | none => none) else none
  | _ => none
/-- o.f = e: value, object -/
def mSetF (T : FTab) (f : Str) (mo mv : E A) : MS := fun τ h => sb τ (mv τ h) fun w h1 => sb τ (mo τ h1) fun a h2 => match a with
  | .r k => (match h2[k]? with
    | some (.nd (.ins C fs) ws) => if fOk T C f = true ∧ fs.length < 1000 then some (.nx τ (h2.set k (.nd (.ins C (fPut f w fs ws).1) (fPut f w fs ws).2))) else none
    | _ => none)
  | _ => none
/-- o.f op= e: object, what is there, value -/
def mAugF (T : FTab) (f : Str) (g : G2) (mo mv : E A) : MS := fun τ h => sb τ (mo τ h) fun a h1 => sb τ (gFld T f a h1) fun u h1' => sb τ (mv τ h1') fun w h2 => sb τ (g u w h2) fun z h3 => match a with
  | .r k => (match h1[k]?, h3[k]? with
    | some (.nd (.ins C _) _), some (.nd (.ins C' fs) ws) => if C = C' ∧ fOk T C f = true ∧ fs.length < 1000 then some (.nx τ (h3.set k (.nd (.ins C (fPut f z fs ws).1) (fPut f z fs ws).2))) else none
    | _, _ => none)
  | _ => none
theorem zip_len {κ : Type} {fs : List κ} {vs : List V} (h : fs.length = vs.length) : (fs.zip vs).length = fs.length := by rw [List.length_zip, h, Nat.min_self]
section
variable {X : Cx} {W : WX} {T : FTab} {o e : Expr} {mo mv : E A} {f : Str} {pos pos' tpos : Pos}
theorem rx_fld (hT : ClsT X.K T) (ho : RX X W o mo) (hb : attributeBase o f X.env (eval o X.env) = eval o X.env := by rfl) : RX X W (.Attribute o f pos) (mUn (gFld T f) mo) := ⟨pe_imp (pe_fld ho.pe hb) fun σ H Q q => by
  obtain ⟨Z, B, ρ, τ, h, ok, sl, q⟩ := q
  refine te_bd ok sl q fun x a h1 B1 ρ1 H1 rx ok1 sl1 g1 q1 => ?_
  unfold gFld at q1
  split at q1
  · rename_i C fs ws e1
    split at q1
    · rename_i hf
      split at q1
      · rename_i w e2
        obtain ⟨ca, c1, c2, c3⟩ := hT.at_ C f hf
        obtain ⟨p, vs, own, rfl, x1, r1⟩ := dicOf_ra ok1 rx e1
        cases x1 with
        | ins i0 i1 i2 i3 =>
          rw [c1] at i0
          cases i0
          obtain ⟨v, k1, k2⟩ := fGet_ok r1 e2
          exact ⟨p, ca, _, _, v, rfl, i1, c2, c3, k1, q1.now ok1 _ k2⟩
      · exact q1.elim
    · exact q1.elim
  · exact q1.elim⟩
theorem rs_setF (hT : ClsT X.K T) (ho : RX X W o mo) (hv : RX X W e mv) (hs : swapsWith e (some (.Attribute o f pos')) pos.line X.env = pure false := by rfl) : RS X W (.Assign [.Attribute o f pos'] e pos) (mSetF T f mo mv) := ⟨ps_imp (ps_fld ho.pe hv.pe hs) fun D σ H q => by
  obtain ⟨Z, B, ρ, τ, h, ok, sl, q⟩ := q
  refine ts_bd ok sl q fun v w h1 B1 ρ1 H1 rv ok1 sl1 g1 q1 => ts_bd ok1 sl1 q1 fun x a h2 B2 ρ2 H2 rx ok2 sl2 g2 q2 => ?_
  split at q2
  · rename_i k
    split at q2
    · rename_i C fs ws e1
      split at q2
      · rename_i hf
        obtain ⟨ca, c1, c2, c3⟩ := hT.at_ C f hf.1
        obtain ⟨p, vs, own, rfl, hr, x1, r1, up⟩ := cell_nd ok2 rx e1
        cases x1 with
        | ins i0 i1 i2 i3 =>
          rw [c1] at i0
          cases i0
          obtain ⟨vs', d1, d2, d3⟩ := fPut_ok (f := f) (rv.mono g2) r1 i3
          refine ⟨p, ca, _, _, rfl, i1, c2, c3, by rw [zip_len i3]; exact hf.2, q2.nx1 (up _ _ vs' _ ?_ d3) sl2⟩
          exact .ins c1 (by rw [upd_same, d1]) (by rw [upd_ne fun z => by rw [z, i1] at i2; cases i2]; exact i2) d2
      · exact q2.elim
    · exact q2.elim
  · exact q2.elim⟩
theorem rs_augF {op : Operator} {r : R2} {g : G2} (hT : ClsT X.K T) (hop : OpR X (inplaceOp op) r) (og : Op2 X.K r g) (ho : RX X W o mo) (hv : RX X W e mv) : RS X W (.AugAssign (.Attribute o f tpos) op e pos) (mAugF T f g mo mv) := ⟨ps_imp (ps_fldaug ho.pe hv.pe (fun pins s σ H x y u v Q I rx ry h => hop pins s σ H x y u v Q I rx ry h)) fun D σ H q => by
  obtain ⟨Z, B, ρ, τ, h, ok, sl, q⟩ := q
  refine ts_bd ok sl q fun x a h1 B1 ρ1 H1 rx ok1 sl1 g1 q1 => ?_
  unfold gFld at q1
  split at q1
  · rename_i C fs ws e1
    split at q1
    · rename_i hf
      split at q1
      · rename_i u e2
        obtain ⟨ca, c1, c2, c3⟩ := hT.at_ C f hf
        obtain ⟨p, vs, own, rfl, x1, r1⟩ := dicOf_ra ok1 rx e1
        cases x1 with
        | ins i0 i1 i2 i3 =>
          rw [c1] at i0
          cases i0
          obtain ⟨v0, k1, k2⟩ := fGet_ok r1 e2
          refine ⟨p, ca, _, _, v0, rfl, i1, c2, c3, k1, ts_bd ok1 sl1 q1 fun v w h2 B2 ρ2 H2 rv ok2 sl2 g2 q2 => ?_⟩
          refine og Z B2 ρ2 H2 h2 v0 v u w _ _ ok2 (k2.mono g2) rv ((q2.sb sl2).imp fun z h3 B3 ρ3 H3 ok3 g3 q3 zv rz => ?_)
          split at q3
          · rename_i k
            split at q3
            · rename_i C1 fs1 ws1 C2 fs2 ws2 e3 e4
              split at q3
              · rename_i hc
                obtain ⟨rfl, hf2, hl⟩ := hc
                have eC : C1 = C := by
                  unfold dicOf at e1
                  dsimp only at e1
                  rw [e3] at e1
                  cases e1
                  rfl
                subst eC
                obtain ⟨p4, vs4, own4, ep, hr4, x4, r4, up⟩ := cell_nd ok3 (rx.mono (g2.trans g3)) e4
                cases ep
                cases x4 with
                | ins j0 j1 j2 j3 =>
                  rw [c1] at j0
                  cases j0
                  obtain ⟨vs', d1, d2, d3⟩ := fPut_ok (f := f) rz r4 j3
                  refine ⟨_, _, j1, by rw [zip_len j3]; exact hl, q3.nx1 (up _ _ vs' _ ?_ d3) (sl2.mono g3)⟩
                  exact .ins c1 (by rw [upd_same, d1]) (by rw [upd_ne fun z => by rw [z, j1] at j2; cases j2]; exact j2) d2
              · exact q3.elim
            · exact q3.elim
          · exact q3.elim
      · exact q1.elim
    · exact q1.elim
  · exact q1.elim⟩
end

/-! ### promises -/
abbrev Sem1 := List A → Hq → Option (Rs A)
def spQ (K : PySem.W.Frag) (np : Nat) (sem : Sem1) : Sp := fun vs H Q Ex => vs.length = np ∧ ∃ Z B ρ h ws, Ok K Z B ρ H h ∧ RAL K B ρ vs ws ∧ Post K Z Ex B ρ (fun w _ B' ρ' H' => ∀ v, RA K B' ρ' v w → Q v H') (sem ws h)
def startT (n : Nat) (ws : List A) : Sl := ws.map some ++ List.replicate (n - ws.length) none
def runB (np n : Nat) (m : MS) : Sem1 := fun ws h => if ws.length = np then (match m (startT n ws) h with
  | some (.rt w h') => some (.ok w h')
  | some (.nx _ h') => some (.ok (.d .non) h')
  | some (.ex x _ h') => some (.ex x h')
  | _ => none) else none
theorem slok_start {K : PySem.W.Frag} {B : Hp} {ρ : Nat → Option Addr} {vs : List V} {ws : List A} (N : List Str) (r : RAL K B ρ vs ws) : SlOk K B ρ (L2.start N vs) (startT N.length ws) := by
  unfold L2.start startT
  refine ⟨by simp [r.length], fun i w e => ?_⟩
  by_cases hi : i < ws.length
  · rw [List.getElem?_append_left (by simpa using hi), List.getElem?_map] at e
    cases z : ws[i]? with
    | none => rw [z] at e; cases e
    | some u =>
      rw [z] at e
      cases e
      obtain ⟨v, h1, h2⟩ := r.get z
      exact ⟨v, by rw [List.getElem?_append_left (by simpa [r.length] using hi), List.getElem?_map, h1]; rfl, h2⟩
  · rw [List.getElem?_append_right (by simpa using Nat.le_of_not_lt hi), List.getElem?_replicate] at e
    split at e <;> cases e
theorem runB_post {K : PySem.W.Frag} {Z B : Hp} {ρ : Nat → Option Addr} {Ex : XK} {Q : VK} {np n : Nat} {m : MS} {ws : List A} {h : Hq} (q : Post K Z Ex B ρ (fun w _ B' ρ' H' => ∀ v, RA K B' ρ' v w → Q v H') (runB np n m ws h)) :
    PostS K Z (fun c d _ H' => Ex c d H') B ρ { nx := fun _ H' => Q .non H', rt := Q } (m (startT n ws) h) := by
  unfold runB at q
  split at q
  · split at q
    · rename_i w h' e
      rw [e]
      exact fun v B' ρ' H' rv ok g => q B' ρ' H' ok g v rv
    · rename_i τ h' e
      rw [e]
      exact fun σ' B' ρ' H' ok sl g => q B' ρ' H' ok g .non (.d .non)
    · rename_i x τ h' e
      rw [e]
      exact fun σ' B' ρ' H' cls d ok sl g xc => q B' ρ' H' cls d ok g xc
    · exact q.elim
  · exact q.elim
structure Src (K : PySem.W.Frag) (mg : Str → Option Value) (x : Str) (st : Stmt) (ps : List Str) : Prop where
  ex : ∃ (fa : Addr) (fd : FuncData), Fun K x x st fa fd ∧ mg x = some (.ref fa) ∧ Binds K fd ps []
structure Def (P : Program) (w : World) (K : PySem.W.Frag) (mg : Str → Option Value) (base : Heap) (k : Nat) (x : Str) (ps : List Str) (sem : Sem1) : Prop where
  ex : ∃ (fa : Addr) (fd : FuncData), FnOk P w K mg base (L2.CX P w) k fa fd ps (spQ K ps.length sem) ∧ mg x = some (.ref fa) ∧ PySem.W.keepIn K (.ref fa) = true ∧ Binds K fd ps []
/-- a method -/
structure SrcM (K : PySem.W.Frag) (C m : Str) (st : Stmt) (ps : List Str) (qual : Str) : Prop where
  ex : ∃ (ca fa : Addr) (fd : FuncData), glAt K C = some ca ∧ Cls K ca ∧ Meth K ca m fa ∧ Fun K m qual st fa fd ∧ Binds K fd ps []
structure DefM (P : Program) (w : World) (K : PySem.W.Frag) (mg : Str → Option Value) (base : Heap) (k : Nat) (C m : Str) (ps : List Str) (sem : Sem1) : Prop where
  ex : ∃ (ca fa : Addr) (fd : FuncData), glAt K C = some ca ∧ Cls K ca ∧ Meth K ca m fa ∧ FnOk P w K mg base (L2.CX P w) k fa fd ps (spQ K ps.length sem) ∧ Binds K fd ps []
/-- a class with its __init__ -/
structure MkC (K : PySem.W.Frag) (mg : Str → Option Value) (C : Str) : Prop where
  ex : ∃ ca fa, glAt K C = some ca ∧ mg C = some (.ref ca) ∧ Mk K ca fa ∧ PySem.W.findIn K (.ref ca) "__init__" = some (some (.ref fa))
section
variable {Pr : Program} {w : World} {K : PySem.W.Frag} {mg : Str → Option Value} {base : Heap}
theorem fn_trX {x qual : Str} {st : Stmt} {fa : Addr} {fd : FuncData} {N ps : List Str} {k : Nat} {sem : Sem1} (m : MS) (F : Fun K x qual st fa fd) (Sc : FnScope N ps (defScope st)) (hsem : ∀ ws h r, sem ws h = some r → runB ps.length N.length m ws h = some r)
    (hb : ∀ (cdv : Value) (A : Around) (outer : List Env) (s : Shared) (H : Hp) (Ex : XK), Room k (A.deeper (envOfC qual (defScope st) s.heap.objs.size fa cdv)) →
      Takes (cxOf (L2.CX Pr w) Pr w K mg base N qual (defScope st) fa cdv A outer s H Ex) (fun c d _ H' => Ex c d H') →
      PassesOwn (model Pr w) (cxOf (L2.CX Pr w) Pr w K mg base N qual (defScope st) fa cdv A outer s H Ex).A (cxOf (L2.CX Pr w) Pr w K mg base N qual (defScope st) fa cdv A outer s H Ex).env (cxOf (L2.CX Pr w) Pr w K mg base N qual (defScope st) fa cdv A outer s H Ex).xe →
      RSs (cxOf (L2.CX Pr w) Pr w K mg base N qual (defScope st) fa cdv A outer s H Ex) (fun c d _ H' => Ex c d H') (defBody st) m) : FnOk Pr w K mg base (L2.CX Pr w) (k + 1) fa fd ps (spQ K ps.length sem) := by
  refine F.okX Sc (fun vs H Q Ex h => h.1) (fun cdv A outer s H vs Q Ex hr h => ?_)
  obtain ⟨hl, Z, B, ρ, h0, ws, ok, r, q⟩ := h
  refine ⟨_, (hb cdv A outer s H Ex hr (takes_of rfl rfl rfl rfl) (passes_of rfl)).ps, Z, B, ρ, startT N.length ws, h0, ok, slok_start _ r, ?_⟩
  have q2 : Post K Z Ex B ρ (fun w _ B' ρ' H' => ∀ v, RA K B' ρ' v w → Q v H') (runB ps.length N.length m ws h0) := by
    cases e : sem ws h0 with
    | none => rw [e] at q; exact q.elim
    | some r => rw [e] at q; rw [hsem ws h0 r e]; exact q
  exact runB_post q2
theorem def_tr {x : Str} {st : Stmt} {N ps : List Str} {k : Nat} {sem : Sem1} (S : Src K mg x st ps) (Sc : FnScope N ps (defScope st)) (m : MS)
    (hb : ∀ (fa : Addr) (cdv : Value) (A : Around) (outer : List Env) (s : Shared) (H : Hp) (Ex : XK), Room k (A.deeper (envOfC x (defScope st) s.heap.objs.size fa cdv)) →
      Takes (cxOf (L2.CX Pr w) Pr w K mg base N x (defScope st) fa cdv A outer s H Ex) (fun c d _ H' => Ex c d H') →
      PassesOwn (model Pr w) (cxOf (L2.CX Pr w) Pr w K mg base N x (defScope st) fa cdv A outer s H Ex).A (cxOf (L2.CX Pr w) Pr w K mg base N x (defScope st) fa cdv A outer s H Ex).env (cxOf (L2.CX Pr w) Pr w K mg base N x (defScope st) fa cdv A outer s H Ex).xe →
      RSs (cxOf (L2.CX Pr w) Pr w K mg base N x (defScope st) fa cdv A outer s H Ex) (fun c d _ H' => Ex c d H') (defBody st) m)
    (hsem : ∀ ws h r, sem ws h = some r → runB ps.length N.length m ws h = some r := by exact fun _ _ _ h => h) : Def Pr w K mg base (k + 1) x ps sem := by
  obtain ⟨fa, fd, F, hm', hbd⟩ := S.ex
  exact ⟨fa, fd, fn_trX m F Sc hsem (fun cdv A outer s H Ex hr => hb fa cdv A outer s H Ex hr), hm', F.kp, hbd⟩
theorem defM_tr {C mn qual : Str} {st : Stmt} {N ps : List Str} {k : Nat} {sem : Sem1} (S : SrcM K C mn st ps qual) (Sc : FnScope N ps (defScope st)) (m : MS)
    (hb : ∀ (fa : Addr) (cdv : Value) (A : Around) (outer : List Env) (s : Shared) (H : Hp) (Ex : XK), Room k (A.deeper (envOfC qual (defScope st) s.heap.objs.size fa cdv)) →
      Takes (cxOf (L2.CX Pr w) Pr w K mg base N qual (defScope st) fa cdv A outer s H Ex) (fun c d _ H' => Ex c d H') →
      PassesOwn (model Pr w) (cxOf (L2.CX Pr w) Pr w K mg base N qual (defScope st) fa cdv A outer s H Ex).A (cxOf (L2.CX Pr w) Pr w K mg base N qual (defScope st) fa cdv A outer s H Ex).env (cxOf (L2.CX Pr w) Pr w K mg base N qual (defScope st) fa cdv A outer s H Ex).xe →
      RSs (cxOf (L2.CX Pr w) Pr w K mg base N qual (defScope st) fa cdv A outer s H Ex) (fun c d _ H' => Ex c d H') (defBody st) m)
    (hsem : ∀ ws h r, sem ws h = some r → runB ps.length N.length m ws h = some r := by exact fun _ _ _ h => h) : DefM Pr w K mg base (k + 1) C mn ps sem := by
  obtain ⟨ca, fa, fd, h1, h2, h3, F, hbd⟩ := S.ex
  exact ⟨ca, fa, fd, h1, h2, h3, fn_trX m F Sc hsem (fun cdv A outer s H Ex hr => hb fa cdv A outer s H Ex hr), hbd⟩
/-- the law itself: nothing is let out -/
theorem fn_tr0 {x qual : Str} {st : Stmt} {fa : Addr} {fd : FuncData} {N ps : List Str} {k : Nat} {sem : Sem1} (m : MS) (F : Fun K x qual st fa fd) (Sc : FnScope N ps (defScope st)) (hsem : ∀ ws h r, sem ws h = some r → runB ps.length N.length m ws h = some r)
    (hb : ∀ (cdv : Value) (A : Around) (outer : List Env) (s : Shared) (H : Hp) (Ex : XK), Room k (A.deeper (envOfC qual (defScope st) s.heap.objs.size fa cdv)) →
      Takes (cxOf CX0 Pr w K mg base N qual (defScope st) fa cdv A outer s H Ex).nox W0 →
      PassesOwn (model Pr w) (cxOf CX0 Pr w K mg base N qual (defScope st) fa cdv A outer s H Ex).nox.A (cxOf CX0 Pr w K mg base N qual (defScope st) fa cdv A outer s H Ex).nox.env (cxOf CX0 Pr w K mg base N qual (defScope st) fa cdv A outer s H Ex).nox.xe →
      RSs (cxOf CX0 Pr w K mg base N qual (defScope st) fa cdv A outer s H Ex).nox W0 (defBody st) m) : FnOk Pr w K mg base CX0 (k + 1) fa fd ps (fun vs H Q _ => spQ K ps.length sem vs H Q E0) := by
  refine F.ok Sc (fun vs H Q Ex h => h.1) (fun cdv A outer s H vs Q Ex hr h => ?_)
  obtain ⟨hl, Z, B, ρ, h0, ws, ok, r, q⟩ := h
  refine ⟨_, (hb cdv A outer s H Ex hr takes0 PassesOwn.never).ps, Z, B, ρ, startT N.length ws, h0, ok, slok_start _ r, ?_⟩
  have q2 : Post K Z E0 B ρ (fun w _ B' ρ' H' => ∀ v, RA K B' ρ' v w → Q v H') (runB ps.length N.length m ws h0) := by
    cases e : sem ws h0 with
    | none => rw [e] at q; exact q.elim
    | some r => rw [e] at q; rw [hsem ws h0 r e]; exact q
  exact runB_post q2
theorem def_none {x : Str} {st : Stmt} {ps : List Str} {k : Nat} (S : Src K mg x st ps) : Def Pr w K mg base k x ps (fun _ _ => none) := by
  obtain ⟨fa, fd, F, hm', hbd⟩ := S.ex
  refine ⟨fa, fd, ⟨fun vs H Q Ex h => ?_, fun A outer s H args us vs Q Ex hr he hb hv h => ?_⟩, hm', F.kp, hbd⟩
  · obtain ⟨_, _, _, _, _, _, _, _, e⟩ := h
    exact e.elim
  · obtain ⟨_, _, _, _, _, _, _, _, e⟩ := h
    exact e.elim
theorem Def.mono {x : Str} {ps : List Str} {j k : Nat} {sem : Sem1} (D : Def Pr w K mg base j x ps sem) (h : j ≤ k) : Def Pr w K mg base k x ps sem := by
  obtain ⟨fa, fd, F, h1, h2, h3⟩ := D.ex
  exact ⟨fa, fd, F.mono h, h1, h2, h3⟩
end

/-! ### calls -/
def Xc.fz (h : Hq) : Xc → Option Xc
  | .own C => some (.own C)
  | .fld C f w => (view h w).map fun d => .fld C f (.d d)
  | .blt T => some (.blt T)
/-- with the whole heap -/
def mCall (sem : Sem1) (mr : E (List A)) : E A := fun τ h => bd (mr τ h) fun ws h1 => sem ws h1
/-- with no cell in sight: the answer is data -/
def callP (sem : Sem1) (ws : List A) (h1 : Hq) : Option (Rs A) := match mapMn (view h1) ws with
  | some ds => (match sem (ds.map A.d) [] with
    | some (.ok w h') => (match view h' w with | some d => if (allD ws).isSome || d.flat then some (.ok (.d d) h1) else none | none => none)
    | some (.ex x h') => if (allD ws).isSome then (match x.fz h' with | some x' => some (.ex x' h1) | none => none) else none
    | none => none)
  | none => none
def mCallP (sem : Sem1) (mr : E (List A)) : E A := fun τ h => bd (mr τ h) fun ws h1 => callP sem ws h1
section
variable {K : PySem.W.Frag} {Z B H : Hp} {ρ : Nat → Option Addr} {h : Hq}
/-- nobody's cells: what is there stands aside -/
theorem Ok.void (ok : Ok K Z B ρ H h) : Ok K H B (fun _ => none) H [] := ⟨ok.ex, fun _ _ e => e, (fun k o e => by simp at e), (fun _ _ _ e => by cases e), (fun _ _ e => by cases e), fun _ _ => rfl⟩
theorem Ok.voidH (ok : Ok K Z B ρ H h) : Ok K H H (fun _ => none) H [] := ⟨fun _ _ e => e, fun _ _ e => e, (fun k o e => by simp at e), (fun _ _ _ e => by cases e), (fun _ _ e => by cases e), fun _ _ => rfl⟩
/-- back from a call without cells: all that is new is frozen -/
theorem Ok.backP (ok : Ok K Z B ρ H h) {B' H' : Hp} {ρ' : Nat → Option Addr} {h' : Hq} (ok' : Ok K H B' ρ' H' h') (g : Gr H B (fun _ => none) B' ρ') :
    ∃ B2, Ok K Z B2 ρ H' h ∧ Gr Z B ρ B2 ρ ∧ (∀ v w d, RA K B' ρ' v w → view h' w = some d → Rp K B2 v d) := by
  let B2 : Hp := fun a => if H a = none then H' a else B a
  have s0 : Same H H' := ok'.zz
  have zn : ∀ a, H a = none → Z a = none := fun a e => by
    cases z : Z a with
    | none => rfl
    | some u => rw [ok.zz a u z] at e; cases e
  have bn : ∀ a, H a = none → B a = none := fun a e => by
    cases z : B a with
    | none => rfl
    | some u => rw [ok.ex a u z] at e; cases e
  have b1 : Same B B2 := fun a o e => by
    show (if H a = none then H' a else B a) = some o
    rw [if_neg (by rw [ok.ex a o e]; simp)]
    exact e
  have b2 : Same B2 H' := fun a o e => by
    have e : (if H a = none then H' a else B a) = some o := e
    split at e
    · exact e
    · exact s0 _ _ (ok.ex a o e)
  have b3 : ∀ a, H a ≠ none → B2 a = B a := fun a e => if_neg e
  have b4 : Same B' B2 := fun a o e => by
    by_cases z : B a = none
    · have hz := g.fz a z (by rw [e]; simp)
      show (if H a = none then H' a else B a) = some o
      rw [if_pos hz]
      exact ok'.ex a o e
    · cases y : B a with
      | none => exact absurd y z
      | some u =>
        have := g.bb a u y
        rw [e] at this
        cases this
        exact b1 a o y
  have gg : Gr Z B ρ B2 ρ := ⟨b1, fun _ _ e => e, fun a e e' => by
    by_cases z : H a = none
    · exact zn a z
    · rw [b3 a z] at e'; exact absurd e e'⟩
  refine ⟨B2, ⟨b2, fun a o e => s0 _ _ (ok.zz a o e), fun k c e => ?_, ok.nj, fun k a e => ?_, ok.up⟩, gg, fun v w d r e => vw_at ok' b4 (fun b hz hb u hu => ?_) _ v w d r e⟩
  · obtain ⟨a, h1, h2⟩ := ok.ce k c e
    refine ⟨a, h1, ?_⟩
    cases h2 with
    | lst e1 e2 e3 e4 => exact .lst (s0 _ _ e1) (e2.mono gg) (by rw [b3 a (by rw [e1]; simp)]; exact e3) e4
    | nd e1 e2 e3 => exact .nd (e1.to fun b _ u e => s0 _ _ e) (e2.mono gg) fun b hb => ⟨by rw [b3 b (e1.own_or.2.2.1 b hb)]; exact (e3 b hb).1, (e3 b hb).2⟩
    | dead e1 => exact .dead e1
  · have := ok.al k a e
    cases z : H a with
    | none => exact absurd z this
    | some u => rw [s0 _ _ z]; simp
  · show (if H b = none then H' b else B b) = some u
    rw [if_pos hz]
    exact hu
theorem rpl_views (ok : Ok K Z B ρ H h) {vs : List V} {ws : List A} {ds : List D} (r : RAL K B ρ vs ws) (e : mapMn (view h) ws = some ds) : RpL K H vs ds := vws_of (fun v w d rv ev => ok.see rv ev) r e
theorem allD_view {h : Hq} {ws : List A} {ds es : List D} (e : allD ws = some ds) (e2 : mapMn (view h) ws = some es) : ds = es := by
  cases allD_of e
  rw [mapMn_d _ _ (vw_d 32 h)] at e2
  exact Option.some.inj e2
theorem callP_ok {W : XK} {Q : VK} {sem : Sem1} {vs : List V} {ws : List A} {np : Nat} (ok : Ok K Z B ρ H h) (r : RAL K B ρ vs ws) (hl : ws.length = np)
    (q : Post K Z W B ρ (fun w _ B' ρ' H' => ∀ v, RA K B' ρ' v w → Q v H') (callP sem ws h)) : spQ K np sem vs H Q W := by
  refine ⟨by rw [r.length]; exact hl, ?_⟩
  unfold callP at q
  split at q
  · rename_i ds e1
    cases e0 : allD ws with
    | some ds' =>
      have := allD_view e0 e1
      subst this
      cases allD_of e0
      refine ⟨H, B, fun _ => none, [], ds'.map A.d, ok.void, ral_ds (ral_rpl r), ?_⟩
      split at q
      · rename_i w h' e2
        rw [e2]
        intro B' ρ' H' ok' g v rv
        split at q
        · rename_i d e3
          split at q
          · obtain ⟨B2, o2, g2, see⟩ := ok.backP ok' g
            exact q B2 ρ H' o2 g2 v (.d (see v w d rv e3))
          · exact q.elim
        · exact q.elim
      · rename_i x h' e2
        rw [e2]
        intro B' ρ' H' cls dd ok' g xc
        rw [e0] at q
        dsimp only [Option.isSome] at q
        rw [if_pos rfl] at q
        split at q
        · rename_i x' e3
          obtain ⟨B2, o2, g2, see⟩ := ok.backP ok' g
          refine q B2 ρ H' cls dd o2 g2 ?_
          cases xc with
          | own c => cases e3; exact .own c
          | fld c1 c2 c3 =>
            obtain ⟨d, e4, rfl⟩ := Option.map_eq_some_iff.mp e3
            exact .fld c1 c2 (.d (see _ _ _ c3 e4))
          | blt => cases e3; exact .blt
        · exact q.elim
      · exact q.elim
    | none =>
      refine ⟨H, H, fun _ => none, [], ds.map A.d, ok.voidH, ral_ds (rpl_views ok r e1), ?_⟩
      rw [e0] at q
      split at q
      · rename_i w h' e2
        rw [e2]
        intro B' ρ' H' ok' g v rv
        split at q
        · rename_i d e3
          split at q
          · rename_i hf
            have hf : d.flat = true := by simpa using hf
            have see := ok'.see rv e3
            have o2 := ok.grow ok'.zz
            exact q B ρ H' o2 Gr.refl v (.d (rp_flat see hf))
          · exact q.elim
        · exact q.elim
      · rename_i x h' e2
        exact q.elim
      · exact q.elim
  · exact q.elim
end
section
variable {X : Cx} {W : WX} {a o : Expr} {es : List Expr} {mr : E (List A)} {mo : E A} {sem : Sem1} {pos px apos : Pos} {j k : Nat} {ps : List Str}
theorem te_args {β : Type} {K : PySem.W.Frag} {σ : L2.St} {H Z B : Hp} {ρ : Nat → Option Addr} {τ : Sl} {h : Hq} {kk : List A → Hq → Option (Rs β)} {R : β → Hq → Hp → (Nat → Option Addr) → Hp → Prop} {Q : List V → Hp → Prop} (ok : Ok K Z B ρ H h) (sl : SlOk K B ρ σ τ) (q : Post K Z (fun c d H' => W c d σ H') B ρ R (bd (mr τ h) kk))
    (c : ∀ vs ws h1 B1 ρ1 H1, RAL K B1 ρ1 vs ws → Ok K Z B1 ρ1 H1 h1 → SlOk K B1 ρ1 σ τ → Gr Z B ρ B1 ρ1 → Post K Z (fun c d H' => W c d σ H') B1 ρ1 R (kk ws h1) → Q vs H1) : tAs K W mr σ H Q :=
  ⟨Z, B, ρ, τ, h, ok, sl, q.bd.imp fun ws h1 B1 ρ1 H1 ok1 g1 q1 vs r => c vs ws h1 B1 ρ1 H1 r ok1 (sl.mono g1) g1 q1⟩
/-- how many arguments: known from the text -/
def lenIs (n : Nat) (mr : E (List A)) : E (List A) := fun τ h => bd (mr τ h) fun ws h1 => if ws.length = n then some (.ok ws h1) else none
theorem rx_call {x : Str} (tk : Takes X W) (Df : Def X.prog X.w X.K X.mg X.base j x ps sem) (hr : Room k X.A) (hj : j ≤ k) (ha : RAs X W (a :: es) mr)
    (hg : Gl X x := by rfl) (hdb : (x == ("__debug__" : Str)) = false := by decide) (he : starEach (a :: es) X.env = (false, eval a X.env) :: starEach es X.env := by rfl) (hpl : (backTo pos (starEach es X.env)).any (·.1) = false := by rfl) :
    RX X W (.Call (.Name x px) (a :: es) [] pos) (mCall sem (lenIs ps.length mr)) := by
  obtain ⟨fa, fd, F, h1, h2, h3⟩ := Df.ex
  refine ⟨pe_imp (pe_callS F (hr.mono hj) hg h1 h2 h3 (fun σ => passAt tk σ) ha.pa hdb he hpl) fun σ H Q q => ?_⟩
  obtain ⟨Z, B, ρ, τ, h, ok, sl, q⟩ := q
  have q := q.bd
  unfold lenIs at q
  refine te_args ok sl q fun vs ws h1 B1 ρ1 H1 r ok1 sl1 g1 q1 => ?_
  split at q1
  · rename_i hl
    exact ⟨by rw [r.length]; exact hl, Z, B1, ρ1, h1, ws, ok1, r, q1.now ok1⟩
  · exact q1.elim
theorem rx_callP {x : Str} (tk : Takes X W) (Df : Def X.prog X.w X.K X.mg X.base j x ps sem) (hr : Room k X.A) (hj : j ≤ k) (ha : RAs X W (a :: es) mr)
    (hg : Gl X x := by rfl) (hdb : (x == ("__debug__" : Str)) = false := by decide) (he : starEach (a :: es) X.env = (false, eval a X.env) :: starEach es X.env := by rfl) (hpl : (backTo pos (starEach es X.env)).any (·.1) = false := by rfl) :
    RX X W (.Call (.Name x px) (a :: es) [] pos) (mCallP sem (lenIs ps.length mr)) := by
  obtain ⟨fa, fd, F, h1, h2, h3⟩ := Df.ex
  refine ⟨pe_imp (pe_callS F (hr.mono hj) hg h1 h2 h3 (fun σ => passAt tk σ) ha.pa hdb he hpl) fun σ H Q q => ?_⟩
  obtain ⟨Z, B, ρ, τ, h, ok, sl, q⟩ := q
  have q := q.bd
  unfold lenIs at q
  refine te_args ok sl q fun vs ws h1 B1 ρ1 H1 r ok1 sl1 g1 q1 => ?_
  split at q1
  · rename_i hl
    exact callP_ok ok1 r hl (q1.now ok1)
  · exact q1.elim
/-- of the class C, without a field m -/
def insOf (C m : Str) (a : A) (h : Hq) : Bool := match dicOf h a with
  | some (.ins C' fs, _) => decide (C' = C) && !decide (m ∈ fs)
  | _ => false
def mMeth (C m : Str) (n : Nat) (sem : Sem1) (mo : E A) (mr : E (List A)) : E A := fun τ h => bd (mo τ h) fun a h1 => if insOf C m a h1 = true then bd (mr τ h1) fun ws h2 => if ws.length + 1 = n then sem (a :: ws) h2 else none else none
def mMethP (C m : Str) (n : Nat) (sem : Sem1) (mo : E A) (mr : E (List A)) : E A := fun τ h => bd (mo τ h) fun a h1 => if insOf C m a h1 = true then bd (mr τ h1) fun ws h2 => if ws.length + 1 = n then callP sem (a :: ws) h2 else none else none
theorem lookup_none {f : Str} : ∀ {fs : List Str} {vs : List V}, f ∉ fs → (fs.zip vs).lookup f = none
  | [], _, _ => rfl
  | _ :: _, [], _ => rfl
  | g :: fs, v :: vs, h => by
    rw [List.zip_cons_cons, List.lookup_cons]
    have : (f == g) = false := by
      have : f ≠ g := fun z => h (by rw [z]; exact List.mem_cons_self ..)
      simpa using this
    rw [this]
    exact lookup_none fun z => h (List.mem_cons_of_mem _ z)
theorem insOf_ra {K : PySem.W.Frag} {Z B H : Hp} {ρ : Nat → Option Addr} {h : Hq} {C m : Str} {ca : Addr} {x : V} {a : A} (ok : Ok K Z B ρ H h) (hc : glAt K C = some ca) (r : RA K B ρ x a) (e : insOf C m a h = true) : ∃ p dx fs, x = .ref p ∧ H p = some (.ins ca dx fs) ∧ fs.lookup m = none := by
  unfold insOf at e
  split at e
  · rename_i C' fs ws e1
    rw [Bool.and_eq_true] at e
    have eC : C' = C := of_decide_eq_true e.1
    subst eC
    obtain ⟨p, vs, own, rfl, x1, r1⟩ := dicOf_ra ok r e1
    cases x1 with
    | ins i0 i1 i2 i3 =>
      rw [hc] at i0
      cases i0
      exact ⟨p, _, _, rfl, i1, lookup_none (by simpa using e.2)⟩
  · cases e
/-- o.m(..), where what is raised is wished for at the slots -/
theorem pe_methW {pl : Sem Bool} {C f : Addr} {m : Str} {fd : FuncData} {sp : Sp} {t : TA} {ta : TE} {CX : CXT} {E : L2.St → XK} (he : PE X o ta) (c : Cls X.K C) (hm : Meth X.K C m f) (F : FnOk X.prog X.w X.K X.mg X.base CX k f fd ps sp) (hr : Room k X.A) (hb : Binds X.K fd ps []) (hx : ∀ σ, PassesAt CX X σ (E σ)) (ha : PA X (a :: es) t)
    (hst : starEach (a :: es) X.env = (false, eval a X.env) :: starEach es X.env := by rfl) (hpl : (backTo pos (starEach es X.env)).any (·.1) = false := by rfl)
    (ht : eval (.Call (.Attribute o m apos) (a :: es) [] pos) X.env = (do
      let ov ← eval o X.env
      standAt apos.atName
      let (f, first) ← holding [ov] (getMethod ov m pl)
      callWith pos f first (backTo pos (starEach (a :: es) X.env)) (backToKw pos (keywordEach [] X.env))) := by rfl) :
    PE X (.Call (.Attribute o m apos) (a :: es) [] pos) (fun σ H Q => ta σ H fun x H1 => ∃ a dx fs, x = .ref a ∧ H1 a = some (.ins C dx fs) ∧ fs.lookup m = none ∧ t σ H1 fun vs H2 => sp (x :: vs) H2 Q (E σ)) := by
  refine ⟨fun pins s σ H Q I h => ?_⟩
  refine PySem.W.methodCall_KW (pl := pl) (thn (he.run pins s σ H _ I h) fun u s1 ⟨x, H1, I1, rx, a, dx, fs, ex, ea, l, q⟩ => ?_) ht
  subst ex
  obtain rfl : u = Value.ref a := rx
  refine getmeth_ok I1 ea c hm l ?_
  refine PySem.W.callWith_K (first := [.ref a]) (h₀ := X.base) I.ok.mod.kin hm.kp (thn (ha.run pos pins s1 σ H1 _ I1 q) fun us s2 ⟨vs, H2, I2, r, q2⟩ => ⟨I2.kIn, ?_⟩) hst hpl
  exact run_fnS (us := .ref a :: us) (vs := .ref a :: vs) F hr hb (hx σ) I2 (.cons rfl r) q2
theorem pe_methW0 {pl : Sem Bool} {C f : Addr} {m : Str} {fd : FuncData} {sp : Sp} {ta : TE} {CX : CXT} {E : L2.St → XK} (he : PE X o ta) (c : Cls X.K C) (hm : Meth X.K C m f) (F : FnOk X.prog X.w X.K X.mg X.base CX k f fd ps sp) (hr : Room k X.A) (hb : Binds X.K fd ps []) (hx : ∀ σ, PassesAt CX X σ (E σ))
    (ht : eval (.Call (.Attribute o m apos) [] [] pos) X.env = (do
      let ov ← eval o X.env
      standAt apos.atName
      let (f, first) ← holding [ov] (getMethod ov m pl)
      callWith pos f first (backTo pos (starEach [] X.env)) (backToKw pos (keywordEach [] X.env))) := by rfl) :
    PE X (.Call (.Attribute o m apos) [] [] pos) (fun σ H Q => ta σ H fun x H1 => ∃ a dx fs, x = .ref a ∧ H1 a = some (.ins C dx fs) ∧ fs.lookup m = none ∧ sp [x] H1 Q (E σ)) := by
  refine ⟨fun pins s σ H Q I h => ?_⟩
  refine PySem.W.methodCall_KW (pl := pl) (thn (he.run pins s σ H _ I h) fun u s1 ⟨x, H1, I1, rx, a, dx, fs, ex, ea, l, q⟩ => ?_) ht
  subst ex
  obtain rfl : u = Value.ref a := rx
  refine getmeth_ok I1 ea c hm l ?_
  exact PySem.W.callWith_K0 (first := [.ref a]) I1.kIn hm.kp (run_fnS (us := [.ref a]) (vs := [.ref a]) F hr hb (hx σ) I1 (.cons rfl .nil) q)
theorem rx_meth {C m : Str} {pl : Sem Bool} (tk : Takes X W) (Df : DefM X.prog X.w X.K X.mg X.base j C m ps sem) (hr : Room k X.A) (hj : j ≤ k) (ho : RX X W o mo) (ha : RAs X W (a :: es) mr)
    (hst : starEach (a :: es) X.env = (false, eval a X.env) :: starEach es X.env := by rfl) (hpl : (backTo pos (starEach es X.env)).any (·.1) = false := by rfl)
    (ht : eval (.Call (.Attribute o m apos) (a :: es) [] pos) X.env = (do
      let ov ← eval o X.env
      standAt apos.atName
      let (f, first) ← holding [ov] (getMethod ov m pl)
      callWith pos f first (backTo pos (starEach (a :: es) X.env)) (backToKw pos (keywordEach [] X.env))) := by rfl) : RX X W (.Call (.Attribute o m apos) (a :: es) [] pos) (mMeth C m ps.length sem mo mr) := by
  obtain ⟨ca, fa, fd, c1, c2, c3, F, hb⟩ := Df.ex
  refine ⟨pe_imp (pe_methW ho.pe c2 c3 F (hr.mono hj) hb (fun σ => passAt tk σ) ha.pa hst hpl ht) fun σ H Q q => ?_⟩
  obtain ⟨Z, B, ρ, τ, h, ok, sl, q⟩ := q
  refine te_bd ok sl q fun x w h1 B1 ρ1 H1 rx ok1 sl1 g1 q1 => ?_
  split at q1
  · rename_i hi
    obtain ⟨p, dx, fs, ex, i1, i2⟩ := insOf_ra ok1 c1 rx hi
    refine ⟨p, dx, fs, ex, i1, i2, te_args ok1 sl1 q1 fun vs ws h2 B2 ρ2 H2 r ok2 sl2 g2 q2 => ?_⟩
    split at q2
    · rename_i hl
      exact ⟨by rw [List.length_cons, r.length]; exact hl, Z, B2, ρ2, h2, w :: ws, ok2, .cons (rx.mono g2) r, q2⟩
    · exact q2.elim
  · exact q1.elim
theorem rx_meth0 {C m : Str} {pl : Sem Bool} (tk : Takes X W) (Df : DefM X.prog X.w X.K X.mg X.base j C m ps sem) (hr : Room k X.A) (hj : j ≤ k) (ho : RX X W o mo)
    (ht : eval (.Call (.Attribute o m apos) [] [] pos) X.env = (do
      let ov ← eval o X.env
      standAt apos.atName
      let (f, first) ← holding [ov] (getMethod ov m pl)
      callWith pos f first (backTo pos (starEach [] X.env)) (backToKw pos (keywordEach [] X.env))) := by rfl) : RX X W (.Call (.Attribute o m apos) [] [] pos) (mMeth C m ps.length sem mo maNil) := by
  obtain ⟨ca, fa, fd, c1, c2, c3, F, hb⟩ := Df.ex
  refine ⟨pe_imp (pe_methW0 ho.pe c2 c3 F (hr.mono hj) hb (fun σ => passAt tk σ) ht) fun σ H Q q => ?_⟩
  obtain ⟨Z, B, ρ, τ, h, ok, sl, q⟩ := q
  refine te_bd ok sl q fun x w h1 B1 ρ1 H1 rx ok1 sl1 g1 q1 => ?_
  split at q1
  · rename_i hi
    obtain ⟨p, dx, fs, ex, i1, i2⟩ := insOf_ra ok1 c1 rx hi
    refine ⟨p, dx, fs, ex, i1, i2, ?_⟩
    have q2 : Post X.K Z (fun c d H' => W c d σ H') B1 ρ1 (fun w _ B' ρ' H' => ∀ v, RA X.K B' ρ' v w → Q v H') (if ([] : List A).length + 1 = ps.length then sem (w :: []) h1 else none) := q1
    split at q2
    · rename_i hl
      exact ⟨hl, Z, B1, ρ1, h1, [w], ok1, .cons rx .nil, q2⟩
    · exact q2.elim
  · exact q1.elim
theorem rx_methP {C m : Str} {pl : Sem Bool} (tk : Takes X W) (Df : DefM X.prog X.w X.K X.mg X.base j C m ps sem) (hr : Room k X.A) (hj : j ≤ k) (ho : RX X W o mo) (ha : RAs X W (a :: es) mr)
    (hst : starEach (a :: es) X.env = (false, eval a X.env) :: starEach es X.env := by rfl) (hpl : (backTo pos (starEach es X.env)).any (·.1) = false := by rfl)
    (ht : eval (.Call (.Attribute o m apos) (a :: es) [] pos) X.env = (do
      let ov ← eval o X.env
      standAt apos.atName
      let (f, first) ← holding [ov] (getMethod ov m pl)
      callWith pos f first (backTo pos (starEach (a :: es) X.env)) (backToKw pos (keywordEach [] X.env))) := by rfl) : RX X W (.Call (.Attribute o m apos) (a :: es) [] pos) (mMethP C m ps.length sem mo mr) := by
  obtain ⟨ca, fa, fd, c1, c2, c3, F, hb⟩ := Df.ex
  refine ⟨pe_imp (pe_methW ho.pe c2 c3 F (hr.mono hj) hb (fun σ => passAt tk σ) ha.pa hst hpl ht) fun σ H Q q => ?_⟩
  obtain ⟨Z, B, ρ, τ, h, ok, sl, q⟩ := q
  refine te_bd ok sl q fun x w h1 B1 ρ1 H1 rx ok1 sl1 g1 q1 => ?_
  split at q1
  · rename_i hi
    obtain ⟨p, dx, fs, ex, i1, i2⟩ := insOf_ra ok1 c1 rx hi
    refine ⟨p, dx, fs, ex, i1, i2, te_args ok1 sl1 q1 fun vs ws h2 B2 ρ2 H2 r ok2 sl2 g2 q2 => ?_⟩
    split at q2
    · rename_i hl
      exact callP_ok ok2 (.cons (rx.mono g2) r) (by rw [List.length_cons]; exact hl) q2
    · exact q2.elim
  · exact q1.elim
theorem rx_methP0 {C m : Str} {pl : Sem Bool} (tk : Takes X W) (Df : DefM X.prog X.w X.K X.mg X.base j C m ps sem) (hr : Room k X.A) (hj : j ≤ k) (ho : RX X W o mo)
    (ht : eval (.Call (.Attribute o m apos) [] [] pos) X.env = (do
      let ov ← eval o X.env
      standAt apos.atName
      let (f, first) ← holding [ov] (getMethod ov m pl)
      callWith pos f first (backTo pos (starEach [] X.env)) (backToKw pos (keywordEach [] X.env))) := by rfl) : RX X W (.Call (.Attribute o m apos) [] [] pos) (mMethP C m ps.length sem mo maNil) := by
  obtain ⟨ca, fa, fd, c1, c2, c3, F, hb⟩ := Df.ex
  refine ⟨pe_imp (pe_methW0 ho.pe c2 c3 F (hr.mono hj) hb (fun σ => passAt tk σ) ht) fun σ H Q q => ?_⟩
  obtain ⟨Z, B, ρ, τ, h, ok, sl, q⟩ := q
  refine te_bd ok sl q fun x w h1 B1 ρ1 H1 rx ok1 sl1 g1 q1 => ?_
  split at q1
  · rename_i hi
    obtain ⟨p, dx, fs, ex, i1, i2⟩ := insOf_ra ok1 c1 rx hi
    refine ⟨p, dx, fs, ex, i1, i2, ?_⟩
    have q2 : Post X.K Z (fun c d H' => W c d σ H') B1 ρ1 (fun w _ B' ρ' H' => ∀ v, RA X.K B' ρ' v w → Q v H') (if ([] : List A).length + 1 = ps.length then callP sem (w :: []) h1 else none) := q1
    split at q2
    · rename_i hl
      exact callP_ok ok1 (.cons rx .nil) hl q2
    · exact q2.elim
  · exact q1.elim

/-! ### C(..) -/
def mMake (C : Str) (n : Nat) (sem : Sem1) (mr : E (List A)) : E A := fun τ h => bd (mr τ h) fun ws h1 => if ws.length + 1 = n then (match sem (.r h1.length :: ws) (h1 ++ [.nd (.ins C []) []]) with
  | some (.ok (.d .non) h2) => some (.ok (.r h1.length) h2)
  | _ => none) else none
/-- frozen at once: arguments data -/
def makeP (C : Str) (n : Nat) (sem : Sem1) (ws : List A) (h1 : Hq) : Option (Rs A) := if ws.length + 1 = n then (match allD ws with
  | some ds => (match sem (.r 0 :: ds.map A.d) [.nd (.ins C []) []] with
    | some (.ok (.d .non) h2) => (match view h2 (.r 0) with | some d => some (.ok (.d d) h1) | none => none)
    | _ => none)
  | none => none) else none
def mMakeP (C : Str) (n : Nat) (sem : Sem1) (mr : E (List A)) : E A := fun τ h => bd (mr τ h) fun ws h1 => makeP C n sem ws h1
theorem ok_new {K : PySem.W.Frag} {Z B H : Hp} {ρ : Nat → Option Addr} {h : Hq} {C : Str} {ca x dx : Addr} (ok : Ok K Z B ρ H h) (hc : glAt K C = some ca) (hx : H x = none) (hdx : H dx = none) (ne : dx ≠ x) :
    Ok K Z B (fun k => if k = h.length then some x else ρ k) (upd (upd H dx (.own x)) x (.ins ca dx [])) (h ++ [.nd (.ins C []) []]) ∧ Gr Z B ρ B (fun k => if k = h.length then some x else ρ k) := by
  have bn : ∀ a, H a = none → B a = none ∧ Z a = none := fun a e => by
    constructor
    · cases z : B a with
      | none => rfl
      | some u => rw [ok.ex a u z] at e; cases e
    · cases z : Z a with
      | none => rfl
      | some u => rw [ok.zz a u z] at e; cases e
  refine ok.newC hx (fun b u e => ?_) (by rw [upd_same]; simp) (.nd (vs := []) (own := [x, dx]) (.ins hc (by rw [upd_same]; rfl) (by rw [upd_ne ne, upd_same]) rfl) .nil fun b hb => ?_)
  · rw [upd_ne (ne_of_none e hx), upd_ne (ne_of_none e hdx)]; exact e
  · rcases List.mem_cons.mp hb with z | hb
    · rw [z]; exact bn x hx
    · rw [List.mem_singleton.mp hb]; exact bn dx hdx
theorem rx_make {C : Str} (tk : Takes X W) (hMk : MkC X.K X.mg C) (Df : DefM X.prog X.w X.K X.mg X.base j C "__init__" ps sem) (hr : Room k X.A) (hj : j + 1 ≤ k) (ha : RAs X W (a :: es) mr)
    (hg : Gl X C := by rfl) (hdb : (C == ("__debug__" : Str)) = false := by decide) (he : starEach (a :: es) X.env = (false, eval a X.env) :: starEach es X.env := by rfl) (hpl : (backTo pos (starEach es X.env)).any (·.1) = false := by rfl) :
    RX X W (.Call (.Name C px) (a :: es) [] pos) (mMake C ps.length sem mr) := by
  obtain ⟨ca, fa, fd, c1, c2, c3, F, hb⟩ := Df.ex
  obtain ⟨ca', fa', m1, m2, m3, m4⟩ := hMk.ex
  rw [c1] at m1
  cases m1
  have ef : fa' = fa := by
    have := c3.at_
    rw [m4] at this
    cases this
    rfl
  subst ef
  refine ⟨pe_imp (pe_make m3 F (hr.mono hj) hg m2 hb .nil passL ha.pa hdb he hpl) fun σ H Q q => ?_⟩
  obtain ⟨Z, B, ρ, τ, h, ok, sl, q⟩ := q
  refine te_args ok sl q fun vs ws h1 B1 ρ1 H1 r ok1 sl1 g1 q1 => ?_
  intro x dx hx hdx ne
  split at q1
  · rename_i hl
    obtain ⟨ok2, g2⟩ := ok_new ok1 c1 hx hdx ne
    refine ⟨by rw [List.append_nil, List.length_cons, r.length]; exact hl, Z, B1, _, _, .r h1.length :: ws, ok2, .cons (.r (if_pos rfl)) (by rw [List.append_nil]; exact r.mono g2), ?_⟩
    split at q1
    · rename_i h2 e2
      rw [e2]
      intro B' ρ' H' ok' g' v rv
      refine ⟨rp_non (ra_d rv), q1 B' ρ' H' ok' (g2.trans g') _ (.r (g'.rr _ _ (if_pos rfl)))⟩
    · exact q1.elim
  · exact q1.elim
theorem rx_make0 {C : Str} (tk : Takes X W) (hMk : MkC X.K X.mg C) (Df : DefM X.prog X.w X.K X.mg X.base j C "__init__" ps sem) (hr : Room k X.A) (hj : j + 1 ≤ k)
    (hg : Gl X C := by rfl) (hdb : (C == ("__debug__" : Str)) = false := by decide) : RX X W (.Call (.Name C px) [] [] pos) (mMake C ps.length sem maNil) := by
  obtain ⟨ca, fa, fd, c1, c2, c3, F, hb⟩ := Df.ex
  obtain ⟨ca', fa', m1, m2, m3, m4⟩ := hMk.ex
  rw [c1] at m1
  cases m1
  have ef : fa' = fa := by
    have := c3.at_
    rw [m4] at this
    cases this
    rfl
  subst ef
  refine ⟨pe_imp (pe_make0 m3 F (hr.mono hj) hg m2 hb .nil passL hdb) fun σ H Q q => ?_⟩
  obtain ⟨Z, B, ρ, τ, h, ok, sl, q⟩ := q
  intro x dx hx hdx ne
  have q1 : Post X.K Z (fun c d H' => W c d σ H') B ρ (fun w _ B' ρ' H' => ∀ v, RA X.K B' ρ' v w → Q v H') (if ([] : List A).length + 1 = ps.length then (match sem (.r h.length :: []) (h ++ [.nd (.ins C []) []]) with
    | some (.ok (.d .non) h2) => some (.ok (.r h.length) h2)
    | _ => none) else none) := q
  split at q1
  · rename_i hl
    obtain ⟨ok2, g2⟩ := ok_new ok c1 hx hdx ne
    refine ⟨hl, Z, B, _, _, [.r h.length], ok2, .cons (.r (if_pos rfl)) .nil, ?_⟩
    split at q1
    · rename_i h2 e2
      rw [e2]
      intro B' ρ' H' ok' g' v rv
      refine ⟨rp_non (ra_d rv), q1 B' ρ' H' ok' (g2.trans g') _ (.r (g'.rr _ _ (if_pos rfl)))⟩
    · exact q1.elim
  · exact q1.elim
theorem rx_makeP {C : Str} (tk : Takes X W) (hMk : MkC X.K X.mg C) (Df : DefM X.prog X.w X.K X.mg X.base j C "__init__" ps sem) (hr : Room k X.A) (hj : j + 1 ≤ k) (ha : RAs X W (a :: es) mr)
    (hg : Gl X C := by rfl) (hdb : (C == ("__debug__" : Str)) = false := by decide) (he : starEach (a :: es) X.env = (false, eval a X.env) :: starEach es X.env := by rfl) (hpl : (backTo pos (starEach es X.env)).any (·.1) = false := by rfl) :
    RX X W (.Call (.Name C px) (a :: es) [] pos) (mMakeP C ps.length sem mr) := by
  obtain ⟨ca, fa, fd, c1, c2, c3, F, hb⟩ := Df.ex
  obtain ⟨ca', fa', m1, m2, m3, m4⟩ := hMk.ex
  rw [c1] at m1
  cases m1
  have ef : fa' = fa := by
    have := c3.at_
    rw [m4] at this
    cases this
    rfl
  subst ef
  refine ⟨pe_imp (pe_make m3 F (hr.mono hj) hg m2 hb .nil passL ha.pa hdb he hpl) fun σ H Q q => ?_⟩
  obtain ⟨Z, B, ρ, τ, h, ok, sl, q⟩ := q
  refine te_args ok sl q fun vs ws h1 B1 ρ1 H1 r ok1 sl1 g1 q1 => ?_
  intro x dx hx hdx ne
  unfold makeP at q1
  split at q1
  · rename_i hl
    split at q1
    · rename_i ds e0
      cases allD_of e0
      obtain ⟨ok2, g2⟩ := ok_new ok1.void c1 hx hdx ne
      refine ⟨by rw [List.append_nil, List.length_cons, r.length]; exact hl, H1, B1, _, _, .r 0 :: ds.map A.d, ok2, .cons (.r (if_pos rfl)) (by rw [List.append_nil]; exact ral_ds (ral_rpl r)), ?_⟩
      split at q1
      · rename_i h2 e2
        have e2' : sem (.r 0 :: ds.map A.d) ([] ++ [.nd (.ins C []) []]) = some (.ok (.d .non) h2) := e2
        rw [e2']
        intro B' ρ' H' ok' g' v rv
        refine ⟨rp_non (ra_d rv), ?_⟩
        split at q1
        · rename_i d e3
          obtain ⟨B2, o2, g3, see⟩ := ok1.backP ok' (g2.trans g')
          exact q1 B2 ρ1 H' o2 g3 _ (.d (see _ _ d (.r (g'.rr _ _ (if_pos rfl))) e3))
        · exact q1.elim
      · exact q1.elim
    · exact q1.elim
  · exact q1.elim
end
end Tq

/-! Tq9: more operations: in, dict displays, get, isinstance of two, chains. -/
namespace Tq
open PySem PySem.Spec PyProof.Rows L2
/-! ### a text times a number -/
def repS (z : Str) (n : Nat) : Str := ⟨(List.replicate n z.cps).foldl (· ++ ·) #[]⟩
theorem fold_nil : ∀ (n : Nat) (a : Array Nat), List.foldl (fun x1 x2 => x1 ++ x2) a (List.replicate n #[]) = a
  | 0, _ => rfl
  | n + 1, a => by rw [List.replicate_succ, List.foldl_cons, Array.append_empty, fold_nil n]
def gRep : G2 := fun a b h => match a, b with
  | .d (.str z), .d (.int n) => if z.length * n.toNat ≤ LIM ∧ n < 2 ^ 62 ∧ -(2 ^ 62) < n then some (.ok (.d (.str (repS z n.toNat))) h) else none
  | _, _ => none
def rRepS : R2 := fun x y H Q => ∃ (z : Str) (n : Int), x = .str z ∧ y = .int n ∧ z.length * n.toNat ≤ LIM ∧ n < 2 ^ 62 ∧ -(2 ^ 62) < n ∧ Q (.str (repS z n.toNat)) H
theorem repS_len (z : Str) : ∀ n : Nat, (repS z n).length = n * z.length := by
  have go : ∀ (n : Nat) (a : Array Nat), (List.foldl (fun x1 x2 => x1 ++ x2) a (List.replicate n z.cps)).size = a.size + n * z.cps.size := by
    intro n
    induction n with
    | zero => intro a; simp
    | succ n ih =>
      intro a
      rw [List.replicate_succ, List.foldl_cons, ih, Array.size_append, Nat.succ_mul]
      omega
  intro n
  show (List.foldl (fun x1 x2 => x1 ++ x2) #[] (List.replicate n z.cps)).size = _
  rw [go]
  show 0 + n * z.cps.size = n * z.cps.size
  omega
theorem repS_ok {z : Str} (hz : PyData.strOk z = true) (n : Nat) : PyData.strOk (repS z n) = true := by
  have go : ∀ (n : Nat) (a : Array Nat), a.all (· < 0x110000) = true → (List.foldl (fun x1 x2 => x1 ++ x2) a (List.replicate n z.cps)).all (· < 0x110000) = true := by
    intro n
    induction n with
    | zero => intro a h; exact h
    | succ n ih =>
      intro a h
      rw [List.replicate_succ, List.foldl_cons]
      refine ih _ ?_
      rw [Array.all_append, h]
      exact hz
  exact go n #[] (by decide +kernel)
theorem str_eta (z : Str) : z = ⟨z.cps⟩ := rfl
section
variable {X : Cx}
theorem op_repS : OpR X (binaryOp .Mult) rRepS := by
  intro pins s σ H x y v u Q I rx ry h
  obtain ⟨z, n, rfl, rfl, hz, h1, h2, q⟩ := h
  obtain ⟨t, rfl⟩ := rx
  obtain ⟨t', rfl⟩ := ry
  rw [lim_eq] at hz
  have ns : ∀ b : Bool, ¬ n < 1 → Builtin.Str.tooLong (z.length * n.toNat) = false := fun _ _ => decide_eq_false (by omega)
  refine P.mul_str (by rw [decide_eq_false (by omega), decide_eq_false (by omega)]; rfl) (fun a b c => ?_) (fun a _ => ns true a) ?_
  · have e1 : ((z.length * n.toNat : Nat) : Int) = (z.length : Int) * n := by
      rw [Int.natCast_mul, Int.toNat_of_nonneg (by omega)]
    have h3 : (z.length : Int) * n ≤ 16777216 := by
      rw [← e1]
      have : z.length * n.toNat ≤ 16777216 := hz
      omega
    have h4 : (z.length : Int) * n ≤ 2 ^ 63 - 1 := by omega
    have h5 := (Int.le_ediv_iff_mul_le (by omega : (0 : Int) < n)).mpr h4
    omega
  · by_cases g1 : n < 1
    · rw [if_pos g1]
      have e : repS z n.toNat = Str.empty := by
        have : n.toNat = 0 := by omega
        rw [this]
        rfl
      rw [e] at q
      exact ⟨by decide, .str Str.empty, H, I.tok _, ⟨_, rfl⟩, q⟩
    · rw [if_neg g1]
      by_cases g2 : (n == 1 || z.length == 0) = true
      · rw [if_pos g2]
        have e : repS z n.toNat = z := by
          rw [Bool.or_eq_true] at g2
          rcases g2 with g | g
          · have : n = 1 := eq_of_beq g
            subst this
            show Str.mk (#[] ++ z.cps) = z
            rw [Array.empty_append]
          · have g : z.cps.size = 0 := eq_of_beq g
            have g : z.cps = #[] := Array.eq_empty_of_size_eq_zero g
            show Str.mk (List.foldl (fun x1 x2 => x1 ++ x2) #[] (List.replicate n.toNat z.cps)) = z
            rw [g, fold_nil, ← g]
        rw [e] at q
        exact ⟨.str z, H, I, ⟨_, rfl⟩, q⟩
      · rw [if_neg g2]
        refine ⟨?_, .str (repS z n.toNat), H, I.tok _, ⟨_, rfl⟩, q⟩
        show (repS z n.toNat).length ≤ sizeLine
        rw [repS_len, Nat.mul_comm]
        exact hz
end
theorem og_rep {K : PySem.W.Frag} : Op2 K rRepS gRep := by
  intro Z B ρ H h x y a b W Q ok rx ry q
  unfold gRep at q
  split at q
  · split at q
    · rename_i hc
      exact ⟨_, _, ra_str rx, ra_int ry, hc.1, hc.2.1, hc.2.2, q.now ok _ (.d (.str _))⟩
    · exact q.elim
  · exact q.elim

def gIsi2 (A T : String) : G1 := fun a h => match tyA h a with | some n => some (.ok (.d (.bl (isiN A n || isiN T n))) h) | none => none
section
variable {X : Cx} {W : WX} {a : Expr} {ma : E Tq.A} {pos : Pos}
theorem rx_isi2 {x y : Str} {A T : String} {px p1 p2 p3 : Pos} {k1 : Nat} (ha : RX X W a ma) (hmi : X.mg "isinstance" = none) (hmA : X.mg x = none) (hmT : X.mg y = none) (hv : bootBuiltins x = some (.type A) := by decide +kernel) (hw : bootBuiltins y = some (.type T) := by decide +kernel)
    (hA : A ∈ ["bool", "int", "str", "tuple", "list", "dict"] := by decide) (hT : T ∈ ["bool", "int", "str", "tuple", "list", "dict"] := by decide)
    (hgi : Gl X "isinstance" := by rfl) (hg : Gl X x := by rfl) (hg2 : Gl X y := by rfl) (hn : x ≠ "__name__" := by decide) (hn2 : y ≠ "__name__" := by decide) (hdb : (x == ("__debug__" : Str)) = false := by decide) (hdb2 : (y == ("__debug__" : Str)) = false := by decide)
    (he : starEach [a, .Tuple [.Name x p1, .Name y p2] k1 p3] X.env = (false, eval a X.env) :: starEach [.Tuple [.Name x p1, .Name y p2] k1 p3] X.env := by rfl) (he2 : starEach [.Tuple [.Name x p1, .Name y p2] k1 p3] X.env = (false, eval (.Tuple [.Name x p1, .Name y p2] k1 p3) X.env) :: starEach [] X.env := by rfl)
    (he3 : starEach [.Name x p1, .Name y p2] X.env = (false, eval (.Name x p1) X.env) :: starEach [.Name y p2] X.env := by rfl) (he4 : starEach [.Name y p2] X.env = (false, eval (.Name y p2) X.env) :: starEach [] X.env := by rfl)
    (hpl : (backTo pos (starEach [.Tuple [.Name x p1, .Name y p2] k1 p3] X.env)).any (·.1) = false := by rfl) :
    RX X W (.Call (.Name "isinstance" px) [a, .Tuple [.Name x p1, .Name y p2] k1 p3] [] pos) (mUn (gIsi2 A T) ma) := by
  let r2 : V → Hp → VK → Prop := fun v H Q => [V.ty A, V.ty T].length ≤ sizeLine ∧ ∀ q, H q = none → rIsiT X.K [v, .ref q] (upd H q (.tup [.ty A, .ty T])) Q
  refine rx_op1 (r := r2) ha ?_ fun {ta} h1 => pe_callB call_isiT hgi hmi (by decide +kernel) (pa_cons h1 (pa_cons (pe_tup (pa_cons (pe_bltn (v := .ty A) hg hmA hv rfl hn hdb) (pa_cons (pe_bltn (v := .ty T) hg2 hmT hw rfl hn2 hdb2) pa_nil he4) he3)) pa_nil he2) he) (by decide) (by decide) he hpl
  intro Z B ρ H h x a W Q ok rx q
  unfold gIsi2 at q
  split at q
  · rename_i n e
    refine ⟨show 2 ≤ 16777216 by decide, fun p hp => ?_⟩
    obtain ⟨ok2, g2⟩ := ok.newB (o := .tup [V.ty A, V.ty T]) hp
    obtain ⟨h1, h2⟩ := tyx_ra ok2 (rx.mono g2) e
    refine ⟨x, p, _, .type n, [.type A, .type T], _, rfl, upd_same, .cons (.ty A) (.cons (.ty T) .nil), h1, ?_, q _ _ _ ok2 g2 _ (.d (.bl _))⟩
    show (match PySem.W.kitOne X.K (.type n) (.type A) with
      | some true => some true
      | some false => (match PySem.W.kitOne X.K (.type n) (.type T) with | some true => some true | some false => some false | none => none)
      | none => none) = _
    rw [kit_isiN hA h2, kit_isiN hT h2]
    cases isiN A n <;> cases isiN T n <;> rfl
  · exact q.elim
end
/-! ### in -/
theorem flatV_rp {K : PySem.W.Frag} {B : Hp} {v : V} {d : D} (r : Rp K B v d) (h : d.flat = true) : flatV v = true := by
  cases r <;> first | rfl | cases h
theorem eqV_rp {K : PySem.W.Frag} {B : Hp} {v u : V} {d e : D} (r1 : Rp K B v d) (r2 : Rp K B u e) (h1 : d.flat = true) (h2 : e.flat = true) : eqV v u = D.eqv d e := by
  cases r1 <;> first | (cases h1; done) | (cases r2 <;> first | (cases h2; done) | simp [eqV, D.eqv, D.toP, PyData.eqv])
theorem all_flatV {K : PySem.W.Frag} {B : Hp} {vs : List V} {ds : List D} (r : RpL K B vs ds) (h : ds.all D.flat = true) : vs.all flatV = true := by
  induction vs generalizing ds with
  | nil => rfl
  | cons v vs ih =>
    cases r with
    | cons w wl =>
      rw [List.all_cons, Bool.and_eq_true] at h
      rw [List.all_cons, flatV_rp w h.1, ih wl h.2]
      rfl
theorem inV_rp {K : PySem.W.Frag} {B : Hp} {v : V} {d : D} {vs : List V} {ds : List D} (r1 : Rp K B v d) (h1 : d.flat = true) (r : RpL K B vs ds) (h : ds.all D.flat = true) : inV v vs = ds.any fun z => D.eqv z d := by
  unfold inV
  induction vs generalizing ds with
  | nil =>
    cases r
    rfl
  | cons u vs ih =>
    cases r with
    | cons w wl =>
      rw [List.all_cons, Bool.and_eq_true] at h
      rw [List.any_cons, List.any_cons, eqV_rp w r1 h.1 h1, ih wl h.2]
theorem any_toPs (d : D) : ∀ ds : List D, (D.toPs ds).any (fun z => PyData.eqv z d.toP) = ds.any fun z => D.eqv z d
  | [] => rfl
  | x :: r => by
    unfold D.toPs
    rw [List.any_cons, List.any_cons, any_toPs d r]
    rfl
def sign1 (x : Str) : Option Nat := match x.cps.toList with | [c] => some c | _ => none
theorem sign1_eq {x : Str} {c : Nat} (h : sign1 x = some c) : x = ⟨#[c]⟩ := by
  obtain ⟨⟨l⟩⟩ := x
  unfold sign1 at h
  match l, h with
  | [d], h => cases h; rfl
/-- x in y: a list, a tuple of flat things, one sign in a text -/
def inD (neg : Bool) (x y : D) : Option Bool := match y with
  | .lst ds => if x.shp && (D.lst ds).shp then some (if neg then !ds.any fun z => D.eqv z x else ds.any fun z => D.eqv z x) else none
  | .tup ds => if x.flat && ds.all D.flat then some (if neg then !ds.any fun z => D.eqv z x else ds.any fun z => D.eqv z x) else none
  | .kt ds => if x.flat && ds.all D.flat then some (if neg then !ds.any fun z => D.eqv z x else ds.any fun z => D.eqv z x) else none
  | .str z => (match x with
    | .str w => (match sign1 w with
      | some c => some (if neg then !decide (c ∈ z.cps.toList) else decide (c ∈ z.cps.toList))
      | none => some (if neg then !(!(Builtin.Str.occurrences z w 0 z.length 1).isEmpty) else !(Builtin.Str.occurrences z w 0 z.length 1).isEmpty))
    | _ => none)
  | _ => none
abbrev rInA (K : PySem.W.Frag) : R2 := fun x y H Q => rInD K x y H Q ∨ rIn K false x y H Q ∨ (∃ (c : Nat) (z : Str), x = .str ⟨#[c]⟩ ∧ y = .str z ∧ Q (.bl (decide (c ∈ z.cps.toList))) H) ∨ (∃ i j, x = .str i ∧ y = .str j ∧ Q (.bl (!(Builtin.Str.occurrences j i 0 j.length 1).isEmpty)) H)
abbrev rNotInA (K : PySem.W.Frag) : R2 := fun x y H Q => rNotInD K x y H Q ∨ rIn K true x y H Q ∨ (∃ (c : Nat) (z : Str), x = .str ⟨#[c]⟩ ∧ y = .str z ∧ Q (.bl (!decide (c ∈ z.cps.toList))) H) ∨ (∃ i j, x = .str i ∧ y = .str j ∧ Q (.bl (!(!(Builtin.Str.occurrences j i 0 j.length 1).isEmpty))) H)
theorem op_inA {X : Cx} (hu : X.A.units + 65 < cLine) : OpR X (compareOp .In) (rInA X.K) := (op_inD hu).or (op_in_seq.or (op_in_sign.or op_in_str))
theorem op_notInA {X : Cx} (hu : X.A.units + 65 < cLine) : OpR X (compareOp .NotIn) (rNotInA X.K) := (op_notInD hu).or (op_notIn_seq.or (op_notIn_sign.or op_notIn_str))
theorem og_in {K : PySem.W.Frag} : Op2 K (rInA K) (g2V (inD false)) := og_2v fun H x y d e k Q r1 r2 hk q => by
  unfold inD at hk
  split at hk
  · rename_i ds
    split at hk
    · rename_i hs
      rw [Bool.and_eq_true] at hs
      cases hk
      refine .inl ⟨_, _, r1.dp hs.1, (show Dp K H y (.list (D.toPs ds)) from r2.dp hs.2), hs.1, hs.2, ?_⟩
      rw [any_toPs]
      exact q
    · cases hk
  · rename_i ds
    split at hk
    · rename_i hs
      rw [Bool.and_eq_true] at hs
      cases hk
      cases r2 with
      | tup ht rl =>
        refine .inr (.inl ⟨_, _, rfl, .inr (sqt_of ht), flatV_rp r1 hs.1, all_flatV rl hs.2, ?_⟩)
        rw [inV_rp r1 hs.1 rl hs.2]
        exact q
    · cases hk
  · rename_i ds
    split at hk
    · rename_i hs
      rw [Bool.and_eq_true] at hs
      cases hk
      cases r2 with
      | kt ht rl =>
        refine .inr (.inl ⟨_, _, rfl, .inr ht, flatV_rp r1 hs.1, all_flatV rl hs.2, ?_⟩)
        rw [inV_rp r1 hs.1 rl hs.2]
        exact q
    · cases hk
  · rename_i z
    split at hk
    · rename_i w
      cases rp_str r1
      cases rp_str r2
      split at hk
      · rename_i c e
        cases hk
        cases sign1_eq e
        exact .inr (.inr (.inl ⟨c, z, rfl, rfl, q⟩))
      · cases hk
        exact .inr (.inr (.inr ⟨w, z, rfl, rfl, q⟩))
    · cases hk
  · cases hk
theorem og_notIn {K : PySem.W.Frag} : Op2 K (rNotInA K) (g2V (inD true)) := og_2v fun H x y d e k Q r1 r2 hk q => by
  unfold inD at hk
  split at hk
  · rename_i ds
    split at hk
    · rename_i hs
      rw [Bool.and_eq_true] at hs
      cases hk
      refine .inl ⟨_, _, r1.dp hs.1, (show Dp K H y (.list (D.toPs ds)) from r2.dp hs.2), hs.1, hs.2, ?_⟩
      rw [any_toPs]
      exact q
    · cases hk
  · rename_i ds
    split at hk
    · rename_i hs
      rw [Bool.and_eq_true] at hs
      cases hk
      cases r2 with
      | tup ht rl =>
        refine .inr (.inl ⟨_, _, rfl, .inr (sqt_of ht), flatV_rp r1 hs.1, all_flatV rl hs.2, ?_⟩)
        rw [inV_rp r1 hs.1 rl hs.2]
        exact q
    · cases hk
  · rename_i ds
    split at hk
    · rename_i hs
      rw [Bool.and_eq_true] at hs
      cases hk
      cases r2 with
      | kt ht rl =>
        refine .inr (.inl ⟨_, _, rfl, .inr ht, flatV_rp r1 hs.1, all_flatV rl hs.2, ?_⟩)
        rw [inV_rp r1 hs.1 rl hs.2]
        exact q
    · cases hk
  · rename_i z
    split at hk
    · rename_i w
      cases rp_str r1
      cases rp_str r2
      split at hk
      · rename_i c e
        cases hk
        cases sign1_eq e
        exact .inr (.inr (.inl ⟨c, z, rfl, rfl, q⟩))
      · cases hk
        exact .inr (.inr (.inr ⟨w, z, rfl, rfl, q⟩))
    · cases hk
  · cases hk
/-- k in d, d a dict -/
def gInK (neg : Bool) : G2 := fun kd a h => match dicOf h a with
  | some (hd, ws) => (match hGet hd ws kd with | some o => some (.ok (.d (.bl (neg != o.isSome))) h) | none => none)
  | none => none
section
variable {X : Cx} {W : WX} {a b c : Expr} {ma mb mc : E Tq.A} {pos : Pos}
theorem dinK_ok {K : PySem.W.Frag} {Z B H : Hp} {ρ : Nat → Option Addr} {h : Hq} {x y : V} {kd d : A} {neg : Bool} {Wk : XK} {Q : VK} (ok : Ok K Z B ρ H h) (ry : RA K B ρ y kd) (rx : RA K B ρ x d) (q : Post K Z Wk B ρ (fun w _ B' ρ' H' => ∀ v, RA K B' ρ' v w → Q v H') (gInK neg kd d h)) :
    ∃ p o, x = .ref p ∧ DGet H p y o ∧ Q (.bl (neg != o.isSome)) H := by
  unfold gInK at q
  split at q
  · rename_i hd ws e1
    split at q
    · rename_i o e2
      obtain ⟨p, vs, own, rfl, x1, r1⟩ := dicOf_ra ok rx e1
      obtain ⟨g1, g2⟩ := hGet_ok ok x1 r1 ry e2
      cases o with
      | none => exact ⟨p, none, rfl, g1 rfl, q.now ok _ (.d (.bl _))⟩
      | some w =>
        obtain ⟨v, g, _⟩ := g2 w rfl
        exact ⟨p, some v, rfl, g, q.now ok _ (.d (.bl _))⟩
    · exact q.elim
  · exact q.elim
theorem rx_inK (hu : X.A.units + 1 < cLine) (ha : RX X W a ma) (hb : RX X W b mb) (hm : behindInMarks .In b = false := by with_unfolding_all rfl) : RX X W (.Compare a [.In] [b] pos) (mBin (gInK false) ma mb) := ⟨pe_imp (pe_cmp (pc_din hu ha.pe hb.pe) hm) fun σ H Q q => by
  obtain ⟨Z, B, ρ, τ, h, ok, sl, q⟩ := q
  refine te_bd ok sl q fun y kd h1 B1 ρ1 H1 ry ok1 sl1 g1 q1 => te_bd ok1 sl1 q1 fun x d h2 B2 ρ2 H2 rx ok2 sl2 g2 q2 => ?_
  obtain ⟨p, o, e, g, z⟩ := dinK_ok ok2 (ry.mono g2) rx q2
  exact ⟨p, o, e, g, by simpa using z⟩⟩
theorem rx_notInK (hu : X.A.units + 1 < cLine) (ha : RX X W a ma) (hb : RX X W b mb) (hm : behindInMarks .NotIn b = false := by with_unfolding_all rfl) : RX X W (.Compare a [.NotIn] [b] pos) (mBin (gInK true) ma mb) := ⟨pe_imp (pe_cmp (pc_dnotin hu ha.pe hb.pe) hm) fun σ H Q q => by
  obtain ⟨Z, B, ρ, τ, h, ok, sl, q⟩ := q
  refine te_bd ok sl q fun y kd h1 B1 ρ1 H1 ry ok1 sl1 g1 q1 => te_bd ok1 sl1 q1 fun x d h2 B2 ρ2 H2 rx ok2 sl2 g2 q2 => ?_
  obtain ⟨p, o, e, g, z⟩ := dinK_ok ok2 (ry.mono g2) rx q2
  exact ⟨p, o, e, g, by simpa using z⟩⟩
/-- d.get(k, e) -/
def isDic (h : Hq) (a : Tq.A) : Bool := match dicOf h a with | some (.dic _, _) => true | some (.dit _, _) => true | _ => false
def mGet2 (mo mk md : E Tq.A) : E Tq.A := fun τ h => bd (mo τ h) fun a h1 => if isDic h1 a = true then bd (mk τ h1) fun kd h2 => bd (md τ h2) fun d h3 => match dicOf h3 a with
  | some (hd, ws) => (match hGet hd ws kd with | some (some w) => some (.ok w h3) | some none => some (.ok d h3) | none => none)
  | none => none else none
theorem rx_get2 {apos cpos : Pos} (hu : X.A.units + 1 < cLine) (ha : RX X W a ma) (hb : RX X W b mb) (hc : RX X W c mc) (m : M2 X a "get" apos b c cpos := by exact ⟨by rfl, by rfl, by rfl, by rfl⟩) : RX X W (.Call (.Attribute a "get" apos) [b, c] [] cpos) (mGet2 ma mb mc) := ⟨pe_imp (pe_dget2 hu ha.pe hb.pe hc.pe m) fun σ H Q q => by
  obtain ⟨Z, B, ρ, τ, h, ok, sl, q⟩ := q
  refine te_bd ok sl q fun x a h1 B1 ρ1 H1 rx ok1 sl1 g1 q1 => ?_
  split at q1
  · rename_i hd0
    have isd : ∃ p, x = .ref p ∧ IsD H1 p := by
      unfold isDic at hd0
      split at hd0
      · rename_i ks ws e
        obtain ⟨p, vs, own, rfl, x1, r1⟩ := dicOf_ra ok1 rx e
        cases x1 with
        | dic i1 i2 => exact ⟨p, rfl, .inl ⟨_, .inl i1⟩⟩
      · rename_i ks ws e
        obtain ⟨p, vs, own, rfl, x1, r1⟩ := dicOf_ra ok1 rx e
        cases x1 with
        | dit i1 i2 => exact ⟨p, rfl, .inr ⟨_, .inl i1⟩⟩
      · cases hd0
    obtain ⟨p, rfl, hp⟩ := isd
    refine ⟨p, rfl, hp, te_bd ok1 sl1 q1 fun y kd h2 B2 ρ2 H2 ry ok2 sl2 g2 q2 => te_bd ok2 sl2 q2 fun z d h3 B3 ρ3 H3 rz ok3 sl3 g3 q3 => ?_⟩
    split at q3
    · rename_i hd ws e1
      obtain ⟨p', vs, own, ep, x1, r1⟩ := dicOf_ra ok3 (rx.mono (g2.trans g3)) e1
      cases ep
      split at q3
      · rename_i w e2
        obtain ⟨v, g, rv⟩ := (hGet_ok ok3 x1 r1 (ry.mono g3) e2).2 w rfl
        exact ⟨some v, g, q3.now ok3 _ rv⟩
      · rename_i e2
        exact ⟨none, (hGet_ok ok3 x1 r1 (ry.mono g3) e2).1 rfl, q3.now ok3 _ rz⟩
      · exact q3.elim
    · exact q3.elim
  · exact q1.elim⟩
/-- a < b < c -/
theorem rx_chain {op op' : CmpOp} {r r' : R2} {g g' : G2} (ho : OpR X (compareOp op) r) (og : Op2 X.K r g) (ho' : OpR X (compareOp op') r') (og' : Op2 X.K r' g') (ha : RX X W a ma) (hb : RX X W b mb) (hc : RX X W c mc) (hm : lastMarks [op, op'] [b, c] = false := by with_unfolding_all rfl) :
    RX X W (.Compare a [op, op'] [b, c] pos) (mChain g g' ma mb mc) := ⟨pe_imp (pe_chain ho ho' ha.pe hb.pe hc.pe hm) fun σ H Q q => by
  obtain ⟨Z, B, ρ, τ, h, ok, sl, q⟩ := q
  refine te_bd ok sl q fun x a h1 B1 ρ1 H1 rx ok1 sl1 g1 q1 => te_bd ok1 sl1 q1 fun y b h2 B2 ρ2 H2 ry ok2 sl2 g2 q2 => ?_
  refine og Z B2 ρ2 H2 h2 x y a b _ _ ok2 (rx.mono g2) ry (q2.bd.imp fun k h3 B3 ρ3 H3 ok3 g3 q3 z rz => ?_)
  split at q3
  · refine ⟨true, rp_bl (ra_d rz), iteT (te_bd ok3 (sl2.mono g3) q3 fun u c h4 B4 ρ4 H4 ru ok4 sl4 g4 q4 => ?_)⟩
    exact og' Z B4 ρ4 H4 h4 y u b c _ Q ok4 (ry.mono (g3.trans g4)) ru q4
  · exact ⟨false, rp_bl (ra_d rz), iteF (q3.now ok3 _ (.d (.bl false)))⟩
  · exact q3.elim⟩
end
/-! ### dict displays -/
def mDict0 (tup : Bool) : E Tq.A := fun _ h => some (.ok (.r h.length) (h ++ [.nd (if tup then .dit [] else .dic []) []]))
section
variable {X : Cx} {W : WX} {pos : Pos}
theorem ok_newD {K : PySem.W.Frag} {Z B H : Hp} {ρ : Nat → Option Addr} {h : Hq} {p : Addr} {o : HO} {hd : Hd} {vs : List V} {ws : List A} (ok : Ok K Z B ρ H h) (hp : H p = none) (x : HdAt K (upd H p o) p hd vs [p]) (r : RAL K B ρ vs ws) :
    Ok K Z B (fun k => if k = h.length then some p else ρ k) (upd H p o) (h ++ [.nd hd ws]) ∧ Gr Z B ρ B (fun k => if k = h.length then some p else ρ k) := by
  have bn : ∀ a, H a = none → B a = none ∧ Z a = none := fun a e => by
    constructor
    · cases z : B a with
      | none => rfl
      | some u => rw [ok.ex a u z] at e; cases e
    · cases z : Z a with
      | none => rfl
      | some u => rw [ok.zz a u z] at e; cases e
  refine ok.newC hp (fun b u e => ?_) (by rw [upd_same]; simp) (.nd x r fun b hb => ?_)
  · rw [upd_ne (ne_of_none e hp)]; exact e
  · rw [List.mem_singleton.mp hb]; exact bn p hp
theorem rx_dict0 (tup : Bool) : RX X W (.Dict [] [] pos) (mDict0 tup) := by
  constructor
  cases tup with
  | true =>
    refine pe_imp pe_dnewT fun σ H Q q => ?_
    obtain ⟨Z, B, ρ, τ, h, ok, sl, q⟩ := q
    intro p hp
    obtain ⟨ok2, g2⟩ := ok_newD (o := .dT []) (hd := .dit []) (vs := []) (ws := []) ok hp (.dit upd_same rfl) .nil
    exact q _ _ _ ok2 g2 _ (.r (if_pos rfl))
  | false =>
    refine pe_imp pe_dnewK fun σ H Q q => ?_
    obtain ⟨Z, B, ρ, τ, h, ok, sl, q⟩ := q
    intro p hp
    obtain ⟨ok2, g2⟩ := ok_newD (o := .dK []) (hd := .dic []) (vs := []) (ws := []) ok hp (.dic upd_same rfl) .nil
    exact q _ _ _ ok2 g2 _ (.r (if_pos rfl))
theorem Post.besides {α : Type} {K : PySem.W.Frag} {Z B : Hp} {W : XK} {ρ : Nat → Option Addr} {R : α → Hq → Hp → (Nat → Option Addr) → Hp → Prop} {r : Option (Rs α)} {q : Addr} {o : HO} (hz : Z q = none) (p : Post K Z W B ρ R r) : Post K (upd Z q o) W B ρ R r := by
  match r, p with
  | some (.ok a h), p => exact fun B' ρ' H' ok g => p B' ρ' H' (ok.bare hz) (g.aside hz)
  | some (.ex x h), p => exact fun B' ρ' H' cls d ok g xc => p B' ρ' H' cls d (ok.bare hz) (g.aside hz) xc
theorem Ok.adoptC {K : PySem.W.Frag} {Z B H : Hp} {ρ : Nat → Option Addr} {h : Hq} {q : Addr} {ob : HO} {c : O} (ok : Ok K (upd Z q ob) B ρ H h) (hz : Z q = none) (cc : CeAt K Z B H ρ q c) :
    Ok K Z B (fun k => if k = h.length then some q else ρ k) H (h ++ [c]) ∧ Gr Z B ρ B (fun k => if k = h.length then some q else ρ k) := by
  have hq : H q = some ob := ok.zz q _ upd_same
  have ok0 := ok.bare hz
  have fresh : ∀ k a, ρ k = some a → a ≠ q := fun k a e z => by
    have hk : k < h.length := by
      apply Classical.byContradiction
      intro y
      rw [ok.up k (by omega)] at e
      cases e
    obtain ⟨c, hc⟩ : ∃ c, h[k]? = some c := ⟨_, List.getElem?_eq_getElem hk⟩
    obtain ⟨a', h1, h2⟩ := ok.ce k c hc
    rw [e] at h1
    cases h1
    have key : upd Z q ob a = none := by
      cases h2 with
      | lst _ _ _ e4 => exact e4
      | nd e1 _ e3 => exact (e3 _ e1.own_or.1).2
      | dead e4 => exact e4
    rw [z, upd_same] at key
    cases key
  have gg : Gr Z B ρ B (fun k => if k = h.length then some q else ρ k) := ⟨fun _ _ e => e, fun k a e => by
    have : k ≠ h.length := fun z => by rw [ok.up k (by omega)] at e; cases e
    show (if k = h.length then some q else ρ k) = some a
    rw [if_neg this]; exact e, fun a e e' => absurd e e'⟩
  refine ⟨⟨ok0.ex, ok0.zz, fun k c' e => ?_, fun i j a e1 e2 => ?_, fun k a e => ?_, fun k e => ?_⟩, gg⟩
  · by_cases z : k = h.length
    · subst z
      rw [List.getElem?_append_right (by omega), Nat.sub_self] at e
      cases e
      refine ⟨q, if_pos rfl, ?_⟩
      cases cc with
      | lst e1 e2 e3 e4 => exact .lst e1 (e2.mono gg) e3 e4
      | nd e1 e2 e3 => exact .nd e1 (e2.mono gg) e3
      | dead e1 => exact .dead e1
    · have hk : k < h.length := by
        have := (List.getElem?_eq_some_iff.mp e).1
        rw [List.length_append, List.length_singleton] at this
        omega
      rw [List.getElem?_append_left hk] at e
      obtain ⟨a, h1, h2⟩ := ok0.ce k c' e
      refine ⟨a, gg.rr k a h1, ?_⟩
      cases h2 with
      | lst e1 e2 e3 e4 => exact .lst e1 (e2.mono gg) e3 e4
      | nd e1 e2 e3 => exact .nd e1 (e2.mono gg) e3
      | dead e1 => exact .dead e1
  · have e1 : (if i = h.length then some q else ρ i) = some a := e1
    have e2 : (if j = h.length then some q else ρ j) = some a := e2
    split at e1 <;> split at e2
    · omega
    · cases e1; exact absurd rfl (fresh _ _ e2)
    · cases e2; exact absurd rfl (fresh _ _ e1)
    · exact ok.nj i j a e1 e2
  · have e : (if k = h.length then some q else ρ k) = some a := e
    split at e
    · cases e; rw [hq]; simp
    · exact ok.al k a e
  · rw [List.length_append, List.length_singleton] at e
    show (if k = h.length then some q else ρ k) = none
    rw [if_neg (by omega)]
    exact ok.up k (by omega)
/-- {k: v, ..}, the keys written, no two alike -/
def mPairs : List Key → List (E Tq.A) → E (List Tq.A)
  | k :: ks, m :: ms => fun τ h => bd (m τ h) fun w h1 => bd (mPairs ks ms τ h1) fun r h2 => some (.ok (w :: r) h2)
  | _, _ => fun _ h => some (.ok [] h)
def mDict (ks : List Key) (ms : List (E Tq.A)) : E Tq.A := fun τ h => bd (mPairs ks ms τ h) fun ws h1 => if ws.length = ks.length then some (.ok (.r h1.length) (h1 ++ [.nd (.dic ks) ws])) else none
inductive RPs (X : Cx) (W : WX) (pos : Pos) : List (Option Expr) → List Expr → List Key → List (E Tq.A) → List (TE × TE) → Prop
  | nil : RPs X W pos [] [] [] [] []
  | cons {k : Key} {ke ve : Expr} {kes : List (Option Expr)} {ves : List Expr} {ks : List Key} {m : E Tq.A} {ms : List (E Tq.A)} {trs : List (TE × TE)} : PE X ke (tC (kV k)) → RX X W ve m → RPs X W pos kes ves ks ms trs →
      RPs X W pos (some ke :: kes) (ve :: ves) (k :: ks) (m :: ms) ((tC (kV k), tE X.K W m) :: trs)
theorem RPs.pps {kes : List (Option Expr)} {ves : List Expr} {ks : List Key} {ms : List (E Tq.A)} {trs : List (TE × TE)} (r : RPs X W pos kes ves ks ms trs) : PPs X pos kes ves trs := by
  induction r with
  | nil => exact pps_nil
  | cons h1 h2 _ ih => exact pps_cons h1 h2.pe ih
theorem RPs.reads {kes : List (Option Expr)} {ves : List Expr} {ks : List Key} {ms : List (E Tq.A)} {trs : List (TE × TE)} (r : RPs X W pos kes ves ks ms trs) : ∀ {σ : L2.St} {H Z B : Hp} {ρ : Nat → Option Addr} {τ : Sl} {h : Hq} {Q : List (V × V) → Hp → Prop} {R : List A → Hq → Hp → (Nat → Option Addr) → Hp → Prop},
    Ok X.K Z B ρ H h → SlOk X.K B ρ σ τ → Post X.K Z (fun c d H' => W c d σ H') B ρ R (mPairs ks ms τ h) →
    (∀ vs ws h1 B1 ρ1 H1, RAL X.K B1 ρ1 vs ws → vs.length = ks.length → Ok X.K Z B1 ρ1 H1 h1 → Gr Z B ρ B1 ρ1 → R ws h1 B1 ρ1 H1 → Q ((ks.zip vs).map fun kv => (kV kv.1, kv.2)) H1) → tPairs trs σ H Q := by
  induction r with
  | nil => exact fun ok sl q k => k [] [] _ _ _ _ .nil rfl ok Gr.refl (q.now ok)
  | cons h1 h2 _ ih =>
    intro σ H Z B ρ τ h Q R ok sl q k
    refine te_bd ok sl q fun v w h1 B1 ρ1 H1 rv ok1 sl1 g1 q1 => ?_
    refine ih ok1 sl1 q1.bd fun vs ws h2 B2 ρ2 H2 rl hl ok2 g2 q2 => ?_
    have := k (v :: vs) (w :: ws) h2 B2 ρ2 H2 (.cons (rv.mono g2) rl) (by rw [List.length_cons, List.length_cons, hl]) ok2 (g1.trans g2) (q2.now ok2)
    exact this
theorem putZ_new {k : Key} {v : V} : ∀ {l : List (Key × V)}, k ∉ l.map (·.1) → putK l k v = l ++ [(k, v)] := fun {l} h => by
  unfold putK
  have : l.any (fun kv => decide (kv.1 = k)) = false := by
    rw [List.any_eq_false]
    intro x hx e
    exact h (by rw [← of_decide_eq_true e]; exact List.mem_map_of_mem hx)
  rw [this]
  rfl
theorem mergeK_new : ∀ {more kvs : List (Key × V)}, ((kvs ++ more).map (·.1)).Nodup → mergeK kvs more = kvs ++ more
  | [], kvs, _ => by show kvs = kvs ++ []; rw [List.append_nil]
  | p :: r, kvs, h => by
    have h' : ((kvs ++ [p]) ++ r).map (·.1) = (kvs ++ p :: r).map (·.1) := by simp
    have hn : p.1 ∉ kvs.map (·.1) := by
      rw [List.map_append, List.nodup_append] at h
      exact fun z => h.2.2 p.1 z p.1 (by simp) rfl
    show mergeK (putK kvs p.1 p.2) r = _
    rw [putZ_new hn, mergeK_new (by rw [h']; exact h), List.append_assoc]
    rfl
theorem rx_dict {kes : List (Option Expr)} {ves : List Expr} {ks : List Key} {ms : List (E Tq.A)} {trs : List (TE × TE)} (r : RPs X W pos kes ves ks ms trs) (hn : ks.Nodup) (hall : kes.all (·.isSome) = true := by rfl) (hl : kes.length = ves.length := by rfl) (h0 : kes ≠ [] := by exact fun z => by cases z) (h15 : kes.length ≤ 15 := by decide) (hk : ks.length ≤ 15 := by decide) :
    RX X W (.Dict kes ves pos) (mDict ks ms) := ⟨pe_imp (pe_disp r.pps hall hl h0 h15) fun σ H Q q => by
  obtain ⟨Z, B, ρ, τ, h, ok, sl, q⟩ := q
  intro p hp
  have hzp : Z p = none := by
    cases z : Z p with
    | none => rfl
    | some u => rw [ok.zz p u z] at hp; cases hp
  have hbp : B p = none := by
    cases z : B p with
    | none => rfl
    | some u => rw [ok.ex p u z] at hp; cases hp
  have keep : ∀ {B' : Hp} {ρ' : Nat → Option Addr}, Gr (upd Z p (.dK [])) B ρ B' ρ' → B' p = none := fun {B' ρ'} g => by
    cases z : B' p with
    | none => rfl
    | some u =>
      have := g.fz p hbp (by rw [z]; simp)
      rw [upd_same] at this
      cases this
  refine r.reads (ok.aside hp) sl ((q.bd).besides hzp) fun vs ws h1 B1 ρ1 H1 rl hl1 ok1 g1 q1 => ?_
  have hb1 := keep g1
  refine ⟨ok1.zz p _ upd_same, ks.zip vs, rfl, by rw [List.length_zip, hl1, Nat.min_self]; exact hk, ?_⟩
  have hmg : mergeK [] (ks.zip vs) = ks.zip vs := by
    have := mergeK_new (more := ks.zip vs) (kvs := []) (by rw [List.nil_append, map_fst_zip hl1.symm]; exact hn)
    simpa using this
  rw [hmg]
  split at q1
  · have ok2 := ok1.turn (o2 := .dK (ks.zip vs)) hb1 hzp
    obtain ⟨ok3, g3⟩ := ok2.adoptC hzp (c := .nd (.dic ks) ws) (.nd (own := [p]) (.dic upd_same hl1.symm) rl fun b hb => by rw [List.mem_singleton.mp hb]; exact ⟨hb1, hzp⟩)
    exact q1 _ _ _ ok3 g3 _ (.r (if_pos rfl))
  · exact q1.elim⟩
end
end Tq

/-! Tq10: calls that give a new list; the law's end; plain lemmas on m's. -/
namespace Tq
open PySem PySem.Spec PyProof.Rows L2
theorem Room_u1 {k : Nat} {A : Around} (r : Room k A) : A.units + 1 < cLine := by have := r.un; omega
theorem Room_u65 {k : Nat} {A : Around} (r : Room k A) : A.units + 65 < cLine := by have := r.un; omega
theorem Room_u64 {k : Nat} {A : Around} (r : Room k A) : A.units + 64 < cLine := r.units
/-! ### a call without cells that gives a new list: the list is a cell of the caller's -/
def vwA (q : Nat) : Nat → Hq → A → Option D
  | _, _, .d x => some x
  | 0, _, _ => none
  | n + 1, h, .r k => if k = q then none else match h[k]? with
    | some (.lst ws) => (mapMn (vwA q n h) ws).map .lst
    | some (.nd hd ws) => (mapMn (vwA q n h) ws).map (.nd hd)
    | _ => none
  | n + 1, h, .tup ws => (mapMn (vwA q n h) ws).map .tup
@[simp] theorem vwA_d (q n : Nat) (h : Hq) (x : D) : vwA q n h (.d x) = some x := by cases n <;> rfl
section
variable {K : PySem.W.Frag} {Z B H : Hp} {ρ : Nat → Option Addr} {h : Hq}
theorem vwA_at {P : Hp} {q : Nat} {p : Addr} (ok : Ok K Z B ρ H h) (hq : ρ q = some p) (hp : ∀ z, H p ≠ some (.own z)) (e1 : Same B P) (e2 : ∀ b, b ≠ p → Z b = none → B b = none → ∀ u, H b = some u → P b = some u) : ∀ (n : Nat) (v : V) (w : A) (d : D), RA K B ρ v w → vwA q n h w = some d → Rp K P v d
  | n, _, .d x, d, .d r, e => by rw [vwA_d] at e; cases e; exact r.mono e1
  | 0, _, .r k, d, _, e => by cases e
  | 0, _, .tup ws, d, _, e => by cases e
  | n + 1, _, .r k, d, .r (a := a) hr, e => by
    unfold vwA at e
    split at e
    · cases e
    · rename_i hk
      have na : a ≠ p := fun z => hk (ok.nj k q p (by rw [← z]; exact hr) hq)
      split at e
      · rename_i ws e3
        obtain ⟨ds, e4, rfl⟩ := Option.map_eq_some_iff.mp e
        obtain ⟨a', h1, h2⟩ := ok.ce k _ e3
        rw [hr] at h1
        cases h1
        cases h2 with
        | lst q1 q2 q3 q4 => exact .lst (e2 _ na q4 q3 _ q1) (vws_of (vwA_at ok hq hp e1 e2 n) q2 e4)
      · rename_i hd ws e3
        obtain ⟨ds, e4, rfl⟩ := Option.map_eq_some_iff.mp e
        obtain ⟨a', h1, h2⟩ := ok.ce k _ e3
        rw [hr] at h1
        cases h1
        cases h2 with
        | nd q1 q2 q3 =>
          refine .nd (q1.to fun b hb u eu => e2 b ?_ (q3 b hb).2 (q3 b hb).1 u eu) (vws_of (vwA_at ok hq hp e1 e2 n) q2 e4)
          rcases q1.own_or.2.1 b hb with z | z
          · rw [z]; exact na
          · exact fun y => hp a (by rw [← y]; exact z)
      · cases e
  | n + 1, _, .tup ws, d, .tup ht rl, e => by
    unfold vwA at e
    obtain ⟨ds, e4, rfl⟩ := Option.map_eq_some_iff.mp e
    exact .tup (e1 _ _ ht) (vws_of (vwA_at ok hq hp e1 e2 n) rl e4)
end
def callO (sem : Sem1) (ws : List A) (h1 : Hq) : Option (Rs A) := match mapMn (view h1) ws with
  | some ds => (match sem (ds.map A.d) [] with
    | some (.ok (.r k) h') => (match h'[k]? with
      | some (.lst us) => (match mapMn (vwA k 32 h') us with
        | some es => if (allD ws).isSome || es.all D.flat then some (.ok (.r h1.length) (h1 ++ [.lst (es.map A.d)])) else none
        | none => none)
      | _ => none)
    | some (.ok (.d x) h') => callP sem ws h1
    | some (.ex x h') => if (allD ws).isSome then (match x.fz h' with | some x' => some (.ex x' h1) | none => none) else none
    | _ => none)
  | none => none
def mCallO (sem : Sem1) (mr : E (List A)) : E A := fun τ h => bd (mr τ h) fun ws h1 => callO sem ws h1
section
variable {K : PySem.W.Frag} {Z B H : Hp} {ρ : Nat → Option Addr} {h : Hq}
theorem rpl_flat {B B' : Hp} : ∀ {vs : List V} {ds : List D}, RpL K B vs ds → ds.all D.flat = true → RpL K B' vs ds
  | _, _, .nil, _ => .nil
  | _, _, .cons r t, h => by
    rw [List.all_cons, Bool.and_eq_true] at h
    exact .cons (rp_flat r h.1) (rpl_flat t h.2)
/-- back, all new but p frozen, p adopted -/
theorem Ok.backO (ok : Ok K Z B ρ H h) {B0 B' H' : Hp} {ρ' : Nat → Option Addr} {h' : Hq} {k : Nat} {us : List A} {es : List D} (hB : B0 = B ∨ (B0 = H ∧ es.all D.flat = true)) (ok' : Ok K H B' ρ' H' h') (g : Gr H B0 (fun _ => none) B' ρ') (e1 : h'[k]? = some (.lst us)) (e2 : mapMn (vwA k 32 h') us = some es) :
    ∃ p B2, ρ' k = some p ∧ Ok K Z B2 (fun j => if j = h.length then some p else ρ j) H' (h ++ [.lst (es.map A.d)]) ∧ Gr Z B ρ B2 (fun j => if j = h.length then some p else ρ j) := by
  obtain ⟨p, hp, c⟩ := ok'.ce k _ e1
  refine ⟨p, ?_⟩
  cases c with
  | lst q1 q2 q3 q4 =>
    rename_i vs
    let B2 : Hp := fun a => if H a = none ∧ a ≠ p then H' a else B a
    have s0 : Same H H' := ok'.zz
    have zn : ∀ a, H a = none → Z a = none := fun a e => by
      cases z : Z a with
      | none => rfl
      | some u => rw [ok.zz a u z] at e; cases e
    have bn : ∀ a, H a = none → B a = none := fun a e => by
      cases z : B a with
      | none => rfl
      | some u => rw [ok.ex a u z] at e; cases e
    have b1 : Same B B2 := fun a o e => by
      show (if H a = none ∧ a ≠ p then H' a else B a) = some o
      rw [if_neg fun z => by rw [ok.ex a o e] at z; exact nomatch z.1]
      exact e
    have b2 : Same B2 H' := fun a o e => by
      have e : (if H a = none ∧ a ≠ p then H' a else B a) = some o := e
      split at e
      · exact e
      · exact s0 _ _ (ok.ex a o e)
    have b3 : ∀ a, H a ≠ none → B2 a = B a := fun a e => if_neg fun z => e z.1
    have bp : B2 p = none := by
      show (if H p = none ∧ p ≠ p then H' p else B p) = none
      rw [if_neg fun z => z.2 rfl]
      exact bn p q4
    have gg : Gr Z B ρ B2 ρ := ⟨b1, fun _ _ e => e, fun a e e' => by
      by_cases z : H a = none
      · exact zn a z
      · rw [b3 a z] at e'; exact absurd e e'⟩
    have ok2 : Ok K (upd Z p (.lst vs)) B2 ρ H' h := by
      refine ⟨b2, fun a o e => ?_, fun j c e => ?_, ok.nj, fun j a e => ?_, ok.up⟩
      · by_cases z : a = p
        · subst z; rw [upd_same] at e; rw [q1]; exact e
        · rw [upd_ne z] at e; exact s0 _ _ (ok.zz a o e)
      · obtain ⟨a, h1, h2⟩ := ok.ce j c e
        refine ⟨a, h1, ?_⟩
        have ne : ∀ {b : Addr}, H b ≠ none → b ≠ p := fun hb z => hb (by rw [z]; exact q4)
        cases h2 with
        | lst e1 e2 e3 e4 => exact .lst (s0 _ _ e1) (e2.mono gg) (by rw [b3 a (by rw [e1]; simp)]; exact e3) (by rw [upd_ne (ne (by rw [e1]; simp))]; exact e4)
        | nd e1 e2 e3 => exact .nd (e1.to fun b _ u e => s0 _ _ e) (e2.mono gg) fun b hb => ⟨by rw [b3 b (e1.own_or.2.2.1 b hb)]; exact (e3 b hb).1, by rw [upd_ne (ne (e1.own_or.2.2.1 b hb))]; exact (e3 b hb).2⟩
        | dead e1 => exact .dead (by rw [upd_ne (ne (ok.al j a h1))]; exact e1)
      · have := ok.al j a e
        cases z : H a with
        | none => exact absurd z this
        | some u => rw [s0 _ _ z]; simp
    have els : RpL K B2 vs es := by
      rcases hB with rfl | ⟨rfl, hf⟩
      · have b4 : Same B' B2 := fun a o e => by
          by_cases z : B0 a = none
          · have hz := g.fz a z (by rw [e]; simp)
            show (if H a = none ∧ a ≠ p then H' a else B0 a) = some o
            rw [if_pos ⟨hz, fun y => by rw [y, q3] at e; cases e⟩]
            exact ok'.ex a o e
          · cases y : B0 a with
            | none => exact absurd y z
            | some u =>
              have := g.bb a u y
              rw [e] at this
              cases this
              exact b1 a o y
        refine vws_of (fun v w d r e => vwA_at ok' hp (fun z y => by rw [q1] at y; cases y) b4 (fun b hb hz hb' u hu => ?_) 32 v w d r e) q2 e2
        show (if H b = none ∧ b ≠ p then H' b else B0 b) = some u
        rw [if_pos ⟨hz, hb⟩]
        exact hu
      · have all : RpL K H' vs es := vws_of (fun v w d r e => vwA_at ok' hp (fun z y => by rw [q1] at y; cases y) ok'.ex (fun b _ _ _ u hu => hu) 32 v w d r e) q2 e2
        exact rpl_flat all hf
    obtain ⟨ok3, g3⟩ := ok2.adoptC (zn p q4) (c := .lst (es.map A.d)) (.lst q1 (ral_ds els) bp (zn p q4))
    exact ⟨B2, hp, ok3, gg.trans g3⟩
theorem callO_ok {W : XK} {Q : VK} {sem : Sem1} {vs : List V} {ws : List A} {np : Nat} (ok : Ok K Z B ρ H h) (r : RAL K B ρ vs ws) (hl : ws.length = np)
    (q : Post K Z W B ρ (fun w _ B' ρ' H' => ∀ v, RA K B' ρ' v w → Q v H') (callO sem ws h)) : spQ K np sem vs H Q W := by
  unfold callO at q
  split at q
  · rename_i ds e1
    split at q
    · rename_i k h' e2
      split at q
      · rename_i us e3
        split at q
        · rename_i es e4
          split at q
          · rename_i hc
            refine ⟨by rw [r.length]; exact hl, ?_⟩
            cases e0 : allD ws with
            | some ds' =>
              have := allD_view e0 e1
              subst this
              cases allD_of e0
              refine ⟨H, B, fun _ => none, [], ds'.map A.d, ok.void, ral_ds (ral_rpl r), ?_⟩
              rw [e2]
              intro B' ρ' H' ok' g v rv
              obtain ⟨p, B2, hp, o2, g2⟩ := ok.backO (.inl rfl) ok' g e3 e4
              cases rv with
              | r hr =>
                rw [hp] at hr
                cases hr
                exact q B2 _ H' o2 g2 _ (.r (if_pos rfl))
            | none =>
              rw [e0] at hc
              have hf : es.all D.flat = true := by simpa using hc
              refine ⟨H, H, fun _ => none, [], ds.map A.d, ok.voidH, ral_ds (rpl_views ok r e1), ?_⟩
              rw [e2]
              intro B' ρ' H' ok' g v rv
              obtain ⟨p, B2, hp, o2, g2⟩ := ok.backO (.inr ⟨rfl, hf⟩) ok' g e3 e4
              cases rv with
              | r hr =>
                rw [hp] at hr
                cases hr
                exact q B2 _ H' o2 g2 _ (.r (if_pos rfl))
          · exact q.elim
        · exact q.elim
      · exact q.elim
    · exact callP_ok ok r hl q
    · rename_i x h' e2
      refine callP_ok ok r hl ?_
      unfold callP
      rw [e1]
      dsimp only
      rw [e2]
      exact q
    · exact q.elim
  · exact q.elim
end
section
variable {X : Cx} {W : WX} {a o : Expr} {es : List Expr} {mr : E (List A)} {mo : E A} {sem : Sem1} {pos px apos : Pos} {j k : Nat} {ps : List Str}
theorem rx_callO {x : Str} (tk : Takes X W) (Df : Def X.prog X.w X.K X.mg X.base j x ps sem) (hr : Room k X.A) (hj : j ≤ k) (ha : RAs X W (a :: es) mr)
    (hg : Gl X x := by rfl) (hdb : (x == ("__debug__" : Str)) = false := by decide) (he : starEach (a :: es) X.env = (false, eval a X.env) :: starEach es X.env := by rfl) (hpl : (backTo pos (starEach es X.env)).any (·.1) = false := by rfl) :
    RX X W (.Call (.Name x px) (a :: es) [] pos) (mCallO sem (lenIs ps.length mr)) := by
  obtain ⟨fa, fd, F, h1, h2, h3⟩ := Df.ex
  refine ⟨pe_imp (pe_callS F (hr.mono hj) hg h1 h2 h3 (fun σ => passAt tk σ) ha.pa hdb he hpl) fun σ H Q q => ?_⟩
  obtain ⟨Z, B, ρ, τ, h, ok, sl, q⟩ := q
  have q := q.bd
  unfold lenIs at q
  refine te_args ok sl q fun vs ws h1 B1 ρ1 H1 r ok1 sl1 g1 q1 => ?_
  split at q1
  · rename_i hl
    exact callO_ok ok1 r hl (q1.now ok1)
  · exact q1.elim
end
/-! ### the law's end -/
theorem sp_law {K : PySem.W.Frag} {sem : Sem1} {a : Addr} {ns : List Int} {H : Hp} (hS : SqL K H a (ns.map V.int)) (h : ∃ h', sem [.d (.scr ns)] [] = some (.ok (.d (.bl true)) h')) : spQ K 1 sem [.ref a] H (fun v _ => v = .bl true) E0 := by
  obtain ⟨h', e⟩ := h
  refine ⟨rfl, NZ, H, fun _ => none, [], [.d (.scr ns)], ⟨fun _ _ e => e, (fun _ _ e => by cases e), (fun k o e => by simp at e), (fun _ _ _ e => by cases e), (fun _ _ e => by cases e), fun _ _ => rfl⟩, .cons (.d (.scr hS)) .nil, ?_⟩
  rw [e]
  exact fun B' ρ' H' ok g v rv => rp_bl (ra_d rv)
end Tq

/-! TrO: the order of data (truths, ints, texts, tuples of these to any depth): what the first pair that differs says. -/
namespace TrO
open PySem PySem.SeqAt
open PySem.AutoSeq1 (wpAny_loadPart')
open PySem.MeetsSeq PySem.MeetsSeq2 PySem.MeetsSeq3
def szO (op : CmpOp) (m n : Nat) : Bool := match op with
  | .Lt => decide (m < n) | .LtE => decide (m ≤ n) | .Gt => decide (m > n) | _ => decide (m ≥ n)
def LexV (op : CmpOp) (A : Around) (s : Shared) (r : Bool) : List Value → List Value → Prop
  | x :: xs, y :: ys => (EqAt A s x y true ∧ LexV op A s r xs ys) ∨ (EqAt A s x y false ∧ Ob.RcOp op A s x y r)
  | xs, ys => szO op xs.length ys.length = r
theorem szO_add (op : CmpOp) (i m n : Nat) : szO op (i + m) (i + n) = szO op m n := by
  unfold szO
  split <;> (rw [decide_eq_decide]; omega)
theorem tupLex_lt (l b : Addr) (I J : Array Value) (n m : Nat) (dd ee : Option Addr) (sl tl : Array (Option Value)) :
    Meets (Builtin.«tuple.__lt__» ⟨[.ref l, .ref b], []⟩)
      (fun A R s => s.heap.get? l = some { cls := .type "tuple", dict := dd, data := .seq I n, slots := sl } ∧ s.heap.get? b = some { cls := .type "tuple", dict := ee, data := .seq J m, slots := tl } ∧
        ∃ r, LexV .Lt A.in1 s r I.toList J.toList ∧ R (.ok (.ret (.bool r))) s) :=
  .of_wp fun prog w A R s h => by
    obtain ⟨hp, gl, dn, tk, os⟩ := s
    obtain ⟨hl, hb, r, hx, hR⟩ := h
    have sub2 := AutoSeq1.sub_tuple_tuple
    wp_walk using wpAny_loadPart' hl, wpAny_loadPart' hb, wpAny_forIn_list _ (fun rest c s' => c.1 = none ∧ s' = ⟨hp, gl, dn, tk, os⟩ ∧ ∃ xs ys k, rest = xs.zip ys ∧ LexV .Lt A.in1 ⟨hp, gl, dn, tk, os⟩ r xs ys ∧ I.size = k + xs.length ∧ J.size = k + ys.length) _
    case turn =>
      rintro ⟨p, q⟩ rest c s' ⟨hc, rfl, xs, ys, k, hz, hx, e1, e2⟩
      cases xs with
      | nil => cases hz
      | cons x xs =>
        cases ys with
        | nil => cases hz
        | cons y ys =>
          rw [List.zip_cons_cons] at hz
          injection hz with hpq hrest
          cases hpq
          rcases hx with ⟨he, hx⟩ | ⟨he, hr⟩
          · refine wpAny_bind (he prog w _ _ ?_)
            wp_walk
            exact ⟨rfl, rfl, xs, ys, k + 1, hrest, hx, by rw [e1, List.length_cons]; omega, by rw [e2, List.length_cons]; omega⟩
          · refine wpAny_bind (he prog w _ _ ?_)
            have hri := hr prog w
            wp_walk using hri
            exact ⟨_, rfl, by simpa using hR⟩
    case fin =>
      rintro ⟨c1, c2⟩ s' ⟨hc, rfl, xs, ys, k, hz, hx, e1, e2⟩
      simp only at hc
      subst hc
      have hx2 : szO .Lt xs.length ys.length = r := by
        cases xs with
        | nil => cases ys <;> exact hx
        | cons x xs =>
          cases ys with
          | nil => exact hx
          | cons y ys => cases hz
      rw [← szO_add _ k, ← e1, ← e2] at hx2
      subst hx2
      wp_walk
      exact ⟨_, rfl, by simpa [Builtin.Tuple.tupleCompareSizes, szO] using hR⟩
    case h =>
      exact ⟨rfl, rfl, I.toList, J.toList, 0, rfl, hx, by simp, by simp⟩
theorem tup_lt {A : Around} {s : Shared} {l b : Addr} {I J : Array Value} {r : Bool} (hl : s.heap.IsTuple l I) (hb : s.heap.IsTuple b J) (hu : A.units < cLine) (hx : LexV .Lt A.in1 s r I.toList J.toList) :
    Ob.RcOp .Lt A s (.ref l) (.ref b) r := fun prog w E Q hq => by
  obtain ⟨⟨c1, d1, x1, s1⟩, g1, k1, n1, z1⟩ := id hl
  obtain ⟨⟨c2, d2, x2, s2⟩, g2, k2, n2, z2⟩ := id hb
  simp only at k1 z1 k2 z2
  subst k1 z1 k2 z2
  exact richCompare_meets_room (op := .Lt) ⟨_, g1, rfl⟩ ⟨_, g2, rfl⟩ F.slot_tuple_lt F.entry_tuple_lt (F.args_tuple_lt_2 _ _) (tupLex_lt l b I J n1 n2 d1 d2 s1 s2)
    ⟨g1, g2, r, hx, ⟨(fun z => nomatch z), hq⟩⟩ hu
theorem tupLex_le (l b : Addr) (I J : Array Value) (n m : Nat) (dd ee : Option Addr) (sl tl : Array (Option Value)) :
    Meets (Builtin.«tuple.__le__» ⟨[.ref l, .ref b], []⟩)
      (fun A R s => s.heap.get? l = some { cls := .type "tuple", dict := dd, data := .seq I n, slots := sl } ∧ s.heap.get? b = some { cls := .type "tuple", dict := ee, data := .seq J m, slots := tl } ∧
        ∃ r, LexV .LtE A.in1 s r I.toList J.toList ∧ R (.ok (.ret (.bool r))) s) :=
  .of_wp fun prog w A R s h => by
    obtain ⟨hp, gl, dn, tk, os⟩ := s
    obtain ⟨hl, hb, r, hx, hR⟩ := h
    have sub2 := AutoSeq1.sub_tuple_tuple
    wp_walk using wpAny_loadPart' hl, wpAny_loadPart' hb, wpAny_forIn_list _ (fun rest c s' => c.1 = none ∧ s' = ⟨hp, gl, dn, tk, os⟩ ∧ ∃ xs ys k, rest = xs.zip ys ∧ LexV .LtE A.in1 ⟨hp, gl, dn, tk, os⟩ r xs ys ∧ I.size = k + xs.length ∧ J.size = k + ys.length) _
    case turn =>
      rintro ⟨p, q⟩ rest c s' ⟨hc, rfl, xs, ys, k, hz, hx, e1, e2⟩
      cases xs with
      | nil => cases hz
      | cons x xs =>
        cases ys with
        | nil => cases hz
        | cons y ys =>
          rw [List.zip_cons_cons] at hz
          injection hz with hpq hrest
          cases hpq
          rcases hx with ⟨he, hx⟩ | ⟨he, hr⟩
          · refine wpAny_bind (he prog w _ _ ?_)
            wp_walk
            exact ⟨rfl, rfl, xs, ys, k + 1, hrest, hx, by rw [e1, List.length_cons]; omega, by rw [e2, List.length_cons]; omega⟩
          · refine wpAny_bind (he prog w _ _ ?_)
            have hri := hr prog w
            wp_walk using hri
            exact ⟨_, rfl, by simpa using hR⟩
    case fin =>
      rintro ⟨c1, c2⟩ s' ⟨hc, rfl, xs, ys, k, hz, hx, e1, e2⟩
      simp only at hc
      subst hc
      have hx2 : szO .LtE xs.length ys.length = r := by
        cases xs with
        | nil => cases ys <;> exact hx
        | cons x xs =>
          cases ys with
          | nil => exact hx
          | cons y ys => cases hz
      rw [← szO_add _ k, ← e1, ← e2] at hx2
      subst hx2
      wp_walk
      exact ⟨_, rfl, by simpa [Builtin.Tuple.tupleCompareSizes, szO] using hR⟩
    case h =>
      exact ⟨rfl, rfl, I.toList, J.toList, 0, rfl, hx, by simp, by simp⟩
theorem tup_le {A : Around} {s : Shared} {l b : Addr} {I J : Array Value} {r : Bool} (hl : s.heap.IsTuple l I) (hb : s.heap.IsTuple b J) (hu : A.units < cLine) (hx : LexV .LtE A.in1 s r I.toList J.toList) :
    Ob.RcOp .LtE A s (.ref l) (.ref b) r := fun prog w E Q hq => by
  obtain ⟨⟨c1, d1, x1, s1⟩, g1, k1, n1, z1⟩ := id hl
  obtain ⟨⟨c2, d2, x2, s2⟩, g2, k2, n2, z2⟩ := id hb
  simp only at k1 z1 k2 z2
  subst k1 z1 k2 z2
  exact richCompare_meets_room (op := .LtE) ⟨_, g1, rfl⟩ ⟨_, g2, rfl⟩ F.slot_tuple_le F.entry_tuple_le (F.args_tuple_le_2 _ _) (tupLex_le l b I J n1 n2 d1 d2 s1 s2)
    ⟨g1, g2, r, hx, ⟨(fun z => nomatch z), hq⟩⟩ hu
theorem tupLex_gt (l b : Addr) (I J : Array Value) (n m : Nat) (dd ee : Option Addr) (sl tl : Array (Option Value)) :
    Meets (Builtin.«tuple.__gt__» ⟨[.ref l, .ref b], []⟩)
      (fun A R s => s.heap.get? l = some { cls := .type "tuple", dict := dd, data := .seq I n, slots := sl } ∧ s.heap.get? b = some { cls := .type "tuple", dict := ee, data := .seq J m, slots := tl } ∧
        ∃ r, LexV .Gt A.in1 s r I.toList J.toList ∧ R (.ok (.ret (.bool r))) s) :=
  .of_wp fun prog w A R s h => by
    obtain ⟨hp, gl, dn, tk, os⟩ := s
    obtain ⟨hl, hb, r, hx, hR⟩ := h
    have sub2 := AutoSeq1.sub_tuple_tuple
    wp_walk using wpAny_loadPart' hl, wpAny_loadPart' hb, wpAny_forIn_list _ (fun rest c s' => c.1 = none ∧ s' = ⟨hp, gl, dn, tk, os⟩ ∧ ∃ xs ys k, rest = xs.zip ys ∧ LexV .Gt A.in1 ⟨hp, gl, dn, tk, os⟩ r xs ys ∧ I.size = k + xs.length ∧ J.size = k + ys.length) _
    case turn =>
      rintro ⟨p, q⟩ rest c s' ⟨hc, rfl, xs, ys, k, hz, hx, e1, e2⟩
      cases xs with
      | nil => cases hz
      | cons x xs =>
        cases ys with
        | nil => cases hz
        | cons y ys =>
          rw [List.zip_cons_cons] at hz
          injection hz with hpq hrest
          cases hpq
          rcases hx with ⟨he, hx⟩ | ⟨he, hr⟩
          · refine wpAny_bind (he prog w _ _ ?_)
            wp_walk
            exact ⟨rfl, rfl, xs, ys, k + 1, hrest, hx, by rw [e1, List.length_cons]; omega, by rw [e2, List.length_cons]; omega⟩
          · refine wpAny_bind (he prog w _ _ ?_)
            have hri := hr prog w
            wp_walk using hri
            exact ⟨_, rfl, by simpa using hR⟩
    case fin =>
      rintro ⟨c1, c2⟩ s' ⟨hc, rfl, xs, ys, k, hz, hx, e1, e2⟩
      simp only at hc
      subst hc
      have hx2 : szO .Gt xs.length ys.length = r := by
        cases xs with
        | nil => cases ys <;> exact hx
        | cons x xs =>
          cases ys with
          | nil => exact hx
          | cons y ys => cases hz
      rw [← szO_add _ k, ← e1, ← e2] at hx2
      subst hx2
      wp_walk
      exact ⟨_, rfl, by simpa [Builtin.Tuple.tupleCompareSizes, szO] using hR⟩
    case h =>
      exact ⟨rfl, rfl, I.toList, J.toList, 0, rfl, hx, by simp, by simp⟩
theorem tup_gt {A : Around} {s : Shared} {l b : Addr} {I J : Array Value} {r : Bool} (hl : s.heap.IsTuple l I) (hb : s.heap.IsTuple b J) (hu : A.units < cLine) (hx : LexV .Gt A.in1 s r I.toList J.toList) :
    Ob.RcOp .Gt A s (.ref l) (.ref b) r := fun prog w E Q hq => by
  obtain ⟨⟨c1, d1, x1, s1⟩, g1, k1, n1, z1⟩ := id hl
  obtain ⟨⟨c2, d2, x2, s2⟩, g2, k2, n2, z2⟩ := id hb
  simp only at k1 z1 k2 z2
  subst k1 z1 k2 z2
  exact richCompare_meets_room (op := .Gt) ⟨_, g1, rfl⟩ ⟨_, g2, rfl⟩ F.slot_tuple_gt F.entry_tuple_gt (F.args_tuple_gt_2 _ _) (tupLex_gt l b I J n1 n2 d1 d2 s1 s2)
    ⟨g1, g2, r, hx, ⟨(fun z => nomatch z), hq⟩⟩ hu
theorem tupLex_ge (l b : Addr) (I J : Array Value) (n m : Nat) (dd ee : Option Addr) (sl tl : Array (Option Value)) :
    Meets (Builtin.«tuple.__ge__» ⟨[.ref l, .ref b], []⟩)
      (fun A R s => s.heap.get? l = some { cls := .type "tuple", dict := dd, data := .seq I n, slots := sl } ∧ s.heap.get? b = some { cls := .type "tuple", dict := ee, data := .seq J m, slots := tl } ∧
        ∃ r, LexV .GtE A.in1 s r I.toList J.toList ∧ R (.ok (.ret (.bool r))) s) :=
  .of_wp fun prog w A R s h => by
    obtain ⟨hp, gl, dn, tk, os⟩ := s
    obtain ⟨hl, hb, r, hx, hR⟩ := h
    have sub2 := AutoSeq1.sub_tuple_tuple
    wp_walk using wpAny_loadPart' hl, wpAny_loadPart' hb, wpAny_forIn_list _ (fun rest c s' => c.1 = none ∧ s' = ⟨hp, gl, dn, tk, os⟩ ∧ ∃ xs ys k, rest = xs.zip ys ∧ LexV .GtE A.in1 ⟨hp, gl, dn, tk, os⟩ r xs ys ∧ I.size = k + xs.length ∧ J.size = k + ys.length) _
    case turn =>
      rintro ⟨p, q⟩ rest c s' ⟨hc, rfl, xs, ys, k, hz, hx, e1, e2⟩
      cases xs with
      | nil => cases hz
      | cons x xs =>
        cases ys with
        | nil => cases hz
        | cons y ys =>
          rw [List.zip_cons_cons] at hz
          injection hz with hpq hrest
          cases hpq
          rcases hx with ⟨he, hx⟩ | ⟨he, hr⟩
          · refine wpAny_bind (he prog w _ _ ?_)
            wp_walk
            exact ⟨rfl, rfl, xs, ys, k + 1, hrest, hx, by rw [e1, List.length_cons]; omega, by rw [e2, List.length_cons]; omega⟩
          · refine wpAny_bind (he prog w _ _ ?_)
            have hri := hr prog w
            wp_walk using hri
            exact ⟨_, rfl, by simpa using hR⟩
    case fin =>
      rintro ⟨c1, c2⟩ s' ⟨hc, rfl, xs, ys, k, hz, hx, e1, e2⟩
      simp only at hc
      subst hc
      have hx2 : szO .GtE xs.length ys.length = r := by
        cases xs with
        | nil => cases ys <;> exact hx
        | cons x xs =>
          cases ys with
          | nil => exact hx
          | cons y ys => cases hz
      rw [← szO_add _ k, ← e1, ← e2] at hx2
      subst hx2
      wp_walk
      exact ⟨_, rfl, by simpa [Builtin.Tuple.tupleCompareSizes, szO] using hR⟩
    case h =>
      exact ⟨rfl, rfl, I.toList, J.toList, 0, rfl, hx, by simp, by simp⟩
theorem tup_ge {A : Around} {s : Shared} {l b : Addr} {I J : Array Value} {r : Bool} (hl : s.heap.IsTuple l I) (hb : s.heap.IsTuple b J) (hu : A.units < cLine) (hx : LexV .GtE A.in1 s r I.toList J.toList) :
    Ob.RcOp .GtE A s (.ref l) (.ref b) r := fun prog w E Q hq => by
  obtain ⟨⟨c1, d1, x1, s1⟩, g1, k1, n1, z1⟩ := id hl
  obtain ⟨⟨c2, d2, x2, s2⟩, g2, k2, n2, z2⟩ := id hb
  simp only at k1 z1 k2 z2
  subst k1 z1 k2 z2
  exact richCompare_meets_room (op := .GtE) ⟨_, g1, rfl⟩ ⟨_, g2, rfl⟩ F.slot_tuple_ge F.entry_tuple_ge (F.args_tuple_ge_2 _ _) (tupLex_ge l b I J n1 n2 d1 d2 s1 s2)
    ⟨g1, g2, r, hx, ⟨(fun z => nomatch z), hq⟩⟩ hu
end TrO

namespace TrO
open PySem PySem.SeqAt PyProof.Rows
def b2 (b : Bool) : Int := if b then 1 else 0
def cmpI (op : CmpOp) (i j : Int) : Bool := match op with
  | .Lt => decide (i < j) | .LtE => decide (i ≤ j) | .Gt => decide (j < i) | _ => decide (j ≤ i)
def cmpS (op : CmpOp) (x y : Str) : Bool := match op with
  | .Lt => decide (x.cps.toList < y.cps.toList) | .LtE => !decide (y.cps.toList < x.cps.toList) | .Gt => decide (y.cps.toList < x.cps.toList) | _ => !decide (x.cps.toList < y.cps.toList)
mutual
def ordP (op : CmpOp) : PyData → PyData → Option Bool
  | .bool x, .bool y => some (cmpI op (b2 x) (b2 y))
  | .int i, .int j => some (cmpI op i j)
  | .str x, .str y => some (cmpS op x y)
  | .tuple xs, .tuple ys => ordPs op xs ys
  | _, _ => none
def ordPs (op : CmpOp) : List PyData → List PyData → Option Bool
  | x :: xs, y :: ys => if PyData.eqv x y = true then ordPs op xs ys else ordP op x y
  | [], ys => some (szO op 0 ys.length)
  | x :: xs, [] => some (szO op (xs.length + 1) 0)
end
def Four (op : CmpOp) : Prop := op = .Lt ∨ op = .LtE ∨ op = .Gt ∨ op = .GtE
theorem rc_bool {op : CmpOp} (h : Four op) {A : Around} {s : Shared} (x y : Bool) : Ob.RcOp op A s (.bool x) (.bool y) (cmpI op (b2 x) (b2 y)) := by
  intro prog w E Q hq
  rcases h with rfl | rfl | rfl | rfl
  · exact lt_bool hq
  · exact le_bool hq
  · exact gt_bool hq
  · exact ge_bool hq
theorem rc_int {op : CmpOp} (h : Four op) {A : Around} {s : Shared} (x y : Int) (t u : Tok) : Ob.RcOp op A s (.int x t) (.int y u) (cmpI op x y) := by
  rcases h with rfl | rfl | rfl | rfl
  · exact Ob.RcOp.lt_int x y t u
  · exact Ob.RcOp.le_int x y t u
  · exact Ob.RcOp.gt_int x y t u
  · exact Ob.RcOp.ge_int x y t u
theorem rc_str {op : CmpOp} (h : Four op) {A : Around} {s : Shared} (x y : Str) (t u : Tok) : Ob.RcOp op A s (.str x t) (.str y u) (cmpS op x y) := by
  intro prog w E Q hq
  rcases h with rfl | rfl | rfl | rfl
  · exact PyProof.Rows.lt_str hq
  · exact P.le_str hq
  · exact P.gt_str hq
  · exact P.ge_str hq
theorem rc_tup {op : CmpOp} (h : Four op) {A : Around} {s : Shared} {l b : Addr} {I J : Array Value} {r : Bool} (hl : s.heap.IsTuple l I) (hb : s.heap.IsTuple b J) (hu : A.units < cLine) (hx : LexV op A.in1 s r I.toList J.toList) :
    Ob.RcOp op A s (.ref l) (.ref b) r := by
  rcases h with rfl | rfl | rfl | rfl
  · exact tup_lt hl hb hu hx
  · exact tup_le hl hb hu hx
  · exact tup_gt hl hb hu hx
  · exact tup_ge hl hb hu hx
mutual
theorem rc_ord {op : CmpOp} (h4 : Four op) : ∀ (da db : PyData) (A : Around) (s : Shared) (a b : Value) (as bs : List Addr) (r : Bool), Reads s.heap a da as → Reads s.heap b db bs → da.canLay0 = true → db.canLay0 = true → ordP op da db = some r →
    A.units + min da.depth db.depth < cLine → Ob.RcOp op A s a b r
  | .none, db, _, _, _, _, _, _, _, _, _, _, _, h, _ => by cases db <;> cases h
  | .dict _, db, _, _, _, _, _, _, _, _, _, _, _, h, _ => by cases db <;> cases h
  | .list _, db, _, _, _, _, _, _, _, _, _, _, _, h, _ => by cases db <;> cases h
  | .bool x, db, A, s, a, b, as, bs, r, ra, rb, _, _, h, _ => by
    cases db with
    | bool y =>
      cases h
      cases ra
      cases rb
      exact rc_bool h4 x y
    | _ => cases h
  | .int x, db, A, s, a, b, as, bs, r, ra, rb, _, _, h, _ => by
    cases db with
    | int y =>
      cases h
      cases ra
      cases rb
      exact rc_int h4 x y _ _
    | _ => cases h
  | .str x, db, A, s, a, b, as, bs, r, ra, rb, _, _, h, _ => by
    cases db with
    | str y =>
      cases h
      cases ra
      cases rb
      exact rc_str h4 x y _ _
    | _ => cases h
  | .tuple xs, db, A, s, a, b, as, bs, r, ra, rb, la, lb, h, hu => by
    cases db with
    | tuple ys =>
      have h : ordPs op xs ys = some r := h
      cases ra with
      | @tuple l o vs n _ as₁ h1 h2 h3 r1 =>
        cases rb with
        | @tuple l' o' vs' n' _ bs₁ k1 k2 k3 r2 =>
          have hu : A.units + min (PyData.depthAll xs + 1) (PyData.depthAll ys + 1) < cLine := hu
          refine rc_tup h4 ⟨_, h1, h2, _, h3⟩ ⟨_, k1, k2, _, k3⟩ (by omega) ?_
          exact rc_ords h4 xs ys A.in1 s _ _ _ _ r r1 r2 la lb h (by show A.units + 1 + _ < _; omega)
    | _ => cases h
theorem rc_ords {op : CmpOp} (h4 : Four op) : ∀ (xs ys : List PyData) (A : Around) (s : Shared) (vs ws : List Value) (as bs : List Addr) (r : Bool), ReadsAll s.heap vs xs as → ReadsAll s.heap ws ys bs → PyData.canLayAll0 xs = true → PyData.canLayAll0 ys = true → ordPs op xs ys = some r →
    A.units + min (PyData.depthAll xs) (PyData.depthAll ys) < cLine → LexV op A s r vs ws
  | [], ys, A, s, vs, ws, as, bs, r, ra, rb, _, _, h, _ => by
    cases ra
    have h : some (szO op 0 ys.length) = some r := by cases ys <;> exact h
    have hl := ReadsAll.length _ _ _ rb
    cases h
    cases ws with
    | nil => show szO op 0 0 = szO op 0 ys.length; rw [← hl]; rfl
    | cons w ws => show szO op 0 (w :: ws).length = szO op 0 ys.length; rw [← hl]
  | x :: xs, [], A, s, vs, ws, as, bs, r, ra, rb, _, _, h, _ => by
    cases rb
    cases ra with
    | cons h1 h2 =>
      have h : some (szO op (xs.length + 1) 0) = some r := h
      have hl := ReadsAll.length _ _ _ h2
      cases h
      show szO op (_ + 1) 0 = szO op (xs.length + 1) 0
      rw [hl]
  | x :: xs, y :: ys, A, s, vs, ws, as, bs, r, ra, rb, la, lb, h, hu => by
    cases ra with
    | cons r1 ra =>
      cases rb with
      | cons r2 rb =>
        have la : (x.canLay0 && PyData.canLayAll0 xs) = true := la
        have lb : (y.canLay0 && PyData.canLayAll0 ys) = true := lb
        have hu : A.units + min (max x.depth (PyData.depthAll xs)) (max y.depth (PyData.depthAll ys)) < cLine := hu
        rw [Bool.and_eq_true] at la lb
        have he := eqAt_reads x y A s _ _ _ _ r1 r2 la.1 lb.1 (by omega)
        have h : (if PyData.eqv x y = true then ordPs op xs ys else ordP op x y) = some r := h
        by_cases e : PyData.eqv x y = true
        · rw [if_pos e] at h
          rw [e] at he
          exact .inl ⟨he, rc_ords h4 xs ys A s _ _ _ _ r ra rb la.2 lb.2 h (by omega)⟩
        · rw [if_neg e] at h
          rw [Bool.not_eq_true] at e
          rw [e] at he
          exact .inr ⟨he, rc_ord h4 x y A s _ _ _ _ r r1 r2 la.1 lb.1 h (by omega)⟩
end
end TrO
namespace Tq
open PySem PySem.Spec PyProof.Rows L2
def ordD (op : CmpOp) (x y : D) : Option Bool := if x.shp && y.shp then TrO.ordP op x.toP y.toP else none
abbrev gOrdO (op : CmpOp) : G2 := g2V (ordD op)
def rOrd (K : PySem.W.Frag) (op : CmpOp) : R2 := fun x y H Q => ∃ da db r, Dp K H x da ∧ Dp K H y db ∧ SeqAt.shaped da = true ∧ SeqAt.shaped db = true ∧ TrO.ordP op da db = some r ∧ Q (.bl r) H
theorem op_ord {X : Cx} {op : CmpOp} (hu : X.A.units + 64 < cLine) (h4 : TrO.Four op) : OpR X (compareOp op) (rOrd X.K op) := by
  intro pins s σ H x y v u Q I rx ry h
  obtain ⟨da, db, r, ha, hb, sa, sb, e, q⟩ := h
  obtain ⟨as, r1⟩ := Dp.reads I da x v ha rx
  obtain ⟨bs, r2⟩ := Dp.reads I db y u hb ry
  have z := TrO.rc_ord h4 da db X.A s v u as bs r r1 r2 (SeqAt.canLay_of_shaped sa) (SeqAt.canLay_of_shaped sb) e (SeqAt.room_of_shaped sa hu)
  have z2 : wpAny (model X.prog X.w) X.A (richCompare op v u) (EP X pins σ Q) X.xe s := z X.prog X.w X.xe (EP X pins σ Q) ⟨.bl _, H, I, rfl, q⟩
  rcases h4 with rfl | rfl | rfl | rfl <;> exact z2
theorem og_ordO {K : PySem.W.Frag} {op : CmpOp} : Op2 K (rOrd K op) (gOrdO op) := og_2v fun H x y d e k Q rx ry hk q => by
  unfold ordD at hk
  split at hk
  · rename_i hs
    rw [Bool.and_eq_true] at hs
    exact ⟨_, _, k, rx.dp hs.1, ry.dp hs.2, hs.1, hs.2, hk, q⟩
  · cases hk
theorem op_ltO {X : Cx} (hu : X.A.units + 64 < cLine) : OpR X (compareOp .Lt) (rOrd X.K .Lt) := op_ord hu (.inl rfl)
theorem op_leO {X : Cx} (hu : X.A.units + 64 < cLine) : OpR X (compareOp .LtE) (rOrd X.K .LtE) := op_ord hu (.inr (.inl rfl))
theorem op_gtO {X : Cx} (hu : X.A.units + 64 < cLine) : OpR X (compareOp .Gt) (rOrd X.K .Gt) := op_ord hu (.inr (.inr (.inl rfl)))
theorem op_geO {X : Cx} (hu : X.A.units + 64 < cLine) : OpR X (compareOp .GtE) (rOrd X.K .GtE) := op_ord hu (.inr (.inr (.inr rfl)))
end Tq

/-! Tq11: reckoning with m's, in plain Lean. -/
namespace Tq
open PySem PySem.Spec PyProof.Rows L2
/-! ### loops -/
section
variable {g : A → Sl → Hq → Option Sl} {mb : MS} {ws : List A}
theorem forL_inv (I : Nat → Sl → Hq → Prop) {τ : Sl} {h : Hq} (h0 : I 0 τ h) (hs : ∀ n w τ h, ws[n]? = some w → I n τ h → ∃ τ1 τ2 h2, g w τ h = some τ1 ∧ (mb τ1 h = some (.nx τ2 h2) ∨ mb τ1 h = some (.ct τ2 h2)) ∧ I (n + 1) τ2 h2) (hl : ws.length ≤ LIM) :
    ∃ τ' h', forM (nxL ws) g mb FU 0 τ h = some (.nx τ' h') ∧ I ws.length τ' h' := by
  have go : ∀ (k n f : Nat) (τ : Sl) (h : Hq), ws.length - n = k → n ≤ ws.length → k < f → I n τ h → ∃ τ' h', forM (nxL ws) g mb f n τ h = some (.nx τ' h') ∧ I ws.length τ' h' := by
    intro k
    induction k with
    | zero =>
      intro n f τ h e hn hf hi
      have : n = ws.length := by omega
      subst this
      obtain ⟨f, rfl⟩ : ∃ f', f = f' + 1 := ⟨f - 1, by omega⟩
      refine ⟨τ, h, ?_, hi⟩
      unfold forM nxL
      rw [List.getElem?_eq_none (Nat.le_refl _)]
    | succ k ih =>
      intro n f τ h e hn hf hi
      have hlt : n < ws.length := by omega
      obtain ⟨f, rfl⟩ : ∃ f', f = f' + 1 := ⟨f - 1, by omega⟩
      have hw : ws[n]? = some ws[n] := List.getElem?_eq_getElem hlt
      obtain ⟨τ1, τ2, h2, e1, e2, i2⟩ := hs n _ τ h hw hi
      obtain ⟨τ', h', e3, i3⟩ := ih (n + 1) f τ2 h2 (by omega) (by omega) (by omega) i2
      refine ⟨τ', h', ?_, i3⟩
      unfold forM
      show (match nxL ws n h with | _ => _) = _
      unfold nxL
      rw [hw]
      dsimp only
      rw [e1]
      dsimp only
      rcases e2 with e2 | e2 <;> (rw [e2]; exact e3)
  exact go ws.length 0 FU τ h (by omega) (Nat.zero_le _) (by show ws.length < 16777217; have : ws.length ≤ 16777216 := hl; omega) h0
/-- over a cell that stays as it is -/
theorem forC_inv {k : Nat} (I : Nat → Sl → Hq → Prop) {τ : Sl} {h : Hq} (hk : ∀ n τ h, I n τ h → h[k]? = some (.lst ws)) (h0 : I 0 τ h) (hs : ∀ n w τ h, ws[n]? = some w → I n τ h → ∃ τ1 τ2 h2, g w τ h = some τ1 ∧ (mb τ1 h = some (.nx τ2 h2) ∨ mb τ1 h = some (.ct τ2 h2)) ∧ I (n + 1) τ2 h2) (hl : ws.length ≤ LIM) :
    ∃ τ' h', forM (nxC k) g mb FU 0 τ h = some (.nx τ' h') ∧ I ws.length τ' h' := by
  have go : ∀ (j n f : Nat) (τ : Sl) (h : Hq), ws.length - n = j → n ≤ ws.length → j < f → I n τ h → ∃ τ' h', forM (nxC k) g mb f n τ h = some (.nx τ' h') ∧ I ws.length τ' h' := by
    intro j
    induction j with
    | zero =>
      intro n f τ h e hn hf hi
      have : n = ws.length := by omega
      subst this
      obtain ⟨f, rfl⟩ : ∃ f', f = f' + 1 := ⟨f - 1, by omega⟩
      refine ⟨τ, h, ?_, hi⟩
      unfold forM nxC
      rw [hk _ _ _ hi]
      dsimp only
      rw [List.getElem?_eq_none (Nat.le_refl _)]
    | succ j ih =>
      intro n f τ h e hn hf hi
      have hlt : n < ws.length := by omega
      obtain ⟨f, rfl⟩ : ∃ f', f = f' + 1 := ⟨f - 1, by omega⟩
      have hw : ws[n]? = some ws[n] := List.getElem?_eq_getElem hlt
      obtain ⟨τ1, τ2, h2, e1, e2, i2⟩ := hs n _ τ h hw hi
      obtain ⟨τ', h', e3, i3⟩ := ih (n + 1) f τ2 h2 (by omega) (by omega) (by omega) i2
      refine ⟨τ', h', ?_, i3⟩
      unfold forM
      show (match nxC k n h with | _ => _) = _
      unfold nxC
      rw [hk _ _ _ hi]
      dsimp only
      rw [hw]
      dsimp only
      rw [e1]
      dsimp only
      rcases e2 with e2 | e2 <;> (rw [e2]; exact e3)
  exact go ws.length 0 FU τ h (by omega) (Nat.zero_le _) (by show ws.length < 16777217; have : ws.length ≤ 16777216 := hl; omega) h0
/-- a comprehension that leaves the cells alone -/
theorem compL_map {me : E A} {τw : Sl} {h : Hq} (f : A → A) (hs : ∀ w ∈ ws, ∃ τ1, g w τw h = some τ1 ∧ me τ1 h = some (.ok (f w) h)) (hl : ws.length ≤ LIM) : compM (nxL ws) g mYes me τw FU 0 h = some (ws.map f, h) := by
  have go : ∀ (k n fu : Nat), ws.length - n = k → n ≤ ws.length → k < fu → compM (nxL ws) g mYes me τw fu n h = some ((ws.drop n).map f, h) := by
    intro k
    induction k with
    | zero =>
      intro n fu e hn hf
      have : n = ws.length := by omega
      subst this
      obtain ⟨fu, rfl⟩ : ∃ f', fu = f' + 1 := ⟨fu - 1, by omega⟩
      unfold compM nxL
      rw [List.getElem?_eq_none (Nat.le_refl _), List.drop_length]
      rfl
    | succ k ih =>
      intro n fu e hn hf
      have hlt : n < ws.length := by omega
      obtain ⟨fu, rfl⟩ : ∃ f', fu = f' + 1 := ⟨fu - 1, by omega⟩
      have hw : ws[n]? = some ws[n] := List.getElem?_eq_getElem hlt
      obtain ⟨τ1, e1, e2⟩ := hs _ (List.getElem_mem hlt)
      unfold compM
      show (match nxL ws n h with | _ => _) = _
      unfold nxL
      rw [hw]
      dsimp only
      rw [e1]
      dsimp only [mYes]
      rw [e2]
      dsimp only
      have := ih (n + 1) fu (by omega) (by omega) (by omega)
      rw [show compM (fun i _ => some ws[i]?) g mYes me τw fu (n + 1) h = compM (nxL ws) g mYes me τw fu (n + 1) h from rfl] at *
      rw [this]
      dsimp only
      rw [List.drop_eq_getElem_cons hlt, List.map_cons]
  have := go ws.length 0 FU (by omega) (Nat.zero_le _) (by show ws.length < 16777217; have : ws.length ≤ 16777216 := hl; omega)
  rwa [List.drop_zero] at this
/-- a comprehension whose items come with a property, while I holds of the cells -/
theorem compL_inv {mt : E Bool} {me : E A} {τw : Sl} {h : Hq} (I : Nat → Hq → List A → Prop) (h0 : I 0 h []) (hs : ∀ n w h as, ws[n]? = some w → I n h as → ∃ τ1, g w τw h = some τ1 ∧ ((∃ h1 h2 a, mt τ1 h = some (.ok true h1) ∧ me τ1 h1 = some (.ok a h2) ∧ I (n + 1) h2 (as ++ [a])) ∨ ∃ h1, mt τ1 h = some (.ok false h1) ∧ I (n + 1) h1 as)) (hl : ws.length ≤ LIM) :
    ∃ as h', compM (nxL ws) g mt me τw FU 0 h = some (as, h') ∧ I ws.length h' as := by
  have go : ∀ (k n fu : Nat) (h : Hq) (as : List A), ws.length - n = k → n ≤ ws.length → k < fu → I n h as → ∃ bs h', compM (nxL ws) g mt me τw fu n h = some (bs, h') ∧ I ws.length h' (as ++ bs) := by
    intro k
    induction k with
    | zero =>
      intro n fu h as e hn hf hi
      have : n = ws.length := by omega
      subst this
      obtain ⟨fu, rfl⟩ : ∃ f', fu = f' + 1 := ⟨fu - 1, by omega⟩
      refine ⟨[], h, ?_, by simpa using hi⟩
      unfold compM nxL
      rw [List.getElem?_eq_none (Nat.le_refl _)]
    | succ k ih =>
      intro n fu h as e hn hf hi
      have hlt : n < ws.length := by omega
      obtain ⟨fu, rfl⟩ : ∃ f', fu = f' + 1 := ⟨fu - 1, by omega⟩
      have hw : ws[n]? = some ws[n] := List.getElem?_eq_getElem hlt
      obtain ⟨τ1, e1, r⟩ := hs n _ h as hw hi
      have un : nxL ws n h = some (some ws[n]) := by unfold nxL; rw [hw]
      rcases r with ⟨h1, h2, a, e2, e3, i2⟩ | ⟨h1, e2, i2⟩
      · obtain ⟨bs, h', e4, i3⟩ := ih (n + 1) fu h2 _ (by omega) (by omega) (by omega) i2
        refine ⟨a :: bs, h', ?_, by simpa using i3⟩
        unfold compM
        rw [un]
        dsimp only
        rw [e1]
        dsimp only
        rw [e2]
        dsimp only
        rw [e3]
        dsimp only
        rw [e4]
      · obtain ⟨bs, h', e4, i3⟩ := ih (n + 1) fu h1 _ (by omega) (by omega) (by omega) i2
        refine ⟨bs, h', ?_, i3⟩
        unfold compM
        rw [un]
        dsimp only
        rw [e1]
        dsimp only
        rw [e2]
        exact e4
  obtain ⟨bs, h', e, i⟩ := go ws.length 0 FU h [] (by omega) (Nat.zero_le _) (by show ws.length < 16777217; have : ws.length ≤ 16777216 := hl; omega) h0
  exact ⟨bs, h', e, by simpa using i⟩
end
/-! ### steps -/
theorem seq_nx {m1 m2 : MS} {τ τ1 : Sl} {h h1 : Hq} (e : m1 τ h = some (.nx τ1 h1)) : mSeq m1 m2 τ h = m2 τ1 h1 := by
  unfold mSeq
  rw [e]
theorem seq_rt {m1 m2 : MS} {τ : Sl} {w : A} {h h1 : Hq} (e : m1 τ h = some (.rt w h1)) : mSeq m1 m2 τ h = some (.rt w h1) := by
  unfold mSeq
  rw [e]
theorem runB_rt {np n : Nat} {m : MS} {ws : List A} {w : A} {h h1 : Hq} (hl : ws.length = np) (e : m (startT n ws) h = some (.rt w h1)) : runB np n m ws h = some (.ok w h1) := by
  unfold runB
  rw [if_pos hl, e]
theorem runB_nx {np n : Nat} {m : MS} {ws : List A} {τ : Sl} {h h1 : Hq} (hl : ws.length = np) (e : m (startT n ws) h = some (.nx τ h1)) : runB np n m ws h = some (.ok (.d .non) h1) := by
  unfold runB
  rw [if_pos hl, e]
theorem mFor_of {mi : E Nxt} {g : A → Sl → Hq → Option Sl} {mb : MS} {τ : Sl} {h h1 : Hq} {nx : Nxt} (e : mi τ h = some (.ok nx h1)) : mFor mi g mb τ h = forM nx g mb FU 0 τ h1 := by
  unfold mFor
  rw [e]
  rfl
theorem mRange1_of {m : E A} {τ : Sl} {h h1 : Hq} {j : Int} (e : m τ h = some (.ok (.d (.int j)) h1)) (h0 : -4611686018427387904 ≤ j) (h2 : j < 4611686018427387904) : mRange1 m τ h = some (.ok (nxL (rangeA 0 j.toNat)) h1) := by
  unfold mRange1
  rw [e]
  show (if _ then _ else _) = _
  rw [if_pos ⟨h0, h2⟩]
theorem rangeA_len (lo : Int) (n : Nat) : (rangeA lo n).length = n := by unfold rangeA; rw [List.length_map, List.length_range]
theorem rangeA_get {lo : Int} {n i : Nat} {w : A} (h : (rangeA lo n)[i]? = some w) : i < n ∧ w = .d (.int (lo + (i : Nat))) := by
  have hi : i < n := by
    rw [← rangeA_len lo n]
    exact (List.getElem?_eq_some_iff.mp h).1
  unfold rangeA at h
  rw [List.getElem?_map, List.getElem?_range hi] at h
  cases h
  exact ⟨hi, rfl⟩
theorem rangeA_mem {lo : Int} {n : Nat} {w : A} (h : w ∈ rangeA lo n) : ∃ i : Nat, i < n ∧ w = .d (.int (lo + (i : Nat))) := by
  unfold rangeA at h
  obtain ⟨i, h1, h2⟩ := List.mem_map.mp h
  exact ⟨i, List.mem_range.mp h1, h2.symm⟩
theorem rangeA_map {lo : Int} {n : Nat} (f : A → A) : (rangeA lo n).map f = (List.range n).map fun i => f (.d (.int (lo + (i : Nat)))) := by
  unfold rangeA
  rw [List.map_map]
  rfl
/-! ### single m's -/
theorem append_of {τ : Sl} {h : Hq} {k : Nat} {ws : List A} {w : A} {mo mv : E A} (h1 : mo τ h = some (.ok (.r k) h)) (e : h[k]? = some (.lst ws)) (h2 : mv τ h = some (.ok w h)) (hl : ws.length < LIM) : mDrop (mM1 tokL gApp mo mv) τ h = some (.nx τ (h.set k (.lst (ws ++ [w])))) := by
  have t : tokL (.r k) h = true := by
    unfold tokL lstOf
    dsimp only
    rw [e]
    rfl
  have ga : gApp (.r k) w h = some (.ok (.d .non) (h.set k (.lst (ws ++ [w])))) := by
    unfold gApp
    dsimp only
    rw [e]
    dsimp only
    rw [if_pos hl]
  unfold mDrop mM1
  rw [h1, bd_ok, if_pos t, h2, bd_ok, ga, sb_ok]
theorem set_of {τ : Sl} {h h1 : Hq} {i : Nat} {w : A} {m : E A} (e : m τ h = some (.ok w h1)) : mSet i m τ h = some (.nx (τ.set i (some w)) h1) := by
  unfold mSet
  rw [e, sb_ok]
theorem drop_of {τ : Sl} {h h1 : Hq} {w : A} {m : E A} (e : m τ h = some (.ok w h1)) : mDrop m τ h = some (.nx τ h1) := by
  unfold mDrop
  rw [e, sb_ok]
theorem ret_of {τ : Sl} {h h1 : Hq} {w : A} {m : E A} (e : m τ h = some (.ok w h1)) : mRet m τ h = some (.rt w h1) := by
  unfold mRet
  rw [e, sb_ok]
theorem if_tt {t : E Bool} {m1 m2 : MS} {τ : Sl} {h h1 : Hq} (e : t τ h = some (.ok true h1)) : mIf t m1 m2 τ h = m1 τ h1 := by
  unfold mIf
  rw [e, sb_ok]
theorem if_ff {t : E Bool} {m1 m2 : MS} {τ : Sl} {h h1 : Hq} (e : t τ h = some (.ok false h1)) : mIf t m1 m2 τ h = m2 τ h1 := by
  unfold mIf
  rw [e, sb_ok]
theorem bin_of {g : G2} {ma mb : E A} {τ : Sl} {h h1 h2 : Hq} {a b : A} (e1 : ma τ h = some (.ok a h1)) (e2 : mb τ h1 = some (.ok b h2)) : mBin g ma mb τ h = g a b h2 := by
  unfold mBin
  rw [e1, bd_ok, e2, bd_ok]
theorem un_of {g : G1} {ma : E A} {τ : Sl} {h h1 : Hq} {a : A} (e1 : ma τ h = some (.ok a h1)) : mUn g ma τ h = g a h1 := by
  unfold mUn
  rw [e1, bd_ok]
theorem tb_of {m : E A} {τ : Sl} {h h1 : Hq} {k : Bool} (e : m τ h = some (.ok (.d (.bl k)) h1)) : mTB m τ h = some (.ok k h1) := by
  unfold mTB
  rw [e, bd_ok]
theorem var_of {τ : Sl} {h : Hq} {i : Nat} {w : A} (e : τ[i]? = some (some w)) : mVar i τ h = some (.ok w h) := by
  unfold mVar
  rw [e]
theorem cons_of {ma : E A} {mr : E (List A)} {τ : Sl} {h h1 h2 : Hq} {a : A} {r : List A} (e1 : ma τ h = some (.ok a h1)) (e2 : mr τ h1 = some (.ok r h2)) : maCons ma mr τ h = some (.ok (a :: r) h2) := by
  unfold maCons
  rw [e1, bd_ok, e2, bd_ok]
theorem meth_of {C m : Str} {n : Nat} {sem : Sem1} {mo : E A} {mr : E (List A)} {τ : Sl} {h h1 h2 : Hq} {a : A} {ws : List A} (e1 : mo τ h = some (.ok a h1)) (hi : insOf C m a h1 = true) (e2 : mr τ h1 = some (.ok ws h2)) (hl : ws.length + 1 = n) : mMeth C m n sem mo mr τ h = sem (a :: ws) h2 := by
  unfold mMeth
  rw [e1, bd_ok, if_pos hi, e2, bd_ok, if_pos hl]
theorem len_of {n : Nat} {mr : E (List A)} {τ : Sl} {h h1 : Hq} {ws : List A} (e : mr τ h = some (.ok ws h1)) (hl : ws.length = n) : lenIs n mr τ h = some (.ok ws h1) := by
  unfold lenIs
  rw [e, bd_ok, if_pos hl]
theorem call_of {sem : Sem1} {mr : E (List A)} {τ : Sl} {h h1 : Hq} {ws : List A} (e : mr τ h = some (.ok ws h1)) : mCall sem mr τ h = sem ws h1 := by
  unfold mCall
  rw [e, bd_ok]
theorem callP_of {sem : Sem1} {mr : E (List A)} {τ : Sl} {h h1 h' : Hq} {ds : List D} {w : A} {d : D} (e : mr τ h = some (.ok (ds.map A.d) h1)) (e2 : sem (ds.map A.d) [] = some (.ok w h')) (e3 : view h' w = some d) : mCallP sem mr τ h = some (.ok (.d d) h1) := by
  unfold mCallP
  rw [e, bd_ok]
  unfold callP
  rw [mapMn_d _ _ (vw_d 32 h1)]
  dsimp only
  rw [e2]
  dsimp only
  rw [e3, allD_map]
  rfl
theorem view_lst {h : Hq} {k : Nat} {ds : List D} (e : h[k]? = some (.lst (ds.map A.d))) : view h (.r k) = some (.lst ds) := vw_cell (n := 31) e
theorem set_same {h : Hq} {k : Nat} {o : O} (e : h[k]? = some o) : h.set k o = h := by
  obtain ⟨hk, rfl⟩ := List.getElem?_eq_some_iff.mp e
  exact List.set_getElem_self hk
/-! ### data that is compared -/
def D.fok : D → Bool
  | .str z => PyData.strOk z
  | .non => true | .bl _ => true | .int _ => true
  | _ => false
theorem lay_fok : ∀ {d : D}, d.fok = true → d.toP.canLay0 = true ∧ d.toP.depth = 0
  | .non, _ => ⟨rfl, rfl⟩
  | .bl _, _ => ⟨rfl, rfl⟩
  | .int _, _ => ⟨rfl, rfl⟩
  | .str _, h => ⟨h, rfl⟩
theorem lays_fok : ∀ {ds : List D}, ds.all D.fok = true → PyData.canLayAll0 (D.toPs ds) = true ∧ PyData.depthAll (D.toPs ds) = 0
  | [], _ => ⟨rfl, rfl⟩
  | d :: r, h => by
    rw [List.all_cons, Bool.and_eq_true] at h
    obtain ⟨h1, h2⟩ := lay_fok h.1
    obtain ⟨h3, h4⟩ := lays_fok h.2
    constructor
    · show (d.toP.canLay0 && PyData.canLayAll0 (D.toPs r)) = true
      rw [h1, h3]
      rfl
    · show max d.toP.depth (PyData.depthAll (D.toPs r)) = 0
      rw [h2, h4]
      rfl
theorem shp_fok {d : D} (h : d.fok = true) : d.shp = true := by
  obtain ⟨h1, h2⟩ := lay_fok h
  show (d.toP.canLay0 && decide (d.toP.depth ≤ 64)) = true
  rw [h1, h2]
  rfl
theorem shp_lst {ds : List D} (h : ds.all D.fok = true) : (D.lst ds).shp = true := by
  obtain ⟨h1, h2⟩ := lays_fok h
  show (PyData.canLayAll0 (D.toPs ds) && decide (PyData.depthAll (D.toPs ds) + 1 ≤ 64)) = true
  rw [h1, h2]
  rfl
theorem shp_tup {ds : List D} (h : ds.all D.fok = true) : (D.tup ds).shp = true := shp_lst (ds := ds) h
theorem eqv_str (a b : Str) : D.eqv (.str a) (.str b) = decide (a = b) := by
  rw [show D.eqv (.str a) (.str b) = (a == b) from rfl, Bool.eq_iff_iff]
  simp
theorem eqv_int (a b : Int) : D.eqv (.int a) (.int b) = decide (a = b) := rfl
theorem eqv_refl {d : D} (h : d.shp = true) : D.eqv d d = true := by
  exact SeqAt.eqv_refl _ (SeqAt.canLay_of_shaped h)
theorem eqD_same {n : Bool} {x : D} (h : x.shp = true) : eqD n x x = some (!n) := by
  unfold eqD
  rw [h, eqv_refl h]
  cases n <;> rfl
@[simp] theorem eqD_int (n : Bool) (i j : Int) : eqD n (.int i) (.int j) = some (if n then !decide (i = j) else decide (i = j)) := by
  rw [← show (i == j) = decide (i = j) from rfl]
  rfl
theorem log2_lt {a k : Nat} (h : a < 2 ^ k) (hk : 0 < k) : a.log2 < k := by
  by_cases z : a = 0
  · subst z; simpa using hk
  · exact (Nat.log2_lt z).mpr h
theorem mulOk_of {i j : Int} {a b : Nat} (h1 : i.natAbs < 2 ^ a) (h2 : j.natAbs < 2 ^ b) (ha : 0 < a) (hb : 0 < b) (h : a + b ≤ 134000000) : mulOk i j = true := by
  unfold mulOk
  have := log2_lt h1 ha
  have := log2_lt h2 hb
  exact decide_eq_true (by omega)
theorem divOk_of {i j : Int} {b : Nat} (h0 : 0 < j) (h2 : j.natAbs < 2 ^ b) (hb : 0 < b) (h : b ≤ 9000) : divOk i j = true := by
  unfold divOk
  have := log2_lt h2 hb
  rw [decide_eq_true h0, Bool.true_and]
  exact decide_eq_true (by omega)
theorem atI_in {α : Type} {xs : List α} {i : Int} (h0 : 0 ≤ i) (h1 : i.toNat < xs.length) : atI xs i = some xs[i.toNat] := by
  unfold atI ixN
  rw [if_pos h0, if_pos (by omega)]
  exact List.getElem?_eq_getElem h1
end Tq

/-! Tq12: raise C('text') of an own class without __init__; try .. except C: of one clause, no name. -/
namespace Tq
open PySem PySem.Spec PyProof.Rows L2

structure ExC (K : PySem.W.Frag) (mg : Str → Option Value) (C : Str) : Prop where
  ex : ∃ (c : Addr) (bmB : List Value) (B newId initId : String), ExcBaseFacts B newId initId bmB ∧ PySem.W.excIn K c bmB newId = true ∧ mg C = some (.ref c) ∧ glAt K C = some c ∧ PySem.W.keepIn K (.ref c) = true ∧ PySem.W.subIn K (.ref c) (.type "BaseException") = some true ∧ PySem.W.typeIn K (.ref c) = some (.type "type")
def mRaise (C : Str) : MS := fun τ h => some (.ex (.own C) τ h)
theorem rs_raise {X : Cx} {W : WX} {C m : Str} {j : Nat} {p p2 pos pos' : Pos} (tk : Takes X W) (e : ExC X.K X.mg C) (hc : X.calm = true := by rfl) (hg : Gl X C := by rfl) (hdb : (C == ("__debug__" : Str)) = false := by decide) :
    RS X W (.Raise (some (.Call (.Name C p) [.Constant (.str m) j p2] [] pos)) none pos') (mRaise C) := by
  obtain ⟨c, bmB, B, nI, iI, F, q, g1, g2, kp, s1, s2⟩ := e.ex
  refine ⟨ps_imp (L2.ps_raise hc tk (L2.pmk_own F q g1 kp (L2.raises_own s1 s2) hg hdb)) fun D σ H hq => ?_⟩
  obtain ⟨Z, B', ρ, τ, h, ok, sl, q2⟩ := hq
  exact q2 σ B' ρ H _ _ ok sl Gr.refl (.own g2)

/-! ### try -/
inductive Xn where
  | own (C : Str) | blt (T : String)
deriving DecidableEq
def Xc.nm : Xc → Xn
  | .own C => .own C
  | .fld C _ _ => .own C
  | .blt T => .blt T
def xLook : List (Xn × Bool) → Xn → Option Bool
  | [], _ => none
  | (y, b) :: r, x => if y = x then some b else xLook r x
def XnV (K : PySem.W.Frag) : Xn → Value → Prop
  | .own D, cls => ∃ d, glAt K D = some d ∧ cls = .ref d
  | .blt T, cls => cls = .type T
def XAll (K : PySem.W.Frag) (c : Value) (T : List (Xn × Bool)) : Prop := ∀ x b, xLook T x = some b → ∀ cls, XnV K x cls → PySem.W.exmOne K cls c = some b
theorem xall_nil {K : PySem.W.Frag} {c : Value} : XAll K c [] := fun _ _ e => by cases e
theorem xall_own {K : PySem.W.Frag} {c : Value} {T : List (Xn × Bool)} {D : Str} {d : Addr} {b : Bool} (h : glAt K D = some d) (e : PySem.W.exmOne K (.ref d) c = some b) (r : XAll K c T) : XAll K c ((.own D, b) :: T) := fun x b' hx cls hv => by
  unfold xLook at hx
  split at hx
  · rename_i z
    subst z
    cases hx
    obtain ⟨d', h', rfl⟩ := hv
    rw [h] at h'
    cases h'
    exact e
  · exact r x b' hx cls hv
theorem xall_blt {K : PySem.W.Frag} {c : Value} {T : List (Xn × Bool)} {N : String} {b : Bool} (e : PySem.W.exmOne K (.type N) c = some b) (r : XAll K c T) : XAll K c ((.blt N, b) :: T) := fun x b' hx cls hv => by
  unfold xLook at hx
  split at hx
  · rename_i z
    subst z
    cases hx
    cases hv
    exact e
  · exact r x b' hx cls hv
/-- of own classes: by subIn -/
theorem exm_own {K : PySem.W.Frag} {S D : Addr} {b : Bool} (h1 : PySem.W.subIn K (.ref S) (.type "BaseException") = some true) (h2 : PySem.W.isClsIn K S = true) (h3 : PySem.W.typeIn K (.ref S) = some (.type "type")) (h4 : PySem.W.subIn K (.ref D) (.ref S) = some b) :
    PySem.W.exmOne K (.ref D) (.ref S) = some b := by
  have e1 : (PySem.W.subIn K (.ref S) (.type "BaseException") == some true) = true := by rw [h1] <;> rfl
  have e2 : ((PySem.W.clsIn K S).isSome && PySem.W.typeIn K (.ref S) == some (.type "type")) = true := by
    have h2' : (PySem.W.clsIn K S).isSome = true := h2
    rw [h2', h3] <;> rfl
  show (if (PySem.W.subIn K (.ref S) (.type "BaseException") == some true) = true then (if ((PySem.W.clsIn K S).isSome && PySem.W.typeIn K (.ref S) == some (.type "type")) = true then PySem.W.subIn K (.ref D) (.ref S) else none) else none) = some b
  rw [if_pos e1, if_pos e2]
  exact h4
structure XTok (K : PySem.W.Frag) (mg : Str → Option Value) (C : Str) (T : List (Xn × Bool)) : Prop where
  ex : ∃ c : Value, (mg C = some c ∨ (mg C = none ∧ bootBuiltins C = some c ∧ C ≠ "__name__")) ∧ XAll K c T
def mTry (T : List (Xn × Bool)) (mb ms : MS) : MS := fun τ h => match mb τ h with
  | some (.ex x τ1 h1) => (match xLook T x.nm with
    | some true => (match ms τ1 h1 with | some (.ex _ _ _) => none | r => r)
    | some false => some (.ex x τ1 h1)
    | none => none)
  | r => r
theorem xc_nm {K : PySem.W.Frag} {B : Hp} {ρ : Nat → Option Addr} {H : Hp} {x : Xc} {cls : Value} {d : Option Addr} (h : XcAt K B ρ H x cls d) : XnV K x.nm cls := by
  cases h with
  | own h => exact ⟨_, h, rfl⟩
  | fld h _ _ => exact ⟨_, h, rfl⟩
  | blt => rfl
theorem rs_try {X : Cx} {W : WX} {C : Str} {T : List (Xn × Bool)} {body suite : List Stmt} {b₀ : Stmt} {mb ms : MS} {np pos pos' : Pos} (tk : Takes X W) (t : XTok X.K X.mg C T)
    (hb : ∀ (W' : WX) (pn : List (Addr × Obj)) (xe : Value → Shared → Prop), Takes (X.tr pn xe) W' → PassesOwn (model X.prog X.w) X.A X.env xe → RSs (X.tr pn xe) W' body mb)
    (hsu : ∀ (a : Addr) (pn : List (Addr × Obj)), RSs (X.suite a pn) W0 (b₀ :: suite) ms)
    (hs : X.stack = X.env :: X.outer := by rfl) (hf : X.env.frame = some X.env.locals := by rfl) (hg : Gl X C := by rfl) (hdb : (C == ("__debug__" : Str)) = false := by decide) :
    RS X W (.Try body [.ExceptHandler (some (.Name C np)) none (b₀ :: suite) pos'] [] [] pos) (mTry T mb ms) := by
  obtain ⟨c, hc, ha⟩ := t.ex
  refine ⟨ps_imp (L2.ps_try_only (tb := fun W' => tS X.K W' mb) (ts := fun _ _ _ => tS X.K W0 ms) hs hf ⟨hg, hdb, hc⟩ tk (fun W' pn xe tk' hp => (hb W' pn xe tk' hp).ps) (fun a oe cls d pn _ _ => (hsu a _).ps)) fun D σ H q => ?_⟩
  obtain ⟨Z, B, ρ, τ, h, ok, sl, q⟩ := q
  refine ⟨Z, B, ρ, τ, h, ok, sl, ?_⟩
  unfold mTry at q
  revert q
  cases mb τ h with
  | none => exact fun q => q
  | some r =>
    cases r with
    | nx τ1 h1 => exact fun q => q
    | bk τ1 h1 => exact fun q => q
    | ct τ1 h1 => exact fun q => q
    | rt w h1 => exact fun q => q
    | ex x τ1 h1 =>
      intro q σ' B' ρ' H' cls d ok' sl' g xc
      dsimp only at q
      cases e : xLook T x.nm with
      | none => rw [e] at q; exact q.elim
      | some b =>
        rw [e] at q
        refine ⟨b, ha _ _ e _ (xc_nm xc), fun eb a na => ?_, fun eb => ?_⟩
        · subst eb
          dsimp only at q
          refine ⟨Z, B', ρ', τ1, h1, ok', sl', ?_⟩
          revert q
          cases ms τ1 h1 with
          | none => exact fun q => q.elim
          | some r =>
            cases r with
            | nx _ _ => exact fun q => q.from g
            | bk _ _ => exact fun q => q.from g
            | ct _ _ => exact fun q => q.from g
            | rt _ _ => exact fun q => q.from g
            | ex _ _ _ => exact fun q => q.elim
        · subst eb
          exact q σ' B' ρ' H' cls d ok' sl' g xc
end Tq

/-! Tq13: plain lemmas: lists of ints, loops step by step, ints, picks. -/
namespace Tq
open PySem PySem.Spec PyProof.Rows L2
abbrev LD (xs : List Int) : D := .lst (xs.map D.int)
def LI (xs : List Int) : List A := (xs.map D.int).map A.d
theorem LI_len (xs : List Int) : (LI xs).length = xs.length := by unfold LI; rw [List.length_map, List.length_map]
theorem LI_app (xs ys : List Int) : LI (xs ++ ys) = LI xs ++ LI ys := by unfold LI; rw [List.map_append, List.map_append]
theorem LI_cut (xs : List Int) (lo hi : Option Int) : LI (cut xs lo hi) = cut (LI xs) lo hi := by unfold LI; rw [map_cut, map_cut]
theorem LI_set (xs : List Int) (n : Nat) (z : Int) : (LI xs).set n (.d (.int z)) = LI (xs.set n z) := by unfold LI; rw [List.map_set, List.map_set]
theorem LI_get (xs : List Int) (n : Nat) : (LI xs)[n]? = (xs[n]?).map fun z => A.d (.int z) := by
  unfold LI
  rw [List.getElem?_map, List.getElem?_map, Option.map_map]
  rfl
theorem cut_len {α : Type} (xs : List α) (lo hi : Option Int) : (cut xs lo hi).length ≤ xs.length := by
  unfold cut
  rw [List.length_take, List.length_drop]
  omega
theorem sIx_nat (len dflt n : Nat) : HT.sIx len dflt (some (n : Int)) = min n len := by
  unfold HT.sIx
  simp only []
  split <;> omega
theorem cut_take {α : Type} (xs : List α) (n : Nat) : cut xs none (some (n : Int)) = xs.take n := by
  unfold cut
  rw [sIx_nat, show HT.sIx xs.length 0 none = 0 from rfl, List.drop_zero, Nat.sub_zero, List.take_eq_take_iff]
  omega
theorem cut_drop {α : Type} (xs : List α) (n : Nat) : cut xs (some (n : Int)) none = xs.drop n := by
  unfold cut
  rw [sIx_nat, show HT.sIx xs.length xs.length none = xs.length from rfl]
  by_cases h : n ≤ xs.length
  · rw [Nat.min_eq_left h, List.take_of_length_le (by rw [List.length_drop]; omega)]
  · rw [Nat.min_eq_right (by omega), List.drop_of_length_le (Nat.le_refl _), List.drop_of_length_le (by omega), List.take_nil]
theorem cut_mid {α : Type} (xs : List α) (a b : Nat) : cut xs (some (a : Int)) (some (b : Int)) = (xs.drop a).take (b - a) := by
  unfold cut
  rw [sIx_nat, sIx_nat]
  by_cases h : a ≤ xs.length
  · rw [Nat.min_eq_left h, List.take_eq_take_iff, List.length_drop]
    omega
  · rw [show min a xs.length = xs.length from Nat.min_eq_right (by omega), List.drop_of_length_le (Nat.le_refl _), List.drop_of_length_le (by omega), List.take_nil, List.take_nil]
theorem mkL_d {ds : List D} {h : Hq} (hl : ds.length ≤ LIM) : mkL false (ds.map A.d) h = some (.ok (.d (.lst ds)) h) := by
  unfold mkL
  rw [if_pos (by rw [List.length_map]; exact hl), allD_map]
  rfl
theorem mkL_i {xs : List Int} {h : Hq} (hl : xs.length ≤ LIM) : mkL false (LI xs) h = some (.ok (.d (LD xs)) h) := mkL_d (by rw [List.length_map]; exact hl)
theorem mkL_c {ws : List A} {h : Hq} (hl : ws.length ≤ LIM) : mkL true ws h = some (.ok (.r h.length) (h ++ [.lst ws])) := by
  unfold mkL
  rw [if_pos hl]
  rfl
theorem cell_app (h : Hq) (o : O) : (h ++ [o])[h.length]? = some o := by
  rw [List.getElem?_append_right (Nat.le_refl _), Nat.sub_self]
  rfl
theorem app_keep {h : Hq} {os : List O} {k : Nat} {o : O} (e : h[k]? = some o) : (h ++ os)[k]? = some o := by
  rw [List.getElem?_append_left (List.getElem?_eq_some_iff.mp e).1]
  exact e
theorem lt_of_get {h : Hq} {k : Nat} {o : O} (e : h[k]? = some o) : k < h.length := (List.getElem?_eq_some_iff.mp e).1
theorem gAdd_ll (o : Bool) (xs ys : List Int) (h : Hq) : gAdd o (.d (LD xs)) (.d (LD ys)) h = mkL o (LI (xs ++ ys)) h := by
  rw [LI_app]
  rfl
theorem gLen_d (xs : List Int) (h : Hq) : gLen (.d (LD xs)) h = some (.ok (.d (.int (xs.length : Nat))) h) := by
  show some (Rs.ok (A.d (D.int ((((xs.map D.int).map A.d).length : Nat) : Int))) h) = _
  rw [List.length_map, List.length_map]
theorem gLen_c {h : Hq} {k : Nat} {ws : List A} (e : h[k]? = some (.lst ws)) : gLen (.r k) h = some (.ok (.d (.int (ws.length : Nat))) h) := by
  unfold gLen lenA
  simp only [tupOf, lstOf, e]
theorem gSl_d (o : Bool) (xs : List Int) (lo hi : Option Int) (h : Hq) : gSl o (.d (LD xs)) lo hi h = mkL o (LI (cut xs lo hi)) h := by
  rw [LI_cut]
  rfl
theorem gSl_c {o : Bool} {h : Hq} {k : Nat} {xs : List Int} (e : h[k]? = some (.lst (LI xs))) (lo hi : Option Int) : gSl o (.r k) lo hi h = mkL o (LI (cut xs lo hi)) h := by
  simp only [gSl, tupOf, lstOf, e]
  rw [LI_cut]
theorem atI_nat {α : Type} {xs : List α} {n : Nat} {x : α} (e : xs[n]? = some x) : atI xs (n : Int) = some x := by
  have hn : n < xs.length := (List.getElem?_eq_some_iff.mp e).1
  rw [atI_in (Int.natCast_nonneg n) (by rw [Int.toNat_natCast]; exact hn)]
  have := (List.getElem?_eq_some_iff.mp e).2
  simp only [Int.toNat_natCast]
  rw [this]
theorem gGet_d {xs : List Int} {n : Nat} {z : Int} (h : Hq) (e : xs[n]? = some z) : gGet (.d (LD xs)) (.d (.int (n : Nat))) h = some (.ok (.d (.int z)) h) := by
  have e1 : atI ((xs.map D.int).map A.d) (n : Int) = some (A.d (.int z)) := atI_nat (by rw [show (xs.map D.int).map A.d = LI xs from rfl, LI_get, e]; rfl)
  show (match atI ((xs.map D.int).map A.d) (n : Int) with | some w => some (Rs.ok w h) | none => none) = _
  rw [e1]
theorem gGet_c {h : Hq} {k n : Nat} {ws : List A} {w : A} (e : h[k]? = some (.lst ws)) (e1 : ws[n]? = some w) : gGet (.r k) (.d (.int (n : Nat))) h = some (.ok w h) := by
  unfold gGet dicOf
  simp only [e]
  unfold gIx
  simp only [tupOf, lstOf, e]
  rw [atI_nat e1]
  rfl
theorem gMul_ok {i j : Int} (h : Hq) (e : mulOk i j = true) : gMul (.d (.int i)) (.d (.int j)) h = some (.ok (.d (.int (i * j))) h) := by
  show (if mulOk i j = true then _ else _) = _
  rw [if_pos e]
theorem gDiv_ok {i j : Int} (h : Hq) (e : divOk i j = true) : gDiv (.d (.int i)) (.d (.int j)) h = some (.ok (.d (.int (i / j))) h) := by
  show (if divOk i j = true then _ else _) = _
  rw [if_pos e]
theorem gMod_ok {i j : Int} (h : Hq) (e : 0 < j) : gMod (.d (.int i)) (.d (.int j)) h = some (.ok (.d (.int (i % j))) h) := by
  show (if modOk i j = true then _ else _) = _
  rw [if_pos (by unfold modOk; exact decide_eq_true e)]
theorem gAdd_int (o : Bool) (i j : Int) (h : Hq) : gAdd o (.d (.int i)) (.d (.int j)) h = some (.ok (.d (.int (i + j))) h) := rfl
theorem gSub_int (i j : Int) (h : Hq) : gSub (.d (.int i)) (.d (.int j)) h = some (.ok (.d (.int (i - j))) h) := rfl
theorem gLe_int (i j : Int) (h : Hq) : gLe (.d (.int i)) (.d (.int j)) h = some (.ok (.d (.bl (decide (i ≤ j)))) h) := rfl
theorem gLt_int (i j : Int) (h : Hq) : gLt (.d (.int i)) (.d (.int j)) h = some (.ok (.d (.bl (decide (i < j)))) h) := rfl
theorem gGe_int (i j : Int) (h : Hq) : gGe (.d (.int i)) (.d (.int j)) h = some (.ok (.d (.bl (decide (j ≤ i)))) h) := rfl
theorem gGt_int (i j : Int) (h : Hq) : gGt (.d (.int i)) (.d (.int j)) h = some (.ok (.d (.bl (decide (j < i)))) h) := rfl
theorem mul_small {i j : Int} (h1 : i.natAbs < 2 ^ 64) (h2 : j.natAbs < 2 ^ 64) : mulOk i j = true := mulOk_of h1 h2 (by decide) (by decide) (by decide)
theorem bits_log {z : Int} (h : Builtin.Int.intBits z ≤ 1048576) : z.natAbs.log2 ≤ 1048576 := by
  unfold Builtin.Int.intBits at h
  split at h
  · rename_i e
    have e : z = 0 := by
      first
        | exact e
        | simpa using e
    subst e
    decide
  · omega
section
variable {τ : Sl} {h h1 : Hq} {i j : Int} {a b : E A}
theorem add_of {o : Bool} (e1 : a τ h = some (.ok (.d (.int i)) h)) (e2 : b τ h = some (.ok (.d (.int j)) h)) : mBin (gAdd o) a b τ h = some (.ok (.d (.int (i + j))) h) := by rw [bin_of e1 e2]; rfl
theorem sub_of (e1 : a τ h = some (.ok (.d (.int i)) h)) (e2 : b τ h = some (.ok (.d (.int j)) h)) : mBin gSub a b τ h = some (.ok (.d (.int (i - j))) h) := by rw [bin_of e1 e2]; rfl
theorem mod_of (e1 : a τ h = some (.ok (.d (.int i)) h)) (e2 : b τ h = some (.ok (.d (.int j)) h)) (e : 0 < j) : mBin gMod a b τ h = some (.ok (.d (.int (i % j))) h) := by rw [bin_of e1 e2]; exact gMod_ok _ e
theorem div_of (e1 : a τ h = some (.ok (.d (.int i)) h)) (e2 : b τ h = some (.ok (.d (.int j)) h)) (e : divOk i j = true) : mBin gDiv a b τ h = some (.ok (.d (.int (i / j))) h) := by rw [bin_of e1 e2]; exact gDiv_ok _ e
theorem mul_of (e1 : a τ h = some (.ok (.d (.int i)) h)) (e2 : b τ h = some (.ok (.d (.int j)) h)) (e : mulOk i j = true) : mBin gMul a b τ h = some (.ok (.d (.int (i * j))) h) := by rw [bin_of e1 e2]; exact gMul_ok _ e
theorem lt_of (e1 : a τ h = some (.ok (.d (.int i)) h)) (e2 : b τ h = some (.ok (.d (.int j)) h)) : mTB (mBin gLt a b) τ h = some (.ok (decide (i < j)) h) := tb_of (by rw [bin_of e1 e2]; rfl)
theorem le_of (e1 : a τ h = some (.ok (.d (.int i)) h)) (e2 : b τ h = some (.ok (.d (.int j)) h)) : mTB (mBin gLe a b) τ h = some (.ok (decide (i ≤ j)) h) := tb_of (by rw [bin_of e1 e2]; rfl)
theorem gt_of (e1 : a τ h = some (.ok (.d (.int i)) h)) (e2 : b τ h = some (.ok (.d (.int j)) h)) : mTB (mBin gGt a b) τ h = some (.ok (decide (j < i)) h) := tb_of (by rw [bin_of e1 e2]; rfl)
theorem ge_of (e1 : a τ h = some (.ok (.d (.int i)) h)) (e2 : b τ h = some (.ok (.d (.int j)) h)) : mTB (mBin gGe a b) τ h = some (.ok (decide (j ≤ i)) h) := tb_of (by rw [bin_of e1 e2]; rfl)
theorem eqi_of (e1 : a τ h = some (.ok (.d (.int i)) h)) (e2 : b τ h = some (.ok (.d (.int j)) h)) : mBin (gEq false) a b τ h = some (.ok (.d (.bl (decide (i = j)))) h) := by
  rw [bin_of e1 e2]
  unfold gEq g2V view
  rw [vw_d, vw_d]
  dsimp only
  rw [eqD_int, if_neg (by simp)]
theorem nei_of (e1 : a τ h = some (.ok (.d (.int i)) h)) (e2 : b τ h = some (.ok (.d (.int j)) h)) : mBin (gEq true) a b τ h = some (.ok (.d (.bl (!decide (i = j)))) h) := by
  rw [bin_of e1 e2]
  unfold gEq g2V view
  rw [vw_d, vw_d]
  dsimp only
  rw [eqD_int, if_pos rfl]
/-- a comparison by the data of both sides -/
theorem eqv_of {n r : Bool} {x y : A} {d e : D} {h2 : Hq} (e1 : a τ h = some (.ok x h1)) (e2 : b τ h1 = some (.ok y h2)) (v1 : view h2 x = some d) (v2 : view h2 y = some e) (q : eqD n d e = some r) : mBin (gEq n) a b τ h = some (.ok (.d (.bl r)) h2) := by
  rw [bin_of e1 e2]
  unfold gEq g2V
  rw [v1, v2]
  dsimp only
  rw [q]
theorem mul1_of {m : Nat} {i j : Int} (h1 : i.natAbs < 2 ^ 64) (h2 : j.natAbs < 2 ^ 64) : mulOk i j = true := mul_small h1 h2
theorem dm_of {j : Nat} {i a b : Int} (e : τ[j]? = some (some (.d (.int i)))) (ha : divOk i a = true) (hb : 0 < b) : mBin gMod (mBin gDiv (mVar j) (mC (.int a))) (mC (.int b)) τ h = some (.ok (.d (.int (i / a % b))) h) := mod_of (div_of (var_of e) rfl ha) rfl hb
theorem tru_bl {m : E A} {b : Bool} (e : m τ h = some (.ok (.d (.bl b)) h1)) : mNotT (mTru m) τ h = some (.ok (!b) h1) := by
  unfold mNotT mTru
  rw [e, bd_ok]
  rfl
theorem and_ff {a b : E Bool} (k : Bool) (e1 : a τ h = some (.ok k h)) (e2 : b τ h = some (.ok false h1)) : ∃ h2, mAndT a b τ h = some (.ok false h2) ∧ (h2 = h ∨ h2 = h1) := by
  unfold mAndT
  rw [e1, bd_ok]
  cases k with
  | true => exact ⟨h1, e2, .inr rfl⟩
  | false => exact ⟨h, rfl, .inl rfl⟩
theorem and_of {a b : E Bool} {k l : Bool} (e1 : a τ h = some (.ok k h)) (e2 : b τ h = some (.ok l h)) : mAndT a b τ h = some (.ok (k && l) h) := by
  unfold mAndT
  rw [e1, bd_ok]
  cases k with
  | true => exact e2
  | false => rfl
theorem or_of {a b : E Bool} {k l : Bool} (e1 : a τ h = some (.ok k h)) (e2 : b τ h = some (.ok l h)) : mOrT a b τ h = some (.ok (k || l) h) := by
  unfold mOrT
  rw [e1, bd_ok]
  cases k with
  | true => rfl
  | false => exact e2
theorem orff_of {a b : E Bool} {l : Bool} {h2 : Hq} (e1 : a τ h = some (.ok false h1)) (e2 : b τ h1 = some (.ok l h2)) : mOrT a b τ h = some (.ok l h2) := by
  unfold mOrT
  rw [e1, bd_ok]
  exact e2
end
theorem lc_of {o : Bool} {mi : E Nxt} {g : A → Sl → Hq → Option Sl} {me : E A} {vs : List Nat} {τ : Sl} {h h1 : Hq} {ws : List A} (f : A → A) (e : mi τ h = some (.ok (nxL ws) h1)) (hs : ∀ w ∈ ws, ∃ τ1, g w (wipeT τ vs) h1 = some τ1 ∧ me τ1 h1 = some (.ok (f w) h1)) (hl : ws.length ≤ LIM) : mLC o mi g mYes me vs τ h = mkL o (ws.map f) h1 := by
  unfold mLC
  rw [e, bd_ok]
  rw [compL_map f hs hl]
  dsimp only
  rw [if_pos (by rw [List.length_map]; exact hl)]
/-! ### loops, a turn at a time -/
theorem while_tt {t : E Bool} {mb : MS} {n : Nat} {τ τ2 : Sl} {h h1 h2 : Hq} (e : t τ h = some (.ok true h1)) (e2 : mb τ h1 = some (.nx τ2 h2)) : mWhile t mb (n + 1) τ h = mWhile t mb n τ2 h2 := by
  unfold mWhile
  rw [e, sb_ok]
  dsimp only
  rw [e2]
  cases n <;> rfl
theorem while_bk {t : E Bool} {mb : MS} {n : Nat} {τ τ2 : Sl} {h h1 h2 : Hq} (e : t τ h = some (.ok true h1)) (e2 : mb τ h1 = some (.bk τ2 h2)) : mWhile t mb (n + 1) τ h = some (.nx τ2 h2) := by
  unfold mWhile
  rw [e, sb_ok]
  dsimp only
  rw [e2]
theorem while_ff {t : E Bool} {mb : MS} {n : Nat} {τ : Sl} {h h1 : Hq} (e : t τ h = some (.ok false h1)) : mWhile t mb (n + 1) τ h = some (.nx τ h1) := by
  unfold mWhile
  rw [e, sb_ok]
theorem for_step {nx : Nxt} {g : A → Sl → Hq → Option Sl} {mb : MS} {f i : Nat} {w : A} {τ τ1 τ2 : Sl} {h h2 : Hq} (e : nx i h = some (some w)) (e1 : g w τ h = some τ1) (e2 : mb τ1 h = some (.nx τ2 h2)) : forM nx g mb (f + 1) i τ h = forM nx g mb f (i + 1) τ2 h2 := by
  unfold forM
  rw [e]
  dsimp only
  rw [e1]
  dsimp only
  rw [e2]
  cases f <;> rfl
theorem for_rt {nx : Nxt} {g : A → Sl → Hq → Option Sl} {mb : MS} {f i : Nat} {w u : A} {τ τ1 : Sl} {h h2 : Hq} (e : nx i h = some (some w)) (e1 : g w τ h = some τ1) (e2 : mb τ1 h = some (.rt u h2)) : forM nx g mb (f + 1) i τ h = some (.rt u h2) := by
  unfold forM
  rw [e]
  dsimp only
  rw [e1]
  dsimp only
  rw [e2]
theorem for_ex {nx : Nxt} {g : A → Sl → Hq → Option Sl} {mb : MS} {f i : Nat} {w : A} {x : Xc} {τ τ1 τ2 : Sl} {h h2 : Hq} (e : nx i h = some (some w)) (e1 : g w τ h = some τ1) (e2 : mb τ1 h = some (.ex x τ2 h2)) : forM nx g mb (f + 1) i τ h = some (.ex x τ2 h2) := by
  unfold forM
  rw [e]
  dsimp only
  rw [e1]
  dsimp only
  rw [e2]
theorem seq_bk {m1 m2 : MS} {τ τ1 : Sl} {h h1 : Hq} (e : m1 τ h = some (.bk τ1 h1)) : mSeq m1 m2 τ h = some (.bk τ1 h1) := by
  unfold mSeq
  rw [e]
theorem seq_ex {m1 m2 : MS} {x : Xc} {τ τ1 : Sl} {h h1 : Hq} (e : m1 τ h = some (.ex x τ1 h1)) : mSeq m1 m2 τ h = some (.ex x τ1 h1) := by
  unfold mSeq
  rw [e]
theorem seq_assoc {a b c : MS} {τ : Sl} {h : Hq} : mSeq (mSeq a b) c τ h = mSeq a (mSeq b c) τ h := by
  unfold mSeq
  cases a τ h with
  | none => rfl
  | some r => cases r <;> rfl
theorem setex_of {τ : Sl} {h h1 : Hq} {i : Nat} {x : Xc} {m : E A} (e : m τ h = some (.ex x h1)) : mSet i m τ h = some (.ex x τ h1) := by
  unfold mSet
  rw [e, sb_ex]
theorem runB_ex {np n : Nat} {m : MS} {ws : List A} {x : Xc} {τ : Sl} {h h1 : Hq} (hl : ws.length = np) (e : m (startT n ws) h = some (.ex x τ h1)) : runB np n m ws h = some (.ex x h1) := by
  unfold runB
  rw [if_pos hl, e]
/-! ### lists of ints compared -/
theorem LI_fok (xs : List Int) : (xs.map D.int).all D.fok = true := by
  rw [List.all_map]
  exact List.all_eq_true.mpr fun _ _ => rfl
theorem eqvAll_ints : ∀ (xs ys : List Int), PyData.eqvAll (D.toPs (xs.map D.int)) (D.toPs (ys.map D.int)) = decide (xs = ys)
  | [], [] => rfl
  | [], _ :: _ => rfl
  | _ :: _, [] => rfl
  | x :: xs, y :: ys => by
    show (PyData.eqv (D.int x).toP (D.int y).toP && PyData.eqvAll (D.toPs (xs.map D.int)) (D.toPs (ys.map D.int))) = _
    rw [eqvAll_ints xs ys, show PyData.eqv (D.int x).toP (D.int y).toP = decide (x = y) from rfl, Bool.eq_iff_iff]
    simp
theorem eqv_LD (xs ys : List Int) : D.eqv (LD xs) (LD ys) = decide (xs = ys) := eqvAll_ints xs ys
theorem shp_LD (xs : List Int) : (LD xs).shp = true := shp_lst (LI_fok xs)
theorem eqD_LD (n : Bool) (xs ys : List Int) : eqD n (LD xs) (LD ys) = some (if n then !decide (xs = ys) else decide (xs = ys)) := by
  unfold eqD
  rw [shp_LD, shp_LD, eqv_LD]
  rfl
theorem view_LI {h : Hq} {k : Nat} {xs : List Int} (e : h[k]? = some (.lst (LI xs))) : view h (.r k) = some (LD xs) := view_lst e
theorem pick2 (a b i : Int) (h : Hq) (h0 : 0 ≤ i) (h3 : i < 2) : ∃ v, gGet (.d (.lst [.int a, .int b])) (.d (.int i)) h = some (.ok (.d (.int v)) h) ∧ (v = a ∨ v = b) := by
  rcases (by omega : i = 0 ∨ i = 1) with e | e
  · exact ⟨a, by rw [e]; rfl, .inl rfl⟩
  · exact ⟨b, by rw [e]; rfl, .inr rfl⟩
theorem lays_ints : ∀ (ns : List Int), PyData.canLayAll0 (ns.map PyData.int) = true ∧ PyData.depthAll (ns.map PyData.int) = 0
  | [] => ⟨rfl, rfl⟩
  | n :: r => by
    obtain ⟨h1, h2⟩ := lays_ints r
    constructor
    · show ((PyData.int n).canLay0 && PyData.canLayAll0 (r.map PyData.int)) = true
      rw [h1]
      rfl
    · show max (PyData.int n).depth (PyData.depthAll (r.map PyData.int)) = 0
      rw [h2]
      rfl
theorem shp_scr (ns : List Int) : (D.scr ns).shp = true := by
  obtain ⟨h1, h2⟩ := lays_ints ns
  show (PyData.canLayAll0 (ns.map PyData.int) && decide (PyData.depthAll (ns.map PyData.int) + 1 ≤ 64)) = true
  rw [h1, h2]
  rfl
/-! ### a list of lists of ints -/
abbrev LLD (rs : List (List Int)) : D := .lst (rs.map LD)
theorem lays_LD (xs : List Int) : (LD xs).toP.canLay0 = true ∧ (LD xs).toP.depth ≤ 1 := by
  obtain ⟨h1, h2⟩ := lays_fok (LI_fok xs)
  constructor
  · show PyData.canLayAll0 (D.toPs (xs.map D.int)) = true
    exact h1
  · show PyData.depthAll (D.toPs (xs.map D.int)) + 1 ≤ 1
    rw [h2]
    exact Nat.le_refl _
theorem lays_LLs : ∀ (rs : List (List Int)), PyData.canLayAll0 (D.toPs (rs.map LD)) = true ∧ PyData.depthAll (D.toPs (rs.map LD)) ≤ 1
  | [] => ⟨rfl, Nat.zero_le _⟩
  | r :: rs => by
    obtain ⟨h1, h2⟩ := lays_LD r
    obtain ⟨h3, h4⟩ := lays_LLs rs
    constructor
    · show ((LD r).toP.canLay0 && PyData.canLayAll0 (D.toPs (rs.map LD))) = true
      rw [h1, h3]
      rfl
    · show max (LD r).toP.depth (PyData.depthAll (D.toPs (rs.map LD))) ≤ 1
      exact Nat.max_le.mpr ⟨h2, h4⟩
/-- a pair of a list of lists and an int -/
theorem shp_told (rs : List (List Int)) (n : Int) : (D.tup [LLD rs, .int n]).shp = true := by
  obtain ⟨h1, h2⟩ := lays_LLs rs
  have hd : (D.tup [LLD rs, .int n]).toP.depth ≤ 64 := by
    show max (PyData.depthAll (D.toPs (rs.map LD)) + 1) (max 0 0) + 1 ≤ 64
    omega
  show ((PyData.canLayAll0 (D.toPs (rs.map LD)) && (PyData.canLayAll0 (D.toPs [.int n]))) && decide ((D.tup [LLD rs, .int n]).toP.depth ≤ 64)) = true
  rw [h1, decide_eq_true hd]
  rfl
end Tq

set_option maxHeartbeats 1000000
/-! TqS: sorted(xs, key=f) over Inv, f an own def: the sorts' machine of KE/SortKeyed, told over HandS. -/
namespace L2
open PySem PySem.Spec PySem.W PyProof.Rows

abbrev emptyL (e : Nat) : Obj := seqObj "list" #[] e
section
variable {X : Cx} {pins : List (Addr × Obj)} {σ : St} {H : Hp} {s : Shared} {D kS : Addr} {e1 : Nat}
/-- a pinned list becomes a tracked one -/
theorem Inv.adopt {n : Nat} {its : List Value} {ys : List V} {t' : Nat} (I : Inv X ((D, seqObj "list" #[] n) :: pins) σ H s) (h0 : X.s_0.heap.objs.size ≤ D) (hc : ∀ x c, X.env.cells.lookup x = some c → c ≠ D) (hp : ∀ p ∈ X.pn ++ pins, p.1 ≠ D)
    (hv : Vals ys its) (hz : ys.length ≤ sizeLine) : Inv X pins σ (upd H D (.lst ys)) { s with heap := s.heap.update D (Obj.mapSeq fun _ => its.toArray), toks := t' } := by
  obtain ⟨eD, nD, neL, nfs, _⟩ := I.pin (D, seqObj "list" #[] n) (List.mem_append_right _ (List.mem_cons_self ..))
  have eD : s.heap.get? D = some (seqObj "list" #[] n) := eD
  have nD : H D = none := nD
  have k : ∀ b o, b ≠ D → s.heap.get? b = some o → (s.heap.update D (Obj.mapSeq fun _ => its.toArray)).get? b = some o := fun b o hb e => (Heap.get?_update_other s.heap _ (Ne.symm hb)).trans e
  have I0 : Inv X pins σ H s := I.pins_of fun p hp' => I.pin p (List.mem_append_right _ (List.mem_cons_of_mem _ hp'))
  have nit : ∀ b u, H b = some u → b ≠ D := fun b u e z => by rw [z, nD] at e; cases e
  have eD2 := get?_update_seq eD (fun _ => its.toArray)
  refine I0.step (g' := s.gens) (d' := s.drawn) (ch := [D]) (fun b hb => ?_) (fun b o _ _ hc e _ => k b o (fun z => hc (by simp [z])) e) (fun b o _ _ hc e _ => ⟨o.slots, k b o (fun z => hc (by simp [z])) e⟩)
    (fun b o hc _ n => by rw [upd_ne fun z => hc (by simp [z])]; exact n) (fun b o hc e => ⟨o, k b o (fun z => hc (by simp [z])) e⟩) (fun b xs e => by rw [upd_ne (nit b _ e)]; exact e) (fun b o u e => by rw [upd_ne (nit b _ e)]; exact e) (fun b ps e => ⟨#[], by rw [upd_ne (nit b _ e), e]; simp⟩) (fun m hm => ?_) (fun b u e => ?_) I0.bare
  · have e : b = D := by simpa using hb
    subst e
    exact ⟨.inr h0, neL, hc, hp⟩
  · obtain ⟨o, es, ep, ho, r⟩ := hm
    exact ⟨o, es, ep, k _ o (Ne.symm neL) ho, r⟩
  · by_cases hb : b = D
    · subst hb
      rw [upd_same] at e
      cases e
      exact ⟨hz, its, _, hv, eD2⟩
    · rw [upd_ne hb] at e
      refine (I0.hok b u e).stay (fun c v hc q => k c v ?_ q) (fun c q => by rw [upd_ne (nit c _ q)]; exact q) fun c xs q => by rw [upd_ne (nit c _ q)]; exact q
      rcases hc with z | z
      · rw [z]; exact hb
      · exact nit c _ z
end
/-- list.sort's end -/
theorem sk_tail {X : Cx} {A : Around} {E : Value → Shared → Prop} {P : PySem.Fin → Shared → Prop} {pins : List (Addr × Obj)} {σ : St} {H : Hp} {s : Shared} {D kS : Addr} {e1 : Nat} {st : SortSt} {out : List Value} {ys ks : List V}
    (I : Inv X ((D, seqObj "list" #[] e1) :: pins) σ H s) (h0 : X.s_0.heap.objs.size ≤ D) (hc : ∀ x c, X.env.cells.lookup x = some c → c ≠ D) (hp : ∀ p ∈ X.pn ++ pins, p.1 ≠ D) (hk : H kS = some (.lst ks))
    (hv : Vals ys out) (hz : ys.length ≤ sizeLine) (hfl : failedOf st = none) (ho : (arrOf st).map (·.2) = out.toArray)
    (h : ∀ s', Inv X pins σ (upd (upd H kS (.lst [])) D (.lst ys)) s' → P (.done (.ret .none)) s') : wpAny (model X.prog X.w) A (ksk_tail D false e1 (.ref kS) st) P E s := by
  obtain ⟨z, its, n, r, hl, e⟩ := I.lstM hk
  unfold ksk_tail
  try dsimp only
  rw [ho]
  refine wpAny_bind (listUpdate_at e rfl ?_ (by rw [List.size_toArray, ← hl]; exact z) (Nat.zero_le _))
  have I1 := I.lset (f := fun _ => (#[] : Array Value)) (its' := []) (ys := []) (t' := s.toks) hk e rfl .nil (Nat.zero_le _)
  obtain ⟨eD, _⟩ := I1.pin (D, seqObj "list" #[] e1) (List.mem_append_right _ (List.mem_cons_self ..))
  refine wpAny_bind (wpAny_letGo ?_)
  refine wpAny_bind (seqEpoch_at eD rfl ?_)
  refine wpAny_bind (listUpdate_at eD rfl ?_ (Nat.zero_le _) (by rw [if_neg (by decide), List.size_toArray, ← hv.length]; omega))
  rw [hfl]
  simp only [bne_self_eq_false, Bool.false_eq_true, if_false]
  exact wpAny_pure (h _ (I1.adopt (t' := s.toks) h0 hc hp hv hz))
theorem sk_end {X : Cx} {A : Around} {E : Value → Shared → Prop} {P : PySem.Fin → Shared → Prop} {pins : List (Addr × Obj)} {σ : St} {H : Hp} {s : Shared} {D kS : Addr} {e1 : Nat} {ys ks : List V} {κ : PyProof.Rows.KeyKind} {keys : Array Value} {vs : List Value}
    (I : Inv X ((D, seqObj "list" #[] e1) :: pins) σ H s) (h0 : X.s_0.heap.objs.size ≤ D) (hc : ∀ x c, X.env.cells.lookup x = some c → c ≠ D) (hp : ∀ p ∈ X.pn ++ pins, p.1 ≠ D) (hk : H kS = some (.lst ks))
    (S : SortsAt X.prog X.w A s κ keys.toList) (hsz : keys.size = vs.length) (hZ : vs.length ≤ sizeLine) (hv : Vals ys (sortVals κ false keys.toList vs))
    (h : ∀ s', Inv X pins σ (upd (upd H kS (.lst [])) D (.lst ys)) s' → P (.done (.ret .none)) s') : wpAny (model X.prog X.w) A (ksk_end D false vs.toArray e1 (.ref kS) keys) P E s := by
  obtain ⟨kd, h1, h2⟩ := S.kind
  have hkl : keys.toList.length = vs.length := by
    rw [Array.length_toList]
    exact hsz
  have hK : PyProof.Rows.KeysOf κ (keys.zip vs.toArray) := keysOf_zip S.keys
  have hol : (sortVals κ false keys.toList vs).length = vs.length := sortVals_length false hkl
  have hyl : ys.length ≤ sizeLine := by rw [hv.length, hol]; exact hZ
  have hss : (keys.zip vs.toArray).size = vs.length := by rw [Array.size_zip, hsz, List.size_toArray, Nat.min_self]
  have fin : ∀ st' : SortSt, (arrOf st').Perm (keys.zip vs.toArray) → SortedToK κ (arrOf st') (keys.zip vs.toArray).size → Stable κ (arrOf st') (keys.zip vs.toArray) → (arrOf st').map (·.2) = (sortVals κ false keys.toList vs).toArray := by
    intro st' hp hs ht
    have e := sort_out (rev := false) (keys := keys) (items := vs.toArray) (xs := arrOf st') (κ := κ) hK hp hs ht
    have e' := congrArg List.toArray e
    rw [Array.toArray_toList] at e'
    exact e'
  unfold ksk_end
  try dsimp only
  rw [if_neg (by decide)]
  by_cases hl2 : vs.toArray.size < 2
  · rw [if_pos hl2, if_pos hl2]
    refine wpAny_bind (wpAny_pure ?_)
    rw [StateT.run_pure]
    refine wpAny_bind (wpAny_pure ?_)
    try dsimp only
    refine sk_tail (st := SortSt.mk' general' (keys.zip vs.toArray) #[] 7 none) I h0 hc hp hk hv hyl rfl (fin _ (Array.Perm.refl _) ?_ (Stable.refl _)) h
    intro i j hij hj
    rw [hss] at hj
    rw [List.size_toArray] at hl2
    have : i = j := by omega
    subst this
    exact KeyOrd.kle_refl _
  · rw [if_neg hl2, if_neg hl2]
    rw [List.size_toArray] at hl2
    refine wpAny_bind (h2 (by omega) _ ?_)
    refine wpAny_bind (wpAny_mono (PyProof.Rows.H.wpS_sortRunsSt (κ := κ) (kd := kd) (a₀ := keys.zip vs.toArray)
      (st := SortSt.mk' kd (keys.zip vs.toArray) #[] 7 none)
      (Q := fun _ st' => failedOf st' = none ∧ (arrOf st').map (·.2) = (sortVals κ false keys.toList vs).toArray)
      h1 hK ⟨Array.Perm.refl _, rfl, rfl⟩ rfl (Stable.refl _) (by rw [hss]; omega) fun st' a1 a2 a3 a4 => ⟨a2, fin st' a1 a3 a4⟩) ?_ fun _ _ e => e)
    rintro ⟨⟨⟩, st'⟩ s' ⟨rfl, hf, ho⟩
    try dsimp only at ho ⊢
    exact sk_tail I h0 hc hp hk hv hyl hf ho h
theorem vals_get : ∀ {xs : List V} {us : List Value}, Vals xs us → ∀ {i : Nat} {u : Value}, us[i]? = some u → ∃ v, xs[i]? = some v ∧ RelV v u
  | _, _, .nil, i, u, h => by simp at h
  | _, _, .cons r t, 0, u, h => by cases h; exact ⟨_, rfl, r⟩
  | _, _, .cons r t, i + 1, u, h => vals_get t (by simpa using h)
theorem each_reads {X : Cx} {pins : List (Addr × Obj)} {σ : St} {H : Hp} {s : Shared} (I : Inv X pins σ H s) : ∀ {ks : List V} {us : List Value} {kz : List PyData}, Vals ks us → EachIs (fun v d => Dp X.K H v d) ks kz → EachIs (fun v k => ∃ as, Reads s.heap v k as) us kz
  | _, _, _, .nil, .nil => .nil
  | _, _, _, .cons r t, .cons h hs => .cons (Dp.reads I _ _ _ h r) (each_reads I t hs)
/-- R of the items by their values -/
theorem each_rel : ∀ {xs : List V} {us : List Value} {kz : List PyData}, Vals xs us → kz.length = xs.length → EachIs (fun u (b : V × PyData) => RelV b.1 u) us (xs.zip kz)
  | _, _, _, .nil, _ => by
    rw [List.zip_nil_left]
    exact .nil
  | _, _, [], .cons r t, h => by simp at h
  | _, _, k :: kz, .cons r t, h => .cons r (each_rel t (by simpa using h))
theorem vals_of_each : ∀ {us : List Value} {bs : List (V × PyData)}, EachIs (fun u (b : V × PyData) => RelV b.1 u) us bs → Vals (bs.map (·.1)) us
  | _, _, .nil => .nil
  | _, _, .cons h t => .cons h (vals_of_each t)
def byKey (xs : List V) (kz : List PyData) : List V := ((xs.zip kz).mergeSort (dataLe false Prod.snd)).map (·.1)
/-- the keys are asked, then the sort -/
theorem sk_rest {X : Cx} {A : Around} {E : Value → Shared → Prop} {P : PySem.Fin → Shared → Prop} {pins : List (Addr × Obj)} {σ : St} {H : Hp} {s : Shared} {D kS : Addr} {e1 : Nat} {xs : List V} {vs : List Value} {kz : List PyData} {f : Value} (J : Nat → Hp → List V → Prop)
    (I : Inv X ((D, seqObj "list" #[] e1) :: pins) σ H s) (h0 : X.s_0.heap.objs.size ≤ D) (hc : ∀ x c, X.env.cells.lookup x = some c → c ≠ D) (hp : ∀ p ∈ X.pn ++ pins, p.1 ≠ D) (hk : H kS = some (.lst []))
    (hxv : Vals xs vs) (hlen : kz.length = xs.length) (hZ : vs.length ≤ sizeLine) (hal : AllAlike kz) (hsk : Sortable kz) (hu : ∀ d, d ∈ kz → A.units + d.depth < cLine) (j0 : J 0 H [])
    (turn : ∀ (i : Nat) (v : V) (u : Value) (H1 : Hp) (ks : List V) (s1 : Shared), xs[i]? = some v → RelV v u → ks.length = i → H1 kS = some (.lst ks) → J i H1 ks → Inv X ((D, seqObj "list" #[] e1) :: pins) σ H1 s1 →
      wpAny (model X.prog X.w) A (call f [u]) (fun r s2 => ∃ y H2, Inv X ((D, seqObj "list" #[] e1) :: pins) σ H2 s2 ∧ RelV y r ∧ H2 kS = some (.lst ks) ∧ J (i + 1) (upd H2 kS (.lst (ks ++ [y]))) (ks ++ [y])) (fun _ _ => False) s1)
    (keys : ∀ H1 ks, J xs.length H1 ks → EachIs (fun v d => Dp X.K H1 v d) ks kz)
    (h : ∀ s' H1 ks, J xs.length H1 ks → H1 D = none → H1 kS = some (.lst ks) → Inv X pins σ (upd (upd H1 kS (.lst [])) D (.lst (byKey xs kz))) s' → P (.done (.ret .none)) s') :
    wpAny (model X.prog X.w) A (ksk_rest D f false vs.toArray e1 (.ref kS)) P E s := by
  have hxl := hxv.length
  unfold ksk_rest
  refine wpAny_bind (wpAny_rule ?_)
  first
    | rw [List.forIn_toArray]
    | (rw [← Array.forIn_toList]; simp only [List.toList_toArray])
    | rw [← Array.forIn_toList]
  refine wpAny_bind (ksk_fold (fun i s' => ∃ H1 ks, ks.length = i ∧ H1 kS = some (.lst ks) ∧ J i H1 ks ∧ Inv X ((D, seqObj "list" #[] e1) :: pins) σ H1 s') vs 0 s
    ⟨H, [], rfl, hk, j0, I⟩ ?step ?done)
  case step =>
    rintro j x s' hx ⟨H1, ks, hl, hk1, j1, I1⟩
    simp only [Nat.zero_add] at hl j1 ⊢
    obtain ⟨v, hv, rv⟩ := vals_get hxv hx
    refine wpAny_bind (wpAny_attempt (wpAny_mono (turn j v x H1 ks s' hv rv hl hk1 j1 I1) (fun r s2 he => ?_) fun _ _ hF => hF.elim))
    obtain ⟨y, H2, I2, ry, hk2, j2⟩ := he
    try dsimp only
    obtain ⟨z, its, n, r2, hl2, e2⟩ := I2.lstM hk2
    have hj : j < vs.length := (List.getElem?_eq_some_iff.mp hx).1
    refine wpAny_bind (listUpdate_at e2 rfl ?_ (by rw [List.size_toArray]; omega) (by rw [Array.size_push, List.size_toArray]; omega))
    refine wpAny_pure ⟨rfl, _, ks ++ [y], by rw [List.length_append, hl]; rfl, upd_same .., j2, I2.lset (f := fun a => a.push r) (its' := its ++ [r]) (t' := s2.toks) hk2 e2 (by simp) (r2.append (.cons ry .nil)) (by rw [List.length_append, List.length_singleton]; omega)⟩
  case done =>
    rintro s' ⟨H1, ks, hl, hk1, j1, I1⟩
    simp only [Nat.zero_add] at hl j1
    rw [← hxl] at j1 hl
    obtain ⟨z, its, n, r1, hl1, ee⟩ := I1.lstM hk1
    have hk' := each_reads I1 r1 (keys H1 ks j1)
    try dsimp only
    refine wpAny_bind (listItems_at ee rfl ?_)
    have S := SortsAt.data (prog := X.prog) (w := X.w) (A := A) (s := s') (vs := its) hk' hal hsk hu
    refine sk_end (κ := dataKind s'.heap kz) (ys := byKey xs kz) I1 h0 hc hp hk1 (by simpa using S) (by rw [List.size_toArray]; omega) hZ ?_ fun s2 I2 => h s2 H1 ks j1 (I1.pin (D, seqObj "list" #[] e1) (List.mem_append_right _ (List.mem_cons_self ..))).2.1 hk1 I2
    have ko : KeyedOut false ((xs.zip kz).map Prod.snd) vs (sortVals (dataKind s'.heap kz) false its.toArray.toList vs) := by
      rw [List.map_snd_zip (by omega)]
      exact ⟨s'.heap, its, hal, by simp, hk'⟩
    exact vals_of_each (keyedOut_each Prod.snd ko (each_rel hxv hlen))
/-- sorted(xs, key=f) -/
theorem sk_sorted {X : Cx} {E : Value → Shared → Prop} {Q : VK} {pins : List (Addr × Obj)} {σ : St} {H : Hp} {s : Shared} {xs : List V} {kz : List PyData} {l f : Addr} (J : Addr → Nat → Hp → List V → Prop)
    (I : Inv X pins σ H s) (hs : SqL X.K H l xs) (hlen : kz.length = xs.length) (hal : AllAlike kz) (hsk : Sortable kz) (hu : ∀ d, d ∈ kz → X.A.units + 2 + d.depth < cLine) (j0 : ∀ kS, H kS = none → J kS 0 (upd H kS (.lst [])) [])
    (turn : ∀ (kS : Addr) (i : Nat) (v : V) (u : Value) (H1 : Hp) (ks : List V) (s1 : Shared) (pins' : List (Addr × Obj)), xs[i]? = some v → RelV v u → ks.length = i → H1 kS = some (.lst ks) → J kS i H1 ks → Inv X pins' σ H1 s1 →
      wpAny (model X.prog X.w) X.A.in1.in1 (call (.ref f) [u]) (fun r s2 => ∃ y H2, Inv X pins' σ H2 s2 ∧ RelV y r ∧ H2 kS = some (.lst ks) ∧ J kS (i + 1) (upd H2 kS (.lst (ks ++ [y]))) (ks ++ [y])) (fun _ _ => False) s1)
    (keys : ∀ kS H1 ks, J kS xs.length H1 ks → EachIs (fun v d => Dp X.K H1 v d) ks kz)
    (q : ∀ kS D H1 ks, J kS xs.length H1 ks → H1 D = none → H1 kS = some (.lst ks) → Q (.ref D) (upd (upd H1 kS (.lst [])) D (.lst (byKey xs kz)))) :
    wpAny (model X.prog X.w) X.A (call (.builtin "sorted") [.ref l] [(Str.ofString "key", .ref f)]) (EP X pins σ Q) E s := by
  obtain ⟨its, rv, hl, hz⟩ := I.list hs
  have hZ : its.length ≤ sizeLine := by rw [← rv.length]; exact hz
  refine sorted_of_sort hl.isList hZ (ksk_s1 _ _) (fun _ => ksk_l1 _ _) fun E' => ?_
  rw [ksk_t1]
  have I1 : Inv X pins σ H { s with heap := copyHeap s.heap its } := I.kept (t' := s.toks) fun _ _ => copyHeap_old
  have ho := copyHeap_at s.heap its
  have nD : H (s.heap.objs.size + 1) = none := I.hok.fresh (Nat.le_succ _)
  have nL : s.heap.objs.size + 1 ≠ X.env.locals := Nat.ne_of_gt (Nat.lt_succ_of_lt I.lt)
  have nfs : s.heap.objs.size + 1 ∉ X.fs := I.nofs (Nat.le_succ _)
  have h0 : X.s_0.heap.objs.size ≤ s.heap.objs.size + 1 := Nat.le_trans I.sz (Nat.le_succ _)
  have hc : ∀ x c, X.env.cells.lookup x = some c → c ≠ s.heap.objs.size + 1 := fun x c e => by
    obtain ⟨v, o, ho, _⟩ := I.cell x c e
    exact Nat.ne_of_lt (Nat.lt_succ_of_lt (Heap.lt_size ho))
  have hp : ∀ p ∈ X.pn ++ pins, p.1 ≠ s.heap.objs.size + 1 := fun p hp => Nat.ne_of_lt (Nat.lt_succ_of_lt (Heap.lt_size (I.pin p hp).1))
  generalize hD : s.heap.objs.size + 1 = D at ho nD nL nfs h0 hc hp
  unfold ksk_tree
  refine wpAny_bind (listItems_at ho rfl ?_)
  refine wpAny_bind (listUpdate_at ho rfl ?_ (by rw [List.size_toArray]; exact hZ) (Nat.zero_le _))
  obtain ⟨e1, ho1⟩ : ∃ e1, ((copyHeap s.heap its).update D (Obj.mapSeq fun _ => (#[] : Array Value))).get? D = some (seqObj "list" #[] e1) := ⟨_, get?_update_seq ho fun _ => #[]⟩
  have I2 : Inv X pins σ H { s with heap := (copyHeap s.heap its).update D (Obj.mapSeq fun _ => (#[] : Array Value)) } := I1.turned (t' := s.toks) (fun b o hb e => (Heap.get?_update_other _ _ (Ne.symm hb)).trans e) nD nL (.inr h0) hc hp
  refine wpAny_bind (seqEpoch_at ho1 rfl ?_)
  refine wpAny_bind (wpAny_newTuple ?_ (by show its.length ≤ _; exact hZ))
  refine wpAny_bind (wpAny_newList ?_ (Nat.zero_le _))
  refine wpAny_holding ?_
  generalize hh2 : (copyHeap s.heap its).update D (Obj.mapSeq fun _ => (#[] : Array Value)) = h2 at ho1 I2
  have I3 : Inv X pins σ H { s with heap := h2.push { cls := .type "tuple", data := .seq its.toArray } } := I2.kept (t' := s.toks) fun _ _ e => Heap.get?_push_of_some _ e
  have ho3 : (h2.push { cls := .type "tuple", data := .seq its.toArray }).get? D = some (seqObj "list" #[] e1) := Heap.get?_push_of_some _ ho1
  have I4 : Inv X ((D, seqObj "list" #[] e1) :: pins) σ H { s with heap := h2.push { cls := .type "tuple", data := .seq its.toArray } } := I3.pins_of fun p hp' => by
    rcases List.mem_cons.mp hp' with rfl | hp'
    · exact ⟨ho3, nD, nL, nfs, fun v => by intro z; cases z⟩
    · exact I3.pin p (List.mem_append_right _ hp')
  have nk := I4.fresh
  have I5 := I4.lnew (its := []) (ys := []) (t' := s.toks) .nil (Nat.zero_le _)
  refine sk_rest (E := E') (J ((h2.push { cls := .type "tuple", data := .seq its.toArray }).objs.size)) I5 h0 hc hp (upd_same ..) rv hlen hZ hal hsk (fun d hd => hu d hd) (j0 _ nk) (fun i v u H1 ks s1 a1 a2 a3 a4 a5 a6 => turn _ i v u H1 ks s1 _ a1 a2 a3 a4 a5 a6) (keys _) fun s' H1 ks j1 d1 k1 I6 => ⟨rfl, .ref _, _, I6, ?_, q _ _ H1 ks j1 d1 k1⟩
  rfl
end L2

set_option maxHeartbeats 1000000
/-! Tq14: sorted(xs, key=f): xs data, f an own def whose keys are tuples of ints. -/
namespace Tq
open PySem PySem.Spec PyProof.Rows L2

section
variable {K : PySem.W.Frag} {Z B H : Hp} {ρ : Nat → Option Addr} {h : Hq}
/-- backP, and what stood is not touched -/
theorem Ok.backP2 (ok : Ok K Z B ρ H h) {B' H' : Hp} {ρ' : Nat → Option Addr} {h' : Hq} (ok' : Ok K H B' ρ' H' h') (g : Gr H B (fun _ => none) B' ρ') :
    ∃ B2, Ok K Z B2 ρ H' h ∧ Gr Z B ρ B2 ρ ∧ (∀ v w d, RA K B' ρ' v w → view h' w = some d → Rp K B2 v d) ∧ ∀ a, H a ≠ none → B2 a = B a := by
  let B2 : Hp := fun a => if H a = none then H' a else B a
  have s0 : Same H H' := ok'.zz
  have zn : ∀ a, H a = none → Z a = none := fun a e => by
    cases z : Z a with
    | none => rfl
    | some u => rw [ok.zz a u z] at e; cases e
  have bn : ∀ a, H a = none → B a = none := fun a e => by
    cases z : B a with
    | none => rfl
    | some u => rw [ok.ex a u z] at e; cases e
  have b1 : Same B B2 := fun a o e => by
    show (if H a = none then H' a else B a) = some o
    rw [if_neg (by rw [ok.ex a o e]; simp)]
    exact e
  have b2 : Same B2 H' := fun a o e => by
    have e : (if H a = none then H' a else B a) = some o := e
    split at e
    · exact e
    · exact s0 _ _ (ok.ex a o e)
  have b3 : ∀ a, H a ≠ none → B2 a = B a := fun a e => if_neg e
  have b4 : Same B' B2 := fun a o e => by
    by_cases z : B a = none
    · have hz := g.fz a z (by rw [e]; simp)
      show (if H a = none then H' a else B a) = some o
      rw [if_pos hz]
      exact ok'.ex a o e
    · cases y : B a with
      | none => exact absurd y z
      | some u =>
        have := g.bb a u y
        rw [e] at this
        cases this
        exact b1 a o y
  have gg : Gr Z B ρ B2 ρ := ⟨b1, fun _ _ e => e, fun a e e' => by
    by_cases z : H a = none
    · exact zn a z
    · rw [b3 a z] at e'; exact absurd e e'⟩
  refine ⟨B2, ⟨b2, fun a o e => s0 _ _ (ok.zz a o e), fun k c e => ?_, ok.nj, fun k a e => ?_, ok.up⟩, gg, fun v w d r e => vw_at ok' b4 (fun b hz hb u hu => ?_) _ v w d r e, b3⟩
  · obtain ⟨a, h1, h2⟩ := ok.ce k c e
    refine ⟨a, h1, ?_⟩
    cases h2 with
    | lst e1 e2 e3 e4 => exact .lst (s0 _ _ e1) (e2.mono gg) (by rw [b3 a (by rw [e1]; simp)]; exact e3) e4
    | nd e1 e2 e3 => exact .nd (e1.to fun b _ u e => s0 _ _ e) (e2.mono gg) fun b hb => ⟨by rw [b3 b (e1.own_or.2.2.1 b hb)]; exact (e3 b hb).1, (e3 b hb).2⟩
    | dead e1 => exact .dead e1
  · have := ok.al k a e
    cases z : H a with
    | none => exact absurd z this
    | some u => rw [s0 _ _ z]; simp
  · show (if H b = none then H' b else B b) = some u
    rw [if_pos hz]
    exact hu
/-- an object that is nobody's is left out -/
theorem Ok.less {q : Addr} {xs : List V} (ok : Ok K Z B ρ H h) (hq : H q = some (.lst xs)) (hB : B q = none) (hZ : Z q = none) (hr : ∀ k, ρ k ≠ some q) : Ok K Z B ρ (fun a => if a = q then none else H a) h := by
  have ne : ∀ {P : Hp} {a : Addr} {o : HO}, P q = none → P a = some o → a ≠ q := fun hp e z => by rw [z, hp] at e; cases e
  refine ⟨fun a o e => by rw [if_neg (ne hB e)]; exact ok.ex a o e, fun a o e => by rw [if_neg (ne hZ e)]; exact ok.zz a o e, fun k c e => ?_, ok.nj, fun k a e => ?_, ok.up⟩
  · obtain ⟨a, h1, h2⟩ := ok.ce k c e
    have na : a ≠ q := fun z => hr k (by rw [h1, z])
    refine ⟨a, h1, ?_⟩
    cases h2 with
    | lst e1 e2 e3 e4 => exact .lst (by rw [if_neg na]; exact e1) e2 e3 e4
    | nd e1 e2 e3 =>
      refine .nd (e1.to fun b hb u eb => ?_) e2 e3
      have nb : b ≠ q := fun z => by
        rcases e1.own_or.2.1 b hb with y | y
        · exact na (y.symm.trans z)
        · rw [z, hq] at y; cases y
      rw [if_neg nb]
      exact eb
    | dead e1 => exact .dead e1
  · have na : a ≠ q := fun z => hr k (by rw [e, z])
    rw [if_neg na]
    exact ok.al k a e
end
/-! ### keys -/
def intD : D → Option Int
  | .int i => some i
  | _ => none
/-- a tuple of ints, at least one -/
def keyI : D → Option (Int × List Int)
  | .tup (.int i :: r) => (mapMn intD r).map fun js => (i, js)
  | _ => none
def encI (b : Int × List Int) : PyData := .tuple ((b.1 :: b.2).map PyData.int)
theorem intD_of {ds : List D} {js : List Int} (e : mapMn intD ds = some js) : ds = js.map D.int := by
  induction ds generalizing js with
  | nil => cases e; rfl
  | cons d r ih =>
    unfold mapMn at e
    cases d with
    | int i =>
      dsimp only [intD] at e
      split at e
      · rename_i bs e2
        cases e
        rw [List.map_cons, ih e2]
      · cases e
    | _ => cases e
theorem keyI_of {d : D} {b : Int × List Int} (e : keyI d = some b) : d = .tup ((b.1 :: b.2).map D.int) := by
  unfold keyI at e
  split at e
  · rename_i i r
    obtain ⟨js, e2, rfl⟩ := Option.map_eq_some_iff.mp e
    rw [intD_of e2]
    rfl
  · cases e
theorem toPs_ints : ∀ (js : List Int), D.toPs (js.map D.int) = js.map PyData.int
  | [] => rfl
  | j :: r => congrArg (PyData.int j :: ·) (toPs_ints r)
theorem keyI_toP {d : D} {b : Int × List Int} (e : keyI d = some b) : d.toP = encI b := by
  rw [keyI_of e]
  show PyData.tuple (D.toPs ((b.1 :: b.2).map D.int)) = _
  rw [toPs_ints]
  rfl
theorem keyI_shp {d : D} {b : Int × List Int} (e : keyI d = some b) : d.shp = true := by
  rw [keyI_of e]
  exact shp_tup (by rw [List.all_map]; exact List.all_eq_true.mpr fun _ _ => rfl)
theorem enc_alike (b b' : Int × List Int) : PySem.W.alike (encI b) (encI b') = true := PySem.W.alike_ints _ _
theorem enc_depth (b : Int × List Int) : (encI b).depth ≤ 1 := by
  show PyData.depthAll ((b.1 :: b.2).map PyData.int) + 1 ≤ 1
  rw [PySem.W.depth_ints]
  exact Nat.le_refl _
/-- the key of an item -/
def keyOf (sem : Sem1) (e : D) : Option (Int × List Int) := match sem [.d e] [] with
  | some (.ok u h') => (match view h' u with | some k => keyI k | none => none)
  | _ => none
def byKeyA {α : Type} (ws : List α) (kz : List (Int × List Int)) : List α := ((ws.zip (kz.map encI)).mergeSort (PySem.W.dataLe false Prod.snd)).map (·.1)
def gSortK (o : Bool) (sem : Sem1) : G1 := fun a h => match lstOf h a with
  | some ws => (match allD ws with
    | some es => (match mapMn (keyOf sem) es with
      | some kz => mkL o (byKeyA ws kz) h
      | none => none)
    | none => none)
  | none => none
section
variable {K : PySem.W.Frag} {B : Hp} {ρ : Nat → Option Addr}
theorem ral_len {vs : List V} {ws : List A} (r : RAL K B ρ vs ws) : vs.length = ws.length := r.length
theorem ral_zip : ∀ {vs : List V} {ws : List A}, RAL K B ρ vs ws → ∀ p ∈ vs.zip ws, RA K B ρ p.1 p.2
  | _, _, .nil, _, h => by simp at h
  | _, _, .cons r t, p, h => by
    rw [List.zip_cons_cons] at h
    rcases List.mem_cons.mp h with rfl | h
    · exact r
    · exact ral_zip t p h
theorem ral_unzip : ∀ {l : List ((V × A) × PyData)}, (∀ p ∈ l, RA K B ρ p.1.1 p.1.2) → RAL K B ρ (l.map (·.1.1)) (l.map (·.1.2))
  | [], _ => .nil
  | p :: r, h => .cons (h p (List.mem_cons_self ..)) (ral_unzip fun q hq => h q (List.mem_cons_of_mem _ hq))
theorem zip3 : ∀ (vs : List V) (ws : List A) (ps : List PyData), vs.length = ws.length → vs.zip ps = ((vs.zip ws).zip ps).map (fun p => (p.1.1, p.2)) ∧ ws.zip ps = ((vs.zip ws).zip ps).map (fun p => (p.1.2, p.2))
  | [], [], _, _ => ⟨rfl, rfl⟩
  | [], _ :: _, _, h => by simp at h
  | _ :: _, [], _, h => by simp at h
  | _ :: _, _ :: _, [], _ => ⟨rfl, rfl⟩
  | v :: vs, w :: ws, p :: ps, h => by
    obtain ⟨h1, h2⟩ := zip3 vs ws ps (by simpa using h)
    constructor
    · rw [List.zip_cons_cons, List.zip_cons_cons, List.zip_cons_cons, List.map_cons, ← h1]
    · rw [List.zip_cons_cons, List.zip_cons_cons, List.zip_cons_cons, List.map_cons, ← h2]
theorem ral_byKey {vs : List V} {ws : List A} {kz : List (Int × List Int)} (r : RAL K B ρ vs ws) : RAL K B ρ (L2.byKey vs (kz.map encI)) (byKeyA ws kz) := by
  obtain ⟨e1, e2⟩ := zip3 vs ws (kz.map encI) r.length
  generalize hl : (vs.zip ws).zip (kz.map encI) = l at e1 e2
  have m1 : (l.mergeSort (PySem.W.dataLe false Prod.snd)).map (fun p => (p.1.1, p.2)) = (l.map fun p => (p.1.1, p.2)).mergeSort (PySem.W.dataLe false Prod.snd) := List.map_mergeSort fun _ _ _ _ => rfl
  have m2 : (l.mergeSort (PySem.W.dataLe false Prod.snd)).map (fun p => (p.1.2, p.2)) = (l.map fun p => (p.1.2, p.2)).mergeSort (PySem.W.dataLe false Prod.snd) := List.map_mergeSort fun _ _ _ _ => rfl
  unfold L2.byKey byKeyA
  rw [e1, e2, ← m1, ← m2, List.map_map, List.map_map]
  refine ral_unzip fun p hp => ?_
  have hp : p ∈ l := List.mem_mergeSort.mp hp
  rw [← hl] at hp
  exact ral_zip r p.1 (List.of_mem_zip hp).1
theorem rpl_get : ∀ {vs : List V} {ds : List D}, RpL K B vs ds → ∀ {i : Nat} {v : V}, vs[i]? = some v → ∃ d, ds[i]? = some d ∧ Rp K B v d
  | _, _, .nil, i, v, h => by simp at h
  | _, _, .cons r t, 0, v, h => by cases h; exact ⟨_, rfl, r⟩
  | _, _, .cons r t, i + 1, v, h => rpl_get t (by simpa using h)
theorem rpl_mono {B' : Hp} (e : Same B B') : ∀ {vs : List V} {ds : List D}, RpL K B vs ds → RpL K B' vs ds
  | _, _, .nil => .nil
  | _, _, .cons r t => .cons (r.mono e) (rpl_mono e t)
theorem rpl_snoc {v : V} {d : D} (r2 : Rp K B v d) : ∀ {vs : List V} {ds : List D}, RpL K B vs ds → RpL K B (vs ++ [v]) (ds ++ [d])
  | _, _, .nil => .cons r2 .nil
  | _, _, .cons r t => .cons r (rpl_snoc r2 t)
end
theorem mapMn_get {α β : Type} {f : α → Option β} : ∀ {as : List α} {bs : List β}, mapMn f as = some bs → as.length = bs.length ∧ ∀ (i : Nat) (a : α), as[i]? = some a → ∃ b, bs[i]? = some b ∧ f a = some b
  | [], bs, e => by
    cases e
    exact ⟨rfl, fun i a h => by simp at h⟩
  | a :: r, bs, e => by
    unfold mapMn at e
    split at e
    · rename_i b e1
      split at e
      · rename_i bs' e2
        cases e
        obtain ⟨h1, h2⟩ := mapMn_get e2
        refine ⟨by simp [h1], fun i x hx => ?_⟩
        cases i with
        | zero => cases hx; exact ⟨b, rfl, e1⟩
        | succ i => exact h2 i x (by simpa using hx)
      · cases e
    · cases e
theorem each_keys {K : PySem.W.Frag} {B H : Hp} (e : Same B H) : ∀ {ks : List V} {kz : List (Int × List Int)}, RpL K B ks (kz.map fun b => .tup ((b.1 :: b.2).map D.int)) → PySem.W.EachIs (fun v d => Dp K H v d) ks (kz.map encI)
  | _, [], .nil => .nil
  | _, b :: kz, .cons r t => by
    refine .cons ?_ (each_keys e t)
    have := (r.mono e).dp (show SeqAt.shaped _ = true from shp_tup (by rw [List.all_map]; exact List.all_eq_true.mpr fun _ _ => rfl))
    rwa [show (D.tup ((b.1 :: b.2).map D.int)).toP = encI b from by
      show PyData.tuple (D.toPs ((b.1 :: b.2).map D.int)) = _
      rw [toPs_ints]
      rfl] at this
/-- a call within two built-ins; nothing is let out -/
theorem run_in2 {X : Cx} {k : Nat} {f : Addr} {fd : FuncData} {ps : List Str} {sp : Sp} {pins : List (Addr × Obj)} {σ : L2.St} {H : Hp} {s : Shared} {Q : VK} {us : List Value} {vs : List V} (F : FnOk X.prog X.w X.K X.mg X.base (L2.CX X.prog X.w) k f fd ps sp) (hr : Room (k + 2) X.A) (hb : Binds X.K fd ps [])
    (I : Inv X pins σ H s) (r : Vals vs us) (h : sp vs H Q E0) : wpAny (model X.prog X.w) X.A.in1.in1 (call (.ref f) us) (EP X pins σ Q) (fun _ _ => False) s := by
  have hl : us.length = ps.length := by rw [← r.length]; exact F.len _ _ _ _ h
  have hb2 := hb s us I.kIn (by rw [List.append_nil]; exact hl)
  rw [List.append_nil] at hb2
  refine wpAny_call (codeAny_mono (F.run X.A.in1.in1 X.stack s H ⟨us, []⟩ us vs Q E0 hr.in1.in1 I.env0.in1.in1 hb2 r h) fun r s' hq => ?_)
  cases r with
  | error e =>
    obtain ⟨_, _, _, _, _, _, _, _, _, _, _, _, hE⟩ := hq
    exact hE
  | ok fl =>
    cases fl with
    | ret u => exact I.after hq
    | next => exact False.elim hq
    | brk => exact False.elim hq
    | cont => exact False.elim hq
def dI (b : Int × List Int) : D := .tup ((b.1 :: b.2).map D.int)
def rSK (K : PySem.W.Frag) (f : Addr) (o : Bool) (sem : Sem1) : List V → List V → Hp → VK → Prop := fun vs zs H Q => zs = [.ref f] ∧ ∃ (x : V) (a : A) (Z B : Hp) (ρ : Nat → Option Addr) (h : Hq) (Wx : XK), vs = [x] ∧ Ok K Z B ρ H h ∧ RA K B ρ x a ∧ Post K Z Wx B ρ (fun w _ B' ρ' H' => ∀ v, RA K B' ρ' v w → Q v H') (gSortK o sem a h)
theorem cr_sortK {X : Cx} {k : Nat} {f : Addr} {fd : FuncData} {pn : Str} {o : Bool} {sem : Sem1} (F : FnOk X.prog X.w X.K X.mg X.base (L2.CX X.prog X.w) k f fd [pn] (spQ X.K 1 sem)) (hr : Room (k + 2) X.A) (hb : Binds X.K fd [pn] []) : CallRK X (.builtin "sorted") [Str.ofString "key"] (rSK X.K f o sem) := by
  intro pins s σ H xs zs us ws Q I r rz hh
  obtain ⟨rfl, x, a, Z, B, ρ, h, Wx, rfl, ok, ra, q⟩ := hh
  unfold gSortK at q
  split at q
  · rename_i wl e1
    split at q
    · rename_i es e2
      split at q
      · rename_i kz e3
        obtain ⟨p, vs, rfl, hp, rl⟩ := lstOf_ra ok ra e1
        cases allD_of e2
        rw [Vals.ref1 r, Vals.ref1 rz]
        have rp : RpL X.K B vs es := ral_rpl rl
        obtain ⟨ml, mg⟩ := mapMn_get e3
        have hvl : vs.length = es.length := by rw [rl.length, List.length_map]
        let J : Addr → Nat → Hp → List V → Prop := fun kS i H1 ks => ∃ Hg B1, Ok X.K Z B1 ρ Hg h ∧ Gr Z B ρ B1 ρ ∧ Hg kS = none ∧ H1 = upd Hg kS (.lst ks) ∧ RpL X.K B1 ks ((kz.take i).map dI)
        have none_of : ∀ {Hg B1 : Hp} {c : Addr}, Ok X.K Z B1 ρ Hg h → Hg c = none → B1 c = none ∧ Z c = none ∧ ∀ k, ρ k ≠ some c := fun {Hg B1 c} og e => by
          refine ⟨?_, ?_, fun k z => og.al k c z e⟩
          · cases z : B1 c with
            | none => rfl
            | some u => rw [og.ex c u z] at e; cases e
          · cases z : Z c with
            | none => rfl
            | some u => rw [og.zz c u z] at e; cases e
        have grow : ∀ {Hg B1 : Hp} {c : Addr} {ob : HO}, Ok X.K Z B1 ρ Hg h → Hg c = none → Ok X.K Z B1 ρ (upd Hg c ob) h := fun {Hg B1 c ob} og e => og.grow fun b u eb => by
          rw [upd_ne fun z => by rw [z, e] at eb; cases eb]
          exact eb
        refine sk_sorted (xs := vs) (kz := kz.map encI) J I (SqL.of hp) (by rw [List.length_map, ← ml]; exact hvl.symm) (PySem.W.AllAlike.of enc_alike) (PySem.W.Sortable.tuples fun b => ⟨_, _, rfl⟩) (fun d hd => ?_) (fun kS nk => ⟨H, B, ok, Gr.refl, nk, rfl, .nil⟩) (fun kS i v u H1 ks s1 pins' hx rv hl hk j1 I1 => ?_) (fun kS H1 ks j1 => ?_) (fun kS D H1 ks j1 hD hk => ?_)
        · obtain ⟨b, _, rfl⟩ := List.mem_map.mp hd
          have := enc_depth b
          have := hr.un
          omega
        · obtain ⟨Hg, B1, og, g, nk, rfl, rk⟩ := j1
          obtain ⟨e, he, re⟩ := rpl_get rp hx
          obtain ⟨b, hb1, hk1⟩ := mg i e he
          obtain ⟨nB, nZ, nR⟩ := none_of og nk
          have okh : Ok X.K Z B1 ρ (upd Hg kS (.lst ks)) h := grow og nk
          unfold keyOf at hk1
          split at hk1
          · rename_i w h' es1
            split at hk1
            · rename_i kk es2
              refine wpAny_mono (run_in2 (Q := fun y H2 => ∃ B2, Ok X.K Z B2 ρ H2 h ∧ Gr Z B1 ρ B2 ρ ∧ Rp X.K B2 y kk ∧ B2 kS = none ∧ H2 kS = some (.lst ks)) F hr hb I1 (.cons rv .nil) ⟨rfl, _, B1, fun _ => none, [], [.d e], okh.void, .cons (.d (re.mono g.bb)) .nil, ?_⟩) (fun r s2 hq => ?_) fun _ _ z => z
              · rw [es1]
                intro B' ρ' H' ok' g' y ry
                obtain ⟨B2, o2, g2, see, b3⟩ := okh.backP2 ok' g'
                exact ⟨B2, o2, g2, see y w kk ry es2, (b3 kS (by rw [upd_same]; simp)).trans nB, ok'.zz _ _ (upd_same ..)⟩
              · obtain ⟨y, H2, I2, ry, B2, o2, g2, rk2, nB2, hk2⟩ := hq
                refine ⟨y, H2, I2, ry, hk2, fun a => if a = kS then none else H2 a, B2, o2.less hk2 nB2 nZ nR, g.trans g2, if_pos rfl, ?_, ?_⟩
                · funext c
                  by_cases z : c = kS
                  · rw [z, upd_same, upd_same]
                  · rw [upd_ne z, upd_ne z, if_neg z]
                · have et : (kz.take (i + 1)).map dI = (kz.take i).map dI ++ [dI b] := by
                    rw [List.take_add_one, hb1, List.map_append]
                    rfl
                  rw [et]
                  refine rpl_snoc ?_ (rpl_mono g2.bb rk)
                  rw [keyI_of hk1] at rk2
                  exact rk2
            · cases hk1
          · cases hk1
        · obtain ⟨Hg, B1, og, g, nk, rfl, rk⟩ := j1
          rw [List.take_of_length_le (by omega)] at rk
          exact each_keys (grow og nk).ex rk
        · obtain ⟨Hg, B1, og, g, nk, rfl, rk⟩ := j1
          have eu : upd (upd Hg kS (.lst ks)) kS (.lst []) = upd Hg kS (.lst []) := by
            funext c
            by_cases z : c = kS
            · rw [z, upd_same, upd_same]
            · rw [upd_ne z, upd_ne z, upd_ne z]
          have nd : D ≠ kS := fun z => by rw [z, upd_same] at hD; cases hD
          rw [eu]
          exact mkL_ok (grow og nk) (ral_byKey (rl.mono g)) (q.from g) (by rw [upd_ne nd]; rw [upd_ne nd] at hD; exact hD)
      · exact q.elim
    · exact q.elim
  · exact q.elim
theorem rx_sortK {X : Cx} {W : WX} {a : Expr} {ma : E A} {j k : Nat} {x pn : Str} {sem : Sem1} {p0 px kp pos : Pos} (o : Bool) (Df : Def X.prog X.w X.K X.mg X.base j x [pn] sem) (hr : Room k X.A) (hj : j + 2 ≤ k) (ha : RX X W a ma) (hm : X.mg "sorted" = none)
    (hgs : Gl X "sorted" := by rfl) (hg : Gl X x := by rfl) (hdb : (x == ("__debug__" : Str)) = false := by decide)
    (he1 : starEach [a] X.env = (false, eval a X.env) :: starEach [] X.env := by rfl) (he : backTo pos (starEach [a] X.env) = (false, eval a X.env) :: backTo pos (starEach [] X.env) := by rfl) (hpl : (backTo pos (starEach [a] X.env)).any (·.1) = false := by rfl)
    (hall : (backToKw pos (keywordEach [⟨some "key", .Name x px, kp⟩] X.env)).all (·.1.isSome) = true := by rfl) (hnone : (backToKw pos (keywordEach [⟨some "key", .Name x px, kp⟩] X.env)).any (·.1.isNone) = false := by rfl) (hks : (backToKw pos (keywordEach [⟨some "key", .Name x px, kp⟩] X.env)).filterMap (·.1) = [Str.ofString "key"] := by rfl) :
    RX X W (.Call (.Name "sorted" p0) [a] [⟨some "key", .Name x px, kp⟩] pos) (mUn (gSortK o sem) ma) := by
  obtain ⟨fa, fd, F, h1, h2, h3⟩ := Df.ex
  refine ⟨pe_imp (pe_callBK (cr_sortK (o := o) F (hr.mono hj) h3) hgs hm (by decide +kernel) (pa_cons ha.pe pa_nil he1) (pk_cons (pe_glob (v := .ref fa) hg h1 rfl hdb) pk_nil) (by decide) (by decide) he hpl hall hnone hks) fun σ H Q q => ?_⟩
  obtain ⟨Z, B, ρ, τ, h, ok, sl, q⟩ := q
  exact te_bd ok sl q fun v w h1 B1 ρ1 H1 rv ok1 sl1 g1 q1 => ⟨rfl, v, w, Z, B1, ρ1, h1, _, rfl, ok1, rv, q1⟩
end Tq

set_option maxHeartbeats 1000000
/-! Tq15: sum of ints (lists, tuples); a < b < c as a test. -/
namespace L2
open PySem PySem.Spec PyProof.Rows
section
variable {prog : Program} {w : World} {A : Around} {E : Value → Shared → Prop} {s : Shared}
theorem sum_tupG {a : Addr} {xs : Array (Int × Tok)} {Q : Value → Shared → Prop} (hh : A.handled = none) (hT : s.heap.IsTuple a (intItems xs))
    (h : ∀ h' tk t', (∀ b o, s.heap.get? b = some o → h'.get? b = some o) → Q (.int (preSum (numAt xs) xs.size) t') { s with heap := h', toks := tk }) :
    wpAny (model prog w) A (call (.builtin "sum") [.ref a]) Q E s := by
  have ha : a < s.heap.objs.size := by
    obtain ⟨o, e, _⟩ := hT
    exact Heap.lt_size e
  refine call_sum_walkG (wpAny_pyIter_tuple hT ?_)
  refine ⟨_, [_, a], [_], _, _, _, numAt xs, rfl, Walks.tuple (A := A.in1) hh _ a (Nat.ne_of_lt ha) (intItems xs), ⟨⟨_, Heap.get?_push_size _ rfl, rfl, rfl⟩, hT.push _⟩, fun c hc => ?_, (fun _ _ => intItems_at), fun h' tk t' hk => ?_⟩
  · show c < (s.heap.push _).objs.size
    rw [Heap.size_push]
    rcases List.mem_cons.mp hc with rfl | hc
    · exact Nat.lt_succ_self _
    · rcases List.mem_cons.mp hc with rfl | hc
      · exact Nat.lt_succ_of_lt ha
      · cases hc
  · have hold : ∀ c o, s.heap.get? c = some o → h'.get? c = some o := fun c o e => by
      refine hk c o (fun hm => ?_) (Heap.get?_push_of_some _ e)
      rcases List.mem_cons.mp hm with e1 | hm
      · have := Heap.lt_size e; rw [e1] at this; exact Nat.lt_irrefl _ this
      · cases hm
    have := h h' tk t' hold
    simpa [intItems] using this
theorem sum_tup_raw {a : Addr} {its : List Value} {ns : List Int} {Q : Value → Shared → Prop} (hh : A.handled = none) (hl : s.heap.IsTuple a its.toArray) (hi : IntsAre its ns)
    (h : ∀ h' tk t', (∀ b o, s.heap.get? b = some o → h'.get? b = some o) → Q (.int ns.sum t') { s with heap := h', toks := tk }) : wpAny (model prog w) A (call (.builtin "sum") [.ref a]) Q E s := by
  obtain ⟨xs, e⟩ := hi.allInts.items
  have hn : numsOf (intItems xs).toList = ns := by rw [← e]; exact hi.numsOf
  rw [nums_intItems] at hn
  rw [e] at hl
  refine sum_tupG hh hl fun h' tk t' hk => ?_
  have := h h' tk t' hk
  rw [preSum_eq, List.take_of_length_le (by simp), hn]; exact this
end
def rSumT (K : PySem.W.Frag) : List V → Hp → VK → Prop := fun vs H Q => ∃ (a : Addr) (ns : List Int), vs = [V.ref a] ∧ SqT K H a (ns.map V.int) ∧ Q (.int ns.sum) H
theorem cr_sumT {X : Cx} (hc : X.calm = true) : CallR X (.builtin "sum") (rSumT X.K) := by
  intro pins s σ H vs us Q I r h
  obtain ⟨a, ns, rfl, hs, q⟩ := h
  obtain ⟨its, rv, hl, _⟩ := I.tuple hs
  rw [Vals.ref1 r]
  exact sum_tup_raw (I.ok.hd hc) hl rv.ints fun h' tk t' hk => ⟨.int _, H, I.kept hk, ⟨_, rfl⟩, q⟩
end L2
theorem L2.cr_sumLT {X : L2.Cx} (hc : X.calm = true) : L2.CallR X (.builtin "sum") (fun vs H Q => L2.rSum X.K vs H Q ∨ L2.rSumT X.K vs H Q) := by
  intro pins s σ H vs us Q I r h
  rcases h with h | h
  · exact L2.cr_sum hc pins s σ H vs us Q I r h
  · exact L2.cr_sumT hc pins s σ H vs us Q I r h
namespace Tq
open PySem PySem.Spec PyProof.Rows L2
def intA : A → Option Int
  | .d (.int i) => some i
  | _ => none
def gSum : G1 := fun a h => match tupOf a with
  | some ws => (match mapMn intA ws with | some ns => some (.ok (.d (.int ns.sum)) h) | none => none)
  | none => (match lstOf h a with
    | some ws => (match mapMn intA ws with | some ns => some (.ok (.d (.int ns.sum)) h) | none => none)
    | none => none)
theorem intsA_of {K : PySem.W.Frag} {B : Hp} {ρ : Nat → Option Addr} : ∀ {vs : List V} {ws : List A} {ns : List Int}, RAL K B ρ vs ws → mapMn intA ws = some ns → vs = ns.map V.int
  | _, _, ns, .nil, e => by cases e; rfl
  | _, _, ns, .cons (w := w) r t, e => by
    unfold mapMn at e
    cases w with
    | d x =>
      cases x with
      | int i =>
        dsimp only [intA] at e
        split at e
        · rename_i bs e2
          cases e
          rw [rp_int (ra_d r), intsA_of t e2]
          rfl
        · cases e
      | _ => cases e
    | _ => cases e
theorem og_sum {K : PySem.W.Frag} : Op1 K (fun x H Q => rSum K [x] H Q ∨ rSumT K [x] H Q) gSum := by
  intro Z B ρ H h x a W Q ok rx q
  unfold gSum at q
  split at q
  · rename_i ws e1
    split at q
    · rename_i ns e2
      obtain ⟨p, vs, rfl, h1, r1⟩ := tupOf_ra rx e1
      have := intsA_of r1 e2
      subst this
      exact .inr ⟨p, ns, rfl, sqt_of (ok.ex _ _ h1), q.now ok _ (.d (.int _))⟩
    · exact q.elim
  · split at q
    · rename_i ws e1
      split at q
      · rename_i ns e2
        obtain ⟨p, vs, rfl, h1, r1⟩ := lstOf_ra ok rx e1
        have := intsA_of r1 e2
        subst this
        exact .inl ⟨p, ns, rfl, SqL.of h1, q.now ok _ (.d (.int _))⟩
      · exact q.elim
    · exact q.elim
theorem rx_sum {X : Cx} {W : WX} {a : Expr} {ma : E A} {px pos : Pos} (hc : X.calm = true) (ha : RX X W a ma) (hm : X.mg "sum" = none) (hg : Gl X "sum" := by rfl) (he : starEach [a] X.env = (false, eval a X.env) :: starEach [] X.env := by rfl) :
    RX X W (.Call (.Name "sum" px) [a] [] pos) (mUn gSum ma) := rx_b1 (cr_sumLT hc) og_sum ha hm (by decide +kernel) hg (by decide) (by decide) he
theorem tb_imp {K : PySem.W.Frag} {W : WX} {m : E A} {σ : L2.St} {H : Hp} {Q : Bool → Hp → Prop} (q : tT K W (mTB m) σ H Q) : tE K W m σ H (fun x H' => ∃ k, x = .bl k ∧ Q k H') := by
  obtain ⟨Z, B, ρ, τ, h, ok, sl, q⟩ := q
  refine ⟨Z, B, ρ, τ, h, ok, sl, q.bd.imp fun w h1 B1 ρ1 H1 ok1 g1 q1 v rv => ?_⟩
  split at q1
  · exact ⟨_, rp_bl (ra_d rv), q1.now ok1⟩
  · exact q1.elim
theorem chain_imp {K : PySem.W.Frag} {W : WX} {σ : L2.St} {H : Hp} {Q : VK} {r r' : R2} {g g' : G2} {ma mb mc : E A} (og : Op2 K r g) (og' : Op2 K r' g') (q : tE K W (mChain g g' ma mb mc) σ H Q) : tChain r r' (tE K W ma) (tE K W mb) (tE K W mc) σ H Q := by
  obtain ⟨Z, B, ρ, τ, h, ok, sl, q⟩ := q
  refine te_bd ok sl q fun x a h1 B1 ρ1 H1 rx ok1 sl1 g1 q1 => te_bd ok1 sl1 q1 fun y b h2 B2 ρ2 H2 ry ok2 sl2 g2 q2 => ?_
  refine og Z B2 ρ2 H2 h2 x y a b _ _ ok2 (rx.mono g2) ry (q2.bd.imp fun k h3 B3 ρ3 H3 ok3 g3 q3 z rz => ?_)
  split at q3
  · refine ⟨true, rp_bl (ra_d rz), iteT (te_bd ok3 (sl2.mono g3) q3 fun u c h4 B4 ρ4 H4 ru ok4 sl4 g4 q4 => ?_)⟩
    exact og' Z B4 ρ4 H4 h4 y u b c _ Q ok4 (ry.mono (g3.trans g4)) ru q4
  · exact ⟨false, rp_bl (ra_d rz), iteF (q3.now ok3 _ (.d (.bl false)))⟩
  · exact q3.elim
/-- a < b < c as a test -/
theorem rt_chain {X : Cx} {W : WX} {a b c : Expr} {ma mb mc : E A} {pos : Pos} {op op' : CmpOp} {r r' : R2} {g g' : G2} (ho : OpR X (compareOp op) r) (og : Op2 X.K r g) (ho' : OpR X (compareOp op') r') (og' : Op2 X.K r' g') (ha : RX X W a ma) (hb : RX X W b mb) (hc : RX X W c mc) (hm : lastMarks [op, op'] [b, c] = false := by with_unfolding_all rfl) :
    RT X W (.Compare a [op, op'] [b, c] pos) (mTB (mChain g g' ma mb mc)) := ⟨pt_imp (pt_chain ho ho' ha.pe hb.pe hc.pe hm) fun σ H Q q => chain_imp og og' (tb_imp q)⟩
end Tq

set_option maxHeartbeats 1000000
/-! Tq16: a cell of data is frozen: the slot holds the data from here on, the cell is dead. -/
namespace Tq
open PySem PySem.Spec PyProof.Rows L2
section
variable {K : PySem.W.Frag} {Z B H : Hp} {ρ : Nat → Option Addr} {h : Hq}
/-- the objects of a cell are handed to B -/
theorem Ok.fz {k : Nat} {a : Addr} {own : List Addr} (ok : Ok K Z B ρ H h) (hk : k < h.length) (ea : ρ k = some a) (h0 : ∀ b ∈ own, B b = none ∧ Z b = none) (h1 : a ∈ own) (h2 : ∀ b ∈ own, b = a ∨ H b = some (.own a)) (h3 : ∀ b ∈ own, H b ≠ none) (h4 : ∀ z, H a ≠ some (.own z)) :
    Ok K Z (fun b => if b ∈ own then H b else B b) ρ H (h.set k .dead) ∧ Gr Z B ρ (fun b => if b ∈ own then H b else B b) ρ := by
  have gg : Gr Z B ρ (fun b => if b ∈ own then H b else B b) ρ := ⟨fun b u e => by
    show (if b ∈ own then H b else B b) = some u
    split
    · rename_i hb
      rw [(h0 b hb).1] at e
      cases e
    · exact e, fun _ _ e => e, fun b e e' => by
    have e' : (if b ∈ own then H b else B b) ≠ none := e'
    split at e'
    · rename_i hb
      exact (h0 b hb).2
    · exact absurd e e'⟩
  refine ⟨⟨fun b u e => ?_, ok.zz, fun j c e => ?_, ok.nj, ok.al, fun j e => ok.up j (by rw [List.length_set] at e; exact e)⟩, gg⟩
  · have e : (if b ∈ own then H b else B b) = some u := e
    split at e
    · exact e
    · exact ok.ex b u e
  · by_cases hj : j = k
    · subst hj
      rw [List.getElem?_set_self hk] at e
      cases e
      exact ⟨a, ea, .dead (h0 a h1).2⟩
    · rw [List.getElem?_set_ne (Ne.symm hj)] at e
      obtain ⟨b, e1, e2⟩ := ok.ce j c e
      have nab : b ≠ a := fun z => hj (ok.nj j k a (by rw [e1, z]) ea)
      refine ⟨b, e1, ?_⟩
      cases e2 with
      | lst x1 x2 x3 x4 =>
        refine .lst x1 (x2.mono gg) ?_ x4
        show (if b ∈ own then H b else B b) = none
        rw [if_neg fun hb => by
          rcases h2 b hb with y | y
          · exact nab y
          · rw [x1] at y; cases y]
        exact x3
      | nd x1 x2 x3 =>
        refine .nd x1 (x2.mono gg) fun c hc => ⟨?_, (x3 c hc).2⟩
        show (if c ∈ own then H c else B c) = none
        rw [if_neg fun hb => by
          rcases h2 c hb with y | y
          · rcases x1.own_or.2.1 c hc with w | w
            · exact nab (w.symm.trans y)
            · rw [y] at w; exact h4 _ w
          · rcases x1.own_or.2.1 c hc with w | w
            · rw [w] at y; exact x1.own_or.2.2.2.2 _ y
            · rw [w] at y
              cases y
              exact nab rfl]
        exact (x3 c hc).1
      | dead x1 => exact .dead x1
end
/-- the data of a cell, one deep -/
def fzO : O → Option D
  | .lst ws => (allD ws).map .lst
  | .nd hd ws => (allD ws).map (.nd hd)
  | .dead => none
def mFz (i : Nat) : MS := fun τ h => match τ[i]? with
  | some (some (.r k)) => (match h[k]? with
    | some c => (match fzO c with
      | some d => some (.nx (τ.set i (some (.d d))) (h.set k .dead))
      | none => none)
    | none => none)
  | _ => some (.nx τ h)
theorem SlOk.ghost {K : PySem.W.Frag} {B : Hp} {ρ : Nat → Option Addr} {σ : L2.St} {τ : Sl} {i : Nat} {v : V} {w : A} (s : SlOk K B ρ σ τ) (e : σ[i]? = some (some v)) (r : RA K B ρ v w) : SlOk K B ρ σ (τ.set i (some w)) := by
  refine ⟨by rw [List.length_set]; exact s.ln, fun j u h => ?_⟩
  by_cases z : j = i
  · subst z
    rw [List.getElem?_set_self (by rw [← s.ln]; exact (List.getElem?_eq_some_iff.mp e).1)] at h
    cases h
    exact ⟨v, e, r⟩
  · rw [List.getElem?_set_ne (Ne.symm z)] at h
    exact s.at_ j u h
theorem rss_fz {X : Cx} {W : WX} {st : List Stmt} {m : MS} (i : Nat) (hm : RSs X W st m) : RSs X W st (mSeq (mFz i) m) := ⟨pss_imp hm.ps fun De σ H q => by
  obtain ⟨Z, B, ρ, τ, h, ok, sl, q⟩ := q
  unfold mSeq mFz at q
  cases ei : τ[i]? with
  | none =>
    rw [ei] at q
    exact ⟨Z, B, ρ, _, _, ok, sl, q⟩
  | some y =>
    rw [ei] at q
    cases y with
    | none => exact ⟨Z, B, ρ, _, _, ok, sl, q⟩
    | some w =>
      cases w with
      | d _ => exact ⟨Z, B, ρ, _, _, ok, sl, q⟩
      | tup _ => exact ⟨Z, B, ρ, _, _, ok, sl, q⟩
      | r k =>
        dsimp only at q
        cases ec : h[k]? with
        | none => rw [ec] at q; exact q.elim
        | some c =>
          rw [ec] at q
          dsimp only at q
          cases ed : fzO c with
          | none => rw [ed] at q; exact q.elim
          | some d =>
            rw [ed] at q
            dsimp only at q
            obtain ⟨a, ea, x⟩ := ok.ce k c ec
            have hk := (List.getElem?_eq_some_iff.mp ec).1
            obtain ⟨v, ev, rv⟩ := sl.at_ i _ ei
            cases rv with
            | r er =>
              rw [ea] at er
              cases er
              cases x with
              | lst x1 x2 x3 x4 =>
                obtain ⟨ds, e2, rfl⟩ := Option.map_eq_some_iff.mp (show (allD _).map Tq.D.lst = some d from ed)
                cases allD_of e2
                obtain ⟨ok2, gg⟩ := ok.fz (own := [a]) hk ea (fun b hb => by rw [List.mem_singleton.mp hb]; exact ⟨x3, x4⟩) (List.mem_singleton.mpr rfl) (fun b hb => .inl (List.mem_singleton.mp hb)) (fun b hb => by rw [List.mem_singleton.mp hb, x1]; simp) (fun z => by rw [x1]; simp)
                refine ⟨Z, _, ρ, _, _, ok2, (sl.mono gg).ghost ev (.d (.lst (vs := _) ?_ ((ral_rpl x2).mono gg.bb))), q.from gg⟩
                show (if a ∈ [a] then H a else B a) = _
                rw [if_pos (List.mem_singleton.mpr rfl)]
                exact x1
              | nd x1 x2 x3 =>
                obtain ⟨ds, e2, rfl⟩ := Option.map_eq_some_iff.mp (show (allD _).map (Tq.D.nd _) = some d from ed)
                cases allD_of e2
                obtain ⟨ok2, gg⟩ := ok.fz hk ea x3 x1.own_or.1 x1.own_or.2.1 x1.own_or.2.2.1 x1.own_or.2.2.2.2
                refine ⟨Z, _, ρ, _, _, ok2, (sl.mono gg).ghost ev (.d (.nd (x1.to fun b hb u e => ?_) ((ral_rpl x2).mono gg.bb))), q.from gg⟩
                show (if b ∈ _ then H b else B b) = _
                rw [if_pos hb]
                exact e
              | dead _ => cases ed⟩
end Tq

/-! Tq17: m's, evaluated step by step (the words x_, g_, s_ of the local rules). -/
namespace Tq
open PySem PySem.Spec PyProof.Rows L2
/-! ### lists that are written out -/
theorem set_z {α : Type} {x w : α} {r : List α} : (x :: r).set 0 w = w :: r := rfl
theorem set_s {α : Type} {x w : α} {r r' : List α} {n : Nat} (e : r.set n w = r') : (x :: r).set (n + 1) w = x :: r' := by rw [List.set_cons_succ, e]
theorem get_z {α : Type} {x : α} {r : List α} : (x :: r)[0]? = some x := rfl
theorem get_s {α : Type} {x y : α} {r : List α} {n : Nat} (e : r[n]? = some y) : (x :: r)[n + 1]? = some y := by rw [List.getElem?_cons_succ, e]
theorem app_z {α : Type} {w : α} : ([] : List α) ++ [w] = [w] := rfl
theorem app_s {α : Type} {x w : α} {r r' : List α} (e : r ++ [w] = r') : (x :: r) ++ [w] = x :: r' := by rw [List.cons_append, e]
theorem fput_nil {f : Str} {w : A} : fPut f w [] [] = ([f], [w]) := rfl
theorem fput_hit {f : Str} {w u : A} {fs : List Str} {ws : List A} : fPut f w (f :: fs) (u :: ws) = (f :: fs, w :: ws) := by
  unfold fPut
  rw [if_pos rfl]
theorem fput_miss {f g : Str} {w u : A} {fs fs' : List Str} {ws ws' : List A} (n : decide (g = f) = false) (e : fPut f w fs ws = (fs', ws')) : fPut f w (g :: fs) (u :: ws) = (g :: fs', u :: ws') := by
  unfold fPut
  rw [if_neg (of_decide_eq_false n), e]
theorem fget_hit {f : Str} {u : A} {fs : List Str} {ws : List A} : fGet f (f :: fs) (u :: ws) = some u := by
  unfold fGet
  rw [if_pos rfl]
theorem fget_miss {f g : Str} {w u : A} {fs : List Str} {ws : List A} (n : decide (g = f) = false) (e : fGet f fs ws = some w) : fGet f (g :: fs) (u :: ws) = some w := by
  unfold fGet
  rw [if_neg (of_decide_eq_false n), e]
def fGetD (f : Str) : List Str → List D → Option D
  | g :: fs, w :: ws => if g = f then some w else fGetD f fs ws
  | _, _ => none
theorem fGetD_ok {f : Str} : ∀ {fs : List Str} {xs : List D} {d : D}, fGetD f fs xs = some d → fGet f fs (xs.map A.d) = some (.d d)
  | [], _, _, e => by cases e
  | _ :: _, [], _, e => by cases e
  | g :: fs, x :: xs, d, e => by
    unfold fGetD at e
    rw [List.map_cons]
    unfold fGet
    split at e
    · rename_i z
      rw [if_pos z]
      cases e
      rfl
    · rename_i z
      rw [if_neg z]
      exact fGetD_ok e
theorem fgetd_hit {f : Str} {u : D} {fs : List Str} {ws : List D} : fGetD f (f :: fs) (u :: ws) = some u := by
  unfold fGetD
  rw [if_pos rfl]
theorem fgetd_miss {f g : Str} {w u : D} {fs : List Str} {ws : List D} (n : decide (g = f) = false) (e : fGetD f fs ws = some w) : fGetD f (g :: fs) (u :: ws) = some w := by
  unfold fGetD
  rw [if_neg (of_decide_eq_false n), e]
inductive StartL : Nat → List A → Sl → Prop
  | z : StartL 0 [] []
  | n {n : Nat} {τ : Sl} : StartL n [] τ → StartL (n + 1) [] (none :: τ)
  | s {n : Nat} {w : A} {ws : List A} {τ : Sl} : StartL n ws τ → StartL (n + 1) (w :: ws) (some w :: τ)
theorem StartL.eq {n : Nat} {ws : List A} {τ : Sl} (h : StartL n ws τ) : startT n ws = τ := by
  induction h with
  | z => rfl
  | n _ ih =>
    unfold startT at ih ⊢
    rw [List.map_nil, List.nil_append, List.length_nil, Nat.sub_zero] at ih ⊢
    rw [List.replicate_succ, ih]
  | s _ ih =>
    unfold startT at ih ⊢
    rw [List.map_cons, List.cons_append, List.length_cons, Nat.add_sub_add_right, ih]
theorem x_run {np n : Nat} {m : MS} {ws : List A} {τ : Sl} {w : A} {h h1 : Hq} (hl : ws.length = np) (s : StartL n ws τ) (e : m τ h = some (.rt w h1)) : runB np n m ws h = some (.ok w h1) := runB_rt hl (by rw [s.eq]; exact e)
theorem x_runN {np n : Nat} {m : MS} {ws : List A} {τ τ1 : Sl} {h h1 : Hq} (hl : ws.length = np) (s : StartL n ws τ) (e : m τ h = some (.nx τ1 h1)) : runB np n m ws h = some (.ok (.d .non) h1) := runB_nx hl (by rw [s.eq]; exact e)
theorem x_runNe {np n : Nat} {m : MS} {ws : List A} {τ : Sl} {h h1 : Hq} (hl : ws.length = np) (s : StartL n ws τ) (e : ∃ τ1, m τ h = some (.nx τ1 h1)) : runB np n m ws h = some (.ok (.d .non) h1) := by
  obtain ⟨τ1, e⟩ := e
  exact x_runN hl s e
theorem x_runX {np n : Nat} {m : MS} {ws : List A} {x : Xc} {τ τ1 : Sl} {h h1 : Hq} (hl : ws.length = np) (s : StartL n ws τ) (e : m τ h = some (.ex x τ1 h1)) : runB np n m ws h = some (.ex x h1) := runB_ex hl (by rw [s.eq]; exact e)
section
variable {τ τ1 : Sl} {h h1 h2 h3 h4 : Hq} {a b c w : A} {ws ws' us : List A} {ds : List D} {d : D} {m ma mb mc mo mi mv : E A} {mr : E (List A)} {t ta tb : E Bool} {i n k np : Nat} {r : Option (Rs A)} {g g1 g2 : G2} {j l : Bool}
/-! ### expressions -/
theorem x_C : mC d τ h = some (.ok (.d d) h) := rfl
theorem x_Var (e : τ[i]? = some (some w)) : mVar i τ h = some (.ok w h) := var_of e
theorem x_Bin (e1 : ma τ h = some (.ok a h1)) (e2 : mb τ h1 = some (.ok b h2)) (e3 : g a b h2 = r) : mBin g ma mb τ h = r := by rw [bin_of e1 e2, e3]
theorem x_Un {g : G1} (e1 : ma τ h = some (.ok a h1)) (e3 : g a h1 = r) : mUn g ma τ h = r := by rw [un_of e1, e3]
theorem x_nil : maNil τ h = some (.ok [] h) := rfl
theorem x_cons (e1 : ma τ h = some (.ok a h1)) (e2 : mr τ h1 = some (.ok ws h2)) : maCons ma mr τ h = some (.ok (a :: ws) h2) := cons_of e1 e2
theorem x_len (e : mr τ h = some (.ok ws h1)) (hl : ws.length = n) : lenIs n mr τ h = some (.ok ws h1) := len_of e hl
theorem x_Tup (e : mr τ h = some (.ok ws h1)) (e2 : mkT ws h1 = r) : mTup mr τ h = r := by unfold mTup; rw [e, bd_ok, e2]
theorem x_Lst {o : Bool} (e : mr τ h = some (.ok ws h1)) (e2 : mkL o ws h1 = r) : mLst o mr τ h = r := by unfold mLst; rw [e, bd_ok, e2]
theorem all_nil : allD [] = some [] := rfl
theorem all_cons (e : allD ws = some ds) : allD (.d d :: ws) = some (d :: ds) := by
  unfold allD at e ⊢
  unfold mapMn
  rw [e]
  rfl
theorem allD_mapf {α : Type} (f : α → D) (xs : List α) : allD (xs.map fun x => A.d (f x)) = some (xs.map f) := by
  have := allD_map (xs.map f)
  rwa [List.map_map] at this
theorem x_mkT (e : allD ws = some ds) (hl : ds.length ≤ LIM) : mkT ws h = some (.ok (.d (.tup ds)) h) := by
  cases allD_of e
  unfold mkT
  rw [if_pos (by rw [List.length_map]; exact hl), allD_map]
theorem x_mkL (e : allD ws = some ds) (hl : ds.length ≤ LIM) : mkL false ws h = some (.ok (.d (.lst ds)) h) := by
  cases allD_of e
  exact mkL_d hl
theorem x_mkTc (e : allD ws = none) (hl : ws.length ≤ LIM) : mkT ws h = some (.ok (.tup ws) h) := by
  unfold mkT
  rw [if_pos hl, e]
theorem x_mkC (hl : ws.length ≤ LIM) : mkL true ws h = some (.ok (.r h.length) (h ++ [.lst ws])) := mkL_c hl
theorem x_mkC0 (hl : ws.length ≤ LIM) : mkL true ws [] = some (.ok (.r 0) [.lst ws]) := mkL_c hl
theorem x_mkC1 {o0 : O} (hl : ws.length ≤ LIM) : mkL true ws [o0] = some (.ok (.r 1) [o0, .lst ws]) := mkL_c hl
theorem x_mkC2 {o0 o1 : O} (hl : ws.length ≤ LIM) : mkL true ws [o0, o1] = some (.ok (.r 2) [o0, o1, .lst ws]) := mkL_c hl
theorem x_mkC3 {o0 o1 o2 : O} (hl : ws.length ≤ LIM) : mkL true ws [o0, o1, o2] = some (.ok (.r 3) [o0, o1, o2, .lst ws]) := mkL_c hl
theorem x_mkC4 {o0 o1 o2 o3 : O} (hl : ws.length ≤ LIM) : mkL true ws [o0, o1, o2, o3] = some (.ok (.r 4) [o0, o1, o2, o3, .lst ws]) := mkL_c hl
theorem x_mkC5 {o0 o1 o2 o3 o4 : O} (hl : ws.length ≤ LIM) : mkL true ws [o0, o1, o2, o3, o4] = some (.ok (.r 5) [o0, o1, o2, o3, o4, .lst ws]) := mkL_c hl
theorem x_mkC6 {o0 o1 o2 o3 o4 o5 : O} (hl : ws.length ≤ LIM) : mkL true ws [o0, o1, o2, o3, o4, o5] = some (.ok (.r 6) [o0, o1, o2, o3, o4, o5, .lst ws]) := mkL_c hl
theorem x_TB (e : m τ h = some (.ok (.d (.bl j)) h1)) : mTB m τ h = some (.ok j h1) := tb_of e
theorem x_Tru (e : m τ h = some (.ok a h1)) (q : truA h1 a = some j) : mTru m τ h = some (.ok j h1) := by unfold mTru; rw [e, bd_ok, q]
theorem x_NotT (e : t τ h = some (.ok j h1)) : mNotT t τ h = some (.ok (!j) h1) := by unfold mNotT; rw [e, bd_ok]
theorem x_AndT (e1 : ta τ h = some (.ok j h)) (e2 : j = true → tb τ h = some (.ok l h)) : mAndT ta tb τ h = some (.ok (j && l) h) := by
  unfold mAndT
  rw [e1, bd_ok]
  cases j with
  | true => exact e2 rfl
  | false => rfl
theorem x_OrT (e1 : ta τ h = some (.ok j h)) (e2 : j = false → tb τ h = some (.ok l h)) : mOrT ta tb τ h = some (.ok (j || l) h) := by
  unfold mOrT
  rw [e1, bd_ok]
  cases j with
  | false => exact e2 rfl
  | true => rfl
theorem x_AndT1 (e1 : ta τ h = some (.ok true h1)) (e2 : tb τ h1 = some (.ok l h2)) : mAndT ta tb τ h = some (.ok l h2) := by unfold mAndT; rw [e1, bd_ok]; exact e2
theorem x_AndT0 (e1 : ta τ h = some (.ok false h1)) : mAndT ta tb τ h = some (.ok false h1) := by unfold mAndT; rw [e1, bd_ok]
theorem x_OrT0 (e1 : ta τ h = some (.ok false h1)) (e2 : tb τ h1 = some (.ok l h2)) : mOrT ta tb τ h = some (.ok l h2) := by unfold mOrT; rw [e1, bd_ok]; exact e2
theorem x_OrT1 (e1 : ta τ h = some (.ok true h1)) : mOrT ta tb τ h = some (.ok true h1) := by unfold mOrT; rw [e1, bd_ok]
theorem x_AndS {R : Option (Rs Bool)} (e1 : ta τ h = some (.ok j h1)) (q : (j = false ∧ some (.ok false h1) = R) ∨ (j = true ∧ tb τ h1 = R)) : mAndT ta tb τ h = R := by
  unfold mAndT
  rw [e1, bd_ok]
  rcases q with ⟨rfl, q⟩ | ⟨rfl, q⟩
  · exact q
  · exact q
theorem x_OrS {R : Option (Rs Bool)} (e1 : ta τ h = some (.ok j h1)) (q : (j = true ∧ some (.ok true h1) = R) ∨ (j = false ∧ tb τ h1 = R)) : mOrT ta tb τ h = R := by
  unfold mOrT
  rw [e1, bd_ok]
  rcases q with ⟨rfl, q⟩ | ⟨rfl, q⟩
  · exact q
  · exact q
theorem x_AndVS (e1 : ma τ h = some (.ok (.d (.bl j)) h1)) (q : (j = false ∧ some (.ok (.d (.bl false)) h1) = r) ∨ (j = true ∧ mb τ h1 = r)) : mAndV ma mb τ h = r := by
  unfold mAndV
  rw [e1, bd_ok]
  rcases q with ⟨rfl, q⟩ | ⟨rfl, q⟩
  · exact q
  · exact q
theorem x_OrVS (e1 : ma τ h = some (.ok (.d (.bl j)) h1)) (q : (j = true ∧ some (.ok (.d (.bl true)) h1) = r) ∨ (j = false ∧ mb τ h1 = r)) : mOrV ma mb τ h = r := by
  unfold mOrV
  rw [e1, bd_ok]
  rcases q with ⟨rfl, q⟩ | ⟨rfl, q⟩
  · exact q
  · exact q
theorem tru_b : truA h (.d (.bl j)) = some j := rfl
theorem tru_i {z : Int} : truA h (.d (.int z)) = some (z != 0) := rfl
theorem tru_n : truA h (.d .non) = some false := rfl
theorem tru_l {ds : List D} : truA h (.d (.lst ds)) = some (!ds.isEmpty) := rfl
theorem tru_t {ds : List D} : truA h (.d (.tup ds)) = some (!ds.isEmpty) := rfl
theorem tru_r (e : h[k]? = some (.lst ws)) : truA h (.r k) = some (!ws.isEmpty) := by unfold truA; dsimp only; rw [e]
theorem x_NotV (e : m τ h = some (.ok (.d (.bl j)) h1)) : mNotV m τ h = some (.ok (.d (.bl (!j))) h1) := by unfold mNotV; rw [e, bd_ok]
theorem x_AndV (e1 : ma τ h = some (.ok (.d (.bl j)) h)) (e2 : j = true → mb τ h = some (.ok (.d (.bl l)) h)) : mAndV ma mb τ h = some (.ok (.d (.bl (j && l))) h) := by
  unfold mAndV
  rw [e1, bd_ok]
  cases j with
  | true => exact e2 rfl
  | false => rfl
theorem x_OrV (e1 : ma τ h = some (.ok (.d (.bl j)) h)) (e2 : j = false → mb τ h = some (.ok (.d (.bl l)) h)) : mOrV ma mb τ h = some (.ok (.d (.bl (j || l))) h) := by
  unfold mOrV
  rw [e1, bd_ok]
  cases j with
  | false => exact e2 rfl
  | true => rfl
theorem x_AndV1 (e1 : ma τ h = some (.ok (.d (.bl true)) h1)) (e2 : mb τ h1 = r) : mAndV ma mb τ h = r := by unfold mAndV; rw [e1, bd_ok]; exact e2
theorem x_AndV0 (e1 : ma τ h = some (.ok (.d (.bl false)) h1)) : mAndV ma mb τ h = some (.ok (.d (.bl false)) h1) := by unfold mAndV; rw [e1, bd_ok]
theorem x_IfEt (e1 : t τ h = some (.ok j h1)) (e2 : j = true) (e3 : ma τ h1 = r) : mIfE t ma mb τ h = r := by subst e2; unfold mIfE; rw [e1, bd_ok]; exact e3
theorem x_IfEf (e1 : t τ h = some (.ok j h1)) (e2 : j = false) (e3 : mb τ h1 = r) : mIfE t ma mb τ h = r := by subst e2; unfold mIfE; rw [e1, bd_ok]; exact e3
theorem x_Chain (e1 : ma τ h = some (.ok a h)) (e2 : mb τ h = some (.ok b h)) (e3 : g1 a b h = some (.ok (.d (.bl j)) h)) (e4 : j = true → mc τ h = some (.ok c h)) (e5 : j = true → g2 b c h = some (.ok (.d (.bl l)) h)) : mChain g1 g2 ma mb mc τ h = some (.ok (.d (.bl (j && l))) h) := by
  unfold mChain
  rw [e1, bd_ok, e2, bd_ok, e3, bd_ok]
  cases j with
  | true =>
    dsimp only
    rw [e4 rfl, bd_ok]
    exact e5 rfl
  | false => rfl
theorem x_Sl {o : Bool} {ml mh : E (Option Int)} {lo hi : Option Int} (e1 : ma τ h = some (.ok a h1)) (e2 : ml τ h1 = some (.ok lo h2)) (e3 : mh τ h2 = some (.ok hi h3)) (e4 : gSl o a lo hi h3 = r) : mSl o ma ml mh τ h = r := by
  unfold mSl
  rw [e1, bd_ok, e2, bd_ok, e3, bd_ok, e4]
theorem x_moN : moN τ h = some (.ok none h) := rfl
theorem x_moS {z : Int} (e : m τ h = some (.ok (.d (.int z)) h1)) : moS m τ h = some (.ok (some z) h1) := by unfold moS; rw [e]; rfl
theorem x_M1 {tok : A → Hq → Bool} (e1 : ma τ h = some (.ok a h1)) (q : tok a h1 = true) (e2 : mb τ h1 = some (.ok b h2)) (e3 : g a b h2 = r) : mM1 tok g ma mb τ h = r := by
  unfold mM1
  rw [e1, bd_ok, if_pos q, e2, bd_ok, e3]
theorem x_M0 {tok : A → Hq → Bool} {g : G1} (e1 : ma τ h = some (.ok a h1)) (q : tok a h1 = true) (e3 : g a h1 = r) : mM0 tok g ma τ h = r := by
  unfold mM0
  rw [e1, bd_ok, if_pos q, e3]
theorem tokL_r (e : h[k]? = some (.lst ws)) : tokL (.r k) h = true := by unfold tokL lstOf; dsimp only; rw [e]; rfl
theorem tokS_s {z : Str} : tokS (.d (.str z)) h = true := rfl
/-! ### calls -/
theorem vws_all (e : allD ws = some ds) : mapMn (view h) ws = some ds := by
  cases allD_of e
  exact mapMn_d _ _ (vw_d 32 h)
theorem x_CallP {sem : Sem1} {h' : Hq} (e : mr τ h = some (.ok ws h1)) (q : allD ws = some ds) (s : sem ws [] = some (.ok w h')) (v : view h' w = some d) : mCallP sem mr τ h = some (.ok (.d d) h1) := by
  cases allD_of q
  exact callP_of e s v
/-- with cells that are seen as data -/
theorem x_CallPv {sem : Sem1} {h' : Hq} (e : mr τ h = some (.ok ws h1)) (q : mapMn (view h1) ws = some ds) (u : ds.map A.d = us) (s : sem us [] = some (.ok w h')) (v : view h' w = some d) (f : d.flat = true) : mCallP sem mr τ h = some (.ok (.d d) h1) := by
  unfold mCallP
  rw [e, bd_ok]
  unfold callP
  rw [q]
  dsimp only
  rw [u, s]
  dsimp only
  rw [v]
  dsimp only
  rw [if_pos (by rw [f, Bool.or_true])]
theorem x_CallPx {sem : Sem1} {h' : Hq} {C : Str} (e : mr τ h = some (.ok ws h1)) (q : allD ws = some ds) (s : sem ws [] = some (.ex (.own C) h')) : mCallP sem mr τ h = some (.ex (.own C) h1) := by
  cases allD_of q
  unfold mCallP
  rw [e, bd_ok]
  unfold callP
  rw [mapMn_d _ _ (vw_d 32 h1)]
  dsimp only
  rw [s]
  dsimp only
  rw [allD_map]
  rfl
theorem x_Call {sem : Sem1} (e : mr τ h = some (.ok ws h1)) (s : sem ws h1 = r) : mCall sem mr τ h = r := by rw [call_of e, s]
theorem x_MethP {C f : Str} {sem : Sem1} {o : D} {h' : Hq} (e1 : mo τ h = some (.ok (.d o) h1)) (hi : insOf C f (.d o) h1 = true) (e2 : mr τ h1 = some (.ok ws h2)) (hl : ws.length + 1 = n) (q : allD ws = some ds) (s : sem (.d o :: ws) [] = some (.ok w h')) (v : view h' w = some d) : mMethP C f n sem mo mr τ h = some (.ok (.d d) h2) := by
  unfold mMethP
  rw [e1, bd_ok, if_pos hi, e2, bd_ok, if_pos hl]
  have := callP_of (mr := fun _ _ => some (.ok (.d o :: ws) h2)) (τ := τ) (h := h) (h1 := h2) (sem := sem) (ds := o :: ds) (w := w) (d := d) (h' := h') (by rw [List.map_cons, ← allD_of q]) (by rw [List.map_cons, ← allD_of q]; exact s) v
  exact this
/-- the object a cell that is seen as data -/
theorem x_MethPv {C f : Str} {sem : Sem1} {h' : Hq} (e1 : mo τ h = some (.ok a h1)) (hi : insOf C f a h1 = true) (e2 : mr τ h1 = some (.ok ws h2)) (hl : ws.length + 1 = n) (q : mapMn (view h2) (a :: ws) = some ds) (u : ds.map A.d = us) (s : sem us [] = some (.ok w h')) (v : view h' w = some d) (fl : d.flat = true) : mMethP C f n sem mo mr τ h = some (.ok (.d d) h2) := by
  unfold mMethP
  rw [e1, bd_ok, if_pos hi, e2, bd_ok, if_pos hl]
  unfold callP
  rw [q]
  dsimp only
  rw [u, s]
  dsimp only
  rw [v]
  dsimp only
  rw [if_pos (by rw [fl, Bool.or_true])]
theorem x_Meth {C f : Str} {sem : Sem1} (e1 : mo τ h = some (.ok a h1)) (hi : insOf C f a h1 = true) (e2 : mr τ h1 = some (.ok ws h2)) (hl : ws.length + 1 = n) (s : sem (a :: ws) h2 = r) : mMeth C f n sem mo mr τ h = r := by rw [meth_of e1 hi e2 hl, s]
theorem ins_d {C f : Str} {fs : List Str} {xs : List D} (e : decide (f ∈ fs) = false) : insOf C f (.d (.nd (.ins C fs) xs)) h = true := by
  unfold insOf dicOf
  dsimp only
  rw [decide_eq_true rfl, e]
  rfl
theorem ins_r {C f : Str} {fs : List Str} (c : h[k]? = some (.nd (.ins C fs) ws)) (e : decide (f ∈ fs) = false) : insOf C f (.r k) h = true := by
  unfold insOf dicOf
  dsimp only
  rw [c]
  dsimp only
  rw [decide_eq_true rfl, e]
  rfl
theorem x_Make {C : Str} {sem : Sem1} (e : mr τ h = some (.ok ws h1)) (hl : ws.length + 1 = n) (hk : h1.length = k) (s : sem (.r k :: ws) (h1 ++ [.nd (.ins C []) []]) = some (.ok (.d .non) h2)) : mMake C n sem mr τ h = some (.ok (.r k) h2) := by
  subst hk
  unfold mMake
  rw [e, bd_ok, if_pos hl, s]
theorem x_MakeP {C : Str} {sem : Sem1} (e : mr τ h = some (.ok ws h1)) (hl : ws.length + 1 = n) (q : allD ws = some ds) (s : sem (.r 0 :: ws) [.nd (.ins C []) []] = some (.ok (.d .non) h2)) (v : view h2 (.r 0) = some d) : mMakeP C n sem mr τ h = some (.ok (.d d) h1) := by
  unfold mMakeP
  rw [e, bd_ok]
  unfold makeP
  rw [if_pos hl, q]
  dsimp only
  rw [← allD_of q, s]
  dsimp only
  rw [v]
theorem x_Get2 {kd : A} {hd : Hd} {u : A} (e1 : mo τ h = some (.ok a h1)) (q1 : isDic h1 a = true) (e2 : ma τ h1 = some (.ok kd h2)) (e3 : mb τ h2 = some (.ok b h3)) (q2 : dicOf h3 a = some (hd, ws)) (q3 : hGet hd ws kd = some (some u)) : mGet2 mo ma mb τ h = some (.ok u h3) := by
  unfold mGet2
  rw [e1, bd_ok, if_pos q1, e2, bd_ok, e3, bd_ok, q2]
  dsimp only
  rw [q3]
theorem x_Get2n {kd : A} {hd : Hd} (e1 : mo τ h = some (.ok a h1)) (q1 : isDic h1 a = true) (e2 : ma τ h1 = some (.ok kd h2)) (e3 : mb τ h2 = some (.ok b h3)) (q2 : dicOf h3 a = some (hd, ws)) (q3 : hGet hd ws kd = some none) : mGet2 mo ma mb τ h = some (.ok b h3) := by
  unfold mGet2
  rw [e1, bd_ok, if_pos q1, e2, bd_ok, e3, bd_ok, q2]
  dsimp only
  rw [q3]
/-! ### what is seen -/
theorem view_d {x : D} : view h (.d x) = some x := vw_d 32 h x
theorem view_l (e : h[k]? = some (.lst ws)) (q : allD ws = some ds) : view h (.r k) = some (.lst ds) := by
  cases allD_of q
  exact view_lst e
theorem view_n {hd : Hd} (e : h[k]? = some (.nd hd ws)) (q : allD ws = some ds) : view h (.r k) = some (.nd hd ds) := by
  cases allD_of q
  show vw 32 h (.r k) = _
  unfold vw
  rw [e]
  dsimp only
  rw [mapMn_d _ _ (vw_d 31 h)]
  rfl
theorem views_nil {f : A → Option D} : mapMn f [] = some [] := rfl
theorem views_cons {f : A → Option D} (e : f a = some d) (q : mapMn f ws = some ds) : mapMn f (a :: ws) = some (d :: ds) := by
  unfold mapMn
  rw [e, q]
/-! ### statements -/
variable {m1 m2 : MS} {R : Option So}
theorem s_Seq (e : m1 τ h = some (.nx τ1 h1)) (e2 : m2 τ1 h1 = R) : mSeq m1 m2 τ h = R := by rw [seq_nx e, e2]
def contG (r : So) (m2 : MS) : Option So := match r with | .nx τ h => m2 τ h | r => some r
theorem s_SeqG {q : So} (e : m1 τ h = some q) (e2 : contG q m2 = R) : mSeq m1 m2 τ h = R := by
  unfold mSeq
  rw [e, ← e2]
  cases q <;> rfl
theorem cont_nx (e : m2 τ h = R) : contG (.nx τ h) m2 = R := e
theorem cont_rt : contG (.rt w h) m2 = some (.rt w h) := rfl
theorem cont_bk : contG (.bk τ h) m2 = some (.bk τ h) := rfl
theorem cont_ct : contG (.ct τ h) m2 = some (.ct τ h) := rfl
theorem cont_ex {x : Xc} : contG (.ex x τ h) m2 = some (.ex x τ h) := rfl
theorem s_If (e : t τ h = some (.ok j h1)) (q : j = true ∧ m1 τ h1 = R ∨ j = false ∧ m2 τ h1 = R) : mIf t m1 m2 τ h = R := by
  rcases q with ⟨rfl, q⟩ | ⟨rfl, q⟩
  · rw [if_tt e, q]
  · rw [if_ff e, q]
theorem s_SeqR (e : m1 τ h = some (.rt w h1)) : mSeq m1 m2 τ h = some (.rt w h1) := seq_rt e
theorem s_Set (e : m τ h = some (.ok w h1)) (s : τ.set i (some w) = τ1) : mSet i m τ h = some (.nx τ1 h1) := by rw [set_of e, s]
theorem s_Drop (e : m τ h = some (.ok w h1)) : mDrop m τ h = some (.nx τ h1) := drop_of e
theorem s_Ret (e : m τ h = some (.ok w h1)) : mRet m τ h = some (.rt w h1) := ret_of e
theorem s_RetN : mRetN τ h = some (.rt (.d .non) h) := rfl
theorem s_Nx : mNx τ h = some (.nx τ h) := rfl
theorem s_Bk : mBk τ h = some (.bk τ h) := rfl
theorem s_Ct : mCt τ h = some (.ct τ h) := rfl
theorem s_IfT (e : t τ h = some (.ok j h1)) (q : j = true) (e2 : m1 τ h1 = R) : mIf t m1 m2 τ h = R := by subst q; rw [if_tt e, e2]
theorem s_IfF (e : t τ h = some (.ok j h1)) (q : j = false) (e2 : m2 τ h1 = R) : mIf t m1 m2 τ h = R := by subst q; rw [if_ff e, e2]
theorem s_Asg {gg : A → Sl → Hq → Option Sl} (e : m τ h = some (.ok w h1)) (q : gg w τ h1 = some τ1) : mAsg gg m τ h = some (.nx τ1 h1) := by unfold mAsg; rw [e, sb_ok, q]
theorem mg_Name (s : τ.set i (some w) = τ1) : mgName i w τ h = some τ1 := by rw [← s]; rfl
theorem mg_Tup {gs : List A → Sl → Hq → Option Sl} (e : tupOf w = some ws) (hl : ws.length = n) (q : gs ws τ h = some τ1) : mgTup n gs w τ h = some τ1 := by
  unfold mgTup
  rw [e]
  dsimp only
  rw [if_pos hl, q]
theorem mg_T2 {gs : List A → Sl → Hq → Option Sl} {x y : D} (q : gs [.d x, .d y] τ h = some τ1) : mgTup 2 gs (.d (.tup [x, y])) τ h = some τ1 := mg_Tup rfl rfl q
theorem mg_T3 {gs : List A → Sl → Hq → Option Sl} {x y z : D} (q : gs [.d x, .d y, .d z] τ h = some τ1) : mgTup 3 gs (.d (.tup [x, y, z])) τ h = some τ1 := mg_Tup rfl rfl q
theorem mg_T4 {gs : List A → Sl → Hq → Option Sl} {x y z u : D} (q : gs [.d x, .d y, .d z, .d u] τ h = some τ1) : mgTup 4 gs (.d (.tup [x, y, z, u])) τ h = some τ1 := mg_Tup rfl rfl q
theorem mg_T5 {gs : List A → Sl → Hq → Option Sl} {x y z u v : D} (q : gs [.d x, .d y, .d z, .d u, .d v] τ h = some τ1) : mgTup 5 gs (.d (.tup [x, y, z, u, v])) τ h = some τ1 := mg_Tup rfl rfl q
theorem mg_L2 {gs : List A → Sl → Hq → Option Sl} {x y : D} (q : gs [.d x, .d y] τ h = some τ1) : mgTup 2 gs (.d (.lst [x, y])) τ h = some τ1 := by
  unfold mgTup
  exact (if_pos rfl).trans q
theorem mg_C {gs : List A → Sl → Hq → Option Sl} (e : h[k]? = some (.lst ws)) (hl : ws.length = n) (q : gs ws τ h = some τ1) : mgTup n gs (.r k) τ h = some τ1 := by
  unfold mgTup
  simp only [tupOf, lstOf, e]
  rw [if_pos hl, q]
theorem mg_Cons {gg : A → Sl → Hq → Option Sl} {gs : List A → Sl → Hq → Option Sl} {τ2 : Sl} (e : gg w τ h = some τ1) (q : gs ws τ1 h = some τ2) : mgCons gg gs (w :: ws) τ h = some τ2 := by
  unfold mgCons
  dsimp only
  rw [e]
  exact q
theorem mg_Nil : mgNil [] τ h = some τ := rfl
theorem s_Aug (e0 : τ[i]? = some (some a)) (e : m τ h = some (.ok b h1)) (q : g a b h1 = some (.ok w h2)) (s : τ.set i (some w) = τ1) : mAug i g m τ h = some (.nx τ1 h2) := by
  unfold mAug
  rw [e0]
  dsimp only
  rw [e, sb_ok, q, sb_ok, s]
theorem s_SetI {z : Int} (e1 : mv τ h = some (.ok w h1)) (e2 : mo τ h1 = some (.ok (.r k) h2)) (e3 : mi τ h2 = some (.ok (.d (.int z)) h3)) (e : h3[k]? = some (.lst ws)) (ix : ixN ws.length z = some n) (s : h3.set k (.lst (ws.set n w)) = h4) : mSetI true mo mi mv τ h = some (.nx τ h4) := by
  unfold mSetI
  rw [e1, sb_ok, e2, sb_ok, e3, sb_ok]
  rw [if_pos (by unfold isLst; dsimp only; rw [e])]
  unfold putA
  dsimp only
  rw [e]
  dsimp only
  rw [ix]
  dsimp only
  rw [s]
theorem s_AugI {z : Int} {u w' : A} (e1 : mo τ h = some (.ok (.r k) h1)) (e2 : mi τ h1 = some (.ok (.d (.int z)) h2)) (e : h2[k]? = some (.lst ws)) (ix : ixN ws.length z = some n) (eu : ws[n]? = some u) (e3 : mv τ h2 = some (.ok w h3)) (q : g u w h3 = some (.ok w' h3)) (ek : h3[k]? = some (.lst ws)) (s : h3.set k (.lst (ws.set n w')) = h4) : mAugI true g mo mi mv τ h = some (.nx τ h4) := by
  unfold mAugI
  rw [e1, sb_ok, e2, sb_ok]
  rw [if_pos rfl, if_pos (by unfold isLst; dsimp only; rw [e])]
  have : gIx (.r k) (.d (.int z)) h2 = some (.ok u h2) := by
    unfold gIx atI
    simp only [tupOf, lstOf, e, ix, Option.bind_some, eu]
  rw [this, sb_ok, e3, sb_ok, q, sb_ok]
  rw [if_pos (by unfold isLst; dsimp only; rw [ek])]
  unfold putA
  dsimp only
  rw [ek]
  dsimp only
  rw [ix]
  dsimp only
  rw [s]
theorem s_SetF {T : FTab} {f C : Str} {fs fs' : List Str} (e1 : mv τ h = some (.ok w h1)) (e2 : mo τ h1 = some (.ok (.r k) h2)) (e : h2[k]? = some (.nd (.ins C fs) ws)) (hf : fOk T C f = true) (hl : fs.length < 1000) (p : fPut f w fs ws = (fs', ws')) (s : h2.set k (.nd (.ins C fs') ws') = h3) : mSetF T f mo mv τ h = some (.nx τ h3) := by
  unfold mSetF
  rw [e1, sb_ok, e2, sb_ok]
  dsimp only
  rw [e]
  dsimp only
  rw [if_pos ⟨hf, hl⟩, p, s]
theorem s_AugF {T : FTab} {f C : Str} {fs fs' : List Str} {u w' : A} (e1 : mo τ h = some (.ok (.r k) h1)) (e : h1[k]? = some (.nd (.ins C fs) ws)) (hf : fOk T C f = true) (q0 : fGet f fs ws = some u) (e2 : mv τ h1 = some (.ok w h2)) (q : g u w h2 = some (.ok w' h3)) (ek : h3[k]? = some (.nd (.ins C fs) ws)) (hl : fs.length < 1000) (p : fPut f w' fs ws = (fs', ws')) (s : h3.set k (.nd (.ins C fs') ws') = h4) : mAugF T f g mo mv τ h = some (.nx τ h4) := by
  unfold mAugF
  rw [e1, sb_ok]
  have : gFld T f (.r k) h1 = some (.ok u h1) := by
    unfold gFld dicOf
    dsimp only
    rw [e]
    dsimp only
    rw [if_pos hf, q0]
  rw [this, sb_ok, e2, sb_ok, q, sb_ok]
  dsimp only
  rw [e, ek]
  dsimp only
  rw [if_pos ⟨rfl, hf, hl⟩, p, s]
theorem s_Fz {c : O} (e : τ[i]? = some (some (.r k))) (e1 : h[k]? = some c) (q : fzO c = some d) (s : τ.set i (some (.d d)) = τ1) (s2 : h.set k .dead = h2) : mFz i τ h = some (.nx τ1 h2) := by
  unfold mFz
  rw [e]
  dsimp only
  rw [e1]
  dsimp only
  rw [q]
  dsimp only
  rw [s, s2]
theorem s_For {mi : E Nxt} {gg : A → Sl → Hq → Option Sl} {mb : MS} {nx : Nxt} (e : mi τ h = some (.ok nx h1)) (q : forM nx gg mb FU 0 τ h1 = R) : mFor mi gg mb τ h = R := by rw [mFor_of e, q]
/-! ### operators -/
variable {x y z : Int}
theorem g_add {o : Bool} : gAdd o (.d (.int x)) (.d (.int y)) h = some (.ok (.d (.int (x + y))) h) := rfl
theorem g_iadd : gIAdd (.d (.int x)) (.d (.int y)) h = some (.ok (.d (.int (x + y))) h) := rfl
theorem g_sub : gSub (.d (.int x)) (.d (.int y)) h = some (.ok (.d (.int (x - y))) h) := rfl
theorem g_mul (e : mulOk x y = true) : gMul (.d (.int x)) (.d (.int y)) h = some (.ok (.d (.int (x * y))) h) := gMul_ok h e
theorem g_div (e : divOk x y = true) : gDiv (.d (.int x)) (.d (.int y)) h = some (.ok (.d (.int (x / y))) h) := gDiv_ok h e
theorem g_mod (e : 0 < y) : gMod (.d (.int x)) (.d (.int y)) h = some (.ok (.d (.int (x % y))) h) := gMod_ok h e
theorem g_neg : gNeg (.d (.int x)) h = some (.ok (.d (.int (-x))) h) := rfl
theorem g_lt : gLt (.d (.int x)) (.d (.int y)) h = some (.ok (.d (.bl (decide (x < y)))) h) := rfl
theorem g_le : gLe (.d (.int x)) (.d (.int y)) h = some (.ok (.d (.bl (decide (x ≤ y)))) h) := rfl
theorem g_gt : gGt (.d (.int x)) (.d (.int y)) h = some (.ok (.d (.bl (decide (y < x)))) h) := rfl
theorem g_ge : gGe (.d (.int x)) (.d (.int y)) h = some (.ok (.d (.bl (decide (y ≤ x)))) h) := rfl
theorem g_olt : gOrdO .Lt (.d (.int x)) (.d (.int y)) h = some (.ok (.d (.bl (decide (x < y)))) h) := rfl
theorem g_ole : gOrdO .LtE (.d (.int x)) (.d (.int y)) h = some (.ok (.d (.bl (decide (x ≤ y)))) h) := rfl
theorem g_ogt : gOrdO .Gt (.d (.int x)) (.d (.int y)) h = some (.ok (.d (.bl (decide (y < x)))) h) := rfl
theorem g_oge : gOrdO .GtE (.d (.int x)) (.d (.int y)) h = some (.ok (.d (.bl (decide (y ≤ x)))) h) := rfl
theorem g_eqi : gEq false (.d (.int x)) (.d (.int y)) h = some (.ok (.d (.bl (decide (x = y)))) h) := by
  unfold gEq g2V view
  rw [vw_d, vw_d]
  dsimp only
  rw [eqD_int, if_neg (by simp)]
theorem g_nei : gEq true (.d (.int x)) (.d (.int y)) h = some (.ok (.d (.bl (!decide (x = y)))) h) := by
  unfold gEq g2V view
  rw [vw_d, vw_d]
  dsimp only
  rw [eqD_int, if_pos rfl]
theorem g_eqv {q : Bool} {e f : D} {n : Bool} (v1 : view h a = some e) (v2 : view h b = some f) (s : eqD n e f = some q) : gEq n a b h = some (.ok (.d (.bl q)) h) := by
  unfold gEq g2V
  rw [v1, v2]
  dsimp only
  rw [s]
theorem eqD_bl {n p q : Bool} : eqD n (.bl p) (.bl q) = some (if n then !(p == q) else p == q) := by cases n <;> cases p <;> cases q <;> rfl
theorem eqD_str {n : Bool} {p q : Str} (hp : PyData.strOk p = true) (hq : PyData.strOk q = true) : eqD n (.str p) (.str q) = some (if n then !decide (p = q) else decide (p = q)) := by
  unfold eqD
  rw [show (D.str p).shp = true from shp_fok hp, show (D.str q).shp = true from shp_fok hq, eqv_str]
  rfl
theorem g_isnn {n : Bool} : gIs n (.d .non) (.d .non) h = some (.ok (.d (.bl (!n))) h) := by cases n <;> rfl
theorem g_isnn0 : gIs false (.d .non) (.d .non) h = some (.ok (.d (.bl true)) h) := rfl
theorem g_isnn1 : gIs true (.d .non) (.d .non) h = some (.ok (.d (.bl false)) h) := rfl
theorem g_isn (n : Bool) (e : a.isNon = false) : gIs n a (.d .non) h = some (.ok (.d (.bl n)) h) := by
  unfold gIs
  dsimp only
  rw [e]
  cases n <;> rfl
theorem g_isb {n p q : Bool} : gIs n (.d (.bl p)) (.d (.bl q)) h = some (.ok (.d (.bl (n != (p == q)))) h) := rfl
theorem g_int : gInt (.d (.int x)) h = some (.ok (.d (.int x)) h) := rfl
theorem g_intb {p : Bool} : gInt (.d (.bl p)) h = some (.ok (.d (.int (if p then 1 else 0))) h) := rfl
theorem g_abs : gAbs (.d (.int x)) h = some (.ok (.d (.int (if x < 0 then -x else x))) h) := rfl
theorem g_max : gMax2 (.d (.int x)) (.d (.int y)) h = some (.ok (.d (.int (if y > x then y else x))) h) := rfl
theorem g_min : gMin2 (.d (.int x)) (.d (.int y)) h = some (.ok (.d (.int (if y < x then y else x))) h) := rfl
theorem g_lenl {α : Type} {f : α → D} {xs : List α} : gLen (.d (.lst (xs.map f))) h = some (.ok (.d (.int (xs.length : Nat))) h) := by
  show some (Rs.ok (A.d (D.int ((((xs.map f).map A.d).length : Nat) : Int))) h) = _
  rw [List.length_map, List.length_map]
theorem g_lent {α : Type} {f : α → D} {xs : List α} : gLen (.d (.tup (xs.map f))) h = some (.ok (.d (.int (xs.length : Nat))) h) := by
  show some (Rs.ok (A.d (D.int ((((xs.map f).map A.d).length : Nat) : Int))) h) = _
  rw [List.length_map, List.length_map]
theorem g_lenld : gLen (.d (.lst ds)) h = some (.ok (.d (.int (ds.length : Nat))) h) := by
  show some (Rs.ok (A.d (D.int (((ds.map A.d).length : Nat) : Int))) h) = _
  rw [List.length_map]
theorem g_lentd : gLen (.d (.tup ds)) h = some (.ok (.d (.int (ds.length : Nat))) h) := by
  show some (Rs.ok (A.d (D.int (((ds.map A.d).length : Nat) : Int))) h) = _
  rw [List.length_map]
theorem g_lens {ns : List Int} : gLen (.d (.scr ns)) h = some (.ok (.d (.int (ns.length : Nat))) h) := rfl
theorem g_lenc (e : h[k]? = some (.lst ws)) : gLen (.r k) h = some (.ok (.d (.int (ws.length : Nat))) h) := gLen_c e
theorem ix_nat {l i : Nat} (hi : i < l) : ixN l (i : Int) = some i := by
  unfold ixN
  rw [if_pos (by omega), if_pos (by omega)]
  simp
theorem ix_int {l : Nat} {z : Int} (h0 : 0 ≤ z) (h1 : z.toNat < l) : ixN l z = some z.toNat := by
  unfold ixN
  rw [if_pos h0, if_pos (by omega)]
theorem ix_last {l : Nat} (hl : 0 < l) : ixN l (-1) = some (l - 1) := by
  unfold ixN
  rw [if_neg (by omega)]
  rw [if_pos (by omega)]
  congr 1
  omega
theorem atI_ix {α : Type} {xs : List α} {z : Int} {u : α} (e : ixN xs.length z = some n) (e2 : xs[n]? = some u) : atI xs z = some u := by
  unfold atI
  rw [e]
  exact e2
theorem gGet_of (hd : dicOf h a = none) : gGet a b h = gIx a b h := by
  unfold gGet
  rw [hd]
  rfl
/-- of a list of data -/
theorem g_getl {α : Type} {f : α → D} {xs : List α} {u : α} (e : ixN xs.length z = some n) (e2 : xs[n]? = some u) : gGet (.d (.lst (xs.map f))) (.d (.int z)) h = some (.ok (.d (f u)) h) := by
  show (match atI ((xs.map f).map A.d) z with | some w => some (Rs.ok w h) | none => none) = _
  rw [atI_ix (n := n) (u := A.d (f u)) (by rw [List.length_map, List.length_map]; exact e) (by rw [List.getElem?_map, List.getElem?_map, e2]; rfl)]
theorem g_gett {α : Type} {f : α → D} {xs : List α} {u : α} (e : ixN xs.length z = some n) (e2 : xs[n]? = some u) : gGet (.d (.tup (xs.map f))) (.d (.int z)) h = some (.ok (.d (f u)) h) := by
  show (match atI ((xs.map f).map A.d) z with | some w => some (Rs.ok w h) | none => none) = _
  rw [atI_ix (n := n) (u := A.d (f u)) (by rw [List.length_map, List.length_map]; exact e) (by rw [List.getElem?_map, List.getElem?_map, e2]; rfl)]
theorem g_getld (e : ixN ds.length z = some n) (e2 : ds[n]? = some d) : gGet (.d (.lst ds)) (.d (.int z)) h = some (.ok (.d d) h) := by
  show (match atI (ds.map A.d) z with | some w => some (Rs.ok w h) | none => none) = _
  rw [atI_ix (n := n) (u := A.d d) (by rw [List.length_map]; exact e) (by rw [List.getElem?_map, e2]; rfl)]
theorem g_gettd (e : ixN ds.length z = some n) (e2 : ds[n]? = some d) : gGet (.d (.tup ds)) (.d (.int z)) h = some (.ok (.d d) h) := by
  show (match atI (ds.map A.d) z with | some w => some (Rs.ok w h) | none => none) = _
  rw [atI_ix (n := n) (u := A.d d) (by rw [List.length_map]; exact e) (by rw [List.getElem?_map, e2]; rfl)]
theorem g_getc {u : A} (c : h[k]? = some (.lst ws)) (e : ixN ws.length z = some n) (e2 : ws[n]? = some u) : gGet (.r k) (.d (.int z)) h = some (.ok u h) := by
  unfold gGet dicOf
  simp only [c]
  unfold gIx
  simp only [tupOf, lstOf, c]
  rw [atI_ix e e2]
  rfl
theorem g_gets {ns : List Int} {u : Int} (e : ixN ns.length z = some n) (e2 : ns[n]? = some u) : gGet (.d (.scr ns)) (.d (.int z)) h = some (.ok (.d (.int u)) h) := by
  show (match atI ns z with | some n => some (Rs.ok (A.d (.int n)) h) | none => none) = _
  rw [atI_ix e e2]
theorem g_gettc {u : A} (e : ixN ws.length z = some n) (e2 : ws[n]? = some u) : gGet (.tup ws) (.d (.int z)) h = some (.ok u h) := by
  show (match atI ws z with | some w => some (Rs.ok w h) | none => none) = _
  rw [atI_ix e e2]
theorem g_fldd {T : FTab} {f C : Str} {fs : List Str} {xs : List D} (hf : fOk T C f = true) (e : fGetD f fs xs = some d) : gFld T f (.d (.nd (.ins C fs) xs)) h = some (.ok (.d d) h) := by
  unfold gFld dicOf
  dsimp only
  rw [if_pos hf, fGetD_ok e]
theorem g_fld {T : FTab} {f C : Str} {fs : List Str} {xs : List D} (hf : fOk T C f = true) (e : fGet f fs (xs.map A.d) = some w) : gFld T f (.d (.nd (.ins C fs) xs)) h = some (.ok w h) := by
  unfold gFld dicOf
  dsimp only
  rw [if_pos hf, e]
theorem g_fldc {T : FTab} {f C : Str} {fs : List Str} (c : h[k]? = some (.nd (.ins C fs) ws)) (hf : fOk T C f = true) (e : fGet f fs ws = some w) : gFld T f (.r k) h = some (.ok w h) := by
  unfold gFld dicOf
  dsimp only
  rw [c]
  dsimp only
  rw [if_pos hf, e]
theorem g_tupl (hl : ds.length ≤ LIM) : gTupOf (.d (.lst ds)) h = some (.ok (.d (.tup ds)) h) := by
  show mkT (ds.map A.d) h = _
  exact x_mkT (allD_map ds) hl
theorem g_tupt (hl : ds.length ≤ LIM) : gTupOf (.d (.tup ds)) h = some (.ok (.d (.tup ds)) h) := by
  show mkT (ds.map A.d) h = _
  exact x_mkT (allD_map ds) hl
theorem g_tupc (e : h[k]? = some (.lst ws)) (q : allD ws = some ds) (hl : ds.length ≤ LIM) : gTupOf (.r k) h = some (.ok (.d (.tup ds)) h) := by
  unfold gTupOf
  simp only [tupOf, lstOf, e]
  exact x_mkT q hl
theorem g_lstl {o : Bool} (e : mkL o (ds.map A.d) h = r) : gLstOf o (.d (.lst ds)) h = r := by rw [← e]; rfl
theorem g_lstt {o : Bool} (e : mkL o (ds.map A.d) h = r) : gLstOf o (.d (.tup ds)) h = r := by rw [← e]; rfl
theorem g_lstc {o : Bool} (c : h[k]? = some (.lst ws)) (e : mkL o ws h = r) : gLstOf o (.r k) h = r := by
  unfold gLstOf
  simp only [tupOf, lstOf, c]
  exact e
theorem g_app (e : h[k]? = some (.lst ws)) (hl : ws.length < LIM) (s : h.set k (.lst (ws ++ [w])) = h1) : gApp (.r k) w h = some (.ok (.d .non) h1) := by
  unfold gApp
  dsimp only
  rw [e]
  dsimp only
  rw [if_pos hl, s]
theorem g_ext (e : h[k]? = some (.lst ws)) (e2 : lstOf h w = some us) (hl : ws.length + us.length ≤ LIM) (s : h.set k (.lst (ws ++ us)) = h1) : gExt (.r k) w h = some (.ok (.d .non) h1) := by
  unfold gExt
  dsimp only
  rw [e]
  dsimp only
  rw [e2]
  dsimp only
  rw [if_pos hl, s]
theorem g_pop {u : A} (e : h[k]? = some (.lst ws)) (e2 : ws[ws.length - 1]? = some u) (s : h.set k (.lst ws.dropLast) = h1) : gPop (.r k) h = some (.ok u h1) := by
  unfold gPop
  dsimp only
  rw [e]
  dsimp only
  rw [e2]
  dsimp only
  rw [s]
theorem g_cat {o : Bool} {xs ys : List D} (e : mkL o ((xs ++ ys).map A.d) h = r) : gAdd o (.d (.lst xs)) (.d (.lst ys)) h = r := by
  rw [← e, List.map_append]
  rfl
theorem g_catt {o : Bool} {xs ys : List D} (hl : (xs ++ ys).length ≤ LIM) : gAdd o (.d (.tup xs)) (.d (.tup ys)) h = some (.ok (.d (.tup (xs ++ ys))) h) := by
  show mkT (xs.map A.d ++ ys.map A.d) h = _
  rw [← List.map_append]
  exact x_mkT (allD_map _) hl
theorem g_cats {o : Bool} {p q : Str} (hl : p.length + q.length ≤ LIM) : gAdd o (.d (.str p)) (.d (.str q)) h = some (.ok (.d (.str (p ++ q))) h) := by
  show (if _ then _ else _) = _
  rw [if_pos hl]
theorem g_sll {lo hi : Option Int} (hl : ds.length ≤ LIM) : gSl false (.d (.lst ds)) lo hi h = some (.ok (.d (.lst (cut ds lo hi))) h) := by
  show mkL false (cut (ds.map A.d) lo hi) h = _
  rw [map_cut]
  exact mkL_d (Nat.le_trans (cut_len _ _ _) hl)
theorem g_slt {o : Bool} {lo hi : Option Int} (hl : ds.length ≤ LIM) : gSl o (.d (.tup ds)) lo hi h = some (.ok (.d (.tup (cut ds lo hi))) h) := by
  show mkT (cut (ds.map A.d) lo hi) h = _
  rw [map_cut]
  exact x_mkT (allD_map _) (Nat.le_trans (cut_len _ _ _) hl)
theorem g_isi {T N : String} (e : tyA h a = some N) : gIsi T a h = some (.ok (.d (.bl (isiN T N))) h) := by unfold gIsi; rw [e]
theorem g_isi2 {T U N : String} (e : tyA h a = some N) : gIsi2 T U a h = some (.ok (.d (.bl (isiN T N || isiN U N))) h) := by unfold gIsi2; rw [e]
/-! ### what is walked -/
theorem x_It {xs : List D} (e : m τ h = some (.ok (.d (.lst xs)) h1)) : mItems m τ h = some (.ok (nxL (xs.map A.d)) h1) := by unfold mItems; rw [e]; rfl
theorem x_ItT {xs : List D} (e : m τ h = some (.ok (.d (.tup xs)) h1)) : mItems m τ h = some (.ok (nxL (xs.map A.d)) h1) := by unfold mItems; rw [e]; rfl
theorem x_ItC (e : m τ h = some (.ok (.r k) h1)) (c : h1[k]? = some (.lst ws)) : mItems m τ h = some (.ok (nxC k) h1) := by
  unfold mItems
  rw [e, bd_ok]
  dsimp only
  rw [c]
def iD (n : Nat) : A := .d (.int (n : Nat))
theorem range0 (n : Nat) : rangeA 0 n = (List.range n).map iD := by
  unfold rangeA iD
  refine List.map_congr_left fun i _ => ?_
  rw [Int.zero_add]
theorem x_Rg {q : Nat} (e : m τ h = some (.ok (.d (.int (q : Nat))) h1)) (hq : q ≤ LIM) : mRange1 m τ h = some (.ok (nxL ((List.range q).map iD)) h1) := by
  rw [mRange1_of e (by omega) (by have : LIM = 16777216 := rfl; omega), Int.toNat_natCast, range0]
theorem range_get {q j : Nat} {w : A} (e : ((List.range q).map iD)[j]? = some w) : j < q ∧ w = .d (.int (j : Nat)) := by
  rw [List.getElem?_map] at e
  rcases Nat.lt_or_ge j q with z | z
  · rw [List.getElem?_range z] at e
    cases e
    exact ⟨z, rfl⟩
  · rw [List.getElem?_eq_none (by rw [List.length_range]; exact z)] at e
    cases e
theorem range_len {q : Nat} : ((List.range q).map iD).length = q := by rw [List.length_map, List.length_range]
theorem map_get {α : Type} {f : α → A} {xs : List α} {j : Nat} {w : A} (e : (xs.map f)[j]? = some w) : ∃ x, xs[j]? = some x ∧ w = f x := by
  rw [List.getElem?_map] at e
  cases q : xs[j]? with
  | none => rw [q] at e; cases e
  | some x => rw [q] at e; cases e; exact ⟨x, rfl, rfl⟩
theorem map_get2 {α : Type} {f : α → D} {xs : List α} {j : Nat} {w : A} (e : ((xs.map f).map A.d)[j]? = some w) : ∃ x, xs[j]? = some x ∧ w = .d (f x) := by
  rw [List.map_map] at e
  exact map_get e
end
/-! ### comprehensions, item by item -/
theorem lc_filter {α : Type} {o : Bool} {mi : E Nxt} {gg : A → Sl → Hq → Option Sl} {mt : E Bool} {me : E A} {vs : List Nat} {τ : Sl} {h h1 : Hq} {xs : List α} (ι : α → A) (p : α → Bool) (f : α → A) (e : mi τ h = some (.ok (nxL (xs.map ι)) h1)) (hl : xs.length ≤ LIM)
    (hs : ∀ (n : Nat) (x : α), xs[n]? = some x → ∃ τ1, gg (ι x) (wipeT τ vs) h1 = some τ1 ∧ mt τ1 h1 = some (.ok (p x) h1) ∧ (p x = true → me τ1 h1 = some (.ok (f x) h1))) : mLC o mi gg mt me vs τ h = mkL o ((xs.filter p).map f) h1 := by
  unfold mLC
  rw [e, bd_ok]
  obtain ⟨as, h', e2, rfl, rfl⟩ := compL_inv (g := gg) (mt := mt) (me := me) (τw := wipeT τ vs) (h := h1) (ws := xs.map ι) (fun n h as => h = h1 ∧ as = ((xs.take n).filter p).map f) ⟨rfl, rfl⟩ (fun n w h as hw i => by
    obtain ⟨rfl, rfl⟩ := i
    obtain ⟨x, ex, rfl⟩ := map_get hw
    obtain ⟨τ1, e1, e2, e3⟩ := hs n x ex
    refine ⟨τ1, e1, ?_⟩
    rw [List.take_add_one, ex]
    cases hp : p x with
    | true => exact .inl ⟨h, h, f x, by rw [e2, hp], e3 hp, rfl, by simp [List.filter_append, hp]⟩
    | false => exact .inr ⟨h, by rw [e2, hp], rfl, by simp [List.filter_append, hp]⟩) (by rw [List.length_map]; exact hl)
  rw [e2]
  dsimp only
  have h2 := List.length_filter_le p xs
  rw [List.take_of_length_le (by rw [List.length_map]; exact Nat.le_refl _), if_pos (by rw [List.length_map]; omega)]
theorem lc_map {α : Type} {o : Bool} {mi : E Nxt} {gg : A → Sl → Hq → Option Sl} {me : E A} {vs : List Nat} {τ : Sl} {h h1 : Hq} {xs : List α} (ι : α → A) (f : α → A) (e : mi τ h = some (.ok (nxL (xs.map ι)) h1)) (hl : xs.length ≤ LIM)
    (hs : ∀ (n : Nat) (x : α), xs[n]? = some x → ∃ τ1, gg (ι x) (wipeT τ vs) h1 = some τ1 ∧ me τ1 h1 = some (.ok (f x) h1)) : mLC o mi gg mYes me vs τ h = mkL o (xs.map f) h1 := by
  rw [lc_filter ι (fun _ => true) f e hl (fun n x ex => by
    obtain ⟨τ1, e1, e2⟩ := hs n x ex
    exact ⟨τ1, e1, rfl, fun _ => e2⟩), show xs.filter (fun _ => true) = xs from List.filter_eq_self.mpr fun _ _ => rfl]
/-- over a cell that stays -/
theorem lc_filterC {α : Type} {o : Bool} {mi : E Nxt} {gg : A → Sl → Hq → Option Sl} {mt : E Bool} {me : E A} {vs : List Nat} {τ : Sl} {h h1 : Hq} {k : Nat} {xs : List α} (ι : α → A) (p : α → Bool) (f : α → A) (e : mi τ h = some (.ok (nxC k) h1)) (c : h1[k]? = some (.lst (xs.map ι))) (hl : xs.length ≤ LIM)
    (hs : ∀ (n : Nat) (x : α), xs[n]? = some x → ∃ τ1, gg (ι x) (wipeT τ vs) h1 = some τ1 ∧ mt τ1 h1 = some (.ok (p x) h1) ∧ (p x = true → me τ1 h1 = some (.ok (f x) h1))) : mLC o mi gg mt me vs τ h = mkL o ((xs.filter p).map f) h1 := by
  unfold mLC
  rw [e, bd_ok]
  have go : ∀ (j n fu : Nat), xs.length - n = j → n ≤ xs.length → j < fu → compM (nxC k) gg mt me (wipeT τ vs) fu n h1 = some (((xs.drop n).filter p).map f, h1) := by
    intro j
    induction j with
    | zero =>
      intro n fu e hn hf
      have : n = xs.length := by omega
      subst this
      obtain ⟨fu, rfl⟩ : ∃ f', fu = f' + 1 := ⟨fu - 1, by omega⟩
      unfold compM
      rw [show nxC k xs.length h1 = some none from by unfold nxC; rw [c]; dsimp only; rw [List.getElem?_eq_none (by rw [List.length_map]; exact Nat.le_refl _)]]
      dsimp only
      rw [List.drop_of_length_le (Nat.le_refl _)]
      rfl
    | succ j ih =>
      intro n fu e hn hf
      have hlt : n < xs.length := by omega
      obtain ⟨fu, rfl⟩ : ∃ f', fu = f' + 1 := ⟨fu - 1, by omega⟩
      obtain ⟨τ1, e1, e2, e3⟩ := hs n _ (List.getElem?_eq_getElem hlt)
      unfold compM
      rw [show nxC k n h1 = some (some (ι xs[n])) from by unfold nxC; rw [c]; dsimp only; rw [List.getElem?_map, List.getElem?_eq_getElem hlt]; rfl]
      dsimp only
      rw [e1]
      dsimp only
      rw [e2, List.drop_eq_getElem_cons hlt]
      cases hp : p xs[n] with
      | true =>
        dsimp only
        rw [e3 hp]
        dsimp only
        rw [ih (n + 1) fu (by omega) (by omega) (by omega)]
        dsimp only
        rw [List.filter_cons_of_pos hp, List.map_cons]
      | false =>
        dsimp only
        rw [ih (n + 1) fu (by omega) (by omega) (by omega), List.filter_cons_of_neg (by rw [hp]; simp)]
  have := go xs.length 0 FU (by omega) (Nat.zero_le _) (by show xs.length < 16777217; have : xs.length ≤ 16777216 := hl; omega)
  rw [this]
  dsimp only
  have h2 := List.length_filter_le p xs
  rw [List.drop_zero, if_pos (by rw [List.length_map]; omega)]
theorem lc_mapC {α : Type} {o : Bool} {mi : E Nxt} {gg : A → Sl → Hq → Option Sl} {me : E A} {vs : List Nat} {τ : Sl} {h h1 : Hq} {k : Nat} {xs : List α} (ι : α → A) (f : α → A) (e : mi τ h = some (.ok (nxC k) h1)) (c : h1[k]? = some (.lst (xs.map ι))) (hl : xs.length ≤ LIM)
    (hs : ∀ (n : Nat) (x : α), xs[n]? = some x → ∃ τ1, gg (ι x) (wipeT τ vs) h1 = some τ1 ∧ me τ1 h1 = some (.ok (f x) h1)) : mLC o mi gg mYes me vs τ h = mkL o (xs.map f) h1 := by
  rw [lc_filterC ι (fun _ => true) f e c hl (fun n x ex => by
    obtain ⟨τ1, e1, e2⟩ := hs n x ex
    exact ⟨τ1, e1, rfl, fun _ => e2⟩), show xs.filter (fun _ => true) = xs from List.filter_eq_self.mpr fun _ _ => rfl]
/-- every item a new cell -/
theorem lc_new {α : Type} {o : Bool} {mi : E Nxt} {gg : A → Sl → Hq → Option Sl} {me : E A} {vs : List Nat} {τ : Sl} {h h1 : Hq} {xs : List α} (ι : α → A) (c : α → O) (e : mi τ h = some (.ok (nxL (xs.map ι)) h1)) (hl : xs.length ≤ LIM)
    (hs : ∀ (n : Nat) (x : α) (h : Hq), xs[n]? = some x → ∃ τ1, gg (ι x) (wipeT τ vs) h = some τ1 ∧ me τ1 h = some (.ok (.r h.length) (h ++ [c x]))) : mLC o mi gg mYes me vs τ h = mkL o ((List.range xs.length).map fun i => .r (h1.length + i)) (h1 ++ xs.map c) := by
  unfold mLC
  rw [e, bd_ok]
  obtain ⟨as, h', e2, rfl, rfl⟩ := compL_inv (g := gg) (mt := mYes) (me := me) (τw := wipeT τ vs) (h := h1) (ws := xs.map ι) (fun n h as => h = h1 ++ (xs.take n).map c ∧ as = (List.range (min n xs.length)).map fun i => A.r (h1.length + i)) ⟨by simp, by simp⟩ (fun n w h as hw i => by
    obtain ⟨rfl, rfl⟩ := i
    obtain ⟨x, ex, rfl⟩ := map_get hw
    obtain ⟨τ1, e1, e2⟩ := hs n x (h1 ++ (xs.take n).map c) ex
    have hn := (List.getElem?_eq_some_iff.mp ex).1
    refine ⟨τ1, e1, .inl ⟨_, _, _, rfl, e2, ?_, ?_⟩⟩
    · rw [List.take_add_one, ex]
      simp
    · rw [Nat.min_eq_left (Nat.le_of_lt hn), Nat.min_eq_left hn, List.range_succ, List.map_append, List.length_append, List.length_map, List.length_take, Nat.min_eq_left (Nat.le_of_lt hn)]
      rfl) (by rw [List.length_map]; exact hl)
  rw [e2]
  dsimp only
  rw [if_pos (by rw [List.length_map, List.length_range]; omega), List.length_map, List.take_of_length_le (Nat.le_refl _), Nat.min_self]
/-! ### a loop that looks for what fails -/
theorem for_all {α : Type} {gg : A → Sl → Hq → Option Sl} {mb : MS} {τ : Sl} {h : Hq} {xs : List α} {r : A} (ι : α → A) (p : α → Bool) (I : Sl → Prop) (i0 : I τ) (hl : xs.length ≤ LIM)
    (hs : ∀ (n : Nat) (x : α) (τ : Sl), xs[n]? = some x → I τ → (xs.take n).all p = true → ∃ τ1, gg (ι x) τ h = some τ1 ∧ ((p x = true ∧ ∃ τ2, I τ2 ∧ (mb τ1 h = some (.nx τ2 h) ∨ mb τ1 h = some (.ct τ2 h))) ∨ (p x = false ∧ mb τ1 h = some (.rt r h)))) :
    (xs.all p = true ∧ ∃ τ', I τ' ∧ forM (nxL (xs.map ι)) gg mb FU 0 τ h = some (.nx τ' h)) ∨ (xs.all p = false ∧ forM (nxL (xs.map ι)) gg mb FU 0 τ h = some (.rt r h)) := by
  have go : ∀ (k n f : Nat) (τ : Sl), xs.length - n = k → n ≤ xs.length → k < f → I τ → (xs.take n).all p = true →
      ((xs.drop n).all p = true ∧ ∃ τ', I τ' ∧ forM (nxL (xs.map ι)) gg mb f n τ h = some (.nx τ' h)) ∨ ((xs.drop n).all p = false ∧ forM (nxL (xs.map ι)) gg mb f n τ h = some (.rt r h)) := by
    intro k
    induction k with
    | zero =>
      intro n f τ e hn hf i ht
      have : n = xs.length := by omega
      subst this
      obtain ⟨f, rfl⟩ : ∃ f', f = f' + 1 := ⟨f - 1, by omega⟩
      refine .inl ⟨by rw [List.drop_length]; rfl, τ, i, ?_⟩
      unfold forM nxL
      rw [List.getElem?_eq_none (by rw [List.length_map]; exact Nat.le_refl _)]
    | succ k ih =>
      intro n f τ e hn hf i ht
      have hlt : n < xs.length := by omega
      obtain ⟨f, rfl⟩ : ∃ f', f = f' + 1 := ⟨f - 1, by omega⟩
      have hx : xs[n]? = some xs[n] := List.getElem?_eq_getElem hlt
      have un : nxL (xs.map ι) n h = some (some (ι xs[n])) := by unfold nxL; rw [List.getElem?_map, hx]; rfl
      obtain ⟨τ1, e1, q⟩ := hs n _ τ hx i ht
      rcases q with ⟨hp, τ2, i2, e2⟩ | ⟨hp, e2⟩
      · have ht2 : (xs.take (n + 1)).all p = true := by rw [List.take_add_one, hx, List.all_append, ht]; simp [hp]
        have := ih (n + 1) f τ2 (by omega) (by omega) (by omega) i2 ht2
        have st : forM (nxL (xs.map ι)) gg mb (f + 1) n τ h = forM (nxL (xs.map ι)) gg mb f (n + 1) τ2 h := by
          conv => lhs; unfold forM
          rw [un]
          dsimp only
          rw [e1]
          dsimp only
          rcases e2 with e2 | e2 <;> (rw [e2])
        rw [st, List.drop_eq_getElem_cons hlt, List.all_cons, hp, Bool.true_and]
        exact this
      · refine .inr ⟨by rw [List.drop_eq_getElem_cons hlt, List.all_cons, hp, Bool.false_and], ?_⟩
        unfold forM
        rw [un]
        dsimp only
        rw [e1]
        dsimp only
        rw [e2]
  have := go xs.length 0 FU τ (by omega) (Nat.zero_le _) (by show xs.length < 16777217; have : xs.length ≤ 16777216 := hl; omega) i0 rfl
  rwa [List.drop_zero] at this
/-- a loop that goes to its end -/
theorem for_inv {α : Type} {gg : A → Sl → Hq → Option Sl} {mb : MS} {τ : Sl} {h : Hq} {xs : List α} (ι : α → A) (I : Nat → Sl → Hq → Prop) (i0 : I 0 τ h) (hl : xs.length ≤ LIM)
    (hs : ∀ (n : Nat) (x : α) (τ : Sl) (h : Hq), xs[n]? = some x → I n τ h → ∃ τ1, gg (ι x) τ h = some τ1 ∧ ∃ τ2 h2, I (n + 1) τ2 h2 ∧ (mb τ1 h = some (.nx τ2 h2) ∨ mb τ1 h = some (.ct τ2 h2))) :
    ∃ τ' h', I xs.length τ' h' ∧ forM (nxL (xs.map ι)) gg mb FU 0 τ h = some (.nx τ' h') := by
  obtain ⟨τ', h', e, i⟩ := forL_inv (g := gg) (mb := mb) (ws := xs.map ι) I i0 (fun n w τ h hw i => by
    obtain ⟨x, ex, rfl⟩ := map_get hw
    obtain ⟨τ1, e1, τ2, h2, i2, e2⟩ := hs n x τ h ex i
    exact ⟨τ1, τ2, h2, e1, e2, i2⟩) (by rw [List.length_map]; exact hl)
  rw [List.length_map] at i
  exact ⟨τ', h', i, e⟩
theorem rangeget {q n x : Nat} (e : (List.range q)[n]? = some x) : n < q ∧ x = n := by
  rcases Nat.lt_or_ge n q with z | z
  · rw [List.getElem?_range z] at e
    exact ⟨z, (Option.some.inj e).symm⟩
  · rw [List.getElem?_eq_none (by rw [List.length_range]; exact z)] at e
    cases e
end Tq

/-! Tq18: new cells forgotten behind a call; comprehensions of two fors; C(..) with defaults left out. -/
namespace Tq
open PySem PySem.Spec PyProof.Rows L2
/-! ### cells forgotten -/
mutual
def A.blw (n : Nat) : A → Bool
  | .d _ => true
  | .r k => decide (k < n)
  | .tup ws => blwL n ws
def blwL (n : Nat) : List A → Bool
  | [] => true
  | w :: r => A.blw n w && blwL n r
end
def O.blw (n : Nat) : O → Bool
  | .lst ws => blwL n ws | .nd _ ws => blwL n ws | .dead => true
def Cl (n : Nat) (h : Hq) : Bool := h.all (O.blw n)
theorem blwL_d {α : Type} {n : Nat} (f : α → D) : ∀ (xs : List α), blwL n (xs.map fun x => A.d (f x)) = true
  | [] => rfl
  | x :: r => by
    show (A.blw n (.d (f x)) && blwL n (r.map fun x => A.d (f x))) = true
    rw [blwL_d f r]
    rfl
theorem blwL_ds {n : Nat} : ∀ (xs : List D), blwL n (xs.map A.d) = true
  | [] => rfl
  | x :: r => by
    show (A.blw n (.d x) && blwL n (r.map A.d)) = true
    rw [blwL_ds r]
    rfl
theorem blwL_mem {n : Nat} : ∀ {ws : List A}, (∀ w ∈ ws, w.blw n = true) → blwL n ws = true
  | [], _ => rfl
  | w :: r, h => by
    show (A.blw n w && blwL n r) = true
    rw [h w (List.mem_cons_self ..), blwL_mem fun u hu => h u (List.mem_cons_of_mem _ hu)]
    rfl
abbrev cutr (n : Nat) (ρ : Nat → Option Addr) : Nat → Option Addr := fun k => if k < n then ρ k else none
section
variable {K : PySem.W.Frag} {Z B H : Hp} {ρ : Nat → Option Addr} {h : Hq} {n : Nat}
mutual
theorem RA.cutr : ∀ {v : V} {w : A}, RA K B ρ v w → w.blw n = true → RA K B (Tq.cutr n ρ) v w
  | _, _, .d r, _ => .d r
  | _, _, .r (k := k) e, c => by
    have c : k < n := of_decide_eq_true c
    exact .r (by show (if k < n then ρ k else none) = _; rw [if_pos c]; exact e)
  | _, _, .tup e r, c => .tup e (RAL.cutr r c)
theorem RAL.cutr : ∀ {vs : List V} {ws : List A}, RAL K B ρ vs ws → blwL n ws = true → RAL K B (Tq.cutr n ρ) vs ws
  | _, _, .nil, _ => .nil
  | _, _, .cons (w := w) (ws := ws) r t, c => by
    have c : (A.blw n w && blwL n ws) = true := c
    rw [Bool.and_eq_true] at c
    exact .cons (RA.cutr r c.1) (RAL.cutr t c.2)
end
theorem cutr_some {k : Nat} {a : Addr} (e : cutr n ρ k = some a) : k < n ∧ ρ k = some a := by
  have e : (if k < n then ρ k else none) = some a := e
  split at e
  · exact ⟨by assumption, e⟩
  · cases e
theorem Ok.cut (ok : Ok K Z B ρ H h) (c : Cl n (h.take n) = true) : Ok K Z B (cutr n ρ) H (h.take n) := by
  refine ⟨ok.ex, ok.zz, fun k o e => ?_, fun i j a e1 e2 => ok.nj i j a (cutr_some e1).2 (cutr_some e2).2, fun k a e => ok.al k a (cutr_some e).2, fun k e => ?_⟩
  · have hb : o.blw n = true := List.all_eq_true.mp c o (List.mem_of_getElem? e)
    rw [List.getElem?_take] at e
    split at e
    · rename_i hk
      obtain ⟨a, e1, e2⟩ := ok.ce k o e
      refine ⟨a, by show (if k < n then ρ k else none) = _; rw [if_pos hk]; exact e1, ?_⟩
      cases e2 with
      | lst x1 x2 x3 x4 => exact .lst x1 (x2.cutr hb) x3 x4
      | nd x1 x2 x3 => exact .nd x1 (x2.cutr hb) x3
      | dead x1 => exact .dead x1
    · cases e
  · show (if k < n then ρ k else none) = none
    split
    · rename_i hk
      rw [List.length_take] at e
      exact ok.up k (by omega)
    · rfl
end
/-- an answer that is data: the cells that are new are forgotten -/
def mGc (m : E A) : E A := fun τ h => match m τ h with
  | some (.ok (.d d) h2) => if Cl h.length (h2.take h.length) = true then some (.ok (.d d) (h2.take h.length)) else none
  | some (.ok _ _) => none
  | r => r
theorem rx_gc {X : Cx} {W : WX} {e : Expr} {m : E A} (r : RX X W e m) : RX X W e (mGc m) := ⟨pe_imp r.pe fun σ H Q q => by
  obtain ⟨Z, B, ρ, τ, h, ok, sl, q⟩ := q
  refine ⟨Z, B, ρ, τ, h, ok, sl, ?_⟩
  unfold mGc at q
  revert q
  cases m τ h with
  | none => exact fun q => q
  | some r =>
    cases r with
    | ex x h2 => exact fun q => q
    | ok w h2 =>
      cases w with
      | r _ => exact fun q => q.elim
      | tup _ => exact fun q => q.elim
      | d d =>
        intro q B' ρ' H' ok' g v rv
        dsimp only at q
        split at q
        · rename_i c
          exact q B' (cutr h.length ρ') H' (ok'.cut c) ⟨g.bb, fun k a e => by
            have hk : k < h.length := by
              apply Classical.byContradiction
              intro y
              rw [ok.up k (by omega)] at e
              cases e
            show (if k < h.length then ρ' k else none) = some a
            rw [if_pos hk]
            exact g.rr k a e, g.fz⟩ v (.d (ra_d rv))
        · exact q.elim⟩
theorem x_Gc {m : E A} {τ : Sl} {h g : Hq} {d : D} (e : m τ h = some (.ok (.d d) (h ++ g))) (c : Cl h.length h = true) : mGc m τ h = some (.ok (.d d) h) := by
  unfold mGc
  rw [e]
  dsimp only
  rw [List.take_left' rfl, if_pos c]
theorem x_Gc0 {m : E A} {τ : Sl} {h : Hq} {d : D} (e : m τ h = some (.ok (.d d) h)) (c : Cl h.length h = true) : mGc m τ h = some (.ok (.d d) h) := x_Gc (g := []) (by rw [List.append_nil]; exact e) c
/-! ### [e for a in xs for b in ys] -/
def compM2 (nx : Nxt) (g : A → Sl → Hq → Option Sl) (mt : E Bool) (mi1 : E Nxt) (g1 : A → Sl → Hq → Option Sl) (mt1 : E Bool) (me : E A) (τw : Sl) (vs1 : List Nat) : Nat → Nat → Hq → Option (List A × Hq)
  | 0, _, _ => none
  | f + 1, i, h => match nx i h with
    | some none => some ([], h)
    | some (some w) => (match g w τw h with
      | some τ1 => (match mt τ1 h with
        | some (.ok true h1) => (match mi1 τ1 h1 with
          | some (.ok nx1 h2) => (match compM nx1 g1 mt1 me (wipeT τ1 vs1) FU 0 h2 with
            | some (r, h3) => (match compM2 nx g mt mi1 g1 mt1 me τw vs1 f (i + 1) h3 with | some (r2, h4) => some (r ++ r2, h4) | none => none)
            | none => none)
          | _ => none)
        | some (.ok false h1) => compM2 nx g mt mi1 g1 mt1 me τw vs1 f (i + 1) h1
        | _ => none)
      | none => none)
    | none => none
def mLC2 (o : Bool) (mi : E Nxt) (g : A → Sl → Hq → Option Sl) (mt : E Bool) (mi1 : E Nxt) (g1 : A → Sl → Hq → Option Sl) (mt1 : E Bool) (me : E A) (vs vs1 : List Nat) : E A := fun τ h => bd (mi τ h) fun nx h1 => match compM2 nx g mt mi1 g1 mt1 me (wipeT τ vs) vs1 FU 0 h1 with
  | some (ws, h2) => if ws.length ≤ LIM then mkL o ws h2 else none
  | none => none
abbrev tGx (X : Cx) (vs : List Nat) (g : A → Sl → Hq → Option Sl) : TG := fun v σ H Q => ∃ Z B ρ w τ τ' h, Ok X.K Z B ρ H h ∧ SlOk X.K B ρ σ τ ∧ RA X.K B ρ v w ∧ g w τ h = some τ' ∧ ∀ σ', SlOk X.K B ρ σ' τ' → Apart vs σ σ' → Q σ' H
abbrev tIx (X : Cx) (m : E Nxt) : TI := fun σ H R => ∃ Z B ρ τ h, Ok X.K Z B ρ H h ∧ SlOk X.K B ρ σ τ ∧ Post X.K Z (fun c d H' => W0 c d σ H') B ρ (fun nx _ B' ρ' H' => ∀ J, Walk X.K B' ρ' J nx → R J H') (m τ h)
theorem lc2_reads {X : Cx} {vs vs1 : List Nat} {g g1 : A → Sl → Hq → Option Sl} {mt mt1 : E Bool} {mi1 : E Nxt} {me : E A} {o : Bool}
    {σ : L2.St} {Z B1 H1 : Hp} {ρ1 : Nat → Option Addr} {h1 h2 : Hq} {τ : Sl} {nx : Nxt} {J : It} {ws : List A} {Q : VK} {W : XK} (ok1 : Ok X.K Z B1 ρ1 H1 h1) (sl1 : SlOk X.K B1 ρ1 σ τ) (wk : Walk X.K B1 ρ1 J nx)
    (e : compM2 nx g mt mi1 g1 mt1 me (wipeT τ vs) vs1 FU 0 h1 = some (ws, h2)) (hl : ws.length ≤ LIM) (k : Post X.K Z W B1 ρ1 (fun w _ B' ρ' H' => ∀ v, RA X.K B' ρ' v w → Q v H') (mkL o ws h2)) :
    ∀ D, H1 D = none → ∃ Wv : Nat → Nat → Hp → Prop, (∃ m, Wv 0 m (upd H1 D (.lst []))) ∧ ∀ i m H, Wv i m H →
  (J.stop i H ∧ Q (.ref D) H) ∨ (J.go i H ∧ ∃ Nx : Hp → Prop, (∀ H', Nx H' → ∃ m', m' < m ∧ Wv (i + 1) m' H') ∧ ∀ x H', J.yld i H x H' → tGx X vs g x (L2.wipe σ vs) H' fun σ2 H2 => L2.wipe σ2 vs = L2.wipe σ vs ∧ tT X.K W0 mt σ2 H2 fun b H3 =>
    if b = true then tIx X mi1 σ2 H3 fun J1 H4 => ∃ W1 : Nat → Nat → Hp → Prop, (∃ m, W1 0 m H4) ∧ ∀ j k H, W1 j k H →
      (J1.stop j H ∧ Nx H) ∨ (J1.go j H ∧ ∃ Nx1 : Hp → Prop, (∀ H', Nx1 H' → ∃ k', k' < k ∧ W1 (j + 1) k' H') ∧ ∀ x H', J1.yld j H x H' → tGx X vs1 g1 x (L2.wipe σ2 vs1) H' fun σ3 H5 => L2.wipe σ3 vs1 = L2.wipe σ2 vs1 ∧ tT X.K W0 mt1 σ3 H5 fun b H6 =>
        if b = true then tE X.K W0 me σ3 H6 fun y H7 => ∃ acc, H7 D = some (.lst acc) ∧ acc.length < sizeLine ∧ Nx1 (upd H7 D (.lst (acc ++ [y]))) else Nx1 H6)
    else Nx H3) := by
  intro D hD
  have hzD : Z D = none := by
    cases z : Z D with
    | none => rfl
    | some u => rw [ok1.zz D u z] at hD; cases hD
  have hbD : B1 D = none := by
    cases z : B1 D with
    | none => rfl
    | some u => rw [ok1.ex D u z] at hD; cases hD
  refine ⟨fun i m H' => ∃ B' ρ' h' acc as rest, Ok X.K (upd Z D (.lst acc)) B' ρ' H' h' ∧ Gr Z B1 ρ1 B' ρ' ∧ B' D = none ∧ RAL X.K B' ρ' acc as ∧
      compM2 nx g mt mi1 g1 mt1 me (wipeT τ vs) vs1 m i h' = some (rest, h2) ∧ ws = as ++ rest,
    ⟨FU, B1, ρ1, h1, [], [], ws, ok1.aside hD, Gr.refl, hbD, .nil, e, rfl⟩, ?_⟩
  rintro i m H2 ⟨B2, ρ2, h', acc, as, rest, ok2, g2, hb2, ra, ec, ew⟩
  cases m with
  | zero => cases ec
  | succ m =>
    obtain ⟨stop, go⟩ := wk _ B2 ρ2 H2 h' i ok2 g2.wk
    unfold compM2 at ec
    split at ec
    · rename_i e1
      cases ec
      rw [List.append_nil] at ew
      subst ew
      exact .inl ⟨stop e1, ok2.adopt hb2 hzD ra (k.from g2)⟩
    · rename_i w e1
      obtain ⟨k1, k2⟩ := go w e1
      refine .inr ⟨k1, fun H' => ∃ B' ρ' h' acc as rest, Ok X.K (upd Z D (.lst acc)) B' ρ' H' h' ∧ Gr Z B1 ρ1 B' ρ' ∧ B' D = none ∧ RAL X.K B' ρ' acc as ∧
        compM2 nx g mt mi1 g1 mt1 me (wipeT τ vs) vs1 m (i + 1) h' = some (rest, h2) ∧ ws = as ++ rest, fun H' q => ⟨m, Nat.lt_succ_self m, q⟩, fun x H3 y => ?_⟩
      obtain ⟨B3, rx, ok3, g3⟩ := k2 x H3 y
      have keep : ∀ {B' : Hp} {ρ' : Nat → Option Addr} {Ba : Hp} {ρa : Nat → Option Addr} {acc : List V}, Ba D = none → Gr (upd Z D (.lst acc)) Ba ρa B' ρ' → B' D = none := fun {B' ρ' Ba ρa acc} hn g => by
        cases z : B' D with
        | none => rfl
        | some u =>
          have := g.fz D hn (by rw [z]; simp)
          rw [upd_same] at this
          cases this
      have hb3 := keep hb2 g3
      have g13 := g2.trans (g3.aside hzD)
      split at ec
      · rename_i τ3 e3
        refine ⟨_, B3, ρ2, w, wipeT τ vs, τ3, h', ok3, (sl1.mono g13).wipe vs, rx, e3, fun σ4 sl4 a4 => ⟨(wipe_apart a4).trans (wipe_wipe σ vs), ⟨_, B3, ρ2, τ3, h', ok3, sl4, ?_⟩⟩⟩
        split at ec
        · rename_i h5 e5
          rw [e5]
          intro B5 ρ5 H5 ok5 g5
          refine iteT ⟨_, B5, ρ5, τ3, h5, ok5, sl4.mono g5, ?_⟩
          have hb5 := keep hb3 g5
          have g15 := g13.trans (g5.aside hzD)
          split at ec
          · rename_i nx1 h6 e6
            rw [e6]
            intro B6 ρ6 H6 ok6 g6 J1 wk1
            have hb6 := keep hb5 g6
            have g16 := g15.trans (g6.aside hzD)
            have sl6 := (sl4.mono g5).mono g6
            split at ec
            · rename_i r1 h7 e7
              split at ec
              · rename_i r2 h8 e8
                cases ec
                refine ⟨fun j k H' => ∃ B' ρ' h' acc as rest, Ok X.K (upd Z D (.lst acc)) B' ρ' H' h' ∧ Gr Z B6 ρ6 B' ρ' ∧ B' D = none ∧ RAL X.K B' ρ' acc as ∧
                    compM nx1 g1 mt1 me (wipeT τ3 vs1) k j h' = some (rest, h7) ∧ ws = as ++ (rest ++ r2),
                  ⟨FU, B6, ρ6, h6, acc, as, r1, ok6, Gr.refl, hb6, ra.mono ((g3.aside hzD).trans ((g5.aside hzD).trans (g6.aside hzD))), e7, ew⟩, ?_⟩
                rintro j kk H9 ⟨B9, ρ9, h9, acc9, as9, rest9, ok9, g9, hb9, ra9, ec9, ew9⟩
                cases kk with
                | zero => cases ec9
                | succ kk =>
                  obtain ⟨stop1, go1⟩ := wk1 _ B9 ρ9 H9 h9 j ok9 g9.wk
                  unfold compM at ec9
                  split at ec9
                  · rename_i f1
                    cases ec9
                    exact .inl ⟨stop1 f1, B9, ρ9, _, acc9, as9, r2, ok9, g16.trans g9, hb9, ra9, e8, by rw [ew9]; rfl⟩
                  · rename_i w1 f1
                    obtain ⟨l1, l2⟩ := go1 w1 f1
                    refine .inr ⟨l1, fun H' => ∃ B' ρ' h' acc as rest, Ok X.K (upd Z D (.lst acc)) B' ρ' H' h' ∧ Gr Z B6 ρ6 B' ρ' ∧ B' D = none ∧ RAL X.K B' ρ' acc as ∧
                      compM nx1 g1 mt1 me (wipeT τ3 vs1) kk (j + 1) h' = some (rest, h7) ∧ ws = as ++ (rest ++ r2), fun H' q => ⟨kk, Nat.lt_succ_self kk, q⟩, fun x1 H10 y1 => ?_⟩
                    obtain ⟨B10, rx1, ok10, g10⟩ := l2 x1 H10 y1
                    have hb10 := keep hb9 g10
                    have g610 := g9.trans (g10.aside hzD)
                    split at ec9
                    · rename_i τ5 f3
                      refine ⟨_, B10, ρ9, w1, wipeT τ3 vs1, τ5, h9, ok10, (sl6.mono g610).wipe vs1, rx1, f3, fun σ5 sl5 a5 => ⟨(wipe_apart a5).trans (wipe_wipe σ4 vs1), ⟨_, B10, ρ9, τ5, h9, ok10, sl5, ?_⟩⟩⟩
                      split at ec9
                      · rename_i h11 f5
                        rw [f5]
                        intro B11 ρ11 H11 ok11 g11
                        refine iteT ⟨_, B11, ρ11, τ5, h11, ok11, sl5.mono g11, ?_⟩
                        have hb11 := keep hb10 g11
                        split at ec9
                        · rename_i a h12 f6
                          rw [f6]
                          intro B12 ρ12 H12 ok12 g12 v rv
                          have hb12 := keep hb11 g12
                          split at ec9
                          · rename_i r h13 f7
                            cases ec9
                            have g1012 := (g11.trans g12).aside hzD
                            refine ⟨acc9, ok12.zz D _ upd_same, ?_, B12, ρ12, h12, acc9 ++ [v], as9 ++ [a], r, ok12.turn hb12 hzD, g610.trans g1012, hb12, (ra9.mono ((g10.aside hzD).trans g1012)).append (.cons rv .nil), f7, by rw [ew9, List.append_assoc]; rfl⟩
                            rw [ra9.length, ← lim_eq]
                            rw [ew9, List.length_append, List.length_append, List.length_cons] at hl
                            omega
                          · cases ec9
                        · cases ec9
                      · rename_i h11 f5
                        rw [f5]
                        intro B11 ρ11 H11 ok11 g11
                        exact iteF ⟨B11, ρ11, h11, acc9, as9, rest9, ok11, g610.trans (g11.aside hzD), keep hb10 g11, ra9.mono ((g10.aside hzD).trans (g11.aside hzD)), ec9, ew9⟩
                      · cases ec9
                    · cases ec9
                  · cases ec9
              · cases ec
            · cases ec
          · cases ec
        · rename_i h5 e5
          rw [e5]
          intro B5 ρ5 H5 ok5 g5
          exact iteF ⟨B5, ρ5, h5, acc, as, rest, ok5, g13.trans (g5.aside hzD), keep hb3 g5, ra.mono ((g3.aside hzD).trans (g5.aside hzD)), ec, ew⟩
        · cases ec
      · cases ec
    · cases ec
section
variable {X : Cx} {W : WX} {tg iter tg1 iter1 elt : Expr} {ifs ifs1 : List Expr} {scope : Scope} {mi mi1 : E Nxt} {g g1 : A → Sl → Hq → Option Sl} {mt mt1 : E Bool} {me : E A} {pos : Pos}
theorem rx_lc2 (o : Bool) (hc : X.calm = true) (hN : X.N.Nodup) (own : List (Str × Nat)) (vs1 : List Nat) (hv : ∀ i ∈ vs1, i ∈ own.map (·.2)) (hi : RI X W tg iter mi)
    (hg : ∀ (s : Shared) (H : Hp) (C : Addr) (cl : List (Str × Addr)) (fp : List Addr), RG (X.blk s H scope (compEnvC scope cl C X.env) fp) (own.map (·.2)) tg g) (ht : ∀ (s : Shared) (H : Hp) (C : Addr) (cl : List (Str × Addr)) (fp : List Addr), RTs (X.blk s H scope (compEnvC scope cl C X.env) fp) W0 ifs mt)
    (hi1 : ∀ (s : Shared) (H : Hp) (C : Addr) (cl : List (Str × Addr)) (fp : List Addr), RI (X.blk s H scope (compEnvC scope cl C X.env) fp) W0 tg1 iter1 mi1)
    (hg1 : ∀ (s : Shared) (H : Hp) (C : Addr) (cl : List (Str × Addr)) (fp : List Addr), RG (X.blk s H scope (compEnvC scope cl C X.env) fp) vs1 tg1 g1) (ht1 : ∀ (s : Shared) (H : Hp) (C : Addr) (cl : List (Str × Addr)) (fp : List Addr), RTs (X.blk s H scope (compEnvC scope cl C X.env) fp) W0 ifs1 mt1)
    (he : ∀ (s : Shared) (H : Hp) (C : Addr) (cl : List (Str × Addr)) (fp : List Addr), RX (X.blk s H scope (compEnvC scope cl C X.env) fp) W0 elt me) (ok : BlkOk X.N X.env.scope scope own)
    (hs : ∀ x, foldedSetIterable iter X.env x = pure x := by intro _; rfl) (hs1 : ∀ env x, foldedSetIterable iter1 env x = pure x := by intro _ _; rfl) : RX X W (.ListComp elt [⟨tg, iter, ifs, 0⟩, ⟨tg1, iter1, ifs1, 0⟩] scope pos) (mLC2 o mi g mt mi1 g1 mt1 me (own.map (·.2)) vs1) := ⟨pe_imp (pe_lc2 hc hN hi.pi ok hv (g := tGx X (own.map (·.2)) g) (tt := tT X.K W0 mt) (wi1 := tIx X mi1) (g1 := tGx X vs1 g1) (tt1 := tT X.K W0 mt1) (te := tE X.K W0 me)
    (fun s H C cl fp => (hg s H C cl fp).pg) (fun s H C cl fp => (ht s H C cl fp).pt) (fun s H C cl fp => (hi1 s H C cl fp).pi) (fun s H C cl fp => (hg1 s H C cl fp).pg) (fun s H C cl fp => (ht1 s H C cl fp).pt) (fun s H C cl fp => (he s H C cl fp).pe) hs hs1) fun σ H Q q => by
  obtain ⟨Z, B, ρ, τ, h, okk, sl, q⟩ := q
  unfold mLC2 at q
  refine ⟨Z, B, ρ, τ, h, okk, sl, q.bd.imp fun nx h1 B1 ρ1 H1 ok1 g1 q1 J wk => ?_⟩
  split at q1
  · rename_i ws h2 e1
    split at q1
    · rename_i hl
      exact lc2_reads (X := X) ok1 (sl.mono g1) wk e1 hl q1
    · exact q1.elim
  · exact q1.elim⟩
theorem rs_setLc2 (o : Bool) {i : Nat} {y : Str} {py spos : Pos} (hc : X.calm = true) (hN : X.N.Nodup) (own : List (Str × Nat)) (vs1 : List Nat) (hv : ∀ i ∈ vs1, i ∈ own.map (·.2)) (hi : RI X W tg iter mi)
    (hg : ∀ (s : Shared) (H : Hp) (C : Addr) (cl : List (Str × Addr)) (fp : List Addr), RG (X.blk s H scope (compEnvC scope cl C X.env) fp) (own.map (·.2)) tg g) (ht : ∀ (s : Shared) (H : Hp) (C : Addr) (cl : List (Str × Addr)) (fp : List Addr), RTs (X.blk s H scope (compEnvC scope cl C X.env) fp) W0 ifs mt)
    (hi1 : ∀ (s : Shared) (H : Hp) (C : Addr) (cl : List (Str × Addr)) (fp : List Addr), RI (X.blk s H scope (compEnvC scope cl C X.env) fp) W0 tg1 iter1 mi1)
    (hg1 : ∀ (s : Shared) (H : Hp) (C : Addr) (cl : List (Str × Addr)) (fp : List Addr), RG (X.blk s H scope (compEnvC scope cl C X.env) fp) vs1 tg1 g1) (ht1 : ∀ (s : Shared) (H : Hp) (C : Addr) (cl : List (Str × Addr)) (fp : List Addr), RTs (X.blk s H scope (compEnvC scope cl C X.env) fp) W0 ifs1 mt1)
    (he : ∀ (s : Shared) (H : Hp) (C : Addr) (cl : List (Str × Addr)) (fp : List Addr), RX (X.blk s H scope (compEnvC scope cl C X.env) fp) W0 elt me) (ok : BlkOk X.N X.env.scope scope own)
    (hsw : swapsWith (.ListComp elt [⟨tg, iter, ifs, 0⟩, ⟨tg1, iter1, ifs1, 0⟩] scope pos) (some (.Name y py)) spos.line X.env = pure true) (hy : X.N[i]? = some y := by rfl) (hyl : X.env.scope.names.lookup y = some .local := by rfl)
    (hs : ∀ x, foldedSetIterable iter X.env x = pure x := by intro _; rfl) (hs1 : ∀ env x, foldedSetIterable iter1 env x = pure x := by intro _ _; rfl) : RS X W (.Assign [.Name y py] (.ListComp elt [⟨tg, iter, ifs, 0⟩, ⟨tg1, iter1, ifs1, 0⟩] scope pos) spos) (mSet i (mLC2 o mi g mt mi1 g1 mt1 me (own.map (·.2)) vs1)) := ⟨ps_imp (ps_setLc2 hc hN hy hyl hsw hi.pi ok hv (g := tGx X (own.map (·.2)) g) (tt := tT X.K W0 mt) (wi1 := tIx X mi1) (g1 := tGx X vs1 g1) (tt1 := tT X.K W0 mt1) (te := tE X.K W0 me)
    (fun s H C cl fp => (hg s H C cl fp).pg) (fun s H C cl fp => (ht s H C cl fp).pt) (fun s H C cl fp => (hi1 s H C cl fp).pi) (fun s H C cl fp => (hg1 s H C cl fp).pg) (fun s H C cl fp => (ht1 s H C cl fp).pt) (fun s H C cl fp => (he s H C cl fp).pe) hs hs1) fun D σ H q => by
  obtain ⟨Z, B, ρ, τ, h, okk, sl, q⟩ := q
  have q2 := q.sb sl
  unfold mLC2 at q2
  refine ⟨Z, B, ρ, τ, h, okk, sl, q2.bd.imp fun nx h1 B1 ρ1 H1 ok1 g1 q1 J wk => ?_⟩
  split at q1
  · rename_i ws h2 e1
    split at q1
    · rename_i hl
      refine lc2_reads (X := X) (Q := fun x H1 => gName i x σ H1 D.nx) ok1 (sl.mono g1) wk e1 hl (q1.imp fun w h3 B3 ρ3 H3 ok3 g3 q3 v rv => ?_)
      exact q3.nx1 ok3 (((sl.mono g1).mono g3).put rv)
    · exact q1.elim
  · exact q1.elim⟩
end
theorem comp_map {α : Type} {gg : A → Sl → Hq → Option Sl} {me : E A} {τw : Sl} {h : Hq} {xs : List α} (ι : α → A) (f : α → A) (hl : xs.length ≤ LIM)
    (hs : ∀ (n : Nat) (x : α), xs[n]? = some x → ∃ τ1, gg (ι x) τw h = some τ1 ∧ me τ1 h = some (.ok (f x) h)) : compM (nxL (xs.map ι)) gg mYes me τw FU 0 h = some (xs.map f, h) := by
  obtain ⟨as, h', e2, rfl, rfl⟩ := compL_inv (g := gg) (mt := mYes) (me := me) (τw := τw) (h := h) (ws := xs.map ι) (fun n h' as => h' = h ∧ as = (xs.take n).map f) ⟨rfl, rfl⟩ (fun n w h' as hw i => by
    obtain ⟨rfl, rfl⟩ := i
    obtain ⟨x, ex, rfl⟩ := map_get hw
    obtain ⟨τ1, e1, e2⟩ := hs n x ex
    refine ⟨τ1, e1, .inl ⟨_, _, f x, rfl, e2, rfl, ?_⟩⟩
    rw [List.take_add_one, ex]
    simp) (by rw [List.length_map]; exact hl)
  rw [e2, List.take_of_length_le (by rw [List.length_map]; exact Nat.le_refl _)]
theorem lc2_map {α β : Type} {o : Bool} {mi mi1 : E Nxt} {gg g1 : A → Sl → Hq → Option Sl} {me : E A} {vs vs1 : List Nat} {τ : Sl} {h h1 : Hq} {xs : List α} (ι : α → A) (ys : α → List β) (κ : β → A) (f : α → β → A) (e : mi τ h = some (.ok (nxL (xs.map ι)) h1)) (hl : xs.length ≤ LIM)
    (hl2 : (xs.flatMap fun x => (ys x).map (f x)).length ≤ LIM)
    (hs : ∀ (n : Nat) (x : α), xs[n]? = some x → (ys x).length ≤ LIM ∧ ∃ τ1, gg (ι x) (wipeT τ vs) h1 = some τ1 ∧ mi1 τ1 h1 = some (.ok (nxL ((ys x).map κ)) h1) ∧ ∀ (j : Nat) (y : β), (ys x)[j]? = some y → ∃ τ2, g1 (κ y) (wipeT τ1 vs1) h1 = some τ2 ∧ me τ2 h1 = some (.ok (f x y) h1)) :
    mLC2 o mi gg mYes mi1 g1 mYes me vs vs1 τ h = mkL o (xs.flatMap fun x => (ys x).map (f x)) h1 := by
  unfold mLC2
  rw [e, bd_ok]
  have go : ∀ (j n fu : Nat), xs.length - n = j → n ≤ xs.length → j < fu → compM2 (nxL (xs.map ι)) gg mYes mi1 g1 mYes me (wipeT τ vs) vs1 fu n h1 = some ((xs.drop n).flatMap fun x => (ys x).map (f x), h1) := by
    intro j
    induction j with
    | zero =>
      intro n fu e hn hf
      have : n = xs.length := by omega
      subst this
      obtain ⟨fu, rfl⟩ : ∃ f', fu = f' + 1 := ⟨fu - 1, by omega⟩
      unfold compM2
      rw [show nxL (xs.map ι) xs.length h1 = some none from by unfold nxL; rw [List.getElem?_eq_none (by rw [List.length_map]; exact Nat.le_refl _)]]
      dsimp only
      rw [List.drop_of_length_le (Nat.le_refl _)]
      rfl
    | succ j ih =>
      intro n fu e hn hf
      have hlt : n < xs.length := by omega
      obtain ⟨fu, rfl⟩ : ∃ f', fu = f' + 1 := ⟨fu - 1, by omega⟩
      obtain ⟨hy, τ1, e1, e2, e3⟩ := hs n _ (List.getElem?_eq_getElem hlt)
      unfold compM2
      rw [show nxL (xs.map ι) n h1 = some (some (ι xs[n])) from by unfold nxL; rw [List.getElem?_map, List.getElem?_eq_getElem hlt]; rfl]
      dsimp only
      rw [e1]
      dsimp only [mYes]
      rw [e2]
      dsimp only
      have := comp_map (gg := g1) (me := me) (τw := wipeT τ1 vs1) (h := h1) κ (f xs[n]) hy e3
      rw [this]
      dsimp only
      rw [ih (n + 1) fu (by omega) (by omega) (by omega)]
      dsimp only
      rw [List.drop_eq_getElem_cons hlt, List.flatMap_cons]
  have := go xs.length 0 FU (by omega) (Nat.zero_le _) (by show xs.length < 16777217; have : xs.length ≤ 16777216 := hl; omega)
  rw [this]
  dsimp only
  rw [List.drop_zero, if_pos hl2]
/-! ### sorted by a key, in plain Lean -/
def keyLe {α : Type} (kz : α → Int × List Int) (p q : α) : Bool := decide ((kz p).1 :: (kz p).2 ≤ (kz q).1 :: (kz q).2)
theorem g_sortK {α : Type} {o : Bool} {sem : Sem1} {h : Hq} {xs : List α} (f : α → D) (kz : α → Int × List Int) (hk : ∀ x ∈ xs, keyOf sem (f x) = some (kz x)) : gSortK o sem (.d (.lst (xs.map f))) h = mkL o (((xs.mergeSort (keyLe kz)).map f).map A.d) h := by
  have hm : ∀ (ys : List α), (∀ x ∈ ys, keyOf sem (f x) = some (kz x)) → mapMn (keyOf sem) (ys.map f) = some (ys.map kz) := by
    intro ys
    induction ys with
    | nil => exact fun _ => rfl
    | cons y r ih =>
      intro hy
      rw [List.map_cons]
      unfold mapMn
      rw [hy y (List.mem_cons_self ..), ih fun x hx => hy x (List.mem_cons_of_mem _ hx)]
      rfl
  have eb : byKeyA ((xs.map f).map A.d) (xs.map kz) = ((xs.mergeSort (keyLe kz)).map f).map A.d := by
    unfold byKeyA
    rw [List.map_map, List.map_map, List.zip_map', ← List.map_mergeSort (r := keyLe kz) (fun p _ q _ => by
      show _ = (!PySem.W.dataLt (encI (kz q)) (encI (kz p)))
      unfold encI keyLe
      rw [PySem.W.dataLt_tuple]
      show _ = (!PySem.W.rowLt (((kz q).1 :: (kz q).2).map PyData.int) (((kz p).1 :: (kz p).2).map PyData.int))
      rw [PySem.W.dataLt_ints]
      by_cases z : (kz q).1 :: (kz q).2 < (kz p).1 :: (kz p).2
      · have z' : ¬ (kz p).1 :: (kz p).2 ≤ (kz q).1 :: (kz q).2 := fun r => List.not_lt.mpr r z
        simp [z, z']
      · have z' : (kz p).1 :: (kz p).2 ≤ (kz q).1 :: (kz q).2 := List.not_lt.mp z
        simp [z, z']), List.map_map, List.map_map]
    rfl
  show (match allD ((xs.map f).map A.d) with | some es => (match mapMn (keyOf sem) es with | some kz' => mkL o (byKeyA ((xs.map f).map A.d) kz') h | none => none) | none => none) = _
  rw [allD_map]
  dsimp only
  rw [hm xs hk]
  dsimp only
  rw [eb]
/-! ### C(..), the last parameters by their defaults -/
def mDfl (dD : List D) (mr : E (List A)) : E (List A) := fun τ h => bd (mr τ h) fun ws h1 => some (.ok (ws ++ dD.map A.d) h1)
theorem x_Dfl {dD : List D} {mr : E (List A)} {τ : Sl} {h h1 : Hq} {ws us : List A} (e : mr τ h = some (.ok ws h1)) (q : ws ++ dD.map A.d = us) : mDfl dD mr τ h = some (.ok us h1) := by
  unfold mDfl
  rw [e, bd_ok, q]
structure SrcMD (K : PySem.W.Frag) (C m : Str) (st : Stmt) (ps : List Str) (qual : Str) (dD : List D) : Prop where
  ex : ∃ (ca fa : Addr) (fd : FuncData) (dvs : List V) (ds : List Value), glAt K C = some ca ∧ Cls K ca ∧ Meth K ca m fa ∧ FunD K m qual (defArgs st) (defBody st) (defScope st) dvs [] fa fd ∧ Binds K fd ps [] ∧ Vals dvs ds ∧ Binds K fd ps ds ∧ ∀ B, RpL K B dvs dD
structure DefMD (P : Program) (w : World) (K : PySem.W.Frag) (mg : Str → Option Value) (base : Heap) (k : Nat) (C m : Str) (ps : List Str) (dD : List D) (sem : Sem1) : Prop where
  ex : ∃ (ca fa : Addr) (fd : FuncData) (dvs : List V) (ds : List Value), glAt K C = some ca ∧ Cls K ca ∧ Meth K ca m fa ∧ FnOk P w K mg base (L2.CX P w) k fa fd ps (spQ K ps.length sem) ∧ Binds K fd ps [] ∧ Vals dvs ds ∧ Binds K fd ps ds ∧ ∀ B, RpL K B dvs dD
section
variable {Pr : Program} {w : World} {K : PySem.W.Frag} {mg : Str → Option Value} {base : Heap}
theorem DefMD.toM {k : Nat} {C m : Str} {ps : List Str} {dD : List D} {sem : Sem1} (D : DefMD Pr w K mg base k C m ps dD sem) : DefM Pr w K mg base k C m ps sem := by
  obtain ⟨ca, fa, fd, _, _, h1, h2, h3, h4, h5, _⟩ := D.ex
  exact ⟨ca, fa, fd, h1, h2, h3, h4, h5⟩
theorem fn_trD {x qual : Str} {st : Stmt} {fa : Addr} {fd : FuncData} {N ps : List Str} {k : Nat} {sem : Sem1} {dvs : List V} (m : MS) (F : FunD K x qual (defArgs st) (defBody st) (defScope st) dvs [] fa fd) (Sc : FnScope N ps (defScope st)) (hsem : ∀ ws h r, sem ws h = some r → runB ps.length N.length m ws h = some r)
    (hb : ∀ (cdv : Value) (A : Around) (outer : List Env) (s : Shared) (H : Hp) (Ex : XK), Room k (A.deeper (envOfC qual (defScope st) s.heap.objs.size fa cdv)) →
      Takes (cxOf (L2.CX Pr w) Pr w K mg base N qual (defScope st) fa cdv A outer s H Ex) (fun c d _ H' => Ex c d H') →
      PassesOwn (model Pr w) (cxOf (L2.CX Pr w) Pr w K mg base N qual (defScope st) fa cdv A outer s H Ex).A (cxOf (L2.CX Pr w) Pr w K mg base N qual (defScope st) fa cdv A outer s H Ex).env (cxOf (L2.CX Pr w) Pr w K mg base N qual (defScope st) fa cdv A outer s H Ex).xe →
      RSs (cxOf (L2.CX Pr w) Pr w K mg base N qual (defScope st) fa cdv A outer s H Ex) (fun c d _ H' => Ex c d H') (defBody st) m) : FnOk Pr w K mg base (L2.CX Pr w) (k + 1) fa fd ps (spQ K ps.length sem) := by
  refine F.ok Sc (fun vs H Q Ex h => h.1) (fun cdv A outer s H vs Q Ex hr h => ?_)
  obtain ⟨hl, Z, B, ρ, h0, ws, ok, r, q⟩ := h
  refine ⟨_, (hb cdv A outer s H Ex hr (takes_of rfl rfl rfl rfl) (passes_of rfl)).ps, Z, B, ρ, startT N.length ws, h0, ok, slok_start _ r, ?_⟩
  have q2 : Post K Z Ex B ρ (fun w _ B' ρ' H' => ∀ v, RA K B' ρ' v w → Q v H') (runB ps.length N.length m ws h0) := by
    cases e : sem ws h0 with
    | none => rw [e] at q; exact q.elim
    | some r => rw [e] at q; rw [hsem ws h0 r e]; exact q
  exact runB_post q2
theorem defMD_tr {C mn qual : Str} {st : Stmt} {N ps : List Str} {k : Nat} {sem : Sem1} {dD : List D} (S : SrcMD K C mn st ps qual dD) (Sc : FnScope N ps (defScope st)) (m : MS)
    (hb : ∀ (fa : Addr) (cdv : Value) (A : Around) (outer : List Env) (s : Shared) (H : Hp) (Ex : XK), Room k (A.deeper (envOfC qual (defScope st) s.heap.objs.size fa cdv)) →
      Takes (cxOf (L2.CX Pr w) Pr w K mg base N qual (defScope st) fa cdv A outer s H Ex) (fun c d _ H' => Ex c d H') →
      PassesOwn (model Pr w) (cxOf (L2.CX Pr w) Pr w K mg base N qual (defScope st) fa cdv A outer s H Ex).A (cxOf (L2.CX Pr w) Pr w K mg base N qual (defScope st) fa cdv A outer s H Ex).env (cxOf (L2.CX Pr w) Pr w K mg base N qual (defScope st) fa cdv A outer s H Ex).xe →
      RSs (cxOf (L2.CX Pr w) Pr w K mg base N qual (defScope st) fa cdv A outer s H Ex) (fun c d _ H' => Ex c d H') (defBody st) m)
    (hsem : ∀ ws h r, sem ws h = some r → runB ps.length N.length m ws h = some r := by exact fun _ _ _ h => h) : DefMD Pr w K mg base (k + 1) C mn ps dD sem := by
  obtain ⟨ca, fa, fd, dvs, ds, h1, h2, h3, F, h5, h6, h7, h8⟩ := S.ex
  exact ⟨ca, fa, fd, dvs, ds, h1, h2, h3, fn_trD m F Sc hsem (fun cdv A outer s H Ex hr => hb fa cdv A outer s H Ex hr), h5, h6, h7, h8⟩
/-- one default that is () -/
theorem srcMD_1 {C mn qual : Str} {st : Stmt} {ps : List Str} {ca fa T U : Addr} {oc : Value} {od : Option Addr} {kV doc pm : Value} {an : Option Addr} {cdv ct : Value} {osl : Array (Option Value)} {oT oU : Obj} {nT nU : Nat}
    (h1 : glAt K C = some ca) (h2 : Cls K ca) (h3 : Meth K ca mn fa) (lf : K.lookup fa = some ⟨oc, od, .func (PySem.W.fnOf mn qual (defArgs st) (defBody st) (defScope st) (.ref T) kV doc pm an cdv ct), osl⟩) (hc : PySem.W.codeIn K cdv qual = true) (hk : PySem.W.keepIn K (.ref fa) = true)
    (lT : K.lookup T = some oT) (dT : oT.data = .seq #[.ref U] nT) (lU : K.lookup U = some oU) (cU : oU.cls = .type "tuple") (dU : oU.data = .seq #[] nU)
    (hb0 : ∀ (T : Addr) (kV doc pm : Value) (an : Option Addr) (cdv ct : Value) (us its : List Value), us.length = ps.length → its.length = 1 → ∃ k, bindArgs (PySem.W.fnOf mn qual (defArgs st) (defBody st) (defScope st) (.ref T) kV doc pm an cdv ct) ⟨us, []⟩ = seqItems? (.ref T) >>= k ∧ k (some its.toArray) = pure (ps.zip (us ++ its.drop 1)))
    (hb1 : ∀ (T : Addr) (kV doc pm : Value) (an : Option Addr) (cdv ct : Value) (us its : List Value), us.length = ps.length - 1 → its.length = 1 → ∃ k, bindArgs (PySem.W.fnOf mn qual (defArgs st) (defBody st) (defScope st) (.ref T) kV doc pm an cdv ct) ⟨us, []⟩ = seqItems? (.ref T) >>= k ∧ k (some its.toArray) = pure (ps.zip (us ++ its.drop 0)))
    (hp : 1 ≤ ps.length) : SrcMD K C mn st ps qual [.kt []] := by
  have F : FunD K mn qual (defArgs st) (defBody st) (defScope st) [.ref U] [] fa _ := ⟨⟨oc, od, .ref T, kV, doc, pm, an, cdv, ct, osl, rfl, lf, hc, .inr ⟨by simp, T, oT, [.ref U], nT, rfl, lT, dT, .cons rfl .nil⟩, .inl rfl⟩, hk⟩
  obtain ⟨d0, v0, b0⟩ := F.binds1 (ps := ps) ps.length 1 (by simp) (by simp) hb0
  obtain ⟨d1, v1, b1⟩ := F.binds1 (ps := ps) (ps.length - 1) 0 (by simp) (by simp; omega) hb1
  have : d0 = [] := by cases v0; rfl
  subst this
  exact ⟨ca, fa, _, _, d1, h1, h2, h3, F, b0, v1, b1, fun B => .cons (.kt (.inr ⟨oU, #[], nU, lU, cU, dU, Nat.zero_le _, .nil⟩) .nil) .nil⟩
end
section
variable {X : Cx} {W : WX} {a : Expr} {es : List Expr} {mr : E (List A)} {sem : Sem1} {pos px : Pos} {j k : Nat} {ps : List Str} {dD : List D}
theorem rx_makeD {C : Str} (tk : Takes X W) (hMk : MkC X.K X.mg C) (Df : DefMD X.prog X.w X.K X.mg X.base j C "__init__" ps dD sem) (hr : Room k X.A) (hj : j + 1 ≤ k) (ha : RAs X W (a :: es) mr)
    (hg : Gl X C := by rfl) (hdb : (C == ("__debug__" : Str)) = false := by decide) (he : starEach (a :: es) X.env = (false, eval a X.env) :: starEach es X.env := by rfl) (hpl : (backTo pos (starEach es X.env)).any (·.1) = false := by rfl) :
    RX X W (.Call (.Name C px) (a :: es) [] pos) (mMake C ps.length sem (mDfl dD mr)) := by
  obtain ⟨ca, fa, fd, dvs, dus, c1, c2, c3, F, _, hv, hb, hd⟩ := Df.ex
  obtain ⟨ca', fa', m1, m2, m3, m4⟩ := hMk.ex
  rw [c1] at m1
  cases m1
  have ef : fa' = fa := by
    have := c3.at_
    rw [m4] at this
    cases this
    rfl
  subst ef
  refine ⟨pe_imp (pe_make m3 F (hr.mono hj) hg m2 hb hv passL ha.pa hdb he hpl) fun σ H Q q => ?_⟩
  obtain ⟨Z, B, ρ, τ, h, ok, sl, q⟩ := q
  have q := q.bd
  unfold mDfl at q
  refine te_args ok sl q fun vs ws h1 B1 ρ1 H1 r ok1 sl1 g1 q1 => ?_
  intro x dx hx hdx ne
  have q1 := q1.now ok1
  have r2 : RAL X.K B1 ρ1 (vs ++ dvs) (ws ++ dD.map A.d) := r.append (ral_ds (hd B1))
  split at q1
  · rename_i hl
    obtain ⟨ok2, g2⟩ := ok_new ok1 c1 hx hdx ne
    refine ⟨by rw [List.length_cons, r2.length]; exact hl, Z, B1, _, _, .r h1.length :: (ws ++ dD.map A.d), ok2, .cons (.r (if_pos rfl)) (r2.mono g2), ?_⟩
    split at q1
    · rename_i h2 e2
      rw [e2]
      intro B' ρ' H' ok' g' v rv
      refine ⟨rp_non (ra_d rv), q1 B' ρ' H' ok' (g2.trans g') _ (.r (g'.rr _ _ (if_pos rfl)))⟩
    · exact q1.elim
  · exact q1.elim
theorem rx_makePD {C : Str} (tk : Takes X W) (hMk : MkC X.K X.mg C) (Df : DefMD X.prog X.w X.K X.mg X.base j C "__init__" ps dD sem) (hr : Room k X.A) (hj : j + 1 ≤ k) (ha : RAs X W (a :: es) mr)
    (hg : Gl X C := by rfl) (hdb : (C == ("__debug__" : Str)) = false := by decide) (he : starEach (a :: es) X.env = (false, eval a X.env) :: starEach es X.env := by rfl) (hpl : (backTo pos (starEach es X.env)).any (·.1) = false := by rfl) :
    RX X W (.Call (.Name C px) (a :: es) [] pos) (mMakeP C ps.length sem (mDfl dD mr)) := by
  obtain ⟨ca, fa, fd, dvs, dus, c1, c2, c3, F, _, hv, hb, hd⟩ := Df.ex
  obtain ⟨ca', fa', m1, m2, m3, m4⟩ := hMk.ex
  rw [c1] at m1
  cases m1
  have ef : fa' = fa := by
    have := c3.at_
    rw [m4] at this
    cases this
    rfl
  subst ef
  refine ⟨pe_imp (pe_make m3 F (hr.mono hj) hg m2 hb hv passL ha.pa hdb he hpl) fun σ H Q q => ?_⟩
  obtain ⟨Z, B, ρ, τ, h, ok, sl, q⟩ := q
  have q := q.bd
  unfold mDfl at q
  refine te_args ok sl q fun vs ws h1 B1 ρ1 H1 r ok1 sl1 g1 q1 => ?_
  intro x dx hx hdx ne
  have q1 := q1.now ok1
  have r2 : RAL X.K B1 ρ1 (vs ++ dvs) (ws ++ dD.map A.d) := r.append (ral_ds (hd B1))
  generalize hws : ws ++ dD.map A.d = ws2 at q1 r2
  generalize hvs : vs ++ dvs = vs2 at r2
  unfold makeP at q1
  split at q1
  · rename_i hl
    split at q1
    · rename_i ds e0
      cases allD_of e0
      obtain ⟨ok2, g2⟩ := ok_new ok1.void c1 hx hdx ne
      refine ⟨by rw [List.length_cons, r2.length]; exact hl, H1, B1, _, _, .r 0 :: ds.map A.d, ok2, .cons (.r (if_pos rfl)) (ral_ds (ral_rpl r2)), ?_⟩
      split at q1
      · rename_i h2 e2
        have e2' : sem (.r 0 :: ds.map A.d) ([] ++ [.nd (.ins C []) []]) = some (.ok (.d .non) h2) := e2
        rw [e2']
        intro B' ρ' H' ok' g' v rv
        refine ⟨rp_non (ra_d rv), ?_⟩
        split at q1
        · rename_i d e3
          obtain ⟨B2, o2, g3, see⟩ := ok1.backP ok' (g2.trans g')
          exact q1 B2 ρ1 H' o2 g3 _ (.d (see _ _ d (.r (g'.rr _ _ (if_pos rfl))) e3))
        · exact q1.elim
      · exact q1.elim
    · exact q1.elim
  · exact q1.elim
end
/-! ### a heap behind another one -/
section
variable {h0 t t' : Hq} {o o' : O} {k j : Nat} {ws : List A}
theorem hp_getz (hk : h0.length = k) : (h0 ++ (o :: t))[k]? = some o := by
  subst hk
  rw [List.getElem?_append_right (Nat.le_refl _), Nat.sub_self]
  rfl
theorem hp_get (hk : h0.length = k) (e : t[j]? = some o) : (h0 ++ t)[k + j]? = some o := by
  subst hk
  rw [List.getElem?_append_right (by omega), show h0.length + j - h0.length = j by omega, e]
theorem hp_setz (hk : h0.length = k) : (h0 ++ (o :: t)).set k o' = h0 ++ (o' :: t) := by
  subst hk
  rw [List.set_append_right _ _ (Nat.le_refl _), Nat.sub_self]
  rfl
theorem hp_set (hk : h0.length = k) (e : t.set j o = t') : (h0 ++ t).set (k + j) o = h0 ++ t' := by
  subst hk
  rw [List.set_append_right _ _ (by omega), show h0.length + j - h0.length = j by omega, e]
theorem x_mkH (hk : h0.length = k) (hl : ws.length ≤ LIM) (n : t.length = j) : mkL true ws (h0 ++ t) = some (.ok (.r (k + j)) (h0 ++ (t ++ [.lst ws]))) := by
  rw [x_mkC hl, List.length_append, hk, n, List.append_assoc]
theorem x_mkH1 {o0 : O} (hk : h0.length = k) (hl : ws.length ≤ LIM) : mkL true ws (h0 ++ [o0]) = some (.ok (.r (k + 1)) (h0 ++ [o0, .lst ws])) := x_mkH (t := [o0]) hk hl rfl
theorem x_mkH2 {o0 o1 : O} (hk : h0.length = k) (hl : ws.length ≤ LIM) : mkL true ws (h0 ++ [o0, o1]) = some (.ok (.r (k + 2)) (h0 ++ [o0, o1, .lst ws])) := x_mkH (t := [o0, o1]) hk hl rfl
theorem x_mkH3 {o0 o1 o2 : O} (hk : h0.length = k) (hl : ws.length ≤ LIM) : mkL true ws (h0 ++ [o0, o1, o2]) = some (.ok (.r (k + 3)) (h0 ++ [o0, o1, o2, .lst ws])) := x_mkH (t := [o0, o1, o2]) hk hl rfl
theorem x_mkH4 {o0 o1 o2 o3 : O} (hk : h0.length = k) (hl : ws.length ≤ LIM) : mkL true ws (h0 ++ [o0, o1, o2, o3]) = some (.ok (.r (k + 4)) (h0 ++ [o0, o1, o2, o3, .lst ws])) := x_mkH (t := [o0, o1, o2, o3]) hk hl rfl
theorem x_mkH5 {o0 o1 o2 o3 o4 : O} (hk : h0.length = k) (hl : ws.length ≤ LIM) : mkL true ws (h0 ++ [o0, o1, o2, o3, o4]) = some (.ok (.r (k + 5)) (h0 ++ [o0, o1, o2, o3, o4, .lst ws])) := x_mkH (t := [o0, o1, o2, o3, o4]) hk hl rfl
theorem x_mkH6 {o0 o1 o2 o3 o4 o5 : O} (hk : h0.length = k) (hl : ws.length ≤ LIM) : mkL true ws (h0 ++ [o0, o1, o2, o3, o4, o5]) = some (.ok (.r (k + 6)) (h0 ++ [o0, o1, o2, o3, o4, o5, .lst ws])) := x_mkH (t := [o0, o1, o2, o3, o4, o5]) hk hl rfl
theorem x_mkH7 {o0 o1 o2 o3 o4 o5 o6 : O} (hk : h0.length = k) (hl : ws.length ≤ LIM) : mkL true ws (h0 ++ [o0, o1, o2, o3, o4, o5, o6]) = some (.ok (.r (k + 7)) (h0 ++ [o0, o1, o2, o3, o4, o5, o6, .lst ws])) := x_mkH (t := [o0, o1, o2, o3, o4, o5, o6]) hk hl rfl
theorem x_mkH8 {o0 o1 o2 o3 o4 o5 o6 o7 : O} (hk : h0.length = k) (hl : ws.length ≤ LIM) : mkL true ws (h0 ++ [o0, o1, o2, o3, o4, o5, o6, o7]) = some (.ok (.r (k + 8)) (h0 ++ [o0, o1, o2, o3, o4, o5, o6, o7, .lst ws])) := x_mkH (t := [o0, o1, o2, o3, o4, o5, o6, o7]) hk hl rfl
end
end Tq

namespace KK
open PySem PySem.Spec PyProof.Rows L2 Tq
def topS (i : Nat) : Stmt := PySem.Challenge.pw_kithwhole_k04_heard_lists_fit.main.body.getD i (.Pass ⟨0, 0, 0, 0⟩)
def FT : FTab := [("Change", ["author", "number", "heard", "capability", "publics", "parts"]), ("Kept", ["acts", "sums", "texts", "shares"]), ("Store", ["members", "cut", "capabilities", "kept", "changes"])]
/-! ### _law_mix: 0=cell 1=k 2=value -/
abbrev s__law_mix : Stmt := topS 15
theorem sc__law_mix : FnScope ["cell", "k", "value"] ["cell", "k"] (defScope s__law_mix) := ⟨rfl, rfl, rfl, by decide +kernel, rfl, by decide +kernel, by decide +kernel⟩
def b__law_mix : MS :=
 (mSeq (mSet 2 (mBin gMod (mUn gInt (mBin (gAdd false) (mBin (gAdd false) (mBin gMul (mUn gInt (mVar 0)) (mC (.int 48271))) (mBin gMul (mVar 1) (mC (.int 69621)))) (mC (.int 12345)))) (mC (.int 2147483647))))
 (mSeq (mSet 2 (mBin gMod (mUn gInt (mBin (gAdd false) (mBin (gAdd false) (mBin gMul (mVar 2) (mVar 2)) (mBin gMul (mVar 1) (mC (.int 40692)))) (mC (.int 1)))) (mC (.int 2147483399))))
 (mRet (mBin gMod (mBin gDiv (mVar 2) (mC (.int 5))) (mC (.int 9973))))))
def sem__law_mix : Sem1 := runB 2 3 b__law_mix
/-! ### _law_draws: 0=script 1=draws 2=k 3=cell 4=place -/
abbrev s__law_draws : Stmt := topS 16
theorem sc__law_draws : FnScope ["script", "draws", "k", "cell", "place"] ["script"] (defScope s__law_draws) := ⟨rfl, rfl, rfl, by decide +kernel, rfl, by decide +kernel, by decide +kernel⟩
def B1__law_draws : MS :=
 (mIf (mTB (mBin gGt (mVar 3) (mC (.int 0)))) (mSeq (mDrop (mM1 tokL gApp (mVar 1) (mBin gMod (mUn gInt (mVar 3)) (mC (.int 9973)))))
 (mSet 3 (mBin gDiv (mVar 3) (mC (.int 9973))))) mNx)
def L1__law_draws : MS :=
 (mFor (mRange1 (mC (.int 60))) (mgName 4) B1__law_draws)
def B2__law_draws : MS :=
 (mSeq (mSet 3 (mUn gInt (mBin gGet (mVar 0) (mVar 2))))
 (mIf (mTB (mBin gLt (mVar 3) (mBin gPow (mC (.int 10)) (mC (.int 18))))) (mDrop (mM1 tokL gApp (mVar 1) (mCallP sem__law_mix (lenIs 2 (maCons (mVar 3) (maCons (mVar 2) maNil)))))) L1__law_draws))
def L2__law_draws : MS :=
 (mFor (mRange1 (mBin gMin2 (mC (.int 63)) (mUn gLen (mVar 0)))) (mgName 2) B2__law_draws)
def b__law_draws : MS :=
 (mSeq (mSet 1 (mLst true maNil))
 (mSeq L2__law_draws
 (mRet (mVar 1))))
def sem__law_draws : Sem1 := runB 1 5 b__law_draws
/-! ### _law_at: 0=draws 1=index -/
abbrev s__law_at : Stmt := topS 17
theorem sc__law_at : FnScope ["draws", "index"] ["draws", "index"] (defScope s__law_at) := ⟨rfl, rfl, rfl, by decide +kernel, rfl, by decide +kernel, by decide +kernel⟩
def b__law_at : MS :=
 (mSeq (mIf (mTB (mBin gLt (mVar 1) (mUn gLen (mVar 0)))) (mRet (mBin gGet (mVar 0) (mVar 1))) mNx)
 (mSeq (mIf (mTB (mBin (gEq false) (mUn gLen (mVar 0)) (mC (.int 0)))) (mRet (mCallP sem__law_mix (lenIs 2 (maCons (mVar 1) (maCons (mC (.int 77)) maNil))))) mNx)
 (mRet (mCallP sem__law_mix (lenIs 2 (maCons (mBin (gAdd false) (mBin gGet (mVar 0) (mBin gMod (mUn gInt (mVar 1)) (mUn gLen (mVar 0)))) (mBin gMul (mVar 1) (mC (.int 131)))) (maCons (mVar 1) maNil)))))))
def sem__law_at : Sem1 := runB 2 2 b__law_at
/-! ### _law_told: 0=draws 1=members 2=seen 3=k 4=j 5=rows 6=author 7=partner -/
abbrev s__law_told : Stmt := topS 18
theorem sc__law_told : FnScope ["draws", "members", "seen", "k", "j", "rows", "author", "partner"] ["draws"] (defScope s__law_told) := ⟨rfl, rfl, rfl, by decide +kernel, rfl, by decide +kernel, by decide +kernel⟩
def E1__law_told : E Tq.A :=
 (mC (.int 0))
def C1__law_told : E Tq.A :=
 (mLC true (mRange1 (mVar 1)) (mgName 4) mYes E1__law_told [4])
def B1__law_told : MS :=
 (mDrop (mM1 tokL gApp (mVar 2) C1__law_told))
def L1__law_told : MS :=
 (mFor (mRange1 (mVar 1)) (mgName 3) B1__law_told)
def E2__law_told : E Tq.A :=
 (mBin gMax2 (mBin gGet (mBin gGet (mVar 2) (mVar 6)) (mVar 4)) (mBin gGet (mBin gGet (mVar 2) (mVar 7)) (mVar 4)))
def C2__law_told : E Tq.A :=
 (mLC true (mRange1 (mVar 1)) (mgName 4) mYes E2__law_told [4])
def B2__law_told : MS :=
 (mSeq (mSet 6 (mBin gMod (mCallP sem__law_at (lenIs 2 (maCons (mVar 0) (maCons (mBin (gAdd false) (mC (.int 10)) (mBin gMul (mC (.int 3)) (mVar 3))) maNil)))) (mVar 1)))
 (mSeq (mSet 7 (mBin gMod (mCallP sem__law_at (lenIs 2 (maCons (mVar 0) (maCons (mBin (gAdd false) (mC (.int 11)) (mBin gMul (mC (.int 3)) (mVar 3))) maNil)))) (mBin gMul (mC (.int 2)) (mVar 1))))
 (mSeq (mIf (mTB (mBin gLt (mVar 7) (mVar 1))) (mSetI true (mVar 2) (mVar 6) C2__law_told) mNx)
 (mSeq (mDrop (mM1 tokL gApp (mVar 5) (mLst true (maCons (mVar 6) (maCons (mBin (gAdd true) (mBin gGet (mBin gGet (mVar 2) (mVar 6)) (mVar 6)) (mC (.int 1))) (maCons (mUn (gLstOf true) (mBin gGet (mVar 2) (mVar 6))) maNil))))))
 (mSetI true (mBin gGet (mVar 2) (mVar 6)) (mVar 6) (mBin (gAdd false) (mBin gGet (mBin gGet (mVar 2) (mVar 6)) (mVar 6)) (mC (.int 1))))))))
def L2__law_told : MS :=
 (mFor (mRange1 (mBin gMod (mCallP sem__law_at (lenIs 2 (maCons (mVar 0) (maCons (mC (.int 1)) maNil)))) (mC (.int 13)))) (mgName 3) B2__law_told)
def b__law_told : MS :=
 (mSeq (mSet 1 (mBin (gAdd false) (mC (.int 1)) (mBin gMod (mBin gMod (mCallP sem__law_at (lenIs 2 (maCons (mVar 0) (maCons (mC (.int 0)) maNil)))) (mC (.int 8))) (mC (.int 6)))))
 (mSeq (mSet 2 (mLst true maNil))
 (mSeq L1__law_told
 (mSeq (mSet 5 (mLst true maNil))
 (mSeq L2__law_told
 (mRet (mLst true (maCons (mVar 1) (maCons (mVar 5) maNil)))))))))
def sem__law_told : Sem1 := runB 1 8 b__law_told
/-! ### _law_cut: 0=draws 1=members 2=rows 3=k 4=row 5=cut -/
abbrev s__law_cut : Stmt := topS 19
theorem sc__law_cut : FnScope ["draws", "members", "rows", "k", "row", "cut"] ["draws", "members", "rows"] (defScope s__law_cut) := ⟨rfl, rfl, rfl, by decide +kernel, rfl, by decide +kernel, by decide +kernel⟩
def E1__law_cut : E Tq.A :=
 (mC (.int 0))
def C1__law_cut : E Tq.A :=
 (mLC true (mRange1 (mVar 1)) (mgName 3) mYes E1__law_cut [3])
def b__law_cut : MS :=
 (mSeq (mIf (mOrT (mTB (mBin (gEq false) (mUn gLen (mVar 2)) (mC (.int 0)))) (mTB (mBin (gEq true) (mBin gMod (mCallP sem__law_at (lenIs 2 (maCons (mVar 0) (maCons (mC (.int 2)) maNil)))) (mC (.int 3))) (mC (.int 2))))) (mRet C1__law_cut) mNx)
 (mSeq (mSet 4 (mBin gGet (mVar 2) (mBin gMod (mCallP sem__law_at (lenIs 2 (maCons (mVar 0) (maCons (mC (.int 3)) maNil)))) (mUn gLen (mVar 2)))))
 (mSeq (mSet 5 (mUn (gLstOf true) (mBin gGet (mVar 4) (mC (.int 2)))))
 (mSeq (mSetI true (mVar 5) (mBin gGet (mVar 4) (mC (.int 0))) (mBin (gAdd false) (mBin gGet (mVar 5) (mBin gGet (mVar 4) (mC (.int 0)))) (mBin gMod (mCallP sem__law_at (lenIs 2 (maCons (mVar 0) (maCons (mC (.int 4)) maNil)))) (mC (.int 2)))))
 (mRet (mVar 5))))))
def sem__law_cut : Sem1 := runB 3 6 b__law_cut
/-! ### _law_spoil: 0=draws 1=base 2=members 3=rows 4=fault 5=row 6=member 7=k -/
abbrev s__law_spoil : Stmt := topS 20
theorem sc__law_spoil : FnScope ["draws", "base", "members", "rows", "fault", "row", "member", "k"] ["draws", "base", "members", "rows"] (defScope s__law_spoil) := ⟨rfl, rfl, rfl, by decide +kernel, rfl, by decide +kernel, by decide +kernel⟩
def B1__law_spoil : MS :=
 (mDrop (mM0 tokL gPop (mBin gGet (mVar 5) (mC (.int 2)))))
def L1__law_spoil : MS :=
 (mFor (mRange1 (mBin gMin2 (mVar 2) (mBin (gAdd false) (mC (.int 1)) (mBin gMod (mCallP sem__law_at (lenIs 2 (maCons (mVar 0) (maCons (mBin (gAdd false) (mVar 1) (mC (.int 3))) maNil)))) (mC (.int 2)))))) (mgName 7) B1__law_spoil)
def b__law_spoil : MS :=
 (mSeq (mSet 4 (mBin gMod (mCallP sem__law_at (lenIs 2 (maCons (mVar 0) (maCons (mVar 1) maNil)))) (mC (.int 7))))
 (mSeq (mIf (mOrT (mTB (mBin (gEq false) (mUn gLen (mVar 3)) (mC (.int 0)))) (mTB (mBin (gEq false) (mVar 4) (mC (.int 0))))) mRetN mNx)
 (mSeq (mSet 5 (mBin gGet (mVar 3) (mBin gMod (mCallP sem__law_at (lenIs 2 (maCons (mVar 0) (maCons (mBin (gAdd false) (mVar 1) (mC (.int 1))) maNil)))) (mUn gLen (mVar 3)))))
 (mSeq (mSet 6 (mBin gMod (mCallP sem__law_at (lenIs 2 (maCons (mVar 0) (maCons (mBin (gAdd false) (mVar 1) (mC (.int 2))) maNil)))) (mVar 2)))
 (mSeq (mIf (mTB (mBin (gEq true) (mUn gLen (mBin gGet (mVar 5) (mC (.int 2)))) (mVar 2))) mRetN mNx)
 (mSeq (mIf (mTB (mBin (gEq false) (mVar 4) (mC (.int 1)))) (mDrop (mM1 tokL gExt (mBin gGet (mVar 5) (mC (.int 2))) (mSl false (mLst false (maCons (mBin gMod (mCallP sem__law_at (lenIs 2 (maCons (mVar 0) (maCons (mBin (gAdd false) (mVar 1) (mC (.int 3))) maNil)))) (mC (.int 3))) (maCons (mC (.int 2)) maNil))) moN (moS (mBin (gAdd false) (mC (.int 1)) (mBin gMod (mBin gDiv (mCallP sem__law_at (lenIs 2 (maCons (mVar 0) (maCons (mBin (gAdd false) (mVar 1) (mC (.int 3))) maNil)))) (mC (.int 3))) (mC (.int 2)))))))) mNx)
 (mSeq (mIf (mTB (mBin (gEq false) (mVar 4) (mC (.int 2)))) L1__law_spoil mNx)
 (mSeq (mIf (mTB (mBin (gEq false) (mVar 4) (mC (.int 3)))) (mSetI true (mBin gGet (mVar 5) (mC (.int 2))) (mBin gGet (mVar 5) (mC (.int 0))) (mBin gMax2 (mC (.int 0)) (mBin gSub (mBin (gAdd false) (mBin gGet (mBin gGet (mVar 5) (mC (.int 2))) (mBin gGet (mVar 5) (mC (.int 0)))) (mC (.int 1))) (mBin gMul (mC (.int 2)) (mBin gMod (mCallP sem__law_at (lenIs 2 (maCons (mVar 0) (maCons (mBin (gAdd false) (mVar 1) (mC (.int 3))) maNil)))) (mC (.int 2))))))) mNx)
 (mSeq (mIf (mTB (mBin (gEq false) (mVar 4) (mC (.int 4)))) (mSetI true (mBin gGet (mVar 5) (mC (.int 2))) (mVar 6) (mBin (gAdd false) (mUn gLen (mVar 3)) (mBin gMod (mCallP sem__law_at (lenIs 2 (maCons (mVar 0) (maCons (mBin (gAdd false) (mVar 1) (mC (.int 3))) maNil)))) (mC (.int 3))))) mNx)
 (mSeq (mIf (mTB (mBin (gEq false) (mVar 4) (mC (.int 5)))) (mSetI true (mBin gGet (mVar 5) (mC (.int 2))) (mVar 6) (mBin gMax2 (mC (.int 0)) (mBin gSub (mBin gGet (mBin gGet (mVar 5) (mC (.int 2))) (mVar 6)) (mC (.int 1))))) mNx)
 (mIf (mTB (mBin (gEq false) (mVar 4) (mC (.int 6)))) (mSetI true (mBin gGet (mVar 5) (mC (.int 2))) (mVar 6) (mBin (gAdd false) (mBin gGet (mBin gGet (mVar 5) (mC (.int 2))) (mVar 6)) (mC (.int 1)))) mNx)))))))))))
def sem__law_spoil : Sem1 := runB 4 8 b__law_spoil
/-! ### Kept.__init__: 0=self 1=acts 2=sums 3=texts 4=shares 5=spot 6=act 7=cell 8=total 9=mark 10=char 11=characters 12=share -/
abbrev s_Kept____init__ : Stmt := inClass (topS 8) 0
theorem sc_Kept____init__ : FnScope ["self", "acts", "sums", "texts", "shares", "spot", "act", "cell", "total", "mark", "char", "characters", "share"] ["self", "acts", "sums", "texts", "shares"] (defScope s_Kept____init__) := ⟨rfl, rfl, rfl, by decide +kernel, rfl, by decide +kernel, by decide +kernel⟩
def E1_Kept____init__ : E Tq.A :=
 (mTup (maCons (mVar 5) (maCons (mVar 6) maNil)))
def C1_Kept____init__ : E Tq.A :=
 (mLC false (mItems (mVar 1)) (mgTup 2 (mgCons (mgName 5) (mgCons (mgName 6) mgNil))) mYes E1_Kept____init__ [5, 6])
def E2_Kept____init__ : E Tq.A :=
 (mTup (maCons (mVar 7) (maCons (mVar 8) maNil)))
def C2_Kept____init__ : E Tq.A :=
 (mLC false (mItems (mVar 2)) (mgTup 2 (mgCons (mgName 7) (mgCons (mgName 8) mgNil))) mYes E2_Kept____init__ [7, 8])
def E3_Kept____init__ : E Tq.A :=
 (mTup (maCons (mVar 9) (maCons (mVar 10) maNil)))
def C3_Kept____init__ : E Tq.A :=
 (mLC false (mItems (mVar 11)) (mgTup 2 (mgCons (mgName 9) (mgCons (mgName 10) mgNil))) mYes E3_Kept____init__ [9, 10])
def E4_Kept____init__ : E Tq.A :=
 (mTup (maCons (mVar 7) (maCons C3_Kept____init__ maNil)))
def C4_Kept____init__ : E Tq.A :=
 (mLC false (mItems (mVar 3)) (mgTup 2 (mgCons (mgName 7) (mgCons (mgName 11) mgNil))) mYes E4_Kept____init__ [7, 11])
def E5_Kept____init__ : E Tq.A :=
 (mTup (maCons (mVar 7) (maCons (mVar 12) maNil)))
def C5_Kept____init__ : E Tq.A :=
 (mLC false (mItems (mVar 4)) (mgTup 2 (mgCons (mgName 7) (mgCons (mgName 12) mgNil))) mYes E5_Kept____init__ [7, 12])
def b_Kept____init__ : MS :=
 (mSeq (mSetF FT "acts" (mVar 0) C1_Kept____init__)
 (mSeq (mSetF FT "sums" (mVar 0) C2_Kept____init__)
 (mSeq (mSetF FT "texts" (mVar 0) C4_Kept____init__)
 (mSetF FT "shares" (mVar 0) C5_Kept____init__))))
def sem_Kept____init__ : Sem1 := runB 5 13 b_Kept____init__
/-! ### Store.__init__: 0=self 1=members 2=_ -/
abbrev s_Store____init__ : Stmt := inClass (topS 9) 0
theorem sc_Store____init__ : FnScope ["self", "members", "_"] ["self", "members"] (defScope s_Store____init__) := ⟨rfl, rfl, rfl, by decide +kernel, rfl, by decide +kernel, by decide +kernel⟩
def E1_Store____init__ : E Tq.A :=
 (mC (.int 0))
def C1_Store____init__ : E Tq.A :=
 (mLC true (mRange1 (mVar 1)) (mgName 2) mYes E1_Store____init__ [2])
def E2_Store____init__ : E Tq.A :=
 (mMakeP "Kept" 5 sem_Kept____init__ (mDfl [.kt []] (maCons (mLst false maNil) (maCons (mLst false maNil) (maCons (mLst false maNil) maNil)))))
def C2_Store____init__ : E Tq.A :=
 (mLC true (mRange1 (mC (.int 4))) (mgName 2) mYes E2_Store____init__ [2])
def E3_Store____init__ : E Tq.A :=
 (mLst true maNil)
def C3_Store____init__ : E Tq.A :=
 (mLC true (mRange1 (mVar 1)) (mgName 2) mYes E3_Store____init__ [2])
def b_Store____init__ : MS :=
 (mSeq (mSetF FT "members" (mVar 0) (mVar 1))
 (mSeq (mSetF FT "cut" (mVar 0) C1_Store____init__)
 (mSeq (mSetF FT "capabilities" (mVar 0) (mLst true maNil))
 (mSeq (mSetF FT "kept" (mVar 0) C2_Store____init__)
 (mSetF FT "changes" (mVar 0) C3_Store____init__)))))
def sem_Store____init__ : Sem1 := runB 2 3 b_Store____init__
/-! ### Kept.data: 0=self 1=texts 2=cell 3=characters -/
abbrev s_Kept__data : Stmt := inClass (topS 8) 1
theorem sc_Kept__data : FnScope ["self", "texts", "cell", "characters"] ["self"] (defScope s_Kept__data) := ⟨rfl, rfl, rfl, by decide +kernel, rfl, by decide +kernel, by decide +kernel⟩
def E1_Kept__data : E Tq.A :=
 (mTup (maCons (mVar 2) (maCons (mUn gTupOf (mVar 3)) maNil)))
def C1_Kept__data : E Tq.A :=
 (mLC false (mItems (mUn (gFld FT "texts") (mVar 0))) (mgTup 2 (mgCons (mgName 2) (mgCons (mgName 3) mgNil))) mYes E1_Kept__data [2, 3])
def b_Kept__data : MS :=
 (mSeq (mSet 1 C1_Kept__data)
 (mRet (mTup (maCons (mUn gTupOf (mUn (gFld FT "acts") (mVar 0))) (maCons (mUn gTupOf (mUn (gFld FT "sums") (mVar 0))) (maCons (mUn gTupOf (mVar 1)) (maCons (mUn gTupOf (mUn (gFld FT "shares") (mVar 0))) maNil)))))))
def sem_Kept__data : Sem1 := runB 1 4 b_Kept__data
/-! ### _kept_data: 0=kept -/
abbrev s__kept_data : Stmt := topS 10
theorem sc__kept_data : FnScope ["kept"] ["kept"] (defScope s__kept_data) := ⟨rfl, rfl, rfl, by decide +kernel, rfl, by decide +kernel, by decide +kernel⟩
def b__kept_data : MS :=
 (mSeq (mIf (mTB (mBin (gIs false) (mVar 0) (mC .non))) (mRet (mC .non)) mNx)
 (mRet (mMethP "Kept" "data" 1 sem_Kept__data (mVar 0) maNil)))
def sem__kept_data : Sem1 := runB 1 1 b__kept_data
/-! ### Change.header: 0=self -/
abbrev s_Change__header : Stmt := inClass (topS 3) 2
theorem sc_Change__header : FnScope ["self"] ["self"] (defScope s_Change__header) := ⟨rfl, rfl, rfl, by decide +kernel, rfl, by decide +kernel, by decide +kernel⟩
def b_Change__header : MS :=
 (mRet (mTup (maCons (mUn (gFld FT "author") (mVar 0)) (maCons (mUn (gFld FT "number") (mVar 0)) (maCons (mUn (gFld FT "heard") (mVar 0)) (maCons (mUn (gFld FT "capability") (mVar 0)) (maCons (mUn (gFld FT "publics") (mVar 0)) maNil)))))))
def sem_Change__header : Sem1 := runB 1 1 b_Change__header
/-! ### Store.data: 0=self 1=kept 2=each 3=changes 4=change -/
abbrev s_Store__data : Stmt := inClass (topS 9) 8
theorem sc_Store__data : FnScope ["self", "kept", "each", "changes", "change"] ["self"] (defScope s_Store__data) := ⟨rfl, rfl, rfl, by decide +kernel, rfl, by decide +kernel, by decide +kernel⟩
def E1_Store__data : E Tq.A :=
 (mCallP sem__kept_data (lenIs 1 (maCons (mVar 2) maNil)))
def C1_Store__data : E Tq.A :=
 (mLC false (mItems (mUn (gFld FT "kept") (mVar 0))) (mgName 2) mYes E1_Store__data [2])
def E2_Store__data : E Tq.A :=
 (mBin (gAdd false) (mMethP "Change" "header" 1 sem_Change__header (mVar 4) maNil) (mTup (maCons (mUn (gFld FT "parts") (mVar 4)) maNil)))
def C2_Store__data : E Tq.A :=
 (mLC false (mItems (mVar 2)) (mgName 4) mYes E2_Store__data [4])
def E3_Store__data : E Tq.A :=
 (mUn gTupOf C2_Store__data)
def C3_Store__data : E Tq.A :=
 (mLC false (mItems (mUn (gFld FT "changes") (mVar 0))) (mgName 2) mYes E3_Store__data [2])
def b_Store__data : MS :=
 (mSeq (mSet 1 C1_Store__data)
 (mSeq (mSet 3 C3_Store__data)
 (mRet (mTup (maCons (mUn gTupOf (mUn (gFld FT "cut") (mVar 0))) (maCons (mUn gTupOf (mUn (gFld FT "capabilities") (mVar 0))) (maCons (mUn gTupOf (mVar 1)) (maCons (mUn gTupOf (mVar 3)) maNil))))))))
def sem_Store__data : Sem1 := runB 1 5 b_Store__data
/-! ### order_key: 0=change -/
abbrev s_order_key : Stmt := topS 4
theorem sc_order_key : FnScope ["change"] ["change"] (defScope s_order_key) := ⟨rfl, rfl, rfl, by decide +kernel, rfl, by decide +kernel, by decide +kernel⟩
def b_order_key : MS :=
 (mRet (mTup (maCons (mUn gSum (mUn (gFld FT "heard") (mVar 0))) (maCons (mUn (gFld FT "author") (mVar 0)) (maCons (mUn (gFld FT "number") (mVar 0)) maNil)))))
def sem_order_key : Sem1 := runB 1 1 b_order_key
/-! ### in_order: 0=changes -/
abbrev s_in_order : Stmt := topS 5
theorem sc_in_order : FnScope ["changes"] ["changes"] (defScope s_in_order) := ⟨rfl, rfl, rfl, by decide +kernel, rfl, by decide +kernel, by decide +kernel⟩
def b_in_order : MS :=
 (mRet (mUn (gSortK false sem_order_key) (mVar 0)))
def sem_in_order : Sem1 := runB 1 1 b_in_order
/-! ### Store.all_changes: 0=self 1=changes 2=change -/
abbrev s_Store__all_changes : Stmt := inClass (topS 9) 5
theorem sc_Store__all_changes : FnScope ["self", "changes", "change"] ["self"] (defScope s_Store__all_changes) := ⟨rfl, rfl, rfl, by decide +kernel, rfl, by decide +kernel, by decide +kernel⟩
def E1_Store__all_changes : E Tq.A :=
 (mVar 2)
def C1_Store__all_changes : E Tq.A :=
 (mLC2 false (mItems (mUn (gFld FT "changes") (mVar 0))) (mgName 1) mYes (mItems (mVar 1)) (mgName 2) mYes E1_Store__all_changes [1, 2] [2])
def b_Store__all_changes : MS :=
 (mRet (mCallP sem_in_order (lenIs 1 (maCons C1_Store__all_changes maNil))))
def sem_Store__all_changes : Sem1 := runB 1 3 b_Store__all_changes
/-! ### Store.find: 0=self 1=name 2=author 3=number 4=index -/
abbrev s_Store__find : Stmt := inClass (topS 9) 3
theorem sc_Store__find : FnScope ["self", "name", "author", "number", "index"] ["self", "name"] (defScope s_Store__find) := ⟨rfl, rfl, rfl, by decide +kernel, rfl, by decide +kernel, by decide +kernel⟩
def b_Store__find : MS :=
 (mSeq (mAsg (mgTup 2 (mgCons (mgName 2) (mgCons (mgName 3) mgNil))) (mVar 1))
 (mSeq (mIf (mNotT (mTB (mChain gLe gLt (mC (.int 0)) (mVar 2) (mUn (gFld FT "members") (mVar 0))))) (mRet (mC .non)) mNx)
 (mSeq (mSet 4 (mBin gSub (mBin gSub (mVar 3) (mBin gGet (mUn (gFld FT "cut") (mVar 0)) (mVar 2))) (mC (.int 1))))
 (mSeq (mIf (mTB (mChain gLe gLt (mC (.int 0)) (mVar 4) (mUn gLen (mBin gGet (mUn (gFld FT "changes") (mVar 0)) (mVar 2))))) (mRet (mBin gGet (mBin gGet (mUn (gFld FT "changes") (mVar 0)) (mVar 2)) (mVar 4))) mNx)
 (mRet (mC .non))))))
def sem_Store__find : Sem1 := runB 2 5 b_Store__find
/-! ### Store.count: 0=self 1=member -/
abbrev s_Store__count : Stmt := inClass (topS 9) 1
theorem sc_Store__count : FnScope ["self", "member"] ["self", "member"] (defScope s_Store__count) := ⟨rfl, rfl, rfl, by decide +kernel, rfl, by decide +kernel, by decide +kernel⟩
def b_Store__count : MS :=
 (mRet (mBin (gAdd false) (mBin gGet (mUn (gFld FT "cut") (mVar 0)) (mVar 1)) (mUn gLen (mBin gGet (mUn (gFld FT "changes") (mVar 0)) (mVar 1)))))
def sem_Store__count : Sem1 := runB 2 2 b_Store__count
/-! ### _covers: 0=change 1=last 2=member -/
abbrev s__covers : Stmt := topS 11
theorem sc__covers : FnScope ["change", "last", "member"] ["change", "last"] (defScope s__covers) := ⟨rfl, rfl, rfl, by decide +kernel, rfl, by decide +kernel, by decide +kernel⟩
def B1__covers : MS :=
 (mIf (mTB (mBin (gOrdO .Gt) (mBin gGet (mUn (gFld FT "heard") (mVar 1)) (mVar 2)) (mBin gGet (mUn (gFld FT "heard") (mVar 0)) (mVar 2)))) (mRet (mC (.bl false))) mNx)
def L1__covers : MS :=
 (mFor (mRange1 (mUn gLen (mUn (gFld FT "heard") (mVar 0)))) (mgName 2) B1__covers)
def b__covers : MS :=
 (mSeq (mIf (mTB (mBin (gEq true) (mUn gLen (mUn (gFld FT "heard") (mVar 1))) (mUn gLen (mUn (gFld FT "heard") (mVar 0))))) (mRet (mC (.bl false))) mNx)
 (mSeq L1__covers
 (mRet (mC (.bl true)))))
def sem__covers : Sem1 := runB 2 3 b__covers
/-! ### _is_sound: 0=store 1=change 2=member 3=last -/
abbrev s__is_sound : Stmt := topS 12
theorem sc__is_sound : FnScope ["store", "change", "member", "last"] ["store", "change"] (defScope s__is_sound) := ⟨rfl, rfl, rfl, by decide +kernel, rfl, by decide +kernel, by decide +kernel⟩
def B1__is_sound : MS :=
 (mSeq (mIf (mTB (mBin (gOrdO .Gt) (mBin gGet (mUn (gFld FT "heard") (mVar 1)) (mVar 2)) (mMeth "Store" "count" 2 sem_Store__count (mVar 0) (maCons (mVar 2) maNil)))) (mRet (mC (.bl false))) mNx)
 (mSeq (mSet 3 (mMeth "Store" "find" 2 sem_Store__find (mVar 0) (maCons (mTup (maCons (mVar 2) (maCons (mBin gGet (mUn (gFld FT "heard") (mVar 1)) (mVar 2)) maNil))) maNil)))
 (mIf (mAndT (mTB (mBin (gIs true) (mVar 3) (mC .non))) (mNotT (mTru (mCallP sem__covers (lenIs 2 (maCons (mVar 1) (maCons (mVar 3) maNil))))))) (mRet (mC (.bl false))) mNx)))
def L1__is_sound : MS :=
 (mFor (mRange1 (mUn (gFld FT "members") (mVar 0))) (mgName 2) B1__is_sound)
def b__is_sound : MS :=
 (mSeq (mIf (mOrT (mTB (mBin (gEq true) (mUn gLen (mUn (gFld FT "heard") (mVar 1))) (mUn (gFld FT "members") (mVar 0)))) (mTB (mBin (gEq true) (mBin gGet (mUn (gFld FT "heard") (mVar 1)) (mUn (gFld FT "author") (mVar 1))) (mBin gSub (mUn (gFld FT "number") (mVar 1)) (mC (.int 1)))))) (mRet (mC (.bl false))) mNx)
 (mSeq L1__is_sound
 (mRet (mC (.bl true)))))
def sem__is_sound : Sem1 := runB 2 4 b__is_sound
/-! ### is_whole: 0=store 1=change -/
abbrev s_is_whole : Stmt := topS 13
theorem sc_is_whole : FnScope ["store", "change"] ["store"] (defScope s_is_whole) := ⟨rfl, rfl, rfl, by decide +kernel, rfl, by decide +kernel, by decide +kernel⟩
def B1_is_whole : MS :=
 (mIf (mNotT (mTru (mCallP sem__is_sound (lenIs 2 (maCons (mVar 0) (maCons (mVar 1) maNil)))))) (mRet (mC (.bl false))) mNx)
def L1_is_whole : MS :=
 (mFor (mItems (mMeth "Store" "all_changes" 1 sem_Store__all_changes (mVar 0) maNil)) (mgName 1) B1_is_whole)
def b_is_whole : MS :=
 (mSeq L1_is_whole
 (mRet (mC (.bl true))))
def sem_is_whole : Sem1 := runB 1 2 b_is_whole
/-! ### Store.add: 0=self 1=change -/
abbrev s_Store__add : Stmt := inClass (topS 9) 6
theorem sc_Store__add : FnScope ["self", "change"] ["self", "change"] (defScope s_Store__add) := ⟨rfl, rfl, rfl, by decide +kernel, rfl, by decide +kernel, by decide +kernel⟩
def b_Store__add : MS :=
 (mDrop (mM1 tokL gApp (mBin gGet (mUn (gFld FT "changes") (mVar 0)) (mUn (gFld FT "author") (mVar 1))) (mVar 1)))
def sem_Store__add : Sem1 := runB 2 2 b_Store__add
/-! ### _as_tuple: 0=part -/
abbrev s__as_tuple : Stmt := topS 2
theorem sc__as_tuple : FnScope ["part"] ["part"] (defScope s__as_tuple) := ⟨rfl, rfl, rfl, by decide +kernel, rfl, by decide +kernel, by decide +kernel⟩
def b__as_tuple : MS :=
 (mSeq (mIf (mTB (mBin (gIs false) (mVar 0) (mC .non))) (mRet (mC .non)) mNx)
 (mRet (mUn gTupOf (mVar 0))))
def sem__as_tuple : Sem1 := runB 1 1 b__as_tuple
/-! ### Change.__init__: 0=self 1=author 2=number 3=heard 4=capability 5=publics 6=parts 7=part -/
abbrev s_Change____init__ : Stmt := inClass (topS 3) 0
theorem sc_Change____init__ : FnScope ["self", "author", "number", "heard", "capability", "publics", "parts", "part"] ["self", "author", "number", "heard", "capability", "publics", "parts"] (defScope s_Change____init__) := ⟨rfl, rfl, rfl, by decide +kernel, rfl, by decide +kernel, by decide +kernel⟩
def E1_Change____init__ : E Tq.A :=
 (mCall sem__as_tuple (lenIs 1 (maCons (mVar 7) maNil)))
def C1_Change____init__ : E Tq.A :=
 (mLC false (mItems (mVar 6)) (mgName 7) mYes E1_Change____init__ [7])
def b_Change____init__ : MS :=
 (mSeq (mSetF FT "author" (mVar 0) (mVar 1))
 (mSeq (mSetF FT "number" (mVar 0) (mVar 2))
 (mSeq (mSetF FT "heard" (mVar 0) (mUn gTupOf (mVar 3)))
 (mSeq (mSetF FT "capability" (mVar 0) (mVar 4))
 (mSeq (mSetF FT "publics" (mVar 0) (mUn gTupOf (mVar 5)))
 (mSetF FT "parts" (mVar 0) (mUn gTupOf C1_Change____init__)))))))
def sem_Change____init__ : Sem1 := runB 7 8 b_Change____init__
/-! ### _law_change: 0=draws 1=index 2=row 3=pick 4=capability 5=rights 6=k 7=publics 8=parts 9=turn -/
abbrev s__law_change : Stmt := topS 21
theorem sc__law_change : FnScope ["draws", "index", "row", "pick", "capability", "rights", "k", "publics", "parts", "turn"] ["draws", "index", "row"] (defScope s__law_change) := ⟨rfl, rfl, rfl, by decide +kernel, rfl, by decide +kernel, by decide +kernel⟩
def E1__law_change : E Tq.A :=
 (mTup (maCons (mC (.bl true)) (maCons (mC (.bl true)) (maCons (mBin (gEq false) (mBin gMod (mVar 6) (mC (.int 2))) (mC (.int 0))) maNil))))
def C1__law_change : E Tq.A :=
 (mLC false (mRange1 (mC (.int 4))) (mgName 6) mYes E1__law_change [6])
def b__law_change : MS :=
 (mSeq (mSet 3 (mCallP sem__law_at (lenIs 2 (maCons (mVar 0) (maCons (mVar 1) maNil)))))
 (mSeq (mSet 4 (mBin gGet (mLst false (maCons (mC .non) (maCons (mTup (maCons (mC (.int 0)) (maCons (mC (.int 1)) (maCons (mC (.int 0)) maNil)))) (maCons (mTup (maCons (mC (.int 5)) (maCons (mC (.int 9)) (maCons (mC (.int 9)) maNil)))) (maCons (mTup (maCons (mBin gGet (mVar 2) (mC (.int 0))) (maCons (mBin gGet (mVar 2) (mC (.int 1))) (maCons (mC (.int 0)) maNil)))) maNil))))) (mBin gMod (mVar 3) (mC (.int 4)))))
 (mSeq (mSet 5 (mUn gTupOf C1__law_change))
 (mSeq (mSet 7 (mSl false (mLst false (maCons (mTup (maCons (mC (.str "seal")) maNil)) (maCons (mTup (maCons (mC (.str "grant")) (maCons (mBin gMod (mVar 3) (mC (.int 6))) (maCons (mVar 5) maNil)))) (maCons (mTup (maCons (mC (.str "revoke")) (maCons (mTup (maCons (mC (.int 0)) (maCons (mC (.int 1)) (maCons (mC (.int 0)) maNil)))) maNil))) maNil)))) (moS (mBin gMod (mBin gDiv (mVar 3) (mC (.int 4))) (mC (.int 4)))) moN))
 (mSeq (mSet 8 (mLst false (maCons (mC .non) (maCons (mTup (maCons (mTup (maCons (mC (.str "table")) (maCons (mC (.str "t")) maNil))) maNil)) (maCons (mTup maNil) (maCons (mTup (maCons (mTup (maCons (mC (.str "undo")) (maCons (mTup (maCons (mC (.int 0)) (maCons (mC (.int 1)) maNil))) maNil))) (maCons (mTup (maCons (mC (.str "drop")) (maCons (mTup (maCons (mC (.int 0)) (maCons (mC (.int 1)) (maCons (mC (.int 0)) maNil)))) maNil))) maNil))) maNil))))))
 (mSeq (mSet 9 (mBin gMod (mBin gDiv (mVar 3) (mC (.int 16))) (mC (.int 4))))
 (mRet (mMakeP "Change" 7 sem_Change____init__ (maCons (mBin gGet (mVar 2) (mC (.int 0))) (maCons (mBin gGet (mVar 2) (mC (.int 1))) (maCons (mUn (gLstOf false) (mBin gGet (mVar 2) (mC (.int 2)))) (maCons (mVar 4) (maCons (mVar 7) (maCons (mBin (gAdd false) (mSl false (mVar 8) (moS (mVar 9)) moN) (mSl false (mVar 8) moN (moS (mVar 9)))) maNil))))))))))))))
def sem__law_change : Sem1 := runB 3 10 b__law_change
/-! ### _law_is_sound: 0=members 1=counts 2=rows 3=row 4=member 5=other 6=k -/
abbrev s__law_is_sound : Stmt := topS 22
theorem sc__law_is_sound : FnScope ["members", "counts", "rows", "row", "member", "other", "k"] ["members", "counts", "rows", "row"] (defScope s__law_is_sound) := ⟨rfl, rfl, rfl, by decide +kernel, rfl, by decide +kernel, by decide +kernel⟩
def B1__law_is_sound : MS :=
 (mIf (mAndT (mTB (mBin gLt (mVar 6) (mUn gLen (mBin gGet (mVar 5) (mC (.int 2)))))) (mTB (mBin (gOrdO .Gt) (mBin gGet (mBin gGet (mVar 5) (mC (.int 2))) (mVar 6)) (mBin gGet (mBin gGet (mVar 3) (mC (.int 2))) (mVar 6))))) (mRet (mC (.bl false))) mNx)
def L1__law_is_sound : MS :=
 (mFor (mRange1 (mVar 0)) (mgName 6) B1__law_is_sound)
def B2__law_is_sound : MS :=
 (mIf (mAndT (mTB (mBin (gEq false) (mBin gGet (mVar 5) (mC (.int 0))) (mVar 4))) (mTB (mBin (gEq false) (mBin gGet (mVar 5) (mC (.int 1))) (mBin gGet (mBin gGet (mVar 3) (mC (.int 2))) (mVar 4))))) L1__law_is_sound mNx)
def L2__law_is_sound : MS :=
 (mFor (mItems (mVar 2)) (mgName 5) B2__law_is_sound)
def B3__law_is_sound : MS :=
 (mSeq (mIf (mTB (mBin (gOrdO .Gt) (mBin gGet (mBin gGet (mVar 3) (mC (.int 2))) (mVar 4)) (mBin gGet (mVar 1) (mVar 4)))) (mRet (mC (.bl false))) mNx)
 L2__law_is_sound)
def L3__law_is_sound : MS :=
 (mFor (mRange1 (mVar 0)) (mgName 4) B3__law_is_sound)
def b__law_is_sound : MS :=
 (mSeq (mIf (mOrT (mTB (mBin (gEq true) (mUn gLen (mBin gGet (mVar 3) (mC (.int 2)))) (mVar 0))) (mTB (mBin (gEq true) (mBin gGet (mBin gGet (mVar 3) (mC (.int 2))) (mBin gGet (mVar 3) (mC (.int 0)))) (mBin gSub (mBin gGet (mVar 3) (mC (.int 1))) (mC (.int 1)))))) (mRet (mC (.bl false))) mNx)
 (mSeq L3__law_is_sound
 (mRet (mC (.bl true)))))
def sem__law_is_sound : Sem1 := runB 4 7 b__law_is_sound
/-! ### law: 0=script 1=draws 2=members 3=rows 4=cut 5=counts 6=k 7=row 8=store 9=expected 10=data 11=actual -/
abbrev s_law : Stmt := topS 23
theorem sc_law : FnScope ["script", "draws", "members", "rows", "cut", "counts", "k", "row", "store", "expected", "data", "actual"] ["script"] (defScope s_law) := ⟨rfl, rfl, rfl, by decide +kernel, rfl, by decide +kernel, by decide +kernel⟩
def E1_law : E Tq.A :=
 (mC (.int 0))
def C1_law : E Tq.A :=
 (mLC true (mRange1 (mVar 2)) (mgName 6) mYes E1_law [6])
def B1_law : MS :=
 (mSetI true (mVar 5) (mBin gGet (mVar 7) (mC (.int 0))) (mBin gMax2 (mBin gGet (mVar 5) (mBin gGet (mVar 7) (mC (.int 0)))) (mBin gGet (mVar 7) (mC (.int 1)))))
def L1_law : MS :=
 (mFor (mItems (mVar 3)) (mgName 7) B1_law)
def E2_law : E Tq.A :=
 (mVar 7)
def T1_law : E Bool :=
 (mTB (mBin (gOrdO .Gt) (mBin gGet (mVar 7) (mC (.int 1))) (mBin gGet (mVar 4) (mBin gGet (mVar 7) (mC (.int 0))))))
def C2_law : E Tq.A :=
 (mLC true (mItems (mVar 3)) (mgName 7) T1_law E2_law [7])
def E3_law : E Tq.A :=
 (mTup (maCons (mC (.bl true)) (maCons (mC (.bl true)) (maCons (mC (.bl false)) maNil))))
def C3_law : E Tq.A :=
 (mLC false (mRange1 (mC (.int 4))) (mgName 6) mYes E3_law [6])
def B2_law : MS :=
 (mSetI true (mUn (gFld FT "cut") (mVar 8)) (mVar 6) (mBin gGet (mVar 4) (mVar 6)))
def L2_law : MS :=
 (mFor (mRange1 (mVar 2)) (mgName 6) B2_law)
def B3_law : MS :=
 (mDrop (mMeth "Store" "add" 2 sem_Store__add (mVar 8) (maCons (mCall sem__law_change (lenIs 3 (maCons (mVar 1) (maCons (mBin (gAdd false) (mC (.int 60)) (mVar 6)) (maCons (mBin gGet (mVar 3) (mVar 6)) maNil))))) maNil)))
def L3_law : MS :=
 (mFor (mRange1 (mUn gLen (mVar 3))) (mgName 6) B3_law)
def B4_law : MS :=
 (mIf (mNotT (mTru (mCallP sem__law_is_sound (lenIs 4 (maCons (mVar 2) (maCons (mVar 5) (maCons (mVar 3) (maCons (mVar 7) maNil)))))))) (mSet 9 (mC (.bl false))) mNx)
def L4_law : MS :=
 (mFor (mItems (mVar 3)) (mgName 7) B4_law)
def b_law : MS :=
 (mSeq (mSet 1 (mCallP sem__law_draws (lenIs 1 (maCons (mVar 0) maNil))))
 (mSeq (mAsg (mgTup 2 (mgCons (mgName 2) (mgCons (mgName 3) mgNil))) (mCall sem__law_told (lenIs 1 (maCons (mVar 1) maNil))))
 (mSeq (mSet 4 (mCall sem__law_cut (lenIs 3 (maCons (mVar 1) (maCons (mVar 2) (maCons (mVar 3) maNil))))))
 (mSeq (mSet 5 C1_law)
 (mSeq L1_law
 (mSeq (mSet 3 C2_law)
 (mSeq (mDrop (mCall sem__law_spoil (lenIs 4 (maCons (mVar 1) (maCons (mC (.int 5)) (maCons (mVar 2) (maCons (mVar 3) maNil)))))))
 (mSeq (mIf (mTB (mBin (gEq false) (mBin gMod (mCallP sem__law_at (lenIs 2 (maCons (mVar 1) (maCons (mC (.int 9)) maNil)))) (mC (.int 3))) (mC (.int 2)))) (mDrop (mCall sem__law_spoil (lenIs 4 (maCons (mVar 1) (maCons (mC (.int 50)) (maCons (mVar 2) (maCons (mVar 3) maNil))))))) mNx)
 (mSeq (mSet 8 (mMake "Store" 2 sem_Store____init__ (maCons (mVar 2) maNil)))
 (mSeq (mIf (mTB (mBin (gEq false) (mBin gMod (mBin gDiv (mCallP sem__law_at (lenIs 2 (maCons (mVar 1) (maCons (mC (.int 9)) maNil)))) (mC (.int 3))) (mC (.int 2))) (mC (.int 0)))) (mSeq (mIf (mTB (mBin gGt (mBin gGet (mVar 4) (mC (.int 0))) (mC (.int 0)))) (mSeq (mDrop (mM1 tokL gApp (mUn (gFld FT "capabilities") (mVar 8)) (mTup (maCons (mTup (maCons (mC (.int 0)) (maCons (mC (.int 1)) (maCons (mC (.int 0)) maNil)))) (maCons (mC .non) (maCons (mC (.int 1)) (maCons (mUn gTupOf C3_law) maNil)))))))
 (mSetI true (mUn (gFld FT "kept") (mVar 8)) (mBin gMod (mBin gDiv (mCallP sem__law_at (lenIs 2 (maCons (mVar 1) (maCons (mC (.int 9)) maNil)))) (mC (.int 6))) (mC (.int 4))) (mMakeP "Kept" 5 sem_Kept____init__ (mDfl [.kt []] (maCons (mLst false (maCons (mTup (maCons (mTup (maCons (mC (.int 0)) (maCons (mC (.int 1)) (maCons (mC (.int 0)) maNil)))) (maCons (mTup (maCons (mC (.str "table")) (maCons (mC (.str "k")) maNil))) maNil))) maNil)) (maCons (mLst false maNil) (maCons (mLst false maNil) maNil))))))) mNx)
 (mSeq (mSetI true (mUn (gFld FT "kept") (mVar 8)) (mBin gMod (mBin gDiv (mCallP sem__law_at (lenIs 2 (maCons (mVar 1) (maCons (mC (.int 9)) maNil)))) (mC (.int 24))) (mC (.int 4))) (mC .non))
 (mSetI true (mUn (gFld FT "kept") (mVar 8)) (mBin gMod (mBin gDiv (mCallP sem__law_at (lenIs 2 (maCons (mVar 1) (maCons (mC (.int 9)) maNil)))) (mC (.int 96))) (mC (.int 4))) (mC .non)))) mNx)
 (mSeq L2_law
 (mSeq L3_law
 (mSeq (mSet 9 (mC (.bl true)))
 (mSeq L4_law
 (mSeq (mSet 10 (mMeth "Store" "data" 1 sem_Store__data (mVar 8) maNil))
 (mSeq (mSet 11 (mCallP sem_is_whole (lenIs 1 (maCons (mVar 8) maNil))))
 (mSeq (mIf (mOrT (mNotT (mTru (mUn (gIsi "bool") (mVar 11)))) (mTB (mBin (gEq true) (mVar 11) (mVar 9)))) (mRet (mC (.bl false))) mNx)
 (mRet (mAndV (mBin (gEq false) (mMeth "Store" "data" 1 sem_Store__data (mVar 8) maNil) (mVar 10)) (mBin (gEq false) (mCallP sem_is_whole (lenIs 1 (maCons (mVar 8) maNil))) (mVar 9)))))))))))))))))))))
def sem_law : Sem1 := runB 1 12 b_law
section
variable {Pr : Program} {w : World} {K : PySem.W.Frag} {mg : Str → Option Value} {base : Heap}
theorem ok__law_mix (hT : ClsT K FT) (S : Src K mg "_law_mix" s__law_mix ["cell", "k"]) (z_int : mg "int" = none) : Def Pr w K mg base 1 "_law_mix" ["cell", "k"] sem__law_mix :=
  def_tr S sc__law_mix b__law_mix (fun fa cdv A outer s H Ex hr tk hp => by
      have nd := sc__law_mix.nd
      exact (rss_cons (rs_set (i := 2) nd (rx_bin op_mod og_mod (rx_t1 call_int1 og_int (rx_bin op_addA og_add (rx_bin op_addA og_add (rx_bin op_mulB og_mul (rx_t1 call_int1 og_int (rx_var 0) z_int) rx_int) (rx_bin op_mulB og_mul (rx_var 1) rx_int)) rx_int) z_int) rx_int))
 (rss_cons (rs_set (i := 2) nd (rx_bin op_mod og_mod (rx_t1 call_int1 og_int (rx_bin op_addA og_add (rx_bin op_addA og_add (rx_bin op_mulB og_mul (rx_var 2) (rx_var 2)) (rx_bin op_mulB og_mul (rx_var 1) rx_int)) rx_int) z_int) rx_int))
 (rss_one (rs_ret (rx_bin op_mod og_mod (rx_bin op_fdivW og_div (rx_var 2) rx_int) rx_int))))))
theorem ok__law_draws (hT : ClsT K FT) (S : Src K mg "_law_draws" s__law_draws ["script"]) (d__law_mix : Def Pr w K mg base 1 "_law_mix" ["cell", "k"] sem__law_mix) (z_int : mg "int" = none) (z_len : mg "len" = none) (z_min : mg "min" = none) (z_range : mg "range" = none) : Def Pr w K mg base 2 "_law_draws" ["script"] sem__law_draws :=
  def_tr S sc__law_draws b__law_draws (fun fa cdv A outer s H Ex hr tk hp => by
      have nd := sc__law_draws.nd
      exact (rss_cons (rs_set (i := 1) nd (rx_lst true ra_nil))
 (rss_cons (rs_for (is := [2]) hp rfl (ri_range1 (rx_b2 (call_min2 rfl) og_min2 rx_int (rx_b1 call_len og_len (rx_var 0) z_len) z_min) z_range) (rg_name (i := 2) nd) (rss_cons (rs_set (i := 3) nd (rx_t1 call_int1 og_int (rx_sub (Room_u1 hr) (rx_var 0) (rx_var 2)) z_int))
 (rss_one (rs_if (rt_cmp op_lt og_lt (rx_var 3) (rx_bin op_pow og_pow rx_int rx_int) (nomark _)) (rss_one (rs_drop (rx_append (rx_var 1) (rx_callP tk d__law_mix hr (by decide) (ra_cons (rx_var 3) (ra_cons (rx_var 2) ra_nil)))))) (rss_one (rs_for (is := [4]) hp rfl (ri_range1 rx_int z_range) (rg_name (i := 4) nd) (rss_one (rs_if (rt_cmp op_gt og_gt (rx_var 3) rx_int (nomark _)) (rss_cons (rs_drop (rx_append (rx_var 1) (rx_bin op_mod og_mod (rx_t1 call_int1 og_int (rx_var 3) z_int) rx_int)))
 (rss_one (rs_set (i := 3) nd (rx_bin op_fdivW og_div (rx_var 3) rx_int)))) rss_nil))))))))
 (rss_one (rs_ret (rx_var 1))))))
theorem ok__law_at (hT : ClsT K FT) (S : Src K mg "_law_at" s__law_at ["draws", "index"]) (d__law_mix : Def Pr w K mg base 1 "_law_mix" ["cell", "k"] sem__law_mix) (z_int : mg "int" = none) (z_len : mg "len" = none) : Def Pr w K mg base 2 "_law_at" ["draws", "index"] sem__law_at :=
  def_tr S sc__law_at b__law_at (fun fa cdv A outer s H Ex hr tk hp => by
      have nd := sc__law_at.nd
      exact (rss_cons (rs_if (rt_cmp op_lt og_lt (rx_var 1) (rx_b1 call_len og_len (rx_var 0) z_len) (nomark _)) (rss_one (rs_ret (rx_sub (Room_u1 hr) (rx_var 0) (rx_var 1)))) rss_nil)
 (rss_cons (rs_if (rt_cmp (op_eqD (Room_u64 hr)) og_eq (rx_b1 call_len og_len (rx_var 0) z_len) rx_int (nomark _)) (rss_one (rs_ret (rx_callP tk d__law_mix hr (by decide) (ra_cons (rx_var 1) (ra_cons rx_int ra_nil))))) rss_nil)
 (rss_one (rs_ret (rx_callP tk d__law_mix hr (by decide) (ra_cons (rx_bin op_addA og_add (rx_sub (Room_u1 hr) (rx_var 0) (rx_bin op_mod og_mod (rx_t1 call_int1 og_int (rx_var 1) z_int) (rx_b1 call_len og_len (rx_var 0) z_len))) (rx_bin op_mulB og_mul (rx_var 1) rx_int)) (ra_cons (rx_var 1) ra_nil))))))))
theorem ok__law_told (hT : ClsT K FT) (S : Src K mg "_law_told" s__law_told ["draws"]) (d__law_at : Def Pr w K mg base 2 "_law_at" ["draws", "index"] sem__law_at) (z_list : mg "list" = none) (z_max : mg "max" = none) (z_range : mg "range" = none) : Def Pr w K mg base 3 "_law_told" ["draws"] sem__law_told :=
  def_tr S sc__law_told b__law_told (fun fa cdv A outer s H Ex hr tk hp => by
      have nd := sc__law_told.nd
      exact (rss_cons (rs_set (i := 1) nd (rx_bin op_addA og_add rx_int (rx_bin op_mod og_mod (rx_bin op_mod og_mod (rx_callP tk d__law_at hr (by decide) (ra_cons (rx_var 0) (ra_cons rx_int ra_nil))) rx_int) rx_int)))
 (rss_cons (rs_set (i := 2) nd (rx_lst true ra_nil))
 (rss_cons (rs_for (is := [3]) hp rfl (ri_range1 (rx_var 1) z_range) (rg_name (i := 3) nd) (rss_one (rs_drop (rx_append (rx_var 2) (rx_lc true rfl nd [("j", 4)] (ri_range1 (rx_var 1) z_range) (fun _ _ _ _ _ => (rg_name (i := 4) nd)) (fun _ _ _ _ _ => rts_nil) (fun _ _ _ _ _ => rx_int) (blkOk_by (N := ["draws", "members", "seen", "k", "j", "rows", "author", "partner"]) (sc := defScope s__law_told) (by decide +kernel)))))))
 (rss_cons (rs_set (i := 5) nd (rx_lst true ra_nil))
 (rss_cons (rs_for (is := [3]) hp rfl (ri_range1 (rx_bin op_mod og_mod (rx_callP tk d__law_at hr (by decide) (ra_cons (rx_var 0) (ra_cons rx_int ra_nil))) rx_int) z_range) (rg_name (i := 3) nd) (rss_cons (rs_set (i := 6) nd (rx_bin op_mod og_mod (rx_callP tk d__law_at hr (by decide) (ra_cons (rx_var 0) (ra_cons (rx_bin op_addA og_add rx_int (rx_bin op_mulB og_mul rx_int (rx_var 3))) ra_nil))) (rx_var 1)))
 (rss_cons (rs_set (i := 7) nd (rx_bin op_mod og_mod (rx_callP tk d__law_at hr (by decide) (ra_cons (rx_var 0) (ra_cons (rx_bin op_addA og_add rx_int (rx_bin op_mulB og_mul rx_int (rx_var 3))) ra_nil))) (rx_bin op_mulB og_mul rx_int (rx_var 1))))
 (rss_cons (rs_if (rt_cmp op_lt og_lt (rx_var 7) (rx_var 1) (nomark _)) (rss_one (rs_setL (rx_var 2) (rx_var 6) (rx_lc true rfl nd [("j", 4)] (ri_range1 (rx_var 1) z_range) (fun _ _ _ _ _ => (rg_name (i := 4) nd)) (fun _ _ _ _ _ => rts_nil) (fun _ _ _ _ _ => (rx_b2 (call_max2 rfl) og_max2 (rx_sub (Room_u1 hr) (rx_sub (Room_u1 hr) (rx_var 2) (rx_var 6)) (rx_var 4)) (rx_sub (Room_u1 hr) (rx_sub (Room_u1 hr) (rx_var 2) (rx_var 7)) (rx_var 4)) z_max)) (blkOk_by (N := ["draws", "members", "seen", "k", "j", "rows", "author", "partner"]) (sc := defScope s__law_told) (by decide +kernel))))) rss_nil)
 (rss_cons (rs_drop (rx_append (rx_var 5) (rx_lst true (ra_cons (rx_var 6) (ra_cons (rx_bin op_addA og_add (rx_sub (Room_u1 hr) (rx_sub (Room_u1 hr) (rx_var 2) (rx_var 6)) (rx_var 6)) rx_int) (ra_cons (rx_t1 call_list_of og_lstOf (rx_sub (Room_u1 hr) (rx_var 2) (rx_var 6)) z_list) ra_nil))))))
 (rss_one (rs_setL (rx_sub (Room_u1 hr) (rx_var 2) (rx_var 6)) (rx_var 6) (rx_bin op_addA og_add (rx_sub (Room_u1 hr) (rx_sub (Room_u1 hr) (rx_var 2) (rx_var 6)) (rx_var 6)) rx_int))))))))
 (rss_one (rs_ret (rx_lst true (ra_cons (rx_var 1) (ra_cons (rx_var 5) ra_nil)))))))))))
theorem ok__law_cut (hT : ClsT K FT) (S : Src K mg "_law_cut" s__law_cut ["draws", "members", "rows"]) (d__law_at : Def Pr w K mg base 2 "_law_at" ["draws", "index"] sem__law_at) (z_len : mg "len" = none) (z_list : mg "list" = none) (z_range : mg "range" = none) : Def Pr w K mg base 3 "_law_cut" ["draws", "members", "rows"] sem__law_cut :=
  def_tr S sc__law_cut b__law_cut (fun fa cdv A outer s H Ex hr tk hp => by
      have nd := sc__law_cut.nd
      exact (rss_cons (rs_if (RWt.rt (rw_or (rt_cmp (op_eqD (Room_u64 hr)) og_eq (rx_b1 call_len og_len (rx_var 2) z_len) rx_int (nomark _)) (rw_or1 (rt_cmp (op_neD (Room_u64 hr)) og_ne (rx_bin op_mod og_mod (rx_callP tk d__law_at hr (by decide) (ra_cons (rx_var 0) (ra_cons rx_int ra_nil))) rx_int) rx_int (nomark _))))) (rss_one (rs_ret (rx_lc true rfl nd [("k", 3)] (ri_range1 (rx_var 1) z_range) (fun _ _ _ _ _ => (rg_name (i := 3) nd)) (fun _ _ _ _ _ => rts_nil) (fun _ _ _ _ _ => rx_int) (blkOk_by (N := ["draws", "members", "rows", "k", "row", "cut"]) (sc := defScope s__law_cut) (by decide +kernel))))) rss_nil)
 (rss_cons (rs_set (i := 4) nd (rx_sub (Room_u1 hr) (rx_var 2) (rx_bin op_mod og_mod (rx_callP tk d__law_at hr (by decide) (ra_cons (rx_var 0) (ra_cons rx_int ra_nil))) (rx_b1 call_len og_len (rx_var 2) z_len))))
 (rss_cons (rs_set (i := 5) nd (rx_t1 call_list_of og_lstOf (rx_sub (Room_u1 hr) (rx_var 4) rx_int) z_list))
 (rss_cons (rs_setL (rx_var 5) (rx_sub (Room_u1 hr) (rx_var 4) rx_int) (rx_bin op_addA og_add (rx_sub (Room_u1 hr) (rx_var 5) (rx_sub (Room_u1 hr) (rx_var 4) rx_int)) (rx_bin op_mod og_mod (rx_callP tk d__law_at hr (by decide) (ra_cons (rx_var 0) (ra_cons rx_int ra_nil))) rx_int)))
 (rss_one (rs_ret (rx_var 5))))))))
theorem ok__law_spoil (hT : ClsT K FT) (S : Src K mg "_law_spoil" s__law_spoil ["draws", "base", "members", "rows"]) (d__law_at : Def Pr w K mg base 2 "_law_at" ["draws", "index"] sem__law_at) (z_len : mg "len" = none) (z_max : mg "max" = none) (z_min : mg "min" = none) (z_range : mg "range" = none) : Def Pr w K mg base 3 "_law_spoil" ["draws", "base", "members", "rows"] sem__law_spoil :=
  def_tr S sc__law_spoil b__law_spoil (fun fa cdv A outer s H Ex hr tk hp => by
      have nd := sc__law_spoil.nd
      exact (rss_cons (rs_set (i := 4) nd (rx_bin op_mod og_mod (rx_callP tk d__law_at hr (by decide) (ra_cons (rx_var 0) (ra_cons (rx_var 1) ra_nil))) rx_int))
 (rss_cons (rs_if (RWt.rt (rw_or (rt_cmp (op_eqD (Room_u64 hr)) og_eq (rx_b1 call_len og_len (rx_var 3) z_len) rx_int (nomark _)) (rw_or1 (rt_cmp (op_eqD (Room_u64 hr)) og_eq (rx_var 4) rx_int (nomark _))))) (rss_one rs_retN) rss_nil)
 (rss_cons (rs_set (i := 5) nd (rx_sub (Room_u1 hr) (rx_var 3) (rx_bin op_mod og_mod (rx_callP tk d__law_at hr (by decide) (ra_cons (rx_var 0) (ra_cons (rx_bin op_addA og_add (rx_var 1) rx_int) ra_nil))) (rx_b1 call_len og_len (rx_var 3) z_len))))
 (rss_cons (rs_set (i := 6) nd (rx_bin op_mod og_mod (rx_callP tk d__law_at hr (by decide) (ra_cons (rx_var 0) (ra_cons (rx_bin op_addA og_add (rx_var 1) rx_int) ra_nil))) (rx_var 2)))
 (rss_cons (rs_if (rt_cmp (op_neD (Room_u64 hr)) og_ne (rx_b1 call_len og_len (rx_sub (Room_u1 hr) (rx_var 5) rx_int) z_len) (rx_var 2) (nomark _)) (rss_one rs_retN) rss_nil)
 (rss_cons (rs_if (rt_cmp (op_eqD (Room_u64 hr)) og_eq (rx_var 4) rx_int (nomark _)) (rss_one (rs_drop (rx_extend (rx_sub (Room_u1 hr) (rx_var 5) rx_int) (rx_slice false (rx_lst false (ra_cons (rx_bin op_mod og_mod (rx_callP tk d__law_at hr (by decide) (ra_cons (rx_var 0) (ra_cons (rx_bin op_addA og_add (rx_var 1) rx_int) ra_nil))) rx_int) (ra_cons rx_int ra_nil))) ro_none (ro_some (rx_bin op_addA og_add rx_int (rx_bin op_mod og_mod (rx_bin op_fdivW og_div (rx_callP tk d__law_at hr (by decide) (ra_cons (rx_var 0) (ra_cons (rx_bin op_addA og_add (rx_var 1) rx_int) ra_nil))) rx_int) rx_int))))))) rss_nil)
 (rss_cons (rs_if (rt_cmp (op_eqD (Room_u64 hr)) og_eq (rx_var 4) rx_int (nomark _)) (rss_one (rs_for (is := [7]) hp rfl (ri_range1 (rx_b2 (call_min2 rfl) og_min2 (rx_var 2) (rx_bin op_addA og_add rx_int (rx_bin op_mod og_mod (rx_callP tk d__law_at hr (by decide) (ra_cons (rx_var 0) (ra_cons (rx_bin op_addA og_add (rx_var 1) rx_int) ra_nil))) rx_int)) z_min) z_range) (rg_name (i := 7) nd) (rss_one (rs_drop (rx_pop0 (rx_sub (Room_u1 hr) (rx_var 5) rx_int)))))) rss_nil)
 (rss_cons (rs_if (rt_cmp (op_eqD (Room_u64 hr)) og_eq (rx_var 4) rx_int (nomark _)) (rss_one (rs_setL (rx_sub (Room_u1 hr) (rx_var 5) rx_int) (rx_sub (Room_u1 hr) (rx_var 5) rx_int) (rx_b2 (call_max2 rfl) og_max2 rx_int (rx_bin op_sub og_sub (rx_bin op_addA og_add (rx_sub (Room_u1 hr) (rx_sub (Room_u1 hr) (rx_var 5) rx_int) (rx_sub (Room_u1 hr) (rx_var 5) rx_int)) rx_int) (rx_bin op_mulB og_mul rx_int (rx_bin op_mod og_mod (rx_callP tk d__law_at hr (by decide) (ra_cons (rx_var 0) (ra_cons (rx_bin op_addA og_add (rx_var 1) rx_int) ra_nil))) rx_int))) z_max))) rss_nil)
 (rss_cons (rs_if (rt_cmp (op_eqD (Room_u64 hr)) og_eq (rx_var 4) rx_int (nomark _)) (rss_one (rs_setL (rx_sub (Room_u1 hr) (rx_var 5) rx_int) (rx_var 6) (rx_bin op_addA og_add (rx_b1 call_len og_len (rx_var 3) z_len) (rx_bin op_mod og_mod (rx_callP tk d__law_at hr (by decide) (ra_cons (rx_var 0) (ra_cons (rx_bin op_addA og_add (rx_var 1) rx_int) ra_nil))) rx_int)))) rss_nil)
 (rss_cons (rs_if (rt_cmp (op_eqD (Room_u64 hr)) og_eq (rx_var 4) rx_int (nomark _)) (rss_one (rs_setL (rx_sub (Room_u1 hr) (rx_var 5) rx_int) (rx_var 6) (rx_b2 (call_max2 rfl) og_max2 rx_int (rx_bin op_sub og_sub (rx_sub (Room_u1 hr) (rx_sub (Room_u1 hr) (rx_var 5) rx_int) (rx_var 6)) rx_int) z_max))) rss_nil)
 (rss_one (rs_if (rt_cmp (op_eqD (Room_u64 hr)) og_eq (rx_var 4) rx_int (nomark _)) (rss_one (rs_setL (rx_sub (Room_u1 hr) (rx_var 5) rx_int) (rx_var 6) (rx_bin op_addA og_add (rx_sub (Room_u1 hr) (rx_sub (Room_u1 hr) (rx_var 5) rx_int) (rx_var 6)) rx_int))) rss_nil)))))))))))))
theorem ok_Kept____init__ (hT : ClsT K FT) (S : SrcMD K "Kept" "__init__" s_Kept____init__ ["self", "acts", "sums", "texts", "shares"] "Kept.__init__" [.kt []])  : DefMD Pr w K mg base 1 "Kept" "__init__" ["self", "acts", "sums", "texts", "shares"] [.kt []] sem_Kept____init__ :=
  defMD_tr S sc_Kept____init__ b_Kept____init__ (fun fa cdv A outer s H Ex hr tk hp => by
      have nd := sc_Kept____init__.nd
      exact (rss_cons (rs_setF hT (rx_var 0) (rx_lc false rfl nd [("spot", 5), ("act", 6)] (ri_items (rx_var 1)) (fun _ _ _ _ _ => (rg_tup rfl (rgs_cons (rg_name (i := 5) nd) (rgs_cons (rg_name (i := 6) nd) rgs_nil)) 2)) (fun _ _ _ _ _ => rts_nil) (fun _ _ _ _ _ => (rx_tup (ra_cons (rx_var 5) (ra_cons (rx_var 6) ra_nil)))) (blkOk_by (N := ["self", "acts", "sums", "texts", "shares", "spot", "act", "cell", "total", "mark", "char", "characters", "share"]) (sc := defScope s_Kept____init__) (by decide +kernel))))
 (rss_cons (rs_setF hT (rx_var 0) (rx_lc false rfl nd [("cell", 7), ("total", 8)] (ri_items (rx_var 2)) (fun _ _ _ _ _ => (rg_tup rfl (rgs_cons (rg_name (i := 7) nd) (rgs_cons (rg_name (i := 8) nd) rgs_nil)) 2)) (fun _ _ _ _ _ => rts_nil) (fun _ _ _ _ _ => (rx_tup (ra_cons (rx_var 7) (ra_cons (rx_var 8) ra_nil)))) (blkOk_by (N := ["self", "acts", "sums", "texts", "shares", "spot", "act", "cell", "total", "mark", "char", "characters", "share"]) (sc := defScope s_Kept____init__) (by decide +kernel))))
 (rss_cons (rs_setF hT (rx_var 0) (rx_lc false rfl nd [("cell", 7), ("characters", 11)] (ri_items (rx_var 3)) (fun _ _ _ _ _ => (rg_tup rfl (rgs_cons (rg_name (i := 7) nd) (rgs_cons (rg_name (i := 11) nd) rgs_nil)) 2)) (fun _ _ _ _ _ => rts_nil) (fun _ _ _ _ _ => (rx_tup (ra_cons (rx_var 7) (ra_cons (rx_lc false rfl nd [("mark", 9), ("char", 10)] (ri_items (rx_var 11)) (fun _ _ _ _ _ => (rg_tup rfl (rgs_cons (rg_name (i := 9) nd) (rgs_cons (rg_name (i := 10) nd) rgs_nil)) 2)) (fun _ _ _ _ _ => rts_nil) (fun _ _ _ _ _ => (rx_tup (ra_cons (rx_var 9) (ra_cons (rx_var 10) ra_nil)))) (blkOk_by (by with_unfolding_all rfl))) ra_nil)))) (blkOk_by (N := ["self", "acts", "sums", "texts", "shares", "spot", "act", "cell", "total", "mark", "char", "characters", "share"]) (sc := defScope s_Kept____init__) (by decide +kernel))))
 (rss_one (rs_setF hT (rx_var 0) (rx_lc false rfl nd [("cell", 7), ("share", 12)] (ri_items (rx_var 4)) (fun _ _ _ _ _ => (rg_tup rfl (rgs_cons (rg_name (i := 7) nd) (rgs_cons (rg_name (i := 12) nd) rgs_nil)) 2)) (fun _ _ _ _ _ => rts_nil) (fun _ _ _ _ _ => (rx_tup (ra_cons (rx_var 7) (ra_cons (rx_var 12) ra_nil)))) (blkOk_by (N := ["self", "acts", "sums", "texts", "shares", "spot", "act", "cell", "total", "mark", "char", "characters", "share"]) (sc := defScope s_Kept____init__) (by decide +kernel)))))))))
theorem ok_Store____init__ (hT : ClsT K FT) (S : SrcM K "Store" "__init__" s_Store____init__ ["self", "members"] "Store.__init__") (d_Kept____init__ : DefMD Pr w K mg base 1 "Kept" "__init__" ["self", "acts", "sums", "texts", "shares"] [.kt []] sem_Kept____init__) (k_Kept : MkC K mg "Kept") {tk_SPACES : Tok} (g_SPACES : mg "SPACES" = some (.int 4 tk_SPACES)) (z_range : mg "range" = none) : DefM Pr w K mg base 3 "Store" "__init__" ["self", "members"] sem_Store____init__ :=
  defM_tr S sc_Store____init__ b_Store____init__ (fun fa cdv A outer s H Ex hr tk hp => by
      have nd := sc_Store____init__.nd
      exact (rss_cons (rs_setF hT (rx_var 0) (rx_var 1))
 (rss_cons (rs_setF hT (rx_var 0) (rx_lc true rfl nd [("_", 2)] (ri_range1 (rx_var 1) z_range) (fun _ _ _ _ _ => (rg_name (i := 2) nd)) (fun _ _ _ _ _ => rts_nil) (fun _ _ _ _ _ => rx_int) (blkOk_by (N := ["self", "members", "_"]) (sc := defScope s_Store____init__) (by decide +kernel))))
 (rss_cons (rs_setF hT (rx_var 0) (rx_lst true ra_nil))
 (rss_cons (rs_setF hT (rx_var 0) (rx_lc true rfl nd [("_", 2)] (ri_range1 (rx_glob (v := .int 4) g_SPACES ⟨_, rfl⟩ (fun _ => .int _)) z_range) (fun _ _ _ _ _ => (rg_name (i := 2) nd)) (fun _ _ _ _ _ => rts_nil) (fun _ _ _ _ _ => (rx_makePD (ps := ["self", "acts", "sums", "texts", "shares"]) takes0 k_Kept d_Kept____init__ hr (by decide) (ra_cons (rx_lst false ra_nil) (ra_cons (rx_lst false ra_nil) (ra_cons (rx_lst false ra_nil) ra_nil))))) (blkOk_by (N := ["self", "members", "_"]) (sc := defScope s_Store____init__) (by decide +kernel))))
 (rss_one (rs_setF hT (rx_var 0) (rx_lc true rfl nd [("_", 2)] (ri_range1 (rx_var 1) z_range) (fun _ _ _ _ _ => (rg_name (i := 2) nd)) (fun _ _ _ _ _ => rts_nil) (fun _ _ _ _ _ => (rx_lst true ra_nil)) (blkOk_by (N := ["self", "members", "_"]) (sc := defScope s_Store____init__) (by decide +kernel))))))))))
theorem ok_Kept__data (hT : ClsT K FT) (S : SrcM K "Kept" "data" s_Kept__data ["self"] "Kept.data") (z_tuple : mg "tuple" = none) : DefM Pr w K mg base 1 "Kept" "data" ["self"] sem_Kept__data :=
  defM_tr S sc_Kept__data b_Kept__data (fun fa cdv A outer s H Ex hr tk hp => by
      have nd := sc_Kept__data.nd
      exact (rss_cons (rs_setLc false (i := 1) rfl nd [("cell", 2), ("characters", 3)] (ri_items (rx_fld hT (rx_var 0))) (fun _ _ _ _ _ => (rg_tup rfl (rgs_cons (rg_name (i := 2) nd) (rgs_cons (rg_name (i := 3) nd) rgs_nil)) 2)) (fun _ _ _ _ _ => rts_nil) (fun _ _ _ _ _ => (rx_tup (ra_cons (rx_var 2) (ra_cons (rx_t1 call_tuple_of og_tupOf (rx_var 3) z_tuple) ra_nil)))) (blkOk_by (N := ["self", "texts", "cell", "characters"]) (sc := defScope s_Kept__data) (by decide +kernel)) (sw_true rfl rfl rfl (by decide +kernel)))
 (rss_one (rs_ret (rx_tup (ra_cons (rx_t1 call_tuple_of og_tupOf (rx_fld hT (rx_var 0)) z_tuple) (ra_cons (rx_t1 call_tuple_of og_tupOf (rx_fld hT (rx_var 0)) z_tuple) (ra_cons (rx_t1 call_tuple_of og_tupOf (rx_var 1) z_tuple) (ra_cons (rx_t1 call_tuple_of og_tupOf (rx_fld hT (rx_var 0)) z_tuple) ra_nil)))))))))
theorem ok__kept_data (hT : ClsT K FT) (S : Src K mg "_kept_data" s__kept_data ["kept"]) (d_Kept__data : DefM Pr w K mg base 1 "Kept" "data" ["self"] sem_Kept__data) : Def Pr w K mg base 2 "_kept_data" ["kept"] sem__kept_data :=
  def_tr S sc__kept_data b__kept_data (fun fa cdv A outer s H Ex hr tk hp => by
      have nd := sc__kept_data.nd
      exact (rss_cons (rs_if (rt_cmp op_isA og_is (rx_var 0) rx_non (nomark _)) (rss_one (rs_ret rx_non)) rss_nil)
 (rss_one (rs_ret (rx_methP0 tk d_Kept__data hr (by decide) (rx_var 0))))))
theorem ok_Change__header (hT : ClsT K FT) (S : SrcM K "Change" "header" s_Change__header ["self"] "Change.header")  : DefM Pr w K mg base 1 "Change" "header" ["self"] sem_Change__header :=
  defM_tr S sc_Change__header b_Change__header (fun fa cdv A outer s H Ex hr tk hp => by
      have nd := sc_Change__header.nd
      exact (rss_one (rs_ret (rx_tup (ra_cons (rx_fld hT (rx_var 0)) (ra_cons (rx_fld hT (rx_var 0)) (ra_cons (rx_fld hT (rx_var 0)) (ra_cons (rx_fld hT (rx_var 0)) (ra_cons (rx_fld hT (rx_var 0)) ra_nil)))))))))
theorem ok_Store__data (hT : ClsT K FT) (S : SrcM K "Store" "data" s_Store__data ["self"] "Store.data") (d_Change__header : DefM Pr w K mg base 1 "Change" "header" ["self"] sem_Change__header) (d__kept_data : Def Pr w K mg base 2 "_kept_data" ["kept"] sem__kept_data) (z_tuple : mg "tuple" = none) : DefM Pr w K mg base 3 "Store" "data" ["self"] sem_Store__data :=
  defM_tr S sc_Store__data b_Store__data (fun fa cdv A outer s H Ex hr tk hp => by
      have nd := sc_Store__data.nd
      exact (rss_cons (rs_setLc false (i := 1) rfl nd [("each", 2)] (ri_items (rx_fld hT (rx_var 0))) (fun _ _ _ _ _ => (rg_name (i := 2) nd)) (fun _ _ _ _ _ => rts_nil) (fun _ _ _ _ _ => (rx_callP (ps := ["kept"]) takes0 d__kept_data hr (by decide) (ra_cons (rx_var 2) ra_nil))) (blkOk_by (N := ["self", "kept", "each", "changes", "change"]) (sc := defScope s_Store__data) (by decide +kernel)) (sw_true rfl rfl rfl (by decide +kernel)))
 (rss_cons (rs_setLc false (i := 3) rfl nd [("each", 2)] (ri_items (rx_fld hT (rx_var 0))) (fun _ _ _ _ _ => (rg_name (i := 2) nd)) (fun _ _ _ _ _ => rts_nil) (fun _ _ _ _ _ => (rx_t1 call_tuple_of og_tupOf (rx_lc false rfl nd [("change", 4)] (ri_items (rx_var 2)) (fun _ _ _ _ _ => (rg_name (i := 4) nd)) (fun _ _ _ _ _ => rts_nil) (fun _ _ _ _ _ => (rx_bin op_addA og_add (rx_methP0 (ps := ["self"]) takes0 d_Change__header hr (by decide) (rx_var 4)) (rx_tup (ra_cons (rx_fld hT (rx_var 4)) ra_nil)))) (blkOk_by (by with_unfolding_all rfl))) z_tuple)) (blkOk_by (N := ["self", "kept", "each", "changes", "change"]) (sc := defScope s_Store__data) (by decide +kernel)) (sw_true rfl rfl rfl (by decide +kernel)))
 (rss_one (rs_ret (rx_tup (ra_cons (rx_t1 call_tuple_of og_tupOf (rx_fld hT (rx_var 0)) z_tuple) (ra_cons (rx_t1 call_tuple_of og_tupOf (rx_fld hT (rx_var 0)) z_tuple) (ra_cons (rx_t1 call_tuple_of og_tupOf (rx_var 1) z_tuple) (ra_cons (rx_t1 call_tuple_of og_tupOf (rx_var 3) z_tuple) ra_nil))))))))))
theorem ok_order_key (hT : ClsT K FT) (S : Src K mg "order_key" s_order_key ["change"]) (z_sum : mg "sum" = none) : Def Pr w K mg base 1 "order_key" ["change"] sem_order_key :=
  def_tr S sc_order_key b_order_key (fun fa cdv A outer s H Ex hr tk hp => by
      have nd := sc_order_key.nd
      exact (rss_one (rs_ret (rx_tup (ra_cons (rx_sum rfl (rx_fld hT (rx_var 0)) z_sum) (ra_cons (rx_fld hT (rx_var 0)) (ra_cons (rx_fld hT (rx_var 0)) ra_nil)))))))
theorem ok_in_order (hT : ClsT K FT) (S : Src K mg "in_order" s_in_order ["changes"]) (d_order_key : Def Pr w K mg base 1 "order_key" ["change"] sem_order_key) (z_sorted : mg "sorted" = none) : Def Pr w K mg base 4 "in_order" ["changes"] sem_in_order :=
  def_tr S sc_in_order b_in_order (fun fa cdv A outer s H Ex hr tk hp => by
      have nd := sc_in_order.nd
      exact (rss_one (rs_ret (rx_sortK false d_order_key hr (by decide) (rx_var 0) z_sorted))))
theorem ok_Store__all_changes (hT : ClsT K FT) (S : SrcM K "Store" "all_changes" s_Store__all_changes ["self"] "Store.all_changes") (d_in_order : Def Pr w K mg base 4 "in_order" ["changes"] sem_in_order) : DefM Pr w K mg base 5 "Store" "all_changes" ["self"] sem_Store__all_changes :=
  defM_tr S sc_Store__all_changes b_Store__all_changes (fun fa cdv A outer s H Ex hr tk hp => by
      have nd := sc_Store__all_changes.nd
      exact (rss_one (rs_ret (rx_callP tk d_in_order hr (by decide) (ra_cons (rx_lc2 false rfl nd [("changes", 1), ("change", 2)] [2] (by decide) (ri_items (rx_fld hT (rx_var 0))) (fun _ _ _ _ _ => (rg_name (i := 1) nd)) (fun _ _ _ _ _ => rts_nil) (fun _ _ _ _ _ => (ri_items (rx_var 1))) (fun _ _ _ _ _ => (rg_name (i := 2) nd)) (fun _ _ _ _ _ => rts_nil) (fun _ _ _ _ _ => (rx_var 2)) (blkOk_by (N := ["self", "changes", "change"]) (sc := defScope s_Store__all_changes) (by decide +kernel))) ra_nil)))))
theorem ok_Store__find (hT : ClsT K FT) (S : SrcM K "Store" "find" s_Store__find ["self", "name"] "Store.find") (z_len : mg "len" = none) : DefM Pr w K mg base 1 "Store" "find" ["self", "name"] sem_Store__find :=
  defM_tr S sc_Store__find b_Store__find (fun fa cdv A outer s H Ex hr tk hp => by
      have nd := sc_Store__find.nd
      exact (rss_cons (rs_asg (is := [2, 3]) (rx_var 1) (rg_tup rfl (rgs_cons (rg_name (i := 2) nd) (rgs_cons (rg_name (i := 3) nd) rgs_nil)) 2))
 (rss_cons (rs_if (rt_not (rt_chain op_le og_le op_lt og_lt rx_int (rx_var 2) (rx_fld hT (rx_var 0)))) (rss_one (rs_ret rx_non)) rss_nil)
 (rss_cons (rs_set (i := 4) nd (rx_bin op_sub og_sub (rx_bin op_sub og_sub (rx_var 3) (rx_sub (Room_u1 hr) (rx_fld hT (rx_var 0)) (rx_var 2))) rx_int))
 (rss_cons (rs_if (rt_chain op_le og_le op_lt og_lt rx_int (rx_var 4) (rx_b1 call_len og_len (rx_sub (Room_u1 hr) (rx_fld hT (rx_var 0)) (rx_var 2)) z_len)) (rss_one (rs_ret (rx_sub (Room_u1 hr) (rx_sub (Room_u1 hr) (rx_fld hT (rx_var 0)) (rx_var 2)) (rx_var 4)))) rss_nil)
 (rss_one (rs_ret rx_non)))))))
theorem ok_Store__count (hT : ClsT K FT) (S : SrcM K "Store" "count" s_Store__count ["self", "member"] "Store.count") (z_len : mg "len" = none) : DefM Pr w K mg base 1 "Store" "count" ["self", "member"] sem_Store__count :=
  defM_tr S sc_Store__count b_Store__count (fun fa cdv A outer s H Ex hr tk hp => by
      have nd := sc_Store__count.nd
      exact (rss_one (rs_ret (rx_bin op_addA og_add (rx_sub (Room_u1 hr) (rx_fld hT (rx_var 0)) (rx_var 1)) (rx_b1 call_len og_len (rx_sub (Room_u1 hr) (rx_fld hT (rx_var 0)) (rx_var 1)) z_len)))))
theorem ok__covers (hT : ClsT K FT) (S : Src K mg "_covers" s__covers ["change", "last"]) (z_len : mg "len" = none) (z_range : mg "range" = none) : Def Pr w K mg base 1 "_covers" ["change", "last"] sem__covers :=
  def_tr S sc__covers b__covers (fun fa cdv A outer s H Ex hr tk hp => by
      have nd := sc__covers.nd
      exact (rss_cons (rs_if (rt_cmp (op_neD (Room_u64 hr)) og_ne (rx_b1 call_len og_len (rx_fld hT (rx_var 1)) z_len) (rx_b1 call_len og_len (rx_fld hT (rx_var 0)) z_len) (nomark _)) (rss_one (rs_ret rx_bl)) rss_nil)
 (rss_cons (rs_for (is := [2]) hp rfl (ri_range1 (rx_b1 call_len og_len (rx_fld hT (rx_var 0)) z_len) z_range) (rg_name (i := 2) nd) (rss_one (rs_if (rt_cmp (op_gtO (Room_u64 hr)) og_ordO (rx_sub (Room_u1 hr) (rx_fld hT (rx_var 1)) (rx_var 2)) (rx_sub (Room_u1 hr) (rx_fld hT (rx_var 0)) (rx_var 2)) (nomark _)) (rss_one (rs_ret rx_bl)) rss_nil)))
 (rss_one (rs_ret rx_bl)))))
theorem ok__is_sound (hT : ClsT K FT) (S : Src K mg "_is_sound" s__is_sound ["store", "change"]) (d_Store__count : DefM Pr w K mg base 1 "Store" "count" ["self", "member"] sem_Store__count) (d_Store__find : DefM Pr w K mg base 1 "Store" "find" ["self", "name"] sem_Store__find) (d__covers : Def Pr w K mg base 1 "_covers" ["change", "last"] sem__covers) (z_len : mg "len" = none) (z_range : mg "range" = none) : Def Pr w K mg base 2 "_is_sound" ["store", "change"] sem__is_sound :=
  def_tr S sc__is_sound b__is_sound (fun fa cdv A outer s H Ex hr tk hp => by
      have nd := sc__is_sound.nd
      exact (rss_cons (rs_if (RWt.rt (rw_or (rt_cmp (op_neD (Room_u64 hr)) og_ne (rx_b1 call_len og_len (rx_fld hT (rx_var 1)) z_len) (rx_fld hT (rx_var 0)) (nomark _)) (rw_or1 (rt_cmp (op_neD (Room_u64 hr)) og_ne (rx_sub (Room_u1 hr) (rx_fld hT (rx_var 1)) (rx_fld hT (rx_var 1))) (rx_bin op_sub og_sub (rx_fld hT (rx_var 1)) rx_int) (nomark _))))) (rss_one (rs_ret rx_bl)) rss_nil)
 (rss_cons (rs_for (is := [2]) hp rfl (ri_range1 (rx_fld hT (rx_var 0)) z_range) (rg_name (i := 2) nd) (rss_cons (rs_if (rt_cmp (op_gtO (Room_u64 hr)) og_ordO (rx_sub (Room_u1 hr) (rx_fld hT (rx_var 1)) (rx_var 2)) (rx_meth tk d_Store__count hr (by decide) (rx_var 0) (ra_cons (rx_var 2) ra_nil)) (nomark _)) (rss_one (rs_ret rx_bl)) rss_nil)
 (rss_cons (rs_set (i := 3) nd (rx_meth tk d_Store__find hr (by decide) (rx_var 0) (ra_cons (rx_tup (ra_cons (rx_var 2) (ra_cons (rx_sub (Room_u1 hr) (rx_fld hT (rx_var 1)) (rx_var 2)) ra_nil))) ra_nil)))
 (rss_one (rs_if (RWt.rt (rw_and (rt_cmp op_isNotA og_is (rx_var 3) rx_non (nomark _)) (rw_and1 (rt_not (rt_truth (rx_callP tk d__covers hr (by decide) (ra_cons (rx_var 1) (ra_cons (rx_var 3) ra_nil)))))))) (rss_one (rs_ret rx_bl)) rss_nil)))))
 (rss_one (rs_ret rx_bl)))))
theorem ok_is_whole (hT : ClsT K FT) (S : Src K mg "is_whole" s_is_whole ["store"]) (d_Store__all_changes : DefM Pr w K mg base 5 "Store" "all_changes" ["self"] sem_Store__all_changes) (d__is_sound : Def Pr w K mg base 2 "_is_sound" ["store", "change"] sem__is_sound) : Def Pr w K mg base 6 "is_whole" ["store"] sem_is_whole :=
  def_tr S sc_is_whole b_is_whole (fun fa cdv A outer s H Ex hr tk hp => by
      have nd := sc_is_whole.nd
      exact (rss_cons (rs_for (is := [1]) hp rfl (ri_items (rx_meth0 tk d_Store__all_changes hr (by decide) (rx_var 0))) (rg_name (i := 1) nd) (rss_one (rs_if (rt_not (rt_truth (rx_callP tk d__is_sound hr (by decide) (ra_cons (rx_var 0) (ra_cons (rx_var 1) ra_nil))))) (rss_one (rs_ret rx_bl)) rss_nil)))
 (rss_one (rs_ret rx_bl))))
theorem ok_Store__add (hT : ClsT K FT) (S : SrcM K "Store" "add" s_Store__add ["self", "change"] "Store.add")  : DefM Pr w K mg base 1 "Store" "add" ["self", "change"] sem_Store__add :=
  defM_tr S sc_Store__add b_Store__add (fun fa cdv A outer s H Ex hr tk hp => by
      have nd := sc_Store__add.nd
      exact (rss_one (rs_drop (rx_append (rx_sub (Room_u1 hr) (rx_fld hT (rx_var 0)) (rx_fld hT (rx_var 1))) (rx_var 1)))))
theorem ok__as_tuple (hT : ClsT K FT) (S : Src K mg "_as_tuple" s__as_tuple ["part"]) (z_tuple : mg "tuple" = none) : Def Pr w K mg base 1 "_as_tuple" ["part"] sem__as_tuple :=
  def_tr S sc__as_tuple b__as_tuple (fun fa cdv A outer s H Ex hr tk hp => by
      have nd := sc__as_tuple.nd
      exact (rss_cons (rs_if (rt_cmp op_isA og_is (rx_var 0) rx_non (nomark _)) (rss_one (rs_ret rx_non)) rss_nil)
 (rss_one (rs_ret (rx_t1 call_tuple_of og_tupOf (rx_var 0) z_tuple)))))
theorem ok_Change____init__ (hT : ClsT K FT) (S : SrcM K "Change" "__init__" s_Change____init__ ["self", "author", "number", "heard", "capability", "publics", "parts"] "Change.__init__") (d__as_tuple : Def Pr w K mg base 1 "_as_tuple" ["part"] sem__as_tuple) (z_tuple : mg "tuple" = none) : DefM Pr w K mg base 2 "Change" "__init__" ["self", "author", "number", "heard", "capability", "publics", "parts"] sem_Change____init__ :=
  defM_tr S sc_Change____init__ b_Change____init__ (fun fa cdv A outer s H Ex hr tk hp => by
      have nd := sc_Change____init__.nd
      exact (rss_cons (rs_setF hT (rx_var 0) (rx_var 1))
 (rss_cons (rs_setF hT (rx_var 0) (rx_var 2))
 (rss_cons (rs_setF hT (rx_var 0) (rx_t1 call_tuple_of og_tupOf (rx_var 3) z_tuple))
 (rss_cons (rs_setF hT (rx_var 0) (rx_var 4))
 (rss_cons (rs_setF hT (rx_var 0) (rx_t1 call_tuple_of og_tupOf (rx_var 5) z_tuple))
 (rss_one (rs_setF hT (rx_var 0) (rx_t1 call_tuple_of og_tupOf (rx_lc false rfl nd [("part", 7)] (ri_items (rx_var 6)) (fun _ _ _ _ _ => (rg_name (i := 7) nd)) (fun _ _ _ _ _ => rts_nil) (fun _ _ _ _ _ => (rx_call (ps := ["part"]) takes0 d__as_tuple hr (by decide) (ra_cons (rx_var 7) ra_nil))) (blkOk_by (N := ["self", "author", "number", "heard", "capability", "publics", "parts", "part"]) (sc := defScope s_Change____init__) (by decide +kernel))) z_tuple)))))))))
theorem ok__law_change (hT : ClsT K FT) (S : Src K mg "_law_change" s__law_change ["draws", "index", "row"]) (d_Change____init__ : DefM Pr w K mg base 2 "Change" "__init__" ["self", "author", "number", "heard", "capability", "publics", "parts"] sem_Change____init__) (d__law_at : Def Pr w K mg base 2 "_law_at" ["draws", "index"] sem__law_at) (k_Change : MkC K mg "Change") (z_list : mg "list" = none) (z_range : mg "range" = none) (z_tuple : mg "tuple" = none) : Def Pr w K mg base 4 "_law_change" ["draws", "index", "row"] sem__law_change :=
  def_tr S sc__law_change b__law_change (fun fa cdv A outer s H Ex hr tk hp => by
      have nd := sc__law_change.nd
      exact (rss_cons (rs_set (i := 3) nd (rx_callP tk d__law_at hr (by decide) (ra_cons (rx_var 0) (ra_cons (rx_var 1) ra_nil))))
 (rss_cons (rs_set (i := 4) nd (rx_sub (Room_u1 hr) (rx_lst false (ra_cons rx_non (ra_cons (rx_tup (ra_cons rx_int (ra_cons rx_int (ra_cons rx_int ra_nil)))) (ra_cons (rx_tup (ra_cons rx_int (ra_cons rx_int (ra_cons rx_int ra_nil)))) (ra_cons (rx_tup (ra_cons (rx_sub (Room_u1 hr) (rx_var 2) rx_int) (ra_cons (rx_sub (Room_u1 hr) (rx_var 2) rx_int) (ra_cons rx_int ra_nil)))) ra_nil))))) (rx_bin op_mod og_mod (rx_var 3) rx_int)))
 (rss_cons (rs_set (i := 5) nd (rx_t1 call_tuple_of og_tupOf (rx_lc false rfl nd [("k", 6)] (ri_range1 rx_int z_range) (fun _ _ _ _ _ => (rg_name (i := 6) nd)) (fun _ _ _ _ _ => rts_nil) (fun _ _ _ _ _ => (rx_tup (ra_cons rx_bl (ra_cons rx_bl (ra_cons (rx_cmp (op_eqD (Room_u64 hr)) og_eq (rx_bin op_mod og_mod (rx_var 6) rx_int) rx_int (nomark _)) ra_nil))))) (blkOk_by (N := ["draws", "index", "row", "pick", "capability", "rights", "k", "publics", "parts", "turn"]) (sc := defScope s__law_change) (by decide +kernel))) z_tuple))
 (rss_cons (rs_set (i := 7) nd (rx_slice false (rx_lst false (ra_cons (rx_tup (ra_cons rx_str ra_nil)) (ra_cons (rx_tup (ra_cons rx_str (ra_cons (rx_bin op_mod og_mod (rx_var 3) rx_int) (ra_cons (rx_var 5) ra_nil)))) (ra_cons (rx_tup (ra_cons rx_str (ra_cons (rx_tup (ra_cons rx_int (ra_cons rx_int (ra_cons rx_int ra_nil)))) ra_nil))) ra_nil)))) (ro_some (rx_bin op_mod og_mod (rx_bin op_fdivW og_div (rx_var 3) rx_int) rx_int)) ro_none))
 (rss_cons (rs_set (i := 8) nd (rx_lst false (ra_cons rx_non (ra_cons (rx_tup (ra_cons (rx_tup (ra_cons rx_str (ra_cons rx_str ra_nil))) ra_nil)) (ra_cons (rx_tup ra_nil) (ra_cons (rx_tup (ra_cons (rx_tup (ra_cons rx_str (ra_cons (rx_tup (ra_cons rx_int (ra_cons rx_int ra_nil))) ra_nil))) (ra_cons (rx_tup (ra_cons rx_str (ra_cons (rx_tup (ra_cons rx_int (ra_cons rx_int (ra_cons rx_int ra_nil)))) ra_nil))) ra_nil))) ra_nil))))))
 (rss_cons (rs_set (i := 9) nd (rx_bin op_mod og_mod (rx_bin op_fdivW og_div (rx_var 3) rx_int) rx_int))
 (rss_one (rs_ret (rx_makeP tk k_Change d_Change____init__ hr (by decide) (ra_cons (rx_sub (Room_u1 hr) (rx_var 2) rx_int) (ra_cons (rx_sub (Room_u1 hr) (rx_var 2) rx_int) (ra_cons (rx_t1 call_list_of og_lstOf (rx_sub (Room_u1 hr) (rx_var 2) rx_int) z_list) (ra_cons (rx_var 4) (ra_cons (rx_var 7) (ra_cons (rx_bin op_addA og_add (rx_slice false (rx_var 8) (ro_some (rx_var 9)) ro_none) (rx_slice false (rx_var 8) ro_none (ro_some (rx_var 9)))) ra_nil))))))))))))))))
theorem ok__law_is_sound (hT : ClsT K FT) (S : Src K mg "_law_is_sound" s__law_is_sound ["members", "counts", "rows", "row"]) (z_len : mg "len" = none) (z_range : mg "range" = none) : Def Pr w K mg base 1 "_law_is_sound" ["members", "counts", "rows", "row"] sem__law_is_sound :=
  def_tr S sc__law_is_sound b__law_is_sound (fun fa cdv A outer s H Ex hr tk hp => by
      have nd := sc__law_is_sound.nd
      exact (rss_cons (rs_if (RWt.rt (rw_or (rt_cmp (op_neD (Room_u64 hr)) og_ne (rx_b1 call_len og_len (rx_sub (Room_u1 hr) (rx_var 3) rx_int) z_len) (rx_var 0) (nomark _)) (rw_or1 (rt_cmp (op_neD (Room_u64 hr)) og_ne (rx_sub (Room_u1 hr) (rx_sub (Room_u1 hr) (rx_var 3) rx_int) (rx_sub (Room_u1 hr) (rx_var 3) rx_int)) (rx_bin op_sub og_sub (rx_sub (Room_u1 hr) (rx_var 3) rx_int) rx_int) (nomark _))))) (rss_one (rs_ret rx_bl)) rss_nil)
 (rss_cons (rs_for (is := [4]) hp rfl (ri_range1 (rx_var 0) z_range) (rg_name (i := 4) nd) (rss_cons (rs_if (rt_cmp (op_gtO (Room_u64 hr)) og_ordO (rx_sub (Room_u1 hr) (rx_sub (Room_u1 hr) (rx_var 3) rx_int) (rx_var 4)) (rx_sub (Room_u1 hr) (rx_var 1) (rx_var 4)) (nomark _)) (rss_one (rs_ret rx_bl)) rss_nil)
 (rss_one (rs_for (is := [5]) hp rfl (ri_items (rx_var 2)) (rg_name (i := 5) nd) (rss_one (rs_if (RWt.rt (rw_and (rt_cmp (op_eqD (Room_u64 hr)) og_eq (rx_sub (Room_u1 hr) (rx_var 5) rx_int) (rx_var 4) (nomark _)) (rw_and1 (rt_cmp (op_eqD (Room_u64 hr)) og_eq (rx_sub (Room_u1 hr) (rx_var 5) rx_int) (rx_sub (Room_u1 hr) (rx_sub (Room_u1 hr) (rx_var 3) rx_int) (rx_var 4)) (nomark _))))) (rss_one (rs_for (is := [6]) hp rfl (ri_range1 (rx_var 0) z_range) (rg_name (i := 6) nd) (rss_one (rs_if (RWt.rt (rw_and (rt_cmp op_lt og_lt (rx_var 6) (rx_b1 call_len og_len (rx_sub (Room_u1 hr) (rx_var 5) rx_int) z_len) (nomark _)) (rw_and1 (rt_cmp (op_gtO (Room_u64 hr)) og_ordO (rx_sub (Room_u1 hr) (rx_sub (Room_u1 hr) (rx_var 5) rx_int) (rx_var 6)) (rx_sub (Room_u1 hr) (rx_sub (Room_u1 hr) (rx_var 3) rx_int) (rx_var 6)) (nomark _))))) (rss_one (rs_ret rx_bl)) rss_nil)))) rss_nil))))))
 (rss_one (rs_ret rx_bl)))))
theorem ok_law {fa : Addr} {fd : FuncData} (hT : ClsT K FT) (F : Fun K "law" "law" s_law fa fd) (d_Kept____init__ : DefMD Pr w K mg base 1 "Kept" "__init__" ["self", "acts", "sums", "texts", "shares"] [.kt []] sem_Kept____init__) (d_Store____init__ : DefM Pr w K mg base 3 "Store" "__init__" ["self", "members"] sem_Store____init__) (d_Store__add : DefM Pr w K mg base 1 "Store" "add" ["self", "change"] sem_Store__add) (d_Store__data : DefM Pr w K mg base 3 "Store" "data" ["self"] sem_Store__data) (d__law_at : Def Pr w K mg base 2 "_law_at" ["draws", "index"] sem__law_at) (d__law_change : Def Pr w K mg base 4 "_law_change" ["draws", "index", "row"] sem__law_change) (d__law_cut : Def Pr w K mg base 3 "_law_cut" ["draws", "members", "rows"] sem__law_cut) (d__law_draws : Def Pr w K mg base 2 "_law_draws" ["script"] sem__law_draws) (d__law_is_sound : Def Pr w K mg base 1 "_law_is_sound" ["members", "counts", "rows", "row"] sem__law_is_sound) (d__law_spoil : Def Pr w K mg base 3 "_law_spoil" ["draws", "base", "members", "rows"] sem__law_spoil) (d__law_told : Def Pr w K mg base 3 "_law_told" ["draws"] sem__law_told) (d_is_whole : Def Pr w K mg base 6 "is_whole" ["store"] sem_is_whole) (k_Kept : MkC K mg "Kept") (k_Store : MkC K mg "Store") (z_bool : mg "bool" = none) (z_isinstance : mg "isinstance" = none) (z_len : mg "len" = none) (z_max : mg "max" = none) (z_range : mg "range" = none) (z_tuple : mg "tuple" = none) : FnOk Pr w K mg base CX0 7 fa fd ["script"] (fun vs H Q _ => spQ K 1 sem_law vs H Q E0) :=
  fn_tr0 b_law F sc_law (fun _ _ _ h => h) (fun cdv A outer s H Ex hr tk hp => by
      have nd := sc_law.nd
      exact (rss_cons (rs_set (i := 1) nd (rx_callP tk d__law_draws hr (by decide) (ra_cons (rx_var 0) ra_nil)))
 (rss_cons (rs_asg (is := [2, 3]) (rx_call tk d__law_told hr (by decide) (ra_cons (rx_var 1) ra_nil)) (rg_tup rfl (rgs_cons (rg_name (i := 2) nd) (rgs_cons (rg_name (i := 3) nd) rgs_nil)) 2))
 (rss_cons (rs_set (i := 4) nd (rx_call tk d__law_cut hr (by decide) (ra_cons (rx_var 1) (ra_cons (rx_var 2) (ra_cons (rx_var 3) ra_nil)))))
 (rss_cons (rs_setLc true (i := 5) rfl nd [("k", 6)] (ri_range1 (rx_var 2) z_range) (fun _ _ _ _ _ => (rg_name (i := 6) nd)) (fun _ _ _ _ _ => rts_nil) (fun _ _ _ _ _ => rx_int) (blkOk_by (N := ["script", "draws", "members", "rows", "cut", "counts", "k", "row", "store", "expected", "data", "actual"]) (sc := defScope s_law) (by decide +kernel)) (sw_true rfl rfl rfl (by decide +kernel)))
 (rss_cons (rs_for (is := [7]) hp rfl (ri_items (rx_var 3)) (rg_name (i := 7) nd) (rss_one (rs_setL (rx_var 5) (rx_sub (Room_u1 hr) (rx_var 7) rx_int) (rx_b2 (call_max2 rfl) og_max2 (rx_sub (Room_u1 hr) (rx_var 5) (rx_sub (Room_u1 hr) (rx_var 7) rx_int)) (rx_sub (Room_u1 hr) (rx_var 7) rx_int) z_max))))
 (rss_cons (rs_setLc true (i := 3) rfl nd [("row", 7)] (ri_items (rx_var 3)) (fun _ _ _ _ _ => (rg_name (i := 7) nd)) (fun _ _ _ _ _ => (rts_one (rt_cmp (op_gtO (Room_u64 hr)) og_ordO (rx_sub (Room_u1 hr) (rx_var 7) rx_int) (rx_sub (Room_u1 hr) (rx_var 4) (rx_sub (Room_u1 hr) (rx_var 7) rx_int)) (nomark _)))) (fun _ _ _ _ _ => (rx_var 7)) (blkOk_by (N := ["script", "draws", "members", "rows", "cut", "counts", "k", "row", "store", "expected", "data", "actual"]) (sc := defScope s_law) (by decide +kernel)) (sw_true rfl rfl rfl (by decide +kernel)))
 (rss_cons (rs_drop (rx_call tk d__law_spoil hr (by decide) (ra_cons (rx_var 1) (ra_cons rx_int (ra_cons (rx_var 2) (ra_cons (rx_var 3) ra_nil))))))
 (rss_cons (rs_if (rt_cmp (op_eqD (Room_u64 hr)) og_eq (rx_bin op_mod og_mod (rx_callP tk d__law_at hr (by decide) (ra_cons (rx_var 1) (ra_cons rx_int ra_nil))) rx_int) rx_int (nomark _)) (rss_one (rs_drop (rx_call tk d__law_spoil hr (by decide) (ra_cons (rx_var 1) (ra_cons rx_int (ra_cons (rx_var 2) (ra_cons (rx_var 3) ra_nil))))))) rss_nil)
 (rss_cons (rs_set (i := 8) nd (rx_make tk k_Store d_Store____init__ hr (by decide) (ra_cons (rx_var 2) ra_nil)))
 (rss_cons (rs_if (rt_cmp (op_eqD (Room_u64 hr)) og_eq (rx_bin op_mod og_mod (rx_bin op_fdivW og_div (rx_callP tk d__law_at hr (by decide) (ra_cons (rx_var 1) (ra_cons rx_int ra_nil))) rx_int) rx_int) rx_int (nomark _)) (rss_cons (rs_if (rt_cmp op_gt og_gt (rx_sub (Room_u1 hr) (rx_var 4) rx_int) rx_int (nomark _)) (rss_cons (rs_drop (rx_append (rx_fld hT (rx_var 8)) (rx_tup (ra_cons (rx_tup (ra_cons rx_int (ra_cons rx_int (ra_cons rx_int ra_nil)))) (ra_cons rx_non (ra_cons rx_int (ra_cons (rx_t1 call_tuple_of og_tupOf (rx_lc false rfl nd [("k", 6)] (ri_range1 rx_int z_range) (fun _ _ _ _ _ => (rg_name (i := 6) nd)) (fun _ _ _ _ _ => rts_nil) (fun _ _ _ _ _ => (rx_tup (ra_cons rx_bl (ra_cons rx_bl (ra_cons rx_bl ra_nil))))) (blkOk_by (N := ["script", "draws", "members", "rows", "cut", "counts", "k", "row", "store", "expected", "data", "actual"]) (sc := defScope s_law) (by decide +kernel))) z_tuple) ra_nil)))))))
 (rss_one (rs_setL (rx_fld hT (rx_var 8)) (rx_bin op_mod og_mod (rx_bin op_fdivW og_div (rx_callP tk d__law_at hr (by decide) (ra_cons (rx_var 1) (ra_cons rx_int ra_nil))) rx_int) rx_int) (rx_makePD tk k_Kept d_Kept____init__ hr (by decide) (ra_cons (rx_lst false (ra_cons (rx_tup (ra_cons (rx_tup (ra_cons rx_int (ra_cons rx_int (ra_cons rx_int ra_nil)))) (ra_cons (rx_tup (ra_cons rx_str (ra_cons rx_str ra_nil))) ra_nil))) ra_nil)) (ra_cons (rx_lst false ra_nil) (ra_cons (rx_lst false ra_nil) ra_nil))))))) rss_nil)
 (rss_cons (rs_setL (rx_fld hT (rx_var 8)) (rx_bin op_mod og_mod (rx_bin op_fdivW og_div (rx_callP tk d__law_at hr (by decide) (ra_cons (rx_var 1) (ra_cons rx_int ra_nil))) rx_int) rx_int) rx_non)
 (rss_one (rs_setL (rx_fld hT (rx_var 8)) (rx_bin op_mod og_mod (rx_bin op_fdivW og_div (rx_callP tk d__law_at hr (by decide) (ra_cons (rx_var 1) (ra_cons rx_int ra_nil))) rx_int) rx_int) rx_non)))) rss_nil)
 (rss_cons (rs_for (is := [6]) hp rfl (ri_range1 (rx_var 2) z_range) (rg_name (i := 6) nd) (rss_one (rs_setL (rx_fld hT (rx_var 8)) (rx_var 6) (rx_sub (Room_u1 hr) (rx_var 4) (rx_var 6)))))
 (rss_cons (rs_for (is := [6]) hp rfl (ri_range1 (rx_b1 call_len og_len (rx_var 3) z_len) z_range) (rg_name (i := 6) nd) (rss_one (rs_drop (rx_meth tk d_Store__add hr (by decide) (rx_var 8) (ra_cons (rx_call tk d__law_change hr (by decide) (ra_cons (rx_var 1) (ra_cons (rx_bin op_addA og_add rx_int (rx_var 6)) (ra_cons (rx_sub (Room_u1 hr) (rx_var 3) (rx_var 6)) ra_nil)))) ra_nil)))))
 (rss_cons (rs_set (i := 9) nd rx_bl)
 (rss_cons (rs_for (is := [7]) hp rfl (ri_items (rx_var 3)) (rg_name (i := 7) nd) (rss_one (rs_if (rt_not (rt_truth (rx_callP tk d__law_is_sound hr (by decide) (ra_cons (rx_var 2) (ra_cons (rx_var 5) (ra_cons (rx_var 3) (ra_cons (rx_var 7) ra_nil))))))) (rss_one (rs_set (i := 9) nd rx_bl)) rss_nil)))
 (rss_cons (rs_set (i := 10) nd (rx_meth0 tk d_Store__data hr (by decide) (rx_var 8)))
 (rss_cons (rs_set (i := 11) nd (rx_callP tk d_is_whole hr (by decide) (ra_cons (rx_var 8) ra_nil)))
 (rss_cons (rs_if (RWt.rt (rw_or (rt_not (rt_truth (rx_isi (rx_var 11) z_isinstance z_bool))) (rw_or1 (rt_cmp (op_neD (Room_u64 hr)) og_ne (rx_var 11) (rx_var 9) (nomark _))))) (rss_one (rs_ret rx_bl)) rss_nil)
 (rss_one (rs_ret (rx_and (rx_cmp (op_eqD (Room_u64 hr)) og_eq (rx_meth0 tk d_Store__data hr (by decide) (rx_var 8)) (rx_var 10) (nomark _)) (rx_one (rx_cmp (op_eqD (Room_u64 hr)) og_eq (rx_callP tk d_is_whole hr (by decide) (ra_cons (rx_var 8) ra_nil)) (rx_var 9) (nomark _))))))))))))))))))))))))
end
/-! ### all defs -/
theorem all_mk {l : PySem.W.OpenLaw} {w : World} {K : PySem.W.Frag} {h : Heap} {mg : Str → Option Value} {fa : Addr} (X : K.In h) (G : h.Ns mainGlobals mg) (hfa : mg "law" = some (.ref fa))
    {f0 f1 f2 f3 f4 f5 f6 f7 f8 f9 f10 f11 f12 f13 f14 f15 f16 f17 f18 f19 f20 f21 f22 f23 f24 f25 C_Change C_Kept C_Store : Addr} {od0 an0 od1 an1 od2 an2 od3 an3 od4 an4 od5 an5 od6 an6 od7 an7 od8 an8 od9 an9 od10 an10 od11 an11 od12 an12 od13 an13 od14 an14 od15 an15 od16 an16 od17 an17 od18 an18 od19 an19 od20 an20 od21 an21 od22 an22 od23 an23 od24 an24 od25 an25 : Option Addr} {sl0 sl1 sl2 sl3 sl4 sl5 sl6 sl7 sl8 sl9 sl10 sl11 sl12 sl13 sl14 sl15 sl16 sl17 sl18 sl19 sl20 sl21 sl22 sl23 sl24 sl25 : Array (Option Value)} {oc0 kV0 dc0 pm0 cd0 ct0 oc1 kV1 dc1 pm1 cd1 ct1 oc2 kV2 dc2 pm2 cd2 ct2 oc3 kV3 dc3 pm3 cd3 ct3 oc4 kV4 dc4 pm4 cd4 ct4 oc5 kV5 dc5 pm5 cd5 ct5 oc6 kV6 dc6 pm6 cd6 ct6 oc7 kV7 dc7 pm7 cd7 ct7 oc8 kV8 dc8 pm8 cd8 ct8 oc9 kV9 dc9 pm9 cd9 ct9 oc10 kV10 dc10 pm10 cd10 ct10 oc11 kV11 dc11 pm11 cd11 ct11 oc12 kV12 dc12 pm12 cd12 ct12 oc13 kV13 dc13 pm13 cd13 ct13 oc14 kV14 dc14 pm14 cd14 ct14 oc15 kV15 dc15 pm15 cd15 ct15 oc16 kV16 dc16 pm16 cd16 ct16 oc17 kV17 dc17 pm17 cd17 ct17 oc18 kV18 dc18 pm18 cd18 ct18 oc19 kV19 dc19 pm19 cd19 ct19 oc20 kV20 dc20 pm20 cd20 ct20 oc21 kV21 dc21 pm21 cd21 ct21 oc22 kV22 dc22 pm22 cd22 ct22 oc23 kV23 dc23 pm23 cd23 ct23 oc24 kV24 dc24 pm24 cd24 ct24 oc25 kV25 dc25 pm25 cd25 ct25 : Value} {tk_SPACES : Tok} {dT6 dU6 : Addr} {ocT6 : Value} {odT6 odU6 : Option Addr} {nT6 nU6 : Nat} {slT6 slU6 : Array (Option Value)}
    (a_Change : PySem.W.nsIn K mainGlobals "Change" = some (some (.ref C_Change))) (pg_Change : PySem.W.plainGet K C_Change Str.empty = true) (hd_Change : PySem.W.hasDictIn K C_Change = true) (po_Change : PySem.W.plainOver K C_Change = true) (sa_Change : PySem.W.findIn K (.ref C_Change) "__setattr__" = some (some (.builtin "object.__setattr__")))
    (n_Change_author : PySem.W.findIn K (.ref C_Change) "author" = some none)
    (n_Change_number : PySem.W.findIn K (.ref C_Change) "number" = some none)
    (n_Change_heard : PySem.W.findIn K (.ref C_Change) "heard" = some none)
    (n_Change_capability : PySem.W.findIn K (.ref C_Change) "capability" = some none)
    (n_Change_publics : PySem.W.findIn K (.ref C_Change) "publics" = some none)
    (n_Change_parts : PySem.W.findIn K (.ref C_Change) "parts" = some none)
    (mk_Change : PySem.W.makesIn K C_Change = true) (kc_Change : PySem.W.keepIn K (.ref C_Change) = true)
    (a_Kept : PySem.W.nsIn K mainGlobals "Kept" = some (some (.ref C_Kept))) (pg_Kept : PySem.W.plainGet K C_Kept Str.empty = true) (hd_Kept : PySem.W.hasDictIn K C_Kept = true) (po_Kept : PySem.W.plainOver K C_Kept = true) (sa_Kept : PySem.W.findIn K (.ref C_Kept) "__setattr__" = some (some (.builtin "object.__setattr__")))
    (n_Kept_acts : PySem.W.findIn K (.ref C_Kept) "acts" = some none)
    (n_Kept_sums : PySem.W.findIn K (.ref C_Kept) "sums" = some none)
    (n_Kept_texts : PySem.W.findIn K (.ref C_Kept) "texts" = some none)
    (n_Kept_shares : PySem.W.findIn K (.ref C_Kept) "shares" = some none)
    (mk_Kept : PySem.W.makesIn K C_Kept = true) (kc_Kept : PySem.W.keepIn K (.ref C_Kept) = true)
    (a_Store : PySem.W.nsIn K mainGlobals "Store" = some (some (.ref C_Store))) (pg_Store : PySem.W.plainGet K C_Store Str.empty = true) (hd_Store : PySem.W.hasDictIn K C_Store = true) (po_Store : PySem.W.plainOver K C_Store = true) (sa_Store : PySem.W.findIn K (.ref C_Store) "__setattr__" = some (some (.builtin "object.__setattr__")))
    (n_Store_members : PySem.W.findIn K (.ref C_Store) "members" = some none)
    (n_Store_cut : PySem.W.findIn K (.ref C_Store) "cut" = some none)
    (n_Store_capabilities : PySem.W.findIn K (.ref C_Store) "capabilities" = some none)
    (n_Store_kept : PySem.W.findIn K (.ref C_Store) "kept" = some none)
    (n_Store_changes : PySem.W.findIn K (.ref C_Store) "changes" = some none)
    (mk_Store : PySem.W.makesIn K C_Store = true) (kc_Store : PySem.W.keepIn K (.ref C_Store) = true)
    (a0 : PySem.W.nsIn K mainGlobals "_law_mix" = some (some (.ref f0)))
    (l0 : K.lookup f0 = some ⟨oc0, od0, .func (PySem.W.fnOf "_law_mix" "_law_mix" (defArgs s__law_mix) (defBody s__law_mix) (defScope s__law_mix) .none kV0 dc0 pm0 an0 cd0 ct0), sl0⟩) (c0 : PySem.W.codeIn K cd0 "_law_mix" = true) (k0 : PySem.W.keepIn K (.ref f0) = true)
    (a1 : PySem.W.nsIn K mainGlobals "_law_draws" = some (some (.ref f1)))
    (l1 : K.lookup f1 = some ⟨oc1, od1, .func (PySem.W.fnOf "_law_draws" "_law_draws" (defArgs s__law_draws) (defBody s__law_draws) (defScope s__law_draws) .none kV1 dc1 pm1 an1 cd1 ct1), sl1⟩) (c1 : PySem.W.codeIn K cd1 "_law_draws" = true) (k1 : PySem.W.keepIn K (.ref f1) = true)
    (a2 : PySem.W.nsIn K mainGlobals "_law_at" = some (some (.ref f2)))
    (l2 : K.lookup f2 = some ⟨oc2, od2, .func (PySem.W.fnOf "_law_at" "_law_at" (defArgs s__law_at) (defBody s__law_at) (defScope s__law_at) .none kV2 dc2 pm2 an2 cd2 ct2), sl2⟩) (c2 : PySem.W.codeIn K cd2 "_law_at" = true) (k2 : PySem.W.keepIn K (.ref f2) = true)
    (a3 : PySem.W.nsIn K mainGlobals "_law_told" = some (some (.ref f3)))
    (l3 : K.lookup f3 = some ⟨oc3, od3, .func (PySem.W.fnOf "_law_told" "_law_told" (defArgs s__law_told) (defBody s__law_told) (defScope s__law_told) .none kV3 dc3 pm3 an3 cd3 ct3), sl3⟩) (c3 : PySem.W.codeIn K cd3 "_law_told" = true) (k3 : PySem.W.keepIn K (.ref f3) = true)
    (a4 : PySem.W.nsIn K mainGlobals "_law_cut" = some (some (.ref f4)))
    (l4 : K.lookup f4 = some ⟨oc4, od4, .func (PySem.W.fnOf "_law_cut" "_law_cut" (defArgs s__law_cut) (defBody s__law_cut) (defScope s__law_cut) .none kV4 dc4 pm4 an4 cd4 ct4), sl4⟩) (c4 : PySem.W.codeIn K cd4 "_law_cut" = true) (k4 : PySem.W.keepIn K (.ref f4) = true)
    (a5 : PySem.W.nsIn K mainGlobals "_law_spoil" = some (some (.ref f5)))
    (l5 : K.lookup f5 = some ⟨oc5, od5, .func (PySem.W.fnOf "_law_spoil" "_law_spoil" (defArgs s__law_spoil) (defBody s__law_spoil) (defScope s__law_spoil) .none kV5 dc5 pm5 an5 cd5 ct5), sl5⟩) (c5 : PySem.W.codeIn K cd5 "_law_spoil" = true) (k5 : PySem.W.keepIn K (.ref f5) = true)
    (a6 : PySem.W.findIn K (.ref C_Kept) "__init__" = some (some (.ref f6))) (i6 : PySem.W.isFn K (.ref f6) = true)
    (l6 : K.lookup f6 = some ⟨oc6, od6, .func (PySem.W.fnOf "__init__" "Kept.__init__" (defArgs s_Kept____init__) (defBody s_Kept____init__) (defScope s_Kept____init__) (.ref dT6) kV6 dc6 pm6 an6 cd6 ct6), sl6⟩) (c6 : PySem.W.codeIn K cd6 "Kept.__init__" = true) (k6 : PySem.W.keepIn K (.ref f6) = true)
    (lt6 : K.lookup dT6 = some ⟨ocT6, odT6, .seq #[.ref dU6] nT6, slT6⟩) (lu6 : K.lookup dU6 = some ⟨.type "tuple", odU6, .seq #[] nU6, slU6⟩)
    (a7 : PySem.W.findIn K (.ref C_Store) "__init__" = some (some (.ref f7))) (i7 : PySem.W.isFn K (.ref f7) = true)
    (l7 : K.lookup f7 = some ⟨oc7, od7, .func (PySem.W.fnOf "__init__" "Store.__init__" (defArgs s_Store____init__) (defBody s_Store____init__) (defScope s_Store____init__) .none kV7 dc7 pm7 an7 cd7 ct7), sl7⟩) (c7 : PySem.W.codeIn K cd7 "Store.__init__" = true) (k7 : PySem.W.keepIn K (.ref f7) = true)
    (a8 : PySem.W.findIn K (.ref C_Kept) "data" = some (some (.ref f8))) (i8 : PySem.W.isFn K (.ref f8) = true)
    (l8 : K.lookup f8 = some ⟨oc8, od8, .func (PySem.W.fnOf "data" "Kept.data" (defArgs s_Kept__data) (defBody s_Kept__data) (defScope s_Kept__data) .none kV8 dc8 pm8 an8 cd8 ct8), sl8⟩) (c8 : PySem.W.codeIn K cd8 "Kept.data" = true) (k8 : PySem.W.keepIn K (.ref f8) = true)
    (a9 : PySem.W.nsIn K mainGlobals "_kept_data" = some (some (.ref f9)))
    (l9 : K.lookup f9 = some ⟨oc9, od9, .func (PySem.W.fnOf "_kept_data" "_kept_data" (defArgs s__kept_data) (defBody s__kept_data) (defScope s__kept_data) .none kV9 dc9 pm9 an9 cd9 ct9), sl9⟩) (c9 : PySem.W.codeIn K cd9 "_kept_data" = true) (k9 : PySem.W.keepIn K (.ref f9) = true)
    (a10 : PySem.W.findIn K (.ref C_Change) "header" = some (some (.ref f10))) (i10 : PySem.W.isFn K (.ref f10) = true)
    (l10 : K.lookup f10 = some ⟨oc10, od10, .func (PySem.W.fnOf "header" "Change.header" (defArgs s_Change__header) (defBody s_Change__header) (defScope s_Change__header) .none kV10 dc10 pm10 an10 cd10 ct10), sl10⟩) (c10 : PySem.W.codeIn K cd10 "Change.header" = true) (k10 : PySem.W.keepIn K (.ref f10) = true)
    (a11 : PySem.W.findIn K (.ref C_Store) "data" = some (some (.ref f11))) (i11 : PySem.W.isFn K (.ref f11) = true)
    (l11 : K.lookup f11 = some ⟨oc11, od11, .func (PySem.W.fnOf "data" "Store.data" (defArgs s_Store__data) (defBody s_Store__data) (defScope s_Store__data) .none kV11 dc11 pm11 an11 cd11 ct11), sl11⟩) (c11 : PySem.W.codeIn K cd11 "Store.data" = true) (k11 : PySem.W.keepIn K (.ref f11) = true)
    (a12 : PySem.W.nsIn K mainGlobals "order_key" = some (some (.ref f12)))
    (l12 : K.lookup f12 = some ⟨oc12, od12, .func (PySem.W.fnOf "order_key" "order_key" (defArgs s_order_key) (defBody s_order_key) (defScope s_order_key) .none kV12 dc12 pm12 an12 cd12 ct12), sl12⟩) (c12 : PySem.W.codeIn K cd12 "order_key" = true) (k12 : PySem.W.keepIn K (.ref f12) = true)
    (a13 : PySem.W.nsIn K mainGlobals "in_order" = some (some (.ref f13)))
    (l13 : K.lookup f13 = some ⟨oc13, od13, .func (PySem.W.fnOf "in_order" "in_order" (defArgs s_in_order) (defBody s_in_order) (defScope s_in_order) .none kV13 dc13 pm13 an13 cd13 ct13), sl13⟩) (c13 : PySem.W.codeIn K cd13 "in_order" = true) (k13 : PySem.W.keepIn K (.ref f13) = true)
    (a14 : PySem.W.findIn K (.ref C_Store) "all_changes" = some (some (.ref f14))) (i14 : PySem.W.isFn K (.ref f14) = true)
    (l14 : K.lookup f14 = some ⟨oc14, od14, .func (PySem.W.fnOf "all_changes" "Store.all_changes" (defArgs s_Store__all_changes) (defBody s_Store__all_changes) (defScope s_Store__all_changes) .none kV14 dc14 pm14 an14 cd14 ct14), sl14⟩) (c14 : PySem.W.codeIn K cd14 "Store.all_changes" = true) (k14 : PySem.W.keepIn K (.ref f14) = true)
    (a15 : PySem.W.findIn K (.ref C_Store) "find" = some (some (.ref f15))) (i15 : PySem.W.isFn K (.ref f15) = true)
    (l15 : K.lookup f15 = some ⟨oc15, od15, .func (PySem.W.fnOf "find" "Store.find" (defArgs s_Store__find) (defBody s_Store__find) (defScope s_Store__find) .none kV15 dc15 pm15 an15 cd15 ct15), sl15⟩) (c15 : PySem.W.codeIn K cd15 "Store.find" = true) (k15 : PySem.W.keepIn K (.ref f15) = true)
    (a16 : PySem.W.findIn K (.ref C_Store) "count" = some (some (.ref f16))) (i16 : PySem.W.isFn K (.ref f16) = true)
    (l16 : K.lookup f16 = some ⟨oc16, od16, .func (PySem.W.fnOf "count" "Store.count" (defArgs s_Store__count) (defBody s_Store__count) (defScope s_Store__count) .none kV16 dc16 pm16 an16 cd16 ct16), sl16⟩) (c16 : PySem.W.codeIn K cd16 "Store.count" = true) (k16 : PySem.W.keepIn K (.ref f16) = true)
    (a17 : PySem.W.nsIn K mainGlobals "_covers" = some (some (.ref f17)))
    (l17 : K.lookup f17 = some ⟨oc17, od17, .func (PySem.W.fnOf "_covers" "_covers" (defArgs s__covers) (defBody s__covers) (defScope s__covers) .none kV17 dc17 pm17 an17 cd17 ct17), sl17⟩) (c17 : PySem.W.codeIn K cd17 "_covers" = true) (k17 : PySem.W.keepIn K (.ref f17) = true)
    (a18 : PySem.W.nsIn K mainGlobals "_is_sound" = some (some (.ref f18)))
    (l18 : K.lookup f18 = some ⟨oc18, od18, .func (PySem.W.fnOf "_is_sound" "_is_sound" (defArgs s__is_sound) (defBody s__is_sound) (defScope s__is_sound) .none kV18 dc18 pm18 an18 cd18 ct18), sl18⟩) (c18 : PySem.W.codeIn K cd18 "_is_sound" = true) (k18 : PySem.W.keepIn K (.ref f18) = true)
    (a19 : PySem.W.nsIn K mainGlobals "is_whole" = some (some (.ref f19)))
    (l19 : K.lookup f19 = some ⟨oc19, od19, .func (PySem.W.fnOf "is_whole" "is_whole" (defArgs s_is_whole) (defBody s_is_whole) (defScope s_is_whole) .none kV19 dc19 pm19 an19 cd19 ct19), sl19⟩) (c19 : PySem.W.codeIn K cd19 "is_whole" = true) (k19 : PySem.W.keepIn K (.ref f19) = true)
    (a20 : PySem.W.findIn K (.ref C_Store) "add" = some (some (.ref f20))) (i20 : PySem.W.isFn K (.ref f20) = true)
    (l20 : K.lookup f20 = some ⟨oc20, od20, .func (PySem.W.fnOf "add" "Store.add" (defArgs s_Store__add) (defBody s_Store__add) (defScope s_Store__add) .none kV20 dc20 pm20 an20 cd20 ct20), sl20⟩) (c20 : PySem.W.codeIn K cd20 "Store.add" = true) (k20 : PySem.W.keepIn K (.ref f20) = true)
    (a21 : PySem.W.nsIn K mainGlobals "_as_tuple" = some (some (.ref f21)))
    (l21 : K.lookup f21 = some ⟨oc21, od21, .func (PySem.W.fnOf "_as_tuple" "_as_tuple" (defArgs s__as_tuple) (defBody s__as_tuple) (defScope s__as_tuple) .none kV21 dc21 pm21 an21 cd21 ct21), sl21⟩) (c21 : PySem.W.codeIn K cd21 "_as_tuple" = true) (k21 : PySem.W.keepIn K (.ref f21) = true)
    (a22 : PySem.W.findIn K (.ref C_Change) "__init__" = some (some (.ref f22))) (i22 : PySem.W.isFn K (.ref f22) = true)
    (l22 : K.lookup f22 = some ⟨oc22, od22, .func (PySem.W.fnOf "__init__" "Change.__init__" (defArgs s_Change____init__) (defBody s_Change____init__) (defScope s_Change____init__) .none kV22 dc22 pm22 an22 cd22 ct22), sl22⟩) (c22 : PySem.W.codeIn K cd22 "Change.__init__" = true) (k22 : PySem.W.keepIn K (.ref f22) = true)
    (a23 : PySem.W.nsIn K mainGlobals "_law_change" = some (some (.ref f23)))
    (l23 : K.lookup f23 = some ⟨oc23, od23, .func (PySem.W.fnOf "_law_change" "_law_change" (defArgs s__law_change) (defBody s__law_change) (defScope s__law_change) .none kV23 dc23 pm23 an23 cd23 ct23), sl23⟩) (c23 : PySem.W.codeIn K cd23 "_law_change" = true) (k23 : PySem.W.keepIn K (.ref f23) = true)
    (a24 : PySem.W.nsIn K mainGlobals "_law_is_sound" = some (some (.ref f24)))
    (l24 : K.lookup f24 = some ⟨oc24, od24, .func (PySem.W.fnOf "_law_is_sound" "_law_is_sound" (defArgs s__law_is_sound) (defBody s__law_is_sound) (defScope s__law_is_sound) .none kV24 dc24 pm24 an24 cd24 ct24), sl24⟩) (c24 : PySem.W.codeIn K cd24 "_law_is_sound" = true) (k24 : PySem.W.keepIn K (.ref f24) = true)
    (a25 : PySem.W.nsIn K mainGlobals "law" = some (some (.ref f25)))
    (l25 : K.lookup f25 = some ⟨oc25, od25, .func (PySem.W.fnOf "law" "law" (defArgs s_law) (defBody s_law) (defScope s_law) .none kV25 dc25 pm25 an25 cd25 ct25), sl25⟩) (c25 : PySem.W.codeIn K cd25 "law" = true) (k25 : PySem.W.keepIn K (.ref f25) = true)
    (y_SPACES : PySem.W.nsIn K mainGlobals "SPACES" = some (some (.int 4 tk_SPACES)))
    (y_bool : PySem.W.nsIn K mainGlobals "bool" = some none)
    (y_int : PySem.W.nsIn K mainGlobals "int" = some none)
    (y_isinstance : PySem.W.nsIn K mainGlobals "isinstance" = some none)
    (y_len : PySem.W.nsIn K mainGlobals "len" = some none)
    (y_list : PySem.W.nsIn K mainGlobals "list" = some none)
    (y_max : PySem.W.nsIn K mainGlobals "max" = some none)
    (y_min : PySem.W.nsIn K mainGlobals "min" = some none)
    (y_range : PySem.W.nsIn K mainGlobals "range" = some none)
    (y_sorted : PySem.W.nsIn K mainGlobals "sorted" = some none)
    (y_sum : PySem.W.nsIn K mainGlobals "sum" = some none)
    (y_tuple : PySem.W.nsIn K mainGlobals "tuple" = some none)
    : ∃ fd : FuncData, (∀ (s : Shared) (v : Value), BindsTo s fd ⟨[v], []⟩ [("script", v)]) ∧ ∀ base : Heap, K.In base → base.Ns mainGlobals mg → FnOk l.prog w K mg base CX0 7 fa fd ["script"] (fun vs H Q _ => spQ K 1 sem_law vs H Q E0) := by
  have e := hfa.symm.trans (PySem.W.mg_of X G a25)
  cases e
  have gl_Change : glAt K "Change" = some C_Change := by unfold glAt; rw [a_Change]
  have cl_Change : Cls K C_Change := ⟨pg_Change, hd_Change, po_Change, sa_Change⟩
  have gl_Kept : glAt K "Kept" = some C_Kept := by unfold glAt; rw [a_Kept]
  have cl_Kept : Cls K C_Kept := ⟨pg_Kept, hd_Kept, po_Kept, sa_Kept⟩
  have gl_Store : glAt K "Store" = some C_Store := by unfold glAt; rw [a_Store]
  have cl_Store : Cls K C_Store := ⟨pg_Store, hd_Store, po_Store, sa_Store⟩
  have hT : ClsT K FT := (clsT_cons gl_Change cl_Change (fun f hf => by
    simp only [List.mem_cons, List.not_mem_nil, or_false] at hf
    rcases hf with rfl | rfl | rfl | rfl | rfl | rfl
    · exact n_Change_author
    · exact n_Change_number
    · exact n_Change_heard
    · exact n_Change_capability
    · exact n_Change_publics
    · exact n_Change_parts) (clsT_cons gl_Kept cl_Kept (fun f hf => by
    simp only [List.mem_cons, List.not_mem_nil, or_false] at hf
    rcases hf with rfl | rfl | rfl | rfl
    · exact n_Kept_acts
    · exact n_Kept_sums
    · exact n_Kept_texts
    · exact n_Kept_shares) (clsT_cons gl_Store cl_Store (fun f hf => by
    simp only [List.mem_cons, List.not_mem_nil, or_false] at hf
    rcases hf with rfl | rfl | rfl | rfl | rfl
    · exact n_Store_members
    · exact n_Store_cut
    · exact n_Store_capabilities
    · exact n_Store_kept
    · exact n_Store_changes) clsT_nil)))
  have F0 := fun_mk (st := s__law_mix) l0 c0 k0
  have S0 : Src K mg "_law_mix" s__law_mix ["cell", "k"] := ⟨_, _, F0, PySem.W.mg_of X G a0, F0.binds fun _ _ _ _ _ _ us hl => match us, hl with | [_, _], _ => rfl⟩
  have F1 := fun_mk (st := s__law_draws) l1 c1 k1
  have S1 : Src K mg "_law_draws" s__law_draws ["script"] := ⟨_, _, F1, PySem.W.mg_of X G a1, F1.binds fun _ _ _ _ _ _ us hl => match us, hl with | [_], _ => rfl⟩
  have F2 := fun_mk (st := s__law_at) l2 c2 k2
  have S2 : Src K mg "_law_at" s__law_at ["draws", "index"] := ⟨_, _, F2, PySem.W.mg_of X G a2, F2.binds fun _ _ _ _ _ _ us hl => match us, hl with | [_, _], _ => rfl⟩
  have F3 := fun_mk (st := s__law_told) l3 c3 k3
  have S3 : Src K mg "_law_told" s__law_told ["draws"] := ⟨_, _, F3, PySem.W.mg_of X G a3, F3.binds fun _ _ _ _ _ _ us hl => match us, hl with | [_], _ => rfl⟩
  have F4 := fun_mk (st := s__law_cut) l4 c4 k4
  have S4 : Src K mg "_law_cut" s__law_cut ["draws", "members", "rows"] := ⟨_, _, F4, PySem.W.mg_of X G a4, F4.binds fun _ _ _ _ _ _ us hl => match us, hl with | [_, _, _], _ => rfl⟩
  have F5 := fun_mk (st := s__law_spoil) l5 c5 k5
  have S5 : Src K mg "_law_spoil" s__law_spoil ["draws", "base", "members", "rows"] := ⟨_, _, F5, PySem.W.mg_of X G a5, F5.binds fun _ _ _ _ _ _ us hl => match us, hl with | [_, _, _, _], _ => rfl⟩
  have S6 : SrcMD K "Kept" "__init__" s_Kept____init__ ["self", "acts", "sums", "texts", "shares"] "Kept.__init__" [.kt []] := srcMD_1 gl_Kept cl_Kept ⟨a6, i6, k6⟩ l6 c6 k6 lt6 rfl lu6 rfl rfl (fun _ _ _ _ _ _ _ us its hl hi => match us, its, hl, hi with | [_, _, _, _, _], [_], _, _ => ⟨_, rfl, rfl⟩) (fun _ _ _ _ _ _ _ us its hl hi => match us, its, hl, hi with | [_, _, _, _], [_], _, _ => ⟨_, rfl, rfl⟩) (by decide)
  have F7 := fun_mk (st := s_Store____init__) l7 c7 k7
  have S7 : SrcM K "Store" "__init__" s_Store____init__ ["self", "members"] "Store.__init__" := ⟨_, _, _, gl_Store, cl_Store, ⟨a7, i7, k7⟩, F7, F7.binds fun _ _ _ _ _ _ us hl => match us, hl with | [_, _], _ => rfl⟩
  have F8 := fun_mk (st := s_Kept__data) l8 c8 k8
  have S8 : SrcM K "Kept" "data" s_Kept__data ["self"] "Kept.data" := ⟨_, _, _, gl_Kept, cl_Kept, ⟨a8, i8, k8⟩, F8, F8.binds fun _ _ _ _ _ _ us hl => match us, hl with | [_], _ => rfl⟩
  have F9 := fun_mk (st := s__kept_data) l9 c9 k9
  have S9 : Src K mg "_kept_data" s__kept_data ["kept"] := ⟨_, _, F9, PySem.W.mg_of X G a9, F9.binds fun _ _ _ _ _ _ us hl => match us, hl with | [_], _ => rfl⟩
  have F10 := fun_mk (st := s_Change__header) l10 c10 k10
  have S10 : SrcM K "Change" "header" s_Change__header ["self"] "Change.header" := ⟨_, _, _, gl_Change, cl_Change, ⟨a10, i10, k10⟩, F10, F10.binds fun _ _ _ _ _ _ us hl => match us, hl with | [_], _ => rfl⟩
  have F11 := fun_mk (st := s_Store__data) l11 c11 k11
  have S11 : SrcM K "Store" "data" s_Store__data ["self"] "Store.data" := ⟨_, _, _, gl_Store, cl_Store, ⟨a11, i11, k11⟩, F11, F11.binds fun _ _ _ _ _ _ us hl => match us, hl with | [_], _ => rfl⟩
  have F12 := fun_mk (st := s_order_key) l12 c12 k12
  have S12 : Src K mg "order_key" s_order_key ["change"] := ⟨_, _, F12, PySem.W.mg_of X G a12, F12.binds fun _ _ _ _ _ _ us hl => match us, hl with | [_], _ => rfl⟩
  have F13 := fun_mk (st := s_in_order) l13 c13 k13
  have S13 : Src K mg "in_order" s_in_order ["changes"] := ⟨_, _, F13, PySem.W.mg_of X G a13, F13.binds fun _ _ _ _ _ _ us hl => match us, hl with | [_], _ => rfl⟩
  have F14 := fun_mk (st := s_Store__all_changes) l14 c14 k14
  have S14 : SrcM K "Store" "all_changes" s_Store__all_changes ["self"] "Store.all_changes" := ⟨_, _, _, gl_Store, cl_Store, ⟨a14, i14, k14⟩, F14, F14.binds fun _ _ _ _ _ _ us hl => match us, hl with | [_], _ => rfl⟩
  have F15 := fun_mk (st := s_Store__find) l15 c15 k15
  have S15 : SrcM K "Store" "find" s_Store__find ["self", "name"] "Store.find" := ⟨_, _, _, gl_Store, cl_Store, ⟨a15, i15, k15⟩, F15, F15.binds fun _ _ _ _ _ _ us hl => match us, hl with | [_, _], _ => rfl⟩
  have F16 := fun_mk (st := s_Store__count) l16 c16 k16
  have S16 : SrcM K "Store" "count" s_Store__count ["self", "member"] "Store.count" := ⟨_, _, _, gl_Store, cl_Store, ⟨a16, i16, k16⟩, F16, F16.binds fun _ _ _ _ _ _ us hl => match us, hl with | [_, _], _ => rfl⟩
  have F17 := fun_mk (st := s__covers) l17 c17 k17
  have S17 : Src K mg "_covers" s__covers ["change", "last"] := ⟨_, _, F17, PySem.W.mg_of X G a17, F17.binds fun _ _ _ _ _ _ us hl => match us, hl with | [_, _], _ => rfl⟩
  have F18 := fun_mk (st := s__is_sound) l18 c18 k18
  have S18 : Src K mg "_is_sound" s__is_sound ["store", "change"] := ⟨_, _, F18, PySem.W.mg_of X G a18, F18.binds fun _ _ _ _ _ _ us hl => match us, hl with | [_, _], _ => rfl⟩
  have F19 := fun_mk (st := s_is_whole) l19 c19 k19
  have S19 : Src K mg "is_whole" s_is_whole ["store"] := ⟨_, _, F19, PySem.W.mg_of X G a19, F19.binds fun _ _ _ _ _ _ us hl => match us, hl with | [_], _ => rfl⟩
  have F20 := fun_mk (st := s_Store__add) l20 c20 k20
  have S20 : SrcM K "Store" "add" s_Store__add ["self", "change"] "Store.add" := ⟨_, _, _, gl_Store, cl_Store, ⟨a20, i20, k20⟩, F20, F20.binds fun _ _ _ _ _ _ us hl => match us, hl with | [_, _], _ => rfl⟩
  have F21 := fun_mk (st := s__as_tuple) l21 c21 k21
  have S21 : Src K mg "_as_tuple" s__as_tuple ["part"] := ⟨_, _, F21, PySem.W.mg_of X G a21, F21.binds fun _ _ _ _ _ _ us hl => match us, hl with | [_], _ => rfl⟩
  have F22 := fun_mk (st := s_Change____init__) l22 c22 k22
  have S22 : SrcM K "Change" "__init__" s_Change____init__ ["self", "author", "number", "heard", "capability", "publics", "parts"] "Change.__init__" := ⟨_, _, _, gl_Change, cl_Change, ⟨a22, i22, k22⟩, F22, F22.binds fun _ _ _ _ _ _ us hl => match us, hl with | [_, _, _, _, _, _, _], _ => rfl⟩
  have F23 := fun_mk (st := s__law_change) l23 c23 k23
  have S23 : Src K mg "_law_change" s__law_change ["draws", "index", "row"] := ⟨_, _, F23, PySem.W.mg_of X G a23, F23.binds fun _ _ _ _ _ _ us hl => match us, hl with | [_, _, _], _ => rfl⟩
  have F24 := fun_mk (st := s__law_is_sound) l24 c24 k24
  have S24 : Src K mg "_law_is_sound" s__law_is_sound ["members", "counts", "rows", "row"] := ⟨_, _, F24, PySem.W.mg_of X G a24, F24.binds fun _ _ _ _ _ _ us hl => match us, hl with | [_, _, _, _], _ => rfl⟩
  have F25 := fun_mk (st := s_law) l25 c25 k25
  have S25 : Src K mg "law" s_law ["script"] := ⟨_, _, F25, PySem.W.mg_of X G a25, F25.binds fun _ _ _ _ _ _ us hl => match us, hl with | [_], _ => rfl⟩
  have k_Change : MkC K mg "Change" := ⟨_, _, gl_Change, PySem.W.mg_of X G a_Change, ⟨mk_Change, a22, i22, kc_Change⟩, a22⟩
  have k_Kept : MkC K mg "Kept" := ⟨_, _, gl_Kept, PySem.W.mg_of X G a_Kept, ⟨mk_Kept, a6, i6, kc_Kept⟩, a6⟩
  have k_Store : MkC K mg "Store" := ⟨_, _, gl_Store, PySem.W.mg_of X G a_Store, ⟨mk_Store, a7, i7, kc_Store⟩, a7⟩
  have g_SPACES := PySem.W.mg_of X G y_SPACES
  have z_bool := PySem.W.mg_none_of X G y_bool
  have z_int := PySem.W.mg_none_of X G y_int
  have z_isinstance := PySem.W.mg_none_of X G y_isinstance
  have z_len := PySem.W.mg_none_of X G y_len
  have z_list := PySem.W.mg_none_of X G y_list
  have z_max := PySem.W.mg_none_of X G y_max
  have z_min := PySem.W.mg_none_of X G y_min
  have z_range := PySem.W.mg_none_of X G y_range
  have z_sorted := PySem.W.mg_none_of X G y_sorted
  have z_sum := PySem.W.mg_none_of X G y_sum
  have z_tuple := PySem.W.mg_none_of X G y_tuple
  refine ⟨PySem.W.fnOf "law" "law" (defArgs s_law) (defBody s_law) (defScope s_law) .none kV25 dc25 pm25 an25 cd25 ct25, fun s v => .of_eq rfl, fun base _ _ => ?_⟩
  have d__law_mix := ok__law_mix (Pr := l.prog) (w := w) (mg := mg) (base := base) hT S0 z_int
  have d__law_draws := ok__law_draws (Pr := l.prog) (w := w) (mg := mg) (base := base) hT S1 d__law_mix z_int z_len z_min z_range
  have d__law_at := ok__law_at (Pr := l.prog) (w := w) (mg := mg) (base := base) hT S2 d__law_mix z_int z_len
  have d__law_told := ok__law_told (Pr := l.prog) (w := w) (mg := mg) (base := base) hT S3 d__law_at z_list z_max z_range
  have d__law_cut := ok__law_cut (Pr := l.prog) (w := w) (mg := mg) (base := base) hT S4 d__law_at z_len z_list z_range
  have d__law_spoil := ok__law_spoil (Pr := l.prog) (w := w) (mg := mg) (base := base) hT S5 d__law_at z_len z_max z_min z_range
  have d_Kept____init__ := ok_Kept____init__ (Pr := l.prog) (w := w) (mg := mg) (base := base) hT S6 
  have d_Store____init__ := ok_Store____init__ (Pr := l.prog) (w := w) (mg := mg) (base := base) hT S7 d_Kept____init__ k_Kept g_SPACES z_range
  have d_Kept__data := ok_Kept__data (Pr := l.prog) (w := w) (mg := mg) (base := base) hT S8 z_tuple
  have d__kept_data := ok__kept_data (Pr := l.prog) (w := w) (mg := mg) (base := base) hT S9 d_Kept__data
  have d_Change__header := ok_Change__header (Pr := l.prog) (w := w) (mg := mg) (base := base) hT S10 
  have d_Store__data := ok_Store__data (Pr := l.prog) (w := w) (mg := mg) (base := base) hT S11 d_Change__header d__kept_data z_tuple
  have d_order_key := ok_order_key (Pr := l.prog) (w := w) (mg := mg) (base := base) hT S12 z_sum
  have d_in_order := ok_in_order (Pr := l.prog) (w := w) (mg := mg) (base := base) hT S13 d_order_key z_sorted
  have d_Store__all_changes := ok_Store__all_changes (Pr := l.prog) (w := w) (mg := mg) (base := base) hT S14 d_in_order
  have d_Store__find := ok_Store__find (Pr := l.prog) (w := w) (mg := mg) (base := base) hT S15 z_len
  have d_Store__count := ok_Store__count (Pr := l.prog) (w := w) (mg := mg) (base := base) hT S16 z_len
  have d__covers := ok__covers (Pr := l.prog) (w := w) (mg := mg) (base := base) hT S17 z_len z_range
  have d__is_sound := ok__is_sound (Pr := l.prog) (w := w) (mg := mg) (base := base) hT S18 d_Store__count d_Store__find d__covers z_len z_range
  have d_is_whole := ok_is_whole (Pr := l.prog) (w := w) (mg := mg) (base := base) hT S19 d_Store__all_changes d__is_sound
  have d_Store__add := ok_Store__add (Pr := l.prog) (w := w) (mg := mg) (base := base) hT S20 
  have d__as_tuple := ok__as_tuple (Pr := l.prog) (w := w) (mg := mg) (base := base) hT S21 z_tuple
  have d_Change____init__ := ok_Change____init__ (Pr := l.prog) (w := w) (mg := mg) (base := base) hT S22 d__as_tuple z_tuple
  have d__law_change := ok__law_change (Pr := l.prog) (w := w) (mg := mg) (base := base) hT S23 d_Change____init__ d__law_at k_Change z_list z_range z_tuple
  have d__law_is_sound := ok__law_is_sound (Pr := l.prog) (w := w) (mg := mg) (base := base) hT S24 z_len z_range
  exact ok_law (Pr := l.prog) (w := w) (mg := mg) (base := base) hT F25 d_Kept____init__ d_Store____init__ d_Store__add d_Store__data d__law_at d__law_change d__law_cut d__law_draws d__law_is_sound d__law_spoil d__law_told d_is_whole k_Kept k_Store z_bool z_isinstance z_len z_max z_range z_tuple
end KK

set_option maxHeartbeats 1000000
namespace KK
open PySem PySem.Spec PyProof.Rows L2 Tq
def mix1 (c k : Int) : Int := (c * 48271 + k * 69621 + 12345) % 2147483647
def mix2 (c k : Int) : Int := (mix1 c k * mix1 c k + k * 40692 + 1) % 2147483399
def mix (c k : Int) : Int := mix2 c k / 5 % 9973
def Dr (v : Int) : Prop := 0 ≤ v ∧ v < 9973
theorem mix_rng (c k : Int) : Dr (mix c k) := by unfold Dr mix; omega
theorem int_of {τ : Sl} {h : Hq} {m : E A} {i : Int} (e : m τ h = some (.ok (.d (.int i)) h)) : mUn gInt m τ h = some (.ok (.d (.int i)) h) := by
  rw [un_of e]
  rfl
theorem mix_ok {c k : Int} (hc : c.natAbs.log2 ≤ 1048576) (hk : 0 ≤ k ∧ k < 1000000000) : sem__law_mix [.d (.int c), .d (.int k)] [] = some (.ok (.d (.int (mix c k))) []) := by
  refine runB_rt rfl ?_
  show b__law_mix [some (.d (.int c)), some (.d (.int k)), none] [] = _
  unfold b__law_mix
  have h1 : mulOk c 48271 = true := by
    unfold mulOk
    refine decide_eq_true ?_
    have : (48271 : Int).natAbs.log2 < 16 := by decide
    omega
  have r1 : 0 ≤ mix1 c k ∧ mix1 c k < 2147483647 := by unfold mix1; omega
  rw [seq_nx (τ1 := [some (.d (.int c)), some (.d (.int k)), some (.d (.int (mix1 c k)))]) (h1 := []) (set_of (mod_of (int_of (add_of (add_of (mul_of (int_of (var_of rfl)) rfl h1) (mul_of (var_of rfl) rfl (mul_small (by omega) (by decide)))) rfl)) rfl (by decide)))]
  have e2 : mix2 c k = (mix1 c k * mix1 c k + k * 40692 + 1) % 2147483399 := rfl
  have e3 : mix c k = mix2 c k / 5 % 9973 := rfl
  generalize mix1 c k = v at r1 e2
  generalize mix2 c k = u at e2 e3
  rw [seq_nx (τ1 := [some (.d (.int c)), some (.d (.int k)), some (.d (.int u))]) (h1 := []) (set_of (by
    rw [e2]
    exact mod_of (int_of (add_of (add_of (mul_of (var_of rfl) (var_of rfl) (mul_small (by omega) (by omega))) (mul_of (var_of rfl) rfl (mul_small (by omega) (by decide)))) rfl)) rfl (by decide)))]
  refine ret_of ?_
  rw [e3]
  exact mod_of (div_of (var_of rfl) rfl rfl) rfl (by decide)
theorem mixp_ok {τ : Sl} {h : Hq} {m1 m2 : E A} {c k : Int} (hc : c.natAbs.log2 ≤ 1048576) (hk : 0 ≤ k ∧ k < 1000000000) (e1 : m1 τ h = some (.ok (.d (.int c)) h)) (e2 : m2 τ h = some (.ok (.d (.int k)) h)) : mCallP sem__law_mix (lenIs 2 (maCons m1 (maCons m2 maNil))) τ h = some (.ok (.d (.int (mix c k))) h) :=
  callP_of (ds := [.int c, .int k]) (len_of (n := 2) (cons_of e1 (cons_of (r := []) e2 rfl)) rfl) (mix_ok hc hk) (vw_d _ _ _)
theorem small_log {z : Int} (h : z.natAbs < 2 ^ 64) : z.natAbs.log2 ≤ 1048576 := by
  have := log2_lt h (by decide)
  omega
/-- the numbers drawn -/
def Drs (ds : List Int) : Prop := ds.length ≤ 4000 ∧ ∀ v ∈ ds, Dr v
theorem at_ok {ds : List Int} (hd : Drs ds) {i : Int} (hi : 0 ≤ i ∧ i < 100000000) : ∃ v, sem__law_at [.d (LD ds), .d (.int i)] [] = some (.ok (.d (.int v)) []) ∧ Dr v := by
  obtain ⟨hl, hm⟩ := hd
  have el : ∀ (h : Hq), mUn gLen (mVar 0) [some (.d (LD ds)), some (.d (.int i))] h = some (.ok (.d (.int (ds.length : Nat))) h) := fun h => by rw [un_of (var_of rfl)]; exact gLen_d ds h
  by_cases z : i < (ds.length : Nat)
  · obtain ⟨n, rfl⟩ : ∃ n : Nat, i = n := ⟨i.toNat, by omega⟩
    have hn : n < ds.length := by omega
    refine ⟨ds[n], runB_rt rfl ?_, hm _ (List.getElem_mem hn)⟩
    show b__law_at [some (.d (LD ds)), some (.d (.int (n : Nat)))] [] = _
    unfold b__law_at
    refine seq_rt ?_
    rw [if_tt (h1 := []) (by rw [lt_of (var_of rfl) (el []), decide_eq_true z])]
    refine ret_of ?_
    rw [bin_of (var_of rfl) (var_of rfl)]
    exact gGet_d [] (List.getElem?_eq_getElem hn)
  · have s1 : mIf (mTB (mBin gLt (mVar 1) (mUn gLen (mVar 0)))) (mRet (mBin gGet (mVar 0) (mVar 1))) mNx [some (.d (LD ds)), some (.d (.int i))] [] = some (.nx [some (.d (LD ds)), some (.d (.int i))] []) := by
      rw [if_ff (h1 := []) (by rw [lt_of (var_of rfl) (el []), decide_eq_false z])]
      rfl
    by_cases z0 : ds.length = 0
    · refine ⟨mix i 77, runB_rt rfl ?_, mix_rng _ _⟩
      show b__law_at [some (.d (LD ds)), some (.d (.int i))] [] = _
      unfold b__law_at
      rw [seq_nx s1]
      refine seq_rt ?_
      rw [if_tt (h1 := []) (by rw [tb_of (eqi_of (el []) rfl), decide_eq_true (by omega)])]
      exact ret_of (mixp_ok (small_log (by omega)) (by decide) (var_of rfl) rfl)
    · have hp : (0 : Int) < (ds.length : Nat) := by omega
      have m0 := Int.emod_nonneg i (Int.ne_of_gt hp)
      have m1 := Int.emod_lt_of_pos i hp
      generalize hj : (i % (ds.length : Nat)).toNat = j
      have hj1 : i % (ds.length : Nat) = (j : Int) := by omega
      have hjl : j < ds.length := by omega
      have hv := hm _ (List.getElem_mem hjl)
      have ev : ds[j]? = some ds[j] := List.getElem?_eq_getElem hjl
      generalize ds[j] = v at hv ev
      refine ⟨mix (v + i * 131) i, runB_rt rfl ?_, mix_rng _ _⟩
      show b__law_at [some (.d (LD ds)), some (.d (.int i))] [] = _
      unfold b__law_at
      rw [seq_nx s1, seq_nx (τ1 := [some (.d (LD ds)), some (.d (.int i))]) (h1 := []) (by
        rw [if_ff (h1 := []) (by rw [tb_of (eqi_of (el []) rfl), decide_eq_false (by omega)])]
        rfl)]
      unfold Dr at hv
      refine ret_of (mixp_ok (small_log (by omega)) (by omega) (add_of ?_ (mul_of (var_of rfl) rfl (mul_small (by omega) (by decide)))) (var_of rfl))
      rw [bin_of (b := .d (.int (j : Nat))) (h2 := []) (var_of rfl) (by
        rw [← hj1]
        exact mod_of (int_of (var_of rfl)) (el []) hp)]
      exact gGet_d [] ev
theorem atp_ok {ds : List Int} (hd : Drs ds) {i : Int} (hi : 0 ≤ i ∧ i < 100000000) : ∃ v, Dr v ∧ ∀ (τ : Sl) (h : Hq) (m1 m2 : E A), m1 τ h = some (.ok (.d (LD ds)) h) → m2 τ h = some (.ok (.d (.int i)) h) → mCallP sem__law_at (lenIs 2 (maCons m1 (maCons m2 maNil))) τ h = some (.ok (.d (.int v)) h) := by
  obtain ⟨v, e, r⟩ := at_ok hd hi
  exact ⟨v, r, fun τ h m1 m2 e1 e2 => callP_of (ds := [LD ds, .int i]) (len_of (n := 2) (cons_of e1 (cons_of (r := []) e2 rfl)) rfl) e (vw_d _ _ _)⟩
end KK

set_option maxHeartbeats 1000000
namespace KK
open PySem PySem.Spec PyProof.Rows L2 Tq
abbrev R5d (ns : List Int) (a2 a3 a4 : Option A) : Sl := [some (.d (.scr ns)), some (.r 0), a2, a3, a4]
def DH (ds : List Int) : Hq := [.lst (LI ds)]
theorem dr_snoc {ds : List Int} (h : ∀ v ∈ ds, Dr v) {v : Int} (hv : Dr v) : ∀ x ∈ ds ++ [v], Dr x := fun x hx => by
  rcases List.mem_append.mp hx with q | q
  · exact h x q
  · rw [List.mem_singleton.mp q]; exact hv
theorem app_draw {ns : List Int} {a2 a3 a4 : Option A} {ds : List Int} {m : E A} {v : Int} (e : m (R5d ns a2 a3 a4) (DH ds) = some (.ok (.d (.int v)) (DH ds))) (hl : ds.length < LIM) : mDrop (mM1 tokL gApp (mVar 1) m) (R5d ns a2 a3 a4) (DH ds) = some (.nx (R5d ns a2 a3 a4) (DH (ds ++ [v]))) := by
  rw [append_of (k := 0) (ws := LI ds) (w := .d (.int v)) (var_of rfl) rfl e (by rw [LI_len]; exact hl)]
  unfold DH
  rw [LI_app]
  rfl
theorem inner_ok {ns : List Int} {a2 a4 : Option A} {c : Int} {ds : List Int} (hd : ∀ v ∈ ds, Dr v) (hl : ds.length ≤ 4000) : ∃ c' b4 ds', L1__law_draws (R5d ns a2 (some (.d (.int c))) a4) (DH ds) = some (.nx (R5d ns a2 (some (.d (.int c'))) b4) (DH ds')) ∧ (∀ v ∈ ds', Dr v) ∧ ds'.length ≤ ds.length + 60 := by
  obtain ⟨τ', h', e, c', b4, ds', rfl, rfl, i1, i2⟩ := forL_inv (g := mgName 4) (mb := B1__law_draws) (ws := rangeA 0 60)
    (fun n τ h => ∃ c' b4 ds', τ = R5d ns a2 (some (.d (.int c'))) b4 ∧ h = DH ds' ∧ (∀ v ∈ ds', Dr v) ∧ ds'.length ≤ ds.length + n) (τ := R5d ns a2 (some (.d (.int c))) a4) (h := DH ds) ⟨c, a4, ds, rfl, rfl, hd, Nat.le_refl _⟩
    (fun n w τ h hw i => by
      obtain ⟨c', b4, ds', rfl, rfl, i1, i2⟩ := i
      obtain ⟨hn, _⟩ := rangeA_get hw
      have t : mTB (mBin gGt (mVar 3) (mC (.int 0))) (R5d ns a2 (some (.d (.int c'))) (some w)) (DH ds') = some (.ok (decide (0 < c')) (DH ds')) := gt_of (var_of rfl) rfl
      by_cases z : 0 < c'
      · rw [decide_eq_true z] at t
        refine ⟨R5d ns a2 (some (.d (.int c'))) (some w), R5d ns a2 (some (.d (.int (c' / 9973)))) (some w), DH (ds' ++ [c' % 9973]), rfl, .inl ?_, _, _, _, rfl, rfl, dr_snoc i1 ⟨by omega, by omega⟩, by rw [List.length_append, List.length_singleton]; omega⟩
        unfold B1__law_draws
        rw [if_tt t, seq_nx (app_draw (v := c' % 9973) (mod_of (int_of (var_of rfl)) rfl (by decide)) (by show _ < 16777216; omega))]
        exact set_of (div_of (var_of rfl) rfl rfl)
      · rw [decide_eq_false z] at t
        refine ⟨R5d ns a2 (some (.d (.int c'))) (some w), R5d ns a2 (some (.d (.int c'))) (some w), DH ds', rfl, .inl ?_, _, _, _, rfl, rfl, i1, by omega⟩
        unfold B1__law_draws
        rw [if_ff t]
        rfl) (by rw [rangeA_len]; show 60 ≤ 16777216; decide)
  rw [rangeA_len] at i2
  refine ⟨c', b4, ds', ?_, i1, i2⟩
  unfold L1__law_draws
  rw [mFor_of (nx := nxL (rangeA 0 60)) (h1 := DH ds) rfl]
  exact e
theorem pow_ok (τ : Sl) (h : Hq) : mBin gPow (mC (.int 10)) (mC (.int 18)) τ h = some (.ok (.d (.int 1000000000000000000)) h) := by
  rw [bin_of (a := .d (.int 10)) (b := .d (.int 18)) (h1 := h) (h2 := h) rfl rfl]
  unfold gPow gII
  dsimp only
  rw [if_pos (by decide +kernel)]
  rfl
theorem draws_ok {ns : List Int} (hl : ns.length ≤ 63) (hb : ∀ z ∈ ns, Builtin.Int.intBits z ≤ 1048576) : ∃ ds, Drs ds ∧ ∀ (τ : Sl) (h : Hq), τ[0]? = some (some (.d (.scr ns))) → mCallP sem__law_draws (lenIs 1 (maCons (mVar 0) maNil)) τ h = some (.ok (.d (LD ds)) h) := by
  obtain ⟨τ', h', e, a2, a3, a4, ds, rfl, rfl, i1, i2⟩ := forL_inv (g := mgName 2) (mb := B2__law_draws) (ws := rangeA 0 (if (ns.length : Int) < 63 then (ns.length : Int) else 63).toNat)
    (fun n τ h => ∃ a2 a3 a4 ds, τ = R5d ns a2 a3 a4 ∧ h = DH ds ∧ (∀ v ∈ ds, Dr v) ∧ ds.length ≤ 60 * n) (τ := R5d ns none none none) (h := DH []) ⟨none, none, none, [], rfl, rfl, (fun v hv => by cases hv), Nat.le_refl _⟩
    (fun n w τ h hw i => by
      obtain ⟨a2, a3, a4, ds, rfl, rfl, i1, i2⟩ := i
      obtain ⟨hn, rfl⟩ := rangeA_get hw
      have hnl : n < ns.length ∧ n < 63 := by split at hn <;> omega
      have ez : ns[n]? = some ns[n] := List.getElem?_eq_getElem hnl.1
      have hbz := bits_log (hb _ (List.getElem_mem hnl.1))
      generalize ns[n] = c at ez hbz
      have e1 : mSet 3 (mUn gInt (mBin gGet (mVar 0) (mVar 2))) (R5d ns (some (.d (.int (0 + ((n : Nat) : Int))))) a3 a4) (DH ds) = some (.nx (R5d ns (some (.d (.int (0 + ((n : Nat) : Int))))) (some (.d (.int c))) a4) (DH ds)) := by
        refine set_of (int_of ?_)
        rw [bin_of (var_of rfl) (var_of rfl)]
        show (match atI ns (0 + ((n : Nat) : Int)) with | some n => some (Rs.ok (A.d (D.int n)) (DH ds)) | none => none) = _
        rw [Int.zero_add, Tq.atI_nat ez]
      have t : mTB (mBin gLt (mVar 3) (mBin gPow (mC (.int 10)) (mC (.int 18)))) (R5d ns (some (.d (.int (0 + ((n : Nat) : Int))))) (some (.d (.int c))) a4) (DH ds) = some (.ok (decide (c < 1000000000000000000)) (DH ds)) := lt_of (var_of rfl) (pow_ok _ _)
      by_cases z : c < 1000000000000000000
      · rw [decide_eq_true z] at t
        refine ⟨R5d ns (some (.d (.int (0 + ((n : Nat) : Int))))) a3 a4, R5d ns (some (.d (.int (0 + ((n : Nat) : Int))))) (some (.d (.int c))) a4, DH (ds ++ [mix c (0 + ((n : Nat) : Int))]), rfl, .inl ?_, _, _, _, _, rfl, rfl, dr_snoc i1 (mix_rng _ _), by rw [List.length_append, List.length_singleton]; omega⟩
        unfold B2__law_draws
        rw [seq_nx e1, if_tt t]
        exact app_draw (mixp_ok hbz (by omega) (var_of rfl) (var_of rfl)) (by show _ < 16777216; omega)
      · rw [decide_eq_false z] at t
        obtain ⟨c', b4, ds', x1, x2, x3⟩ := inner_ok (ns := ns) (a2 := some (.d (.int (0 + ((n : Nat) : Int))))) (a4 := a4) (c := c) i1 (by omega)
        refine ⟨R5d ns (some (.d (.int (0 + ((n : Nat) : Int))))) a3 a4, R5d ns (some (.d (.int (0 + ((n : Nat) : Int))))) (some (.d (.int c'))) b4, DH ds', rfl, .inl ?_, _, _, _, _, rfl, rfl, x2, by omega⟩
        unfold B2__law_draws
        rw [seq_nx e1, if_ff t]
        exact x1) (by rw [rangeA_len]; show _ ≤ 16777216; split <;> omega)
  rw [rangeA_len] at i2
  refine ⟨ds, ⟨by split at i2 <;> omega, i1⟩, fun τ h e0 => callP_of (ds := [.scr ns]) (len_of (n := 1) (cons_of (r := []) (var_of e0) rfl) rfl) (runB_rt rfl (w := .r 0) (h1 := DH ds) ?_) (view_LI rfl)⟩
  show b__law_draws [some (.d (.scr ns)), none, none, none, none] [] = _
  unfold b__law_draws
  rw [seq_nx (τ1 := R5d ns none none none) (h1 := DH []) rfl]
  rw [seq_nx (τ1 := R5d ns a2 a3 a4) (h1 := DH ds) (by
    unfold L2__law_draws
    rw [mFor_of (h1 := DH []) (mRange1_of (j := if (ns.length : Int) < 63 then (ns.length : Int) else 63) (by
      rw [bin_of (a := .d (.int 63)) (b := .d (.int (ns.length : Nat))) rfl (by rw [un_of (var_of rfl)]; rfl)]
      rfl) (by split <;> omega) (by split <;> omega))]
    exact e)]
  rfl
end KK

set_option maxHeartbeats 1000000
open PySem PySem.Spec PyProof.Rows L2 Tq
local macro_rules | `(tactic| wtm_at "tq_eq") => `(tactic| ((with_reducible refine' (_ : _ = _)); with_reducible assumption))
local macro_rules | `(tactic| wtm_at "tq_len") => `(tactic| ((try show _ ≤ 16777216); (try show _ < 16777216); (try simp only [List.length_map, List.length_append, List.length_cons, List.length_nil, List.length_range, List.length_replicate, List.length_set, List.length_dropLast, LI_len, range_len]); first | with_reducible assumption | omega))
local macro_rules | `(tactic| wtm_at "tq_b") => `(tactic| first | with_reducible assumption | with_reducible exact rfl | (simp only [Bool.and_eq_true, Bool.or_eq_true, Bool.not_eq_true', Bool.not_eq_false', Bool.and_eq_false_iff, Bool.or_eq_false_iff, Bool.not_true, Bool.not_false, decide_eq_true_eq, decide_eq_false_iff_not, Bool.and_true, Bool.true_and, Bool.and_false, Bool.false_and, Bool.or_true, Bool.true_or, Bool.or_false, Bool.false_or, Bool.not_not]; first | done | with_reducible assumption | omega) | omega)
local macro_rules | `(tactic| wtm_at "tq_gt") => `(tactic| first | wtm_at "tq_eq" | with_reducible exact get_z | ((with_reducible apply hp_getz); with_reducible assumption) | ((with_reducible apply hp_get); (focus (with_reducible assumption)); (focus (wtm_at "tq_gt"))) | ((with_reducible apply get_s); wtm_at "tq_gt") | exact rfl)
local macro_rules | `(tactic| wtm_at "tq_ix") => `(tactic| first | wtm_at "tq_eq" | with_reducible exact rfl | exact ix_nat (by (try simp only [List.length_map, List.length_range, List.length_cons, List.length_nil, List.length_append, List.length_replicate, List.length_set]); omega) | exact ix_int (by omega) (by (try simp only [List.length_map, List.length_range, List.length_cons, List.length_nil, List.length_append, List.length_replicate, List.length_set]); omega) | exact ix_last (by (try simp only [List.length_map, List.length_range, List.length_append, List.length_cons, List.length_nil]); omega))
local macro_rules | `(tactic| wtm_at "tq_ga") => `(tactic| first | with_reducible exact g_add | with_reducible exact g_sub | with_reducible exact g_lt | with_reducible exact g_le | with_reducible exact g_gt | with_reducible exact g_ge | with_reducible exact g_eqi | with_reducible exact g_nei | with_reducible exact g_isnn0 | with_reducible exact g_isnn1 | ((with_reducible refine g_isn _ ?_); exact rfl) | with_reducible exact g_isb | with_reducible exact g_int | with_reducible exact g_intb | with_reducible exact g_neg | with_reducible exact g_iadd | with_reducible exact g_max | with_reducible exact g_min | with_reducible exact g_abs | with_reducible exact g_olt | with_reducible exact g_ole | with_reducible exact g_ogt | with_reducible exact g_oge | with_reducible exact g_lenl | with_reducible exact g_lent | with_reducible exact g_lenld | with_reducible exact g_lentd | with_reducible exact g_lens)
local macro_rules | `(tactic| wtm_at "tq_gb") => `(tactic| first | ((with_reducible apply g_mod) <;> wtm_at "tq_x") | ((with_reducible apply g_mul) <;> wtm_at "tq_x") | ((with_reducible apply g_div) <;> wtm_at "tq_x") | ((with_reducible apply g_lenc) <;> wtm_at "tq_x") | ((with_reducible apply g_app) <;> wtm_at "tq_x") | ((with_reducible apply g_tupl) <;> wtm_at "tq_x") | ((with_reducible apply g_tupt) <;> wtm_at "tq_x") | ((with_reducible apply g_tupc) <;> wtm_at "tq_x") | ((with_reducible apply g_lstl) <;> wtm_at "tq_x") | ((with_reducible apply g_lstt) <;> wtm_at "tq_x") | ((with_reducible apply g_lstc) <;> wtm_at "tq_x") | ((with_reducible apply g_sll) <;> wtm_at "tq_x") | ((with_reducible apply g_slt) <;> wtm_at "tq_x") | ((with_reducible apply g_cats) <;> wtm_at "tq_x") | ((with_reducible apply g_cat) <;> wtm_at "tq_x") | ((with_reducible apply g_catt) <;> wtm_at "tq_x") | ((with_reducible apply g_pop) <;> wtm_at "tq_x") | ((with_reducible apply g_isi); exact rfl) | ((with_reducible apply g_isi2); exact rfl))
local macro_rules | `(tactic| wtm_at "tq_gc") => `(tactic| first | ((with_reducible apply g_getl); (focus (wtm_at "tq_ix")); (focus (wtm_at "tq_gt"))) | ((with_reducible apply g_gett); (focus (wtm_at "tq_ix")); (focus (wtm_at "tq_gt"))) | ((with_reducible apply g_getld); (focus (wtm_at "tq_ix")); (focus (wtm_at "tq_gt"))) | ((with_reducible apply g_gettd); (focus (wtm_at "tq_ix")); (focus (wtm_at "tq_gt"))) | ((with_reducible apply g_getc); (focus (wtm_at "tq_gt")); (focus (wtm_at "tq_ix")); (focus (wtm_at "tq_gt"))) | ((with_reducible apply g_gettc); (focus (wtm_at "tq_ix")); (focus (wtm_at "tq_gt"))) | ((with_reducible apply g_gets); (focus (wtm_at "tq_ix")); (focus (wtm_at "tq_gt"))))
local macro_rules | `(tactic| wtm_at "tq_gd") => `(tactic| first | ((with_reducible apply g_fldd); (focus (decide +kernel)); (focus (wtm_at "tq_fg"))) | ((with_reducible apply g_fldc); (focus (wtm_at "tq_gt")); (focus (decide +kernel)); (focus (wtm_at "tq_fg"))))
local macro_rules | `(tactic| wtm_at "tq_fg") => `(tactic| first | with_reducible exact fget_hit | with_reducible exact fgetd_hit | with_reducible exact fput_nil | with_reducible exact fput_hit | ((with_reducible apply fgetd_miss); (focus (decide +kernel)); (focus (wtm_at "tq_fg"))) | ((with_reducible apply fget_miss); (focus (decide +kernel)); (focus (wtm_at "tq_fg"))) | ((with_reducible apply fput_miss); (focus (decide +kernel)); (focus (wtm_at "tq_fg"))))
local macro_rules | `(tactic| wtm_at "tq_g") => `(tactic| first | wtm_at "tq_eq" | wtm_at "tq_op" | wtm_at "tq_ga" | wtm_at "tq_gb" | wtm_at "tq_gc" | wtm_at "tq_gd" | ((with_reducible apply g_eqv) <;> wtm_at "tq_x"))
local macro_rules | `(tactic| wtm_at "tq_xa") => `(tactic| first | with_reducible exact x_C | ((with_reducible apply x_Var); wtm_at "tq_gt") | ((with_reducible apply x_Bin) <;> wtm_at "tq_x") | ((with_reducible apply x_Un) <;> wtm_at "tq_x") | with_reducible exact x_nil | ((with_reducible apply x_cons) <;> wtm_at "tq_x") | ((with_reducible apply x_len) <;> wtm_at "tq_x") | ((with_reducible apply x_TB) <;> wtm_at "tq_x") | ((with_reducible apply x_Tup) <;> wtm_at "tq_x") | ((with_reducible apply x_Lst) <;> wtm_at "tq_x") | ((with_reducible apply x_Sl) <;> wtm_at "tq_x") | with_reducible exact x_moN | ((with_reducible apply x_moS) <;> wtm_at "tq_x") | ((with_reducible apply x_M1) <;> wtm_at "tq_x") | ((with_reducible apply x_M0) <;> wtm_at "tq_x") | ((with_reducible apply x_NotT) <;> wtm_at "tq_x") | ((with_reducible apply x_NotV) <;> wtm_at "tq_x") | ((with_reducible apply x_AndS); (focus (wtm_at "tq_x"; done)); (focus (first | (refine' Or.inl (And.intro ?_ ?_); (focus wtm_at "tq_b"); (focus (exact rfl))) | (refine' Or.inr (And.intro ?_ ?_); (focus wtm_at "tq_b"); (focus (wtm_at "tq_x"; done)))))) | ((with_reducible apply x_AndT) <;> wtm_at "tq_x") | ((with_reducible apply x_OrS); (focus (wtm_at "tq_x"; done)); (focus (first | (refine' Or.inl (And.intro ?_ ?_); (focus wtm_at "tq_b"); (focus (exact rfl))) | (refine' Or.inr (And.intro ?_ ?_); (focus wtm_at "tq_b"); (focus (wtm_at "tq_x"; done)))))) | ((with_reducible apply x_OrT) <;> wtm_at "tq_x") | ((with_reducible apply x_AndVS); (focus (wtm_at "tq_x"; done)); (focus (first | (refine' Or.inl (And.intro ?_ ?_); (focus wtm_at "tq_b"); (focus (exact rfl))) | (refine' Or.inr (And.intro ?_ ?_); (focus wtm_at "tq_b"); (focus (wtm_at "tq_x"; done)))))) | ((with_reducible apply x_AndV) <;> wtm_at "tq_x") | ((with_reducible apply x_OrVS); (focus (wtm_at "tq_x"; done)); (focus (first | (refine' Or.inl (And.intro ?_ ?_); (focus wtm_at "tq_b"); (focus (exact rfl))) | (refine' Or.inr (And.intro ?_ ?_); (focus wtm_at "tq_b"); (focus (wtm_at "tq_x"; done)))))) | ((with_reducible apply x_OrV) <;> wtm_at "tq_x") | ((with_reducible apply x_Chain) <;> wtm_at "tq_x") | ((with_reducible apply x_Tru) <;> wtm_at "tq_x"))
local macro_rules | `(tactic| wtm_at "tq_xb") => `(tactic| first | ((with_reducible apply x_CallP) <;> wtm_at "tq_x") | ((with_reducible apply x_Call) <;> wtm_at "tq_x") | ((with_reducible apply x_MethP) <;> wtm_at "tq_x") | ((with_reducible apply x_Meth) <;> wtm_at "tq_x") | ((with_reducible apply x_MakeP) <;> wtm_at "tq_x") | ((with_reducible apply x_Make) <;> wtm_at "tq_x") | ((with_reducible apply x_Dfl) <;> wtm_at "tq_x") | ((with_reducible apply x_ItC) <;> wtm_at "tq_x") | ((with_reducible apply x_Rg) <;> wtm_at "tq_x") | ((with_reducible apply x_IfEt); (focus (wtm_at "tq_x"; done)); (focus (wtm_at "tq_b")); (focus (wtm_at "tq_x"; done))) | ((with_reducible apply x_IfEf); (focus (wtm_at "tq_x"; done)); (focus (wtm_at "tq_b")); (focus (wtm_at "tq_x"; done))))
local macro_rules | `(tactic| wtm_at "tq_xc") => `(tactic| first | with_reducible exact tru_b | with_reducible exact tru_i | with_reducible exact tru_n | with_reducible exact tru_l | with_reducible exact tru_t | ((with_reducible apply tru_r); wtm_at "tq_gt") | (with_reducible exact all_nil) | ((with_reducible apply all_cons); wtm_at "tq_x") | (with_reducible exact allD_map _) | (with_reducible exact allD_mapf _ _) | ((with_reducible apply x_mkL) <;> wtm_at "tq_x") | ((with_reducible apply x_mkT) <;> wtm_at "tq_x") | ((with_reducible apply x_mkC0) <;> wtm_at "tq_len") | ((with_reducible apply x_mkC1) <;> wtm_at "tq_len") | ((with_reducible apply x_mkC2) <;> wtm_at "tq_len") | ((with_reducible apply x_mkC3) <;> wtm_at "tq_len") | ((with_reducible apply x_mkC4) <;> wtm_at "tq_len") | ((with_reducible apply x_mkC5) <;> wtm_at "tq_len") | ((with_reducible apply x_mkC6) <;> wtm_at "tq_len") | ((with_reducible apply x_mkH1) <;> first | with_reducible assumption | wtm_at "tq_len") | ((with_reducible apply x_mkH2) <;> first | with_reducible assumption | wtm_at "tq_len") | ((with_reducible apply x_mkH3) <;> first | with_reducible assumption | wtm_at "tq_len") | ((with_reducible apply x_mkH4) <;> first | with_reducible assumption | wtm_at "tq_len") | ((with_reducible apply x_mkH5) <;> first | with_reducible assumption | wtm_at "tq_len") | ((with_reducible apply x_mkH6) <;> first | with_reducible assumption | wtm_at "tq_len") | ((with_reducible apply x_mkH7) <;> first | with_reducible assumption | wtm_at "tq_len") | ((with_reducible apply x_mkH8) <;> first | with_reducible assumption | wtm_at "tq_len") | ((with_reducible apply x_mkC) <;> wtm_at "tq_len") | with_reducible exact set_z | ((with_reducible apply hp_setz); with_reducible assumption) | ((with_reducible apply hp_set); (focus (with_reducible assumption)); (focus (wtm_at "tq_x"; done))) | ((with_reducible apply set_s); wtm_at "tq_x") | with_reducible exact view_d | ((with_reducible apply view_l) <;> wtm_at "tq_x") | ((with_reducible apply view_n) <;> wtm_at "tq_x") | ((with_reducible apply tokL_r) <;> wtm_at "tq_x") | with_reducible exact tokS_s | ((with_reducible apply ins_d); decide +kernel) | ((with_reducible apply ins_r); (wtm_at "tq_gt"); decide +kernel) | ((with_reducible apply mul_small) <;> omega) | ((with_reducible refine' (_ : divOk _ _ = true)); exact rfl) | with_reducible exact get_z | ((with_reducible apply hp_getz); with_reducible assumption) | ((with_reducible apply hp_get); (focus (with_reducible assumption)); (focus (wtm_at "tq_gt"))) | ((with_reducible apply get_s); wtm_at "tq_gt"))
local macro_rules | `(tactic| wtm_at "tq_xs") => `(tactic| first | ((with_reducible apply s_Set) <;> wtm_at "tq_x") | ((with_reducible apply s_Drop) <;> wtm_at "tq_x") | ((with_reducible apply s_Ret) <;> wtm_at "tq_x") | with_reducible exact s_RetN | with_reducible exact s_Nx | with_reducible exact s_Bk | with_reducible exact s_Ct | ((with_reducible apply s_Asg) <;> wtm_at "tq_x") | ((with_reducible apply mg_Name) <;> wtm_at "tq_x") | ((with_reducible apply mg_T2) <;> wtm_at "tq_x") | ((with_reducible apply mg_T3) <;> wtm_at "tq_x") | ((with_reducible apply mg_T4) <;> wtm_at "tq_x") | ((with_reducible apply mg_T5) <;> wtm_at "tq_x") | ((with_reducible apply mg_L2) <;> wtm_at "tq_x") | ((with_reducible apply mg_C); (focus (wtm_at "tq_gt")); (focus (exact rfl)); (focus (wtm_at "tq_x"; done))) | ((with_reducible apply mg_Cons) <;> wtm_at "tq_x") | with_reducible exact mg_Nil | ((with_reducible apply s_Aug) <;> wtm_at "tq_x") | ((with_reducible apply s_If); (focus (wtm_at "tq_x"; done)); (focus (first | (refine' Or.inl (And.intro ?_ ?_); (focus wtm_at "tq_b"); (focus (wtm_at "tq_x"; done))) | (refine' Or.inr (And.intro ?_ ?_); (focus wtm_at "tq_b"); (focus (wtm_at "tq_x"; done)))))) | ((with_reducible apply s_SeqG); (focus (wtm_at "tq_x"; done)); (focus (wtm_at "tq_xn"))) | ((with_reducible apply s_SetF); (focus (wtm_at "tq_x"; done)); (focus (wtm_at "tq_x"; done)); (focus (wtm_at "tq_gt")); (focus (decide +kernel)); (focus (decide)); (focus (wtm_at "tq_fg")); (focus (wtm_at "tq_x"; done))) | ((with_reducible apply s_AugF); (focus (wtm_at "tq_x"; done)); (focus (wtm_at "tq_gt")); (focus (decide +kernel)); (focus (wtm_at "tq_fg")); (focus (wtm_at "tq_x"; done)); (focus (wtm_at "tq_g")); (focus (wtm_at "tq_gt")); (focus (decide)); (focus (wtm_at "tq_fg")); (focus (wtm_at "tq_x"; done))) | ((with_reducible apply s_SetI) <;> wtm_at "tq_x"))
local macro_rules | `(tactic| wtm_at "tq_x") => `(tactic| first | ((with_reducible refine' (_ : _ = _)); first | wtm_at "tq_eq" | wtm_at "tq_ln" | wtm_at "tq_xa" | wtm_at "tq_g" | wtm_at "tq_xb" | wtm_at "tq_xc" | wtm_at "tq_xs" | wtm_at "tq_call" | wtm_at "tq_ix" | with_reducible exact rfl | wtm_at "tq_b") | with_reducible assumption | (intro hk; (try simp only [decide_eq_true_eq, decide_eq_false_iff_not] at hk); wtm_at "tq_x") | wtm_at "tq_len" | omega | decide | skip)
local macro_rules | `(tactic| wtm_at "tq_ln") => `(tactic| ((with_reducible refine' (_ : @Eq Nat _ _)); exact rfl))
local macro_rules | `(tactic| wtm_at "tq_s1") => `(tactic| ((with_reducible apply s_SeqG); (focus (wtm_at "tq_x"; done)); (try with_reducible refine' cont_nx ?_)))
local macro_rules | `(tactic| wtm_at "tq_s") => `(tactic| ((repeat wtm_at "tq_s1"); (try (wtm_at "tq_xn"; done))))
local macro_rules | `(tactic| wtm_at "tq_xn") => `(tactic| first | with_reducible exact cont_rt | with_reducible exact cont_bk | with_reducible exact cont_ct | with_reducible exact cont_ex | ((with_reducible apply cont_nx); wtm_at "tq_x") | wtm_at "tq_x")
local macro_rules | `(tactic| wtm_at "tq_st") => `(tactic| first | exact StartL.z | (apply StartL.s; wtm_at "tq_st") | (apply StartL.n; wtm_at "tq_st"))
local macro_rules | `(tactic| wtm_at "tq_run") => `(tactic| (refine' x_run ?rl ?rs ?re; (case rl => exact rfl); (case rs => wtm_at "tq_st")))
local macro_rules | `(tactic| wtm_at "tq_runN") => `(tactic| (refine' x_runNe ?rl ?rs ?re; (case rl => exact rfl); (case rs => wtm_at "tq_st"); apply Exists.intro))
local macro_rules | `(tactic| wtm_at "tq_runX") => `(tactic| (refine' x_runX ?rl ?rs ?re; (case rl => exact rfl); (case rs => wtm_at "tq_st")))
namespace KK
open PySem PySem.Spec PyProof.Rows L2 Tq
/-- a change -/
structure Row where
  a : Nat
  n : Int
  hs : List Int
  cap : D
  pubs : List D
  parts : List D
abbrev FS : List Str := ["author", "number", "heard", "capability", "publics", "parts"]
abbrev chg (r : Row) : D := .nd (.ins "Change" FS) [.int (r.a : Nat), .int r.n, .tup (r.hs.map D.int), r.cap, .tup r.pubs, .tup r.parts]
abbrev hdD (r : Row) : D := .tup [.int (r.a : Nat), .int r.n, .tup (r.hs.map D.int), r.cap, .tup r.pubs]
theorem header_ok (r : Row) (h : Hq) : sem_Change__header [.d (chg r)] h = some (.ok (.d (hdD r)) h) := by
  wtm_at "tq_run"
  unfold b_Change__header
  wtm_at "tq_s"
def PartOk (p : D) : Prop := p = .non ∨ ∃ ds, p = .tup ds ∧ ds.length ≤ LIM
theorem astup_ok {p : D} (x : PartOk p) (h : Hq) : sem__as_tuple [.d p] h = some (.ok (.d p) h) := by
  wtm_at "tq_run"
  unfold b__as_tuple
  rcases x with rfl | ⟨ds, rfl, hl⟩
  · wtm_at "tq_s"
  · wtm_at "tq_s"
theorem c1_init {parts : List D} (h3 : parts.length ≤ LIM) (hp : ∀ p ∈ parts, PartOk p) (a0 a1 a2 a3 a4 a5 : Option A) (h : Hq) : C1_Change____init__ [a0, a1, a2, a3, a4, a5, some (.d (.lst parts)), none] h = some (.ok (.d (.lst parts)) h) := by
  unfold C1_Change____init__
  rw [lc_map A.d A.d (x_It (x_Var rfl)) h3 fun n x e => ⟨[a0, a1, a2, a3, a4, a5, some (.d (.lst parts)), some (.d x)], rfl, by
    unfold E1_Change____init__
    have := astup_ok (hp x (List.mem_of_getElem? e)) h
    wtm_at "tq_x"⟩]
  wtm_at "tq_x"
local macro_rules | `(tactic| wtm_at "tq_call") => `(tactic| ((with_reducible apply c1_init) <;> wtm_at "tq_x"))
theorem cinit_ok {a : Nat} {n : Int} {hs : List Int} {cap : D} {pubs parts : List D} (h1 : hs.length ≤ LIM) (h2 : pubs.length ≤ LIM) (h3 : parts.length ≤ LIM) (hp : ∀ p ∈ parts, PartOk p) :
    sem_Change____init__ [.r 0, .d (.int (a : Nat)), .d (.int n), .d (.lst (hs.map D.int)), .d cap, .d (.lst pubs), .d (.lst parts)] [.nd (.ins "Change" []) []] = some (.ok (.d .non) [.nd (.ins "Change" FS) [.d (.int (a : Nat)), .d (.int n), .d (.tup (hs.map D.int)), .d cap, .d (.tup pubs), .d (.tup parts)]]) := by
  wtm_at "tq_runN"
  unfold b_Change____init__
  wtm_at "tq_s"
end KK

set_option maxHeartbeats 1000000
open PySem PySem.Spec PyProof.Rows L2 Tq
namespace KK
open PySem PySem.Spec PyProof.Rows L2 Tq
/-- a store -/
structure Sto where
  m : Nat
  cut : List Int
  caps : List D
  kept : List D
  chs : List (List Row)
abbrev SFS : List Str := ["members", "cut", "capabilities", "kept", "changes"]
abbrev stD (s : Sto) : D := .nd (.ins "Store" SFS) [.int (s.m : Nat), .lst (s.cut.map D.int), .lst s.caps, .lst s.kept, .lst (s.chs.map fun c => .lst (c.map chg))]
theorem count_ok {s : Sto} {j : Nat} {c : Int} {cs : List Row} (h1 : s.cut[j]? = some c) (h2 : s.chs[j]? = some cs) (h : Hq) : sem_Store__count [.d (stD s), .d (.int (j : Nat))] h = some (.ok (.d (.int (c + (cs.length : Nat)))) h) := by
  have l1 := (List.getElem?_eq_some_iff.mp h1).1
  have l2 := (List.getElem?_eq_some_iff.mp h2).1
  wtm_at "tq_run"
  unfold b_Store__count
  wtm_at "tq_s"
def findR (c : Int) (cs : List Row) (v : Int) : Option Row := if 0 ≤ v - c - 1 then cs[(v - c - 1).toNat]? else none
def findD : Option Row → D
  | some r => chg r
  | none => .non
theorem find_ok {s : Sto} {j : Nat} {c v : Int} {cs : List Row} (hj : j < s.m) (h1 : s.cut[j]? = some c) (h2 : s.chs[j]? = some cs) (h : Hq) : sem_Store__find [.d (stD s), .d (.tup [.int (j : Nat), .int v])] h = some (.ok (.d (findD (findR c cs v))) h) := by
  have l1 := (List.getElem?_eq_some_iff.mp h1).1
  have l2 := (List.getElem?_eq_some_iff.mp h2).1
  wtm_at "tq_run"
  unfold b_Store__find findR
  have hm : (0 : Int) ≤ (j : Nat) ∧ ((j : Nat) : Int) < (s.m : Nat) := ⟨by omega, by omega⟩
  by_cases z : 0 ≤ v - c - 1
  · rw [if_pos z]
    by_cases y : (v - c - 1).toNat < cs.length
    · have e : cs[(v - c - 1).toNat]? = some cs[(v - c - 1).toNat] := List.getElem?_eq_getElem y
      generalize cs[(v - c - 1).toNat] = r at e
      rw [e]
      have y2 : v - c - 1 < (cs.length : Nat) := by omega
      show _ = some (So.rt (.d (chg r)) h)
      wtm_at "tq_s"
    · rw [List.getElem?_eq_none (by omega)]
      have y2 : ¬ (v - c - 1 < (cs.length : Nat)) := by omega
      show _ = some (So.rt (.d .non) h)
      wtm_at "tq_s"
  · rw [if_neg z]
    show _ = some (So.rt (.d .non) h)
    wtm_at "tq_s"
def coversB (r l : Row) : Bool := decide (l.hs.length = r.hs.length) && (List.range r.hs.length).all fun j => decide (l.hs.getD j 0 ≤ r.hs.getD j 0)
theorem getd {xs : List Int} {n : Nat} (hn : n < xs.length) : xs[n]? = some (xs.getD n 0) := by
  rw [List.getD_eq_getElem?_getD, List.getElem?_eq_getElem hn]
  rfl
theorem covers_ok {r l : Row} (hr : r.hs.length ≤ LIM) (h : Hq) : sem__covers [.d (chg r), .d (chg l)] h = some (.ok (.d (.bl (coversB r l))) h) := by
  wtm_at "tq_run"
  unfold b__covers coversB
  by_cases z : l.hs.length = r.hs.length
  · have z2 : ((l.hs.length : Nat) : Int) = (r.hs.length : Nat) := by rw [z]
    rw [decide_eq_true z, Bool.true_and]
    have lp := for_all (gg := mgName 2) (mb := B1__covers) (τ := [some (.d (chg r)), some (.d (chg l)), none]) (h := h) (xs := List.range r.hs.length) (r := .d (.bl false)) iD (fun j => decide (l.hs.getD j 0 ≤ r.hs.getD j 0)) (fun τ => ∃ b, τ = [some (.d (chg r)), some (.d (chg l)), b]) ⟨_, rfl⟩ (by wtm_at "tq_len")
      (fun n x τ e i ht => by
        obtain ⟨b, rfl⟩ := i
        obtain ⟨hn, rfl⟩ := rangeget e
        refine ⟨[some (.d (chg r)), some (.d (chg l)), some (iD x)], rfl, ?_⟩
        have g1 := getd hn
        have g2 := getd (xs := l.hs) (n := x) (by omega)
        generalize r.hs.getD x 0 = u at *
        generalize l.hs.getD x 0 = v at *
        unfold B1__covers iD
        by_cases y : v ≤ u
        · refine .inl ⟨decide_eq_true y, [some (.d (chg r)), some (.d (chg l)), some (.d (.int (x : Nat)))], ⟨_, rfl⟩, .inl ?_⟩
          have y2 : ¬ u < v := by omega
          wtm_at "tq_x"
        · refine .inr ⟨decide_eq_false y, ?_⟩
          have y2 : u < v := by omega
          wtm_at "tq_x")
    have it : ∀ b, mRange1 (mUn gLen (mUn (gFld FT "heard") (mVar 0))) [some (.d (chg r)), some (.d (chg l)), b] h = some (.ok (nxL ((List.range r.hs.length).map iD)) h) := fun b => by wtm_at "tq_x"
    rcases lp with ⟨hp, τ', ⟨b, rfl⟩, e⟩ | ⟨hp, e⟩
    · rw [hp]
      have e2 : L1__covers [some (.d (chg r)), some (.d (chg l)), none] h = _ := s_For (it _) e
      wtm_at "tq_s"
    · rw [hp]
      have e2 : L1__covers [some (.d (chg r)), some (.d (chg l)), none] h = _ := s_For (it _) e
      wtm_at "tq_s"
  · have z2 : ¬ ((l.hs.length : Nat) : Int) = (r.hs.length : Nat) := fun e => z (by omega)
    rw [decide_eq_false z, Bool.false_and]
    wtm_at "tq_s"
end KK

set_option maxHeartbeats 1000000
open PySem PySem.Spec PyProof.Rows L2 Tq
namespace KK
open PySem PySem.Spec PyProof.Rows L2 Tq
theorem mapMn_int : ∀ (xs : List Int), mapMn intA ((xs.map D.int).map A.d) = some xs
  | [] => rfl
  | x :: r => by
    rw [List.map_cons, List.map_cons]
    unfold mapMn
    rw [mapMn_int r]
    rfl
theorem sum_tup (xs : List Int) (h : Hq) : gSum (.d (.tup (xs.map D.int))) h = some (.ok (.d (.int xs.sum)) h) := by
  show (match mapMn intA ((xs.map D.int).map A.d) with | some ns => some (Rs.ok (A.d (.int ns.sum)) h) | none => none) = _
  rw [mapMn_int]
local macro_rules | `(tactic| wtm_at "tq_op") => `(tactic| with_reducible exact sum_tup _ _)
abbrev kyD (r : Row) : D := .tup [.int r.hs.sum, .int (r.a : Nat), .int r.n]
theorem key_ok (r : Row) (h : Hq) : sem_order_key [.d (chg r)] h = some (.ok (.d (kyD r)) h) := by
  wtm_at "tq_run"
  unfold b_order_key
  wtm_at "tq_s"
def kzR (r : Row) : Int × List Int := (r.hs.sum, [(r.a : Int), r.n])
theorem keyOf_chg (r : Row) : keyOf sem_order_key (chg r) = some (kzR r) := by
  unfold keyOf
  rw [key_ok r]
  dsimp only
  rw [show view [] (.d (kyD r)) = some (kyD r) from vw_d _ _ _]
  rfl
theorem sort_ok (rs : List Row) (hl : rs.length ≤ LIM) (h : Hq) : sem_in_order [.d (.lst (rs.map chg))] h = some (.ok (.d (.lst ((rs.mergeSort (keyLe kzR)).map chg))) h) := by
  wtm_at "tq_run"
  unfold b_in_order
  refine s_Ret (x_Un (x_Var rfl) ?_)
  rw [g_sortK chg kzR fun x _ => keyOf_chg x]
  exact mkL_d (by rw [List.length_map, (List.mergeSort_perm _ _).length_eq]; exact hl)
theorem all_ok (s : Sto) (h1 : s.chs.length ≤ LIM) (h2 : ∀ c ∈ s.chs, c.length ≤ LIM) (h3 : s.chs.flatten.length ≤ LIM) (h : Hq) : sem_Store__all_changes [.d (stD s)] h = some (.ok (.d (.lst ((s.chs.flatten.mergeSort (keyLe kzR)).map chg))) h) := by
  wtm_at "tq_run"
  unfold b_Store__all_changes
  have c1 : C1_Store__all_changes [some (.d (stD s)), none, none] h = some (.ok (.d (.lst (s.chs.flatten.map chg))) h) := by
    have fl : (s.chs.flatMap fun c => c.map fun r => A.d (chg r)) = (s.chs.flatten.map chg).map A.d := by
      rw [List.map_map, List.map_flatten]
      rfl
    unfold C1_Store__all_changes
    rw [lc2_map (xs := s.chs) (h1 := h) (fun c => A.d (.lst (c.map chg))) (fun c => c) (fun r => A.d (chg r)) (fun _ r => A.d (chg r)) (by
      have : (s.chs.map fun c => A.d (.lst (c.map chg))) = (s.chs.map fun c => D.lst (c.map chg)).map A.d := by rw [List.map_map]; rfl
      rw [this]
      exact x_It (by wtm_at "tq_x")) h1 (by rw [fl, List.length_map, List.length_map]; exact h3) fun n c e => ⟨h2 c (List.mem_of_getElem? e), [some (.d (stD s)), some (.d (.lst (c.map chg))), none], rfl, by
        have : (c.map fun r => A.d (chg r)) = (c.map chg).map A.d := by rw [List.map_map]; rfl
        rw [this]
        exact x_It (by wtm_at "tq_x"), fun j r e2 => ⟨[some (.d (stD s)), some (.d (.lst (c.map chg))), some (.d (chg r))], rfl, by
          unfold E1_Store__all_changes
          wtm_at "tq_x"⟩⟩]
    rw [fl]
    exact mkL_d (by rw [List.length_map]; exact h3)
  have so := sort_ok s.chs.flatten h3 []
  refine s_Ret (x_CallP (ds := [.lst (s.chs.flatten.map chg)]) (by wtm_at "tq_x") rfl so view_d)
def countI (s : Sto) (j : Nat) : Int := s.cut.getD j 0 + ((s.chs.getD j []).length : Nat)
def lastR (s : Sto) (r : Row) (j : Nat) : Option Row := findR (s.cut.getD j 0) (s.chs.getD j []) (r.hs.getD j 0)
def soundJ (s : Sto) (r : Row) (j : Nat) : Bool := decide (r.hs.getD j 0 ≤ countI s j) && (match lastR s r j with | some l => coversB r l | none => true)
def soundB (s : Sto) (r : Row) : Bool := decide (r.hs.length = s.m) && decide (r.hs.getD r.a 0 = r.n - 1) && (List.range s.m).all (soundJ s r)
structure StoOk (s : Sto) : Prop where
  m : s.m ≤ 6
  cut : s.cut.length = s.m
  chs : s.chs.length = s.m
  l : s.chs.flatten.length ≤ 4000
theorem getds {α : Type} {xs : List α} {n : Nat} (d : α) (hn : n < xs.length) : xs[n]? = some (xs.getD n d) := by
  rw [List.getD_eq_getElem?_getD, List.getElem?_eq_getElem hn]
  rfl
theorem isnn (o : Option Row) : (A.d (findD o)).isNon = o.isNone := by cases o <;> rfl
theorem sound_ok {s : Sto} (hs : StoOk s) {r : Row} (ha : r.a < s.m) (hr : r.hs.length ≤ 100) (h : Hq) : sem__is_sound [.d (stD s), .d (chg r)] h = some (.ok (.d (.bl (soundB s r))) h) := by
  wtm_at "tq_run"
  unfold b__is_sound soundB
  by_cases z : r.hs.length = s.m
  · have z2 : ((r.hs.length : Nat) : Int) = (s.m : Nat) := by rw [z]
    have ga := getd (xs := r.hs) (n := r.a) (by omega)
    by_cases y : r.hs.getD r.a 0 = r.n - 1
    · rw [decide_eq_true z, decide_eq_true y, Bool.true_and, Bool.true_and]
      rw [y] at ga
      have it : mRange1 (mUn (gFld FT "members") (mVar 0)) [some (.d (stD s)), some (.d (chg r)), none, none] h = some (.ok (nxL ((List.range s.m).map iD)) h) := by
        have := hs.m
        wtm_at "tq_x"
      have lp := for_all (gg := mgName 2) (mb := B1__is_sound) (τ := [some (.d (stD s)), some (.d (chg r)), none, none]) (h := h) (xs := List.range s.m) (r := .d (.bl false)) iD (soundJ s r) (fun τ => ∃ b c, τ = [some (.d (stD s)), some (.d (chg r)), b, c]) ⟨_, _, rfl⟩ (by have := hs.m; wtm_at "tq_len")
        (fun n x τ e i ht => by
          obtain ⟨b, c, rfl⟩ := i
          obtain ⟨hn, rfl⟩ := rangeget e
          refine ⟨[some (.d (stD s)), some (.d (chg r)), some (iD x), c], rfl, ?_⟩
          have g1 := getd (xs := r.hs) (n := x) (by omega)
          have g2 := getd (xs := s.cut) (n := x) (by have := hs.cut; omega)
          have g3 := getds (xs := s.chs) (n := x) [] (by have := hs.chs; omega)
          have cn := count_ok g2 g3 h
          have fd := find_ok (v := r.hs.getD x 0) hn g2 g3 h
          unfold B1__is_sound iD soundJ
          by_cases y : r.hs.getD x 0 ≤ countI s x
          · have y2 : ¬ (s.cut.getD x 0 + ((s.chs.getD x []).length : Nat) < r.hs.getD x 0) := by unfold countI at y; omega
            rw [decide_eq_true y, Bool.true_and]
            show (match lastR s r x with | some l => coversB r l | none => true) = true ∧ _ ∨ (match lastR s r x with | some l => coversB r l | none => true) = false ∧ _
            have el : findR (s.cut.getD x 0) (s.chs.getD x []) (r.hs.getD x 0) = lastR s r x := rfl
            rw [el] at fd
            cases lr : lastR s r x with
            | none =>
              rw [lr] at fd
              have fd : sem_Store__find [.d (stD s), .d (.tup [.int (x : Nat), .int (r.hs.getD x 0)])] h = some (.ok (.d .non) h) := fd
              refine .inl ⟨rfl, [some (.d (stD s)), some (.d (chg r)), some (.d (.int (x : Nat))), some (.d .non)], ⟨_, _, rfl⟩, .inl ?_⟩
              generalize r.hs.getD x 0 = u at *
              generalize s.cut.getD x 0 = v at *
              wtm_at "tq_s"
            | some l =>
              rw [lr] at fd
              have fd : sem_Store__find [.d (stD s), .d (.tup [.int (x : Nat), .int (r.hs.getD x 0)])] h = some (.ok (.d (chg l)) h) := fd
              have cv := covers_ok (r := r) (l := l) (by show _ ≤ 16777216; omega) []
              generalize r.hs.getD x 0 = u at *
              generalize s.cut.getD x 0 = v at *
              cases q : coversB r l with
              | true =>
                rw [q] at cv
                refine .inl ⟨q, [some (.d (stD s)), some (.d (chg r)), some (.d (.int (x : Nat))), some (.d (chg l))], ⟨_, _, rfl⟩, .inl ?_⟩
                wtm_at "tq_s"
              | false =>
                rw [q] at cv
                refine .inr ⟨q, ?_⟩
                wtm_at "tq_s"
          · have y2 : s.cut.getD x 0 + ((s.chs.getD x []).length : Nat) < r.hs.getD x 0 := by unfold countI at y; omega
            rw [decide_eq_false y, Bool.false_and]
            refine .inr ⟨rfl, ?_⟩
            generalize r.hs.getD x 0 = u at *
            generalize s.cut.getD x 0 = v at *
            wtm_at "tq_s")
      rcases lp with ⟨hp, τ', ⟨b, c, rfl⟩, e⟩ | ⟨hp, e⟩
      · rw [hp]
        have e2 : L1__is_sound [some (.d (stD s)), some (.d (chg r)), none, none] h = _ := s_For it e
        clear e
        wtm_at "tq_s"
      · rw [hp]
        have e2 : L1__is_sound [some (.d (stD s)), some (.d (chg r)), none, none] h = _ := s_For it e
        clear e
        wtm_at "tq_s"
    · rw [decide_eq_false y, Bool.and_false, Bool.false_and]
      generalize r.hs.getD r.a 0 = u at *
      wtm_at "tq_s"
  · have z2 : ¬ ((r.hs.length : Nat) : Int) = (s.m : Nat) := fun e => z (by omega)
    rw [decide_eq_false z, Bool.false_and, Bool.false_and]
    wtm_at "tq_s"
end KK

set_option maxHeartbeats 1000000
open PySem PySem.Spec PyProof.Rows L2 Tq
namespace KK
open PySem PySem.Spec PyProof.Rows L2 Tq
theorem whole_ok {s : Sto} (hs : StoOk s) (hr : ∀ r ∈ s.chs.flatten, r.a < s.m ∧ r.hs.length ≤ 100) (h : Hq) : sem_is_whole [.d (stD s)] h = some (.ok (.d (.bl (s.chs.flatten.all (soundB s)))) h) := by
  wtm_at "tq_run"
  unfold b_is_whole
  have pm := List.mergeSort_perm s.chs.flatten (keyLe kzR)
  have hl := hs.l
  have al := all_ok s (by have := hs.m; have := hs.chs; show _ ≤ 16777216; omega) (fun c hc => by
    have := (List.sublist_flatten_of_mem hc).length_le
    show _ ≤ 16777216
    omega) (by show _ ≤ 16777216; omega) h
  have eq : s.chs.flatten.all (soundB s) = (s.chs.flatten.mergeSort (keyLe kzR)).all (soundB s) := by
    rw [Bool.eq_iff_iff, List.all_eq_true, List.all_eq_true]
    exact ⟨fun q x hx => q x (pm.mem_iff.mp hx), fun q x hx => q x (pm.mem_iff.mpr hx)⟩
  have pl := pm.length_eq
  have pmem : ∀ r ∈ s.chs.flatten.mergeSort (keyLe kzR), r.a < s.m ∧ r.hs.length ≤ 100 := fun r h => hr r (pm.mem_iff.mp h)
  rw [eq]
  generalize s.chs.flatten.mergeSort (keyLe kzR) = rs at *
  have it : mItems (mMeth "Store" "all_changes" 1 sem_Store__all_changes (mVar 0) maNil) [some (.d (stD s)), none] h = some (.ok (nxL (rs.map fun r => A.d (chg r))) h) := by
    rw [show (rs.map fun r => A.d (chg r)) = (rs.map chg).map A.d by rw [List.map_map]; rfl]
    exact x_It (by wtm_at "tq_x")
  have lp := for_all (gg := mgName 1) (mb := B1_is_whole) (τ := [some (.d (stD s)), none]) (h := h) (xs := rs) (r := .d (.bl false)) (fun r => A.d (chg r)) (soundB s) (fun τ => ∃ b, τ = [some (.d (stD s)), b]) ⟨_, rfl⟩ (by show _ ≤ 16777216; omega)
    (fun n x τ e i ht => by
      obtain ⟨b, rfl⟩ := i
      obtain ⟨ha, hh⟩ := pmem x (List.mem_of_getElem? e)
      refine ⟨[some (.d (stD s)), some (.d (chg x))], rfl, ?_⟩
      have so := sound_ok hs ha hh []
      unfold B1_is_whole
      cases q : soundB s x with
      | true =>
        rw [q] at so
        refine .inl ⟨rfl, [some (.d (stD s)), some (.d (chg x))], ⟨_, rfl⟩, .inl ?_⟩
        wtm_at "tq_x"
      | false =>
        rw [q] at so
        refine .inr ⟨rfl, ?_⟩
        wtm_at "tq_x")
  rcases lp with ⟨hp, τ', ⟨b, rfl⟩, e⟩ | ⟨hp, e⟩
  · rw [hp]
    have e2 : L1_is_whole [some (.d (stD s)), none] h = _ := s_For it e
    clear e
    wtm_at "tq_s"
  · rw [hp]
    have e2 : L1_is_whole [some (.d (stD s)), none] h = _ := s_For it e
    clear e
    wtm_at "tq_s"
/-! ### what is kept -/
abbrev pr (p : D × D) : D := .tup [p.1, p.2]
structure KeT where
  acts : List (D × D)
  sums : List (D × D)
  texts : List (D × List (D × D))
  shares : List (D × D)
abbrev KS : List Str := ["acts", "sums", "texts", "shares"]
abbrev tx (t : D × List (D × D)) : D := .tup [t.1, .lst (t.2.map pr)]
abbrev txd (t : D × List (D × D)) : D := .tup [t.1, .tup (t.2.map pr)]
abbrev ketD (k : KeT) : D := .nd (.ins "Kept" KS) [.lst (k.acts.map pr), .lst (k.sums.map pr), .lst (k.texts.map tx), .lst (k.shares.map pr)]
structure KeOk (k : KeT) : Prop where
  a : k.acts.length ≤ 1000
  s : k.sums.length ≤ 1000
  t : k.texts.length ≤ 1000
  u : k.shares.length ≤ 1000
  v : ∀ t ∈ k.texts, t.2.length ≤ 1000
theorem pr_it {τ : Sl} {h h1 : Hq} {m : E A} {xs : List (D × D)} (e : m τ h = some (.ok (.d (.lst (xs.map pr))) h1)) : mItems m τ h = some (.ok (nxL (xs.map fun p => A.d (pr p))) h1) := by
  rw [show (xs.map fun p => A.d (pr p)) = (xs.map pr).map A.d by rw [List.map_map]; rfl]
  exact x_It e
theorem c1_ke {xs : List (D × D)} (hl : xs.length ≤ 1000) (a0 a2 a3 a4 a5 a6 a7 a8 a9 a10 a11 a12 : Option A) (h : Hq) : C1_Kept____init__ [a0, some (.d (.lst (xs.map pr))), a2, a3, a4, a5, a6, a7, a8, a9, a10, a11, a12] h = some (.ok (.d (.lst (xs.map pr))) h) := by
  unfold C1_Kept____init__
  rw [lc_map (fun p => A.d (pr p)) (fun p => A.d (pr p)) (pr_it (x_Var rfl)) (by show _ ≤ 16777216; omega) fun n x e => ⟨[a0, some (.d (.lst (xs.map pr))), a2, a3, a4, some (.d x.1), some (.d x.2), a7, a8, a9, a10, a11, a12], rfl, by unfold E1_Kept____init__; wtm_at "tq_x"⟩]
  exact x_mkL (allD_mapf _ _) (by wtm_at "tq_len")
theorem c2_ke {xs : List (D × D)} (hl : xs.length ≤ 1000) (a0 a1 a3 a4 a5 a6 a7 a8 a9 a10 a11 a12 : Option A) (h : Hq) : C2_Kept____init__ [a0, a1, some (.d (.lst (xs.map pr))), a3, a4, a5, a6, a7, a8, a9, a10, a11, a12] h = some (.ok (.d (.lst (xs.map pr))) h) := by
  unfold C2_Kept____init__
  rw [lc_map (fun p => A.d (pr p)) (fun p => A.d (pr p)) (pr_it (x_Var rfl)) (by show _ ≤ 16777216; omega) fun n x e => ⟨[a0, a1, some (.d (.lst (xs.map pr))), a3, a4, a5, a6, some (.d x.1), some (.d x.2), a9, a10, a11, a12], rfl, by unfold E2_Kept____init__; wtm_at "tq_x"⟩]
  exact x_mkL (allD_mapf _ _) (by wtm_at "tq_len")
theorem c3_ke {xs : List (D × D)} (hl : xs.length ≤ 1000) (a0 a1 a2 a3 a4 a5 a6 a7 a8 a9 a10 a12 : Option A) (h : Hq) : C3_Kept____init__ [a0, a1, a2, a3, a4, a5, a6, a7, a8, a9, a10, some (.d (.lst (xs.map pr))), a12] h = some (.ok (.d (.lst (xs.map pr))) h) := by
  unfold C3_Kept____init__
  rw [lc_map (fun p => A.d (pr p)) (fun p => A.d (pr p)) (pr_it (x_Var rfl)) (by show _ ≤ 16777216; omega) fun n x e => ⟨[a0, a1, a2, a3, a4, a5, a6, a7, a8, some (.d x.1), some (.d x.2), some (.d (.lst (xs.map pr))), a12], rfl, by unfold E3_Kept____init__; wtm_at "tq_x"⟩]
  exact x_mkL (allD_mapf _ _) (by wtm_at "tq_len")
local macro_rules | `(tactic| wtm_at "tq_call") => `(tactic| first | ((with_reducible apply c1_ke); omega) | ((with_reducible apply c2_ke); omega) | ((with_reducible apply c3_ke); omega))
theorem c4_ke {xs : List (D × List (D × D))} (hl : xs.length ≤ 1000) (hv : ∀ t ∈ xs, t.2.length ≤ 1000) (a0 a1 a2 a4 a5 a6 a7 a8 a9 a10 a11 a12 : Option A) (h : Hq) : C4_Kept____init__ [a0, a1, a2, some (.d (.lst (xs.map tx))), a4, a5, a6, a7, a8, a9, a10, a11, a12] h = some (.ok (.d (.lst (xs.map tx))) h) := by
  unfold C4_Kept____init__
  rw [lc_map (fun p => A.d (tx p)) (fun p => A.d (tx p)) (by
    rw [show (xs.map fun p => A.d (tx p)) = (xs.map tx).map A.d by rw [List.map_map]; rfl]
    exact x_It (x_Var rfl)) (by show _ ≤ 16777216; omega) fun n x e => ⟨[a0, a1, a2, some (.d (.lst (xs.map tx))), a4, a5, a6, some (.d x.1), a8, a9, a10, some (.d (.lst (x.2.map pr))), a12], rfl, by
      have := hv x (List.mem_of_getElem? e)
      unfold E4_Kept____init__; wtm_at "tq_x"⟩]
  exact x_mkL (allD_mapf _ _) (by wtm_at "tq_len")
theorem c5_ke {xs : List (D × D)} (hl : xs.length ≤ 1000) (a0 a1 a2 a3 a5 a6 a7 a8 a9 a10 a11 a12 : Option A) (h : Hq) : C5_Kept____init__ [a0, a1, a2, a3, some (.d (.lst (xs.map pr))), a5, a6, a7, a8, a9, a10, a11, a12] h = some (.ok (.d (.lst (xs.map pr))) h) := by
  unfold C5_Kept____init__
  rw [lc_map (fun p => A.d (pr p)) (fun p => A.d (pr p)) (pr_it (x_Var rfl)) (by show _ ≤ 16777216; omega) fun n x e => ⟨[a0, a1, a2, a3, some (.d (.lst (xs.map pr))), a5, a6, some (.d x.1), a8, a9, a10, a11, some (.d x.2)], rfl, by unfold E5_Kept____init__; wtm_at "tq_x"⟩]
  exact x_mkL (allD_mapf _ _) (by wtm_at "tq_len")
/-- of no shares: the default -/
theorem c5_k0 (a0 a1 a2 a3 a5 a6 a7 a8 a9 a10 a11 a12 : Option A) (h : Hq) : C5_Kept____init__ [a0, a1, a2, a3, some (.d (.kt [])), a5, a6, a7, a8, a9, a10, a11, a12] h = some (.ok (.d (.lst [])) h) := by
  unfold C5_Kept____init__
  rw [lc_map (xs := ([] : List (D × D))) (h1 := h) (fun p => A.d (pr p)) (fun p => A.d (pr p)) rfl (by decide) fun n x e => by simp at e]
  rfl
end KK

set_option maxHeartbeats 1000000
open PySem PySem.Spec PyProof.Rows L2 Tq
namespace KK
open PySem PySem.Spec PyProof.Rows L2 Tq
local macro_rules | `(tactic| wtm_at "tq_call") => `(tactic| first | ((with_reducible apply c1_ke) <;> omega) | ((with_reducible apply c2_ke) <;> omega) | ((with_reducible apply c4_ke) <;> first | with_reducible assumption | omega) | ((with_reducible apply c5_ke) <;> omega) | with_reducible exact c5_k0 _ _ _ _ _ _ _ _ _ _ _ _ _)
theorem kinit_ok {k : KeT} (hk : KeOk k) : sem_Kept____init__ [.r 0, .d (.lst (k.acts.map pr)), .d (.lst (k.sums.map pr)), .d (.lst (k.texts.map tx)), .d (.lst (k.shares.map pr))] [.nd (.ins "Kept" []) []] = some (.ok (.d .non) [.nd (.ins "Kept" KS) [.d (.lst (k.acts.map pr)), .d (.lst (k.sums.map pr)), .d (.lst (k.texts.map tx)), .d (.lst (k.shares.map pr))]]) := by
  obtain ⟨h1, h2, h3, h4, h5⟩ := hk
  wtm_at "tq_runN"
  unfold b_Kept____init__
  wtm_at "tq_s"
/-- the default for the shares -/
theorem kinit0_ok {k : KeT} (hk : KeOk k) (h0 : k.shares = []) : sem_Kept____init__ [.r 0, .d (.lst (k.acts.map pr)), .d (.lst (k.sums.map pr)), .d (.lst (k.texts.map tx)), .d (.kt [])] [.nd (.ins "Kept" []) []] = some (.ok (.d .non) [.nd (.ins "Kept" KS) [.d (.lst (k.acts.map pr)), .d (.lst (k.sums.map pr)), .d (.lst (k.texts.map tx)), .d (.lst (k.shares.map pr))]]) := by
  obtain ⟨h1, h2, h3, h4, h5⟩ := hk
  rw [h0, List.map_nil]
  wtm_at "tq_runN"
  unfold b_Kept____init__
  wtm_at "tq_s"
abbrev datD (k : KeT) : D := .tup [.tup (k.acts.map pr), .tup (k.sums.map pr), .tup (k.texts.map txd), .tup (k.shares.map pr)]
theorem c1_kd {k : KeT} (hk : KeOk k) (h : Hq) : C1_Kept__data [some (.d (ketD k)), none, none, none] h = some (.ok (.d (.lst (k.texts.map txd))) h) := by
  obtain ⟨h1, h2, h3, h4, h5⟩ := hk
  unfold C1_Kept__data
  rw [lc_map (h1 := h) (fun p => A.d (tx p)) (fun p => A.d (txd p)) (by
    rw [show (k.texts.map fun p => A.d (tx p)) = (k.texts.map tx).map A.d by rw [List.map_map]; rfl]
    exact x_It (by wtm_at "tq_x")) (by show _ ≤ 16777216; omega) fun n x e => ⟨[some (.d (ketD k)), none, some (.d x.1), some (.d (.lst (x.2.map pr)))], rfl, by
      have := h5 x (List.mem_of_getElem? e)
      unfold E1_Kept__data; wtm_at "tq_x"⟩]
  exact x_mkL (allD_mapf _ _) (by wtm_at "tq_len")
theorem kdata_ok {k : KeT} (hk : KeOk k) (h : Hq) : sem_Kept__data [.d (ketD k)] h = some (.ok (.d (datD k)) h) := by
  wtm_at "tq_run"
  unfold b_Kept__data
  have c1 := c1_kd hk h
  obtain ⟨h1, h2, h3, h4, h5⟩ := hk
  wtm_at "tq_s"
/-- kept or not -/
def okD : Option KeT → D
  | some k => ketD k
  | none => .non
def odD : Option KeT → D
  | some k => datD k
  | none => .non
theorem keptd_ok {o : Option KeT} (ho : ∀ k, o = some k → KeOk k) (h : Hq) : sem__kept_data [.d (okD o)] h = some (.ok (.d (odD o)) h) := by
  wtm_at "tq_run"
  unfold b__kept_data
  cases o with
  | none =>
    show mSeq _ _ [some (.d .non)] h = some (.rt (.d .non) h)
    wtm_at "tq_s"
  | some k =>
    have := kdata_ok (ho k rfl) []
    show mSeq _ _ [some (.d (ketD k))] h = some (.rt (.d (datD k)) h)
    wtm_at "tq_s"
/-! ### a store of cells -/
def k0 : KeT := ⟨[], [], [], []⟩
theorem k0_ok : KeOk k0 := ⟨by decide, by decide, by decide, by decide, fun t h => by cases h⟩
theorem mk0 {τ : Sl} {h : Hq} : E2_Store____init__ τ h = some (.ok (.d (okD (some k0))) h) := by
  have := kinit0_ok k0_ok rfl
  unfold E2_Store____init__
  have e : mDfl [.kt []] (maCons (mLst false maNil) (maCons (mLst false maNil) (maCons (mLst false maNil) maNil))) τ h = some (.ok [.d (.lst (k0.acts.map pr)), .d (.lst (k0.sums.map pr)), .d (.lst (k0.texts.map tx)), .d (.kt [])] h) := rfl
  exact x_MakeP (n := 5) (C := "Kept") e rfl (by wtm_at "tq_x") this (view_n rfl (by wtm_at "tq_x"))
abbrev zA (z : Int) : A := .d (.int z)
abbrev chA (r : Row) : A := .d (chg r)
def stH (k m : Nat) (cut : List Int) (caps : List D) (kept : List (Option KeT)) (chs : List (List Row)) : Hq :=
  [.nd (.ins "Store" SFS) [.d (.int (m : Nat)), .r (k + 1), .r (k + 2), .r (k + 3), .r (k + (4 + m))], .lst (cut.map zA), .lst (caps.map A.d), .lst (kept.map fun o => A.d (okD o))] ++ ((chs.map fun c => O.lst (c.map chA)) ++ [.lst ((List.range m).map fun i => .r (k + (4 + i)))])
theorem sinit_ok {h0 : Hq} {k m : Nat} (hk : h0.length = k) (hm : m ≤ 6) : sem_Store____init__ [.r k, .d (.int (m : Nat))] (h0 ++ [.nd (.ins "Store" []) []]) = some (.ok (.d .non) (h0 ++ stH k m (List.replicate m 0) [] [some k0, some k0, some k0, some k0] (List.replicate m []))) := by
  wtm_at "tq_runN"
  unfold b_Store____init__
  have c1 : ∀ h : Hq, C1_Store____init__ [some (.r k), some (.d (.int (m : Nat))), none] h = mkL true ((List.replicate m (0 : Int)).map zA) h := fun h => by
    unfold C1_Store____init__
    rw [lc_map (h1 := h) (xs := List.range m) iD (fun _ => zA 0) (x_Rg (q := m) (by wtm_at "tq_x") (by wtm_at "tq_len")) (by wtm_at "tq_len") fun n x e => ⟨[some (.r k), some (.d (.int (m : Nat))), some (iD x)], rfl, by unfold E1_Store____init__; wtm_at "tq_x"⟩]
    rw [List.map_const', List.map_replicate, List.length_range]
  have c2 : ∀ h : Hq, C2_Store____init__ [some (.r k), some (.d (.int (m : Nat))), none] h = mkL true (([some k0, some k0, some k0, some k0] : List (Option KeT)).map fun o => A.d (okD o)) h := fun h => by
    unfold C2_Store____init__
    rw [lc_map (h1 := h) (xs := List.range 4) iD (fun _ => A.d (okD (some k0))) (x_Rg (q := 4) rfl (by decide)) (by decide) fun n x e => ⟨[some (.r k), some (.d (.int (m : Nat))), some (iD x)], rfl, mk0⟩]
    have : ((List.range 4).map fun _ => A.d (okD (some k0))) = ([some k0, some k0, some k0, some k0] : List (Option KeT)).map fun o => A.d (okD o) := rfl
    rw [this]
  have c3 : ∀ h : Hq, C3_Store____init__ [some (.r k), some (.d (.int (m : Nat))), none] h = mkL true ((List.range m).map fun i => .r (h.length + i)) (h ++ (List.range m).map fun _ => O.lst []) := fun h => by
    unfold C3_Store____init__
    refine Eq.trans (lc_new (h1 := h) (xs := List.range m) iD (fun _ => O.lst []) (x_Rg (q := m) (by wtm_at "tq_x") (by wtm_at "tq_len")) (by wtm_at "tq_len") fun n x h' e => ⟨[some (.r k), some (.d (.int (m : Nat))), some (iD x)], rfl, by unfold E3_Store____init__; wtm_at "tq_x"⟩) ?_
    rw [List.length_range]
  refine s_Seq (τ1 := [some (.r k), some (.d (.int (m : Nat))), none]) (h1 := h0 ++ [.nd (.ins "Store" ["members"]) [.d (.int (m : Nat))]]) (by wtm_at "tq_x") ?_
  refine s_Seq (τ1 := [some (.r k), some (.d (.int (m : Nat))), none]) (h1 := h0 ++ [.nd (.ins "Store" ["members", "cut"]) [.d (.int (m : Nat)), .r (k + 1)], .lst ((List.replicate m (0 : Int)).map zA)]) (by
    have c1' := c1 (h0 ++ [.nd (.ins "Store" ["members"]) [.d (.int (m : Nat))]])
    rw [x_mkH1 hk (by wtm_at "tq_len")] at c1'
    wtm_at "tq_x") ?_
  refine s_Seq (τ1 := [some (.r k), some (.d (.int (m : Nat))), none]) (h1 := h0 ++ [.nd (.ins "Store" ["members", "cut", "capabilities"]) [.d (.int (m : Nat)), .r (k + 1), .r (k + 2)], .lst ((List.replicate m (0 : Int)).map zA), .lst []]) (by wtm_at "tq_x") ?_
  refine s_Seq (τ1 := [some (.r k), some (.d (.int (m : Nat))), none]) (h1 := h0 ++ [.nd (.ins "Store" ["members", "cut", "capabilities", "kept"]) [.d (.int (m : Nat)), .r (k + 1), .r (k + 2), .r (k + 3)], .lst ((List.replicate m (0 : Int)).map zA), .lst [], .lst (([some k0, some k0, some k0, some k0] : List (Option KeT)).map fun o => A.d (okD o))]) (by
    have c2' := c2 (h0 ++ [.nd (.ins "Store" ["members", "cut", "capabilities"]) [.d (.int (m : Nat)), .r (k + 1), .r (k + 2)], .lst ((List.replicate m (0 : Int)).map zA), .lst []])
    rw [x_mkH3 hk (by decide)] at c2'
    wtm_at "tq_x") ?_
  have c3' := c3 (h0 ++ [.nd (.ins "Store" ["members", "cut", "capabilities", "kept"]) [.d (.int (m : Nat)), .r (k + 1), .r (k + 2), .r (k + 3)], .lst ((List.replicate m (0 : Int)).map zA), .lst [], .lst (([some k0, some k0, some k0, some k0] : List (Option KeT)).map fun o => A.d (okD o))])
  rw [List.append_assoc, x_mkH (j := 4 + m) hk (by wtm_at "tq_len") (by simp; omega)] at c3'
  have e0 : ∀ (a b c d : O) (u v : Hq), h0 ++ ([a, b, c, d] ++ u ++ v) = h0 ++ (a :: ([b, c, d] ++ u ++ v)) := fun _ _ _ _ _ _ => rfl
  rw [e0] at c3'
  have e1 := s_SetF (T := FT) (f := "changes") (fs' := SFS) (C := "Store") (τ := [some (.r k), some (.d (.int (m : Nat))), none]) c3' (x_Var (i := 0) rfl) (hp_getz hk) (by decide +kernel) (by decide) (by wtm_at "tq_fg") (hp_setz hk)
  refine Eq.trans e1 ?_
  have e2 : ∀ (a b c d : O) (u v : Hq), h0 ++ (a :: ([b, c, d] ++ u ++ v)) = h0 ++ ([a, b, c, d] ++ (u ++ v)) := fun _ _ _ _ _ _ => by simp
  rw [e2]
  unfold stH
  have e3 : ∀ t : Hq, t.length = 4 → (fun i => A.r ((h0 ++ t).length + i)) = fun i => A.r (k + (4 + i)) := fun t ht => by
    funext i
    have : (h0 ++ t).length + i = k + (4 + i) := by rw [List.length_append, hk, ht]; omega
    rw [this]
  rw [e3 _ (by simp only [List.length_cons, List.length_nil])]
  simp only [List.map_const', List.length_range, List.map_replicate, List.map_nil]
  with_reducible exact rfl
end KK

set_option maxHeartbeats 1000000
open PySem PySem.Spec PyProof.Rows L2 Tq
namespace KK
open PySem PySem.Spec PyProof.Rows L2 Tq
section
variable {h0 : Hq} {k m j : Nat} {cut cut' : List Int} {caps caps' : List D} {kept kept' : List (Option KeT)} {chs : List (List Row)}
theorem st_get0 (hk : h0.length = k) : (h0 ++ stH k m cut caps kept chs)[k]? = some (.nd (.ins "Store" SFS) [.d (.int (m : Nat)), .r (k + 1), .r (k + 2), .r (k + 3), .r (k + (4 + m))]) := hp_getz hk
theorem st_get1 (hk : h0.length = k) : (h0 ++ stH k m cut caps kept chs)[k + 1]? = some (.lst (cut.map zA)) := hp_get hk rfl
theorem st_get2 (hk : h0.length = k) : (h0 ++ stH k m cut caps kept chs)[k + 2]? = some (.lst (caps.map A.d)) := hp_get hk rfl
theorem st_get3 (hk : h0.length = k) : (h0 ++ stH k m cut caps kept chs)[k + 3]? = some (.lst (kept.map fun o => A.d (okD o))) := hp_get hk rfl
theorem st_getc (hk : h0.length = k) (hm : chs.length = m) (hj : j < m) : (h0 ++ stH k m cut caps kept chs)[k + (4 + j)]? = some (.lst ((chs.getD j []).map chA)) := by
  refine hp_get hk ?_
  unfold stH
  rw [List.getElem?_append_right (by show 4 ≤ 4 + j; omega), show 4 + j - ([_, _, _, _] : Hq).length = j from by show 4 + j - 4 = j; omega, List.getElem?_append_left (by rw [List.length_map]; omega), List.getElem?_map, getds [] (by omega)]
  rfl
theorem st_geto (hk : h0.length = k) (hm : chs.length = m) : (h0 ++ stH k m cut caps kept chs)[k + (4 + m)]? = some (.lst ((List.range m).map fun i => .r (k + (4 + i)))) := by
  refine hp_get hk ?_
  unfold stH
  rw [List.getElem?_append_right (by show 4 ≤ 4 + m; omega), show 4 + m - ([_, _, _, _] : Hq).length = m from by show 4 + m - 4 = m; omega, List.getElem?_append_right (by rw [List.length_map]; omega), List.length_map, hm, Nat.sub_self]
  rfl
theorem st_set1 (hk : h0.length = k) : (h0 ++ stH k m cut caps kept chs).set (k + 1) (.lst (cut'.map zA)) = h0 ++ stH k m cut' caps kept chs := hp_set hk rfl
theorem st_set2 (hk : h0.length = k) : (h0 ++ stH k m cut caps kept chs).set (k + 2) (.lst (caps'.map A.d)) = h0 ++ stH k m cut caps' kept chs := hp_set hk rfl
theorem st_set3 (hk : h0.length = k) : (h0 ++ stH k m cut caps kept chs).set (k + 3) (.lst (kept'.map fun o => A.d (okD o))) = h0 ++ stH k m cut caps kept' chs := hp_set hk rfl
theorem st_setc {c : List Row} (hk : h0.length = k) (hm : chs.length = m) (hj : j < m) : (h0 ++ stH k m cut caps kept chs).set (k + (4 + j)) (.lst (c.map chA)) = h0 ++ stH k m cut caps kept (chs.set j c) := by
  refine hp_set hk ?_
  unfold stH
  rw [List.set_append_right _ _ (by show 4 ≤ 4 + j; omega), show 4 + j - ([_, _, _, _] : Hq).length = j from by show 4 + j - 4 = j; omega, List.set_append_left _ _ (by rw [List.length_map]; omega), List.map_set]
def addC (chs : List (List Row)) (r : Row) : List (List Row) := chs.set r.a (chs.getD r.a [] ++ [r])
theorem add_ok {r : Row} (hk : h0.length = k) (hm : chs.length = m) (ha : r.a < m) (hm6 : m ≤ 6) (hl : (chs.getD r.a []).length ≤ 4000) : sem_Store__add [.r k, .d (chg r)] (h0 ++ stH k m cut caps kept chs) = some (.ok (.d .non) (h0 ++ stH k m cut caps kept (addC chs r))) := by
  wtm_at "tq_runN"
  unfold b_Store__add
  have g0 := st_get0 (m := m) (cut := cut) (caps := caps) (kept := kept) (chs := chs) hk
  have g1 := st_getc (cut := cut) (caps := caps) (kept := kept) hk hm ha
  have g2 := st_geto (cut := cut) (caps := caps) (kept := kept) hk hm
  have g3 := st_setc (c := chs.getD r.a [] ++ [r]) (cut := cut) (caps := caps) (kept := kept) hk hm ha
  have ix : ((List.range m).map fun i => A.r (k + (4 + i)))[r.a]? = some (.r (k + (4 + r.a))) := by rw [List.getElem?_map, List.getElem?_range ha]; rfl
  rw [List.map_append] at g3
  have g3 : (h0 ++ stH k m cut caps kept chs).set (k + (4 + r.a)) (.lst ((chs.getD r.a []).map chA ++ [.d (chg r)])) = h0 ++ stH k m cut caps kept (chs.set r.a (chs.getD r.a [] ++ [r])) := g3
  show _ = some (So.nx _ (h0 ++ stH k m cut caps kept (chs.set r.a (chs.getD r.a [] ++ [r]))))
  generalize h0 ++ stH k m cut caps kept chs = h at *
  have il : r.a < ((List.range m).map fun i => A.r (k + (4 + i))).length := by rw [List.length_map, List.length_range]; exact ha
  generalize ((List.range m).map fun i => A.r (k + (4 + i))) = is at *
  wtm_at "tq_x"
/-! ### its data -/
abbrev rowD (r : Row) : D := .tup [.int (r.a : Nat), .int r.n, .tup (r.hs.map D.int), r.cap, .tup r.pubs, .tup r.parts]
abbrev sdatD (cut : List Int) (caps : List D) (kept : List (Option KeT)) (chs : List (List Row)) : D := .tup [.tup (cut.map D.int), .tup caps, .tup (kept.map odD), .tup (chs.map fun c => .tup (c.map rowD))]
theorem data_ok (hk : h0.length = k) (hm : chs.length = m) (hm6 : m ≤ 6) (hc : cut.length ≤ 6) (hcp : caps.length ≤ 1000) (hkl : kept.length ≤ 4) (hke : ∀ o ∈ kept, ∀ x, o = some x → KeOk x) (hl : ∀ c ∈ chs, c.length ≤ 4000) :
    sem_Store__data [.r k] (h0 ++ stH k m cut caps kept chs) = some (.ok (.d (sdatD cut caps kept chs)) (h0 ++ stH k m cut caps kept chs)) := by
  wtm_at "tq_run"
  unfold b_Store__data
  have g0 := st_get0 (m := m) (cut := cut) (caps := caps) (kept := kept) (chs := chs) hk
  have g1 := st_get1 (m := m) (cut := cut) (caps := caps) (kept := kept) (chs := chs) hk
  have g2 := st_get2 (m := m) (cut := cut) (caps := caps) (kept := kept) (chs := chs) hk
  have g3 := st_get3 (m := m) (cut := cut) (caps := caps) (kept := kept) (chs := chs) hk
  have g4 := st_geto (cut := cut) (caps := caps) (kept := kept) hk hm
  have g5 : ∀ j, j < m → (h0 ++ stH k m cut caps kept chs)[k + (4 + j)]? = some (.lst ((chs.getD j []).map chA)) := fun j hj => st_getc (cut := cut) (caps := caps) (kept := kept) hk hm hj
  generalize h0 ++ stH k m cut caps kept chs = h at *
  have c1 : C1_Store__data [some (.r k), none, none, none, none] h = some (.ok (.d (.lst (kept.map odD))) h) := by
    unfold C1_Store__data
    rw [lc_mapC (k := k + 3) (fun o => A.d (okD o)) (fun o => A.d (odD o)) (by apply x_ItC <;> wtm_at "tq_x") g3 (by show _ ≤ 16777216; omega) fun n o e => ⟨[some (.r k), none, some (.d (okD o)), none, none], rfl, by
      have := keptd_ok (hke o (List.mem_of_getElem? e)) []
      unfold E1_Store__data; wtm_at "tq_x"⟩]
    exact x_mkL (allD_mapf _ _) (by wtm_at "tq_len")
  have c2 : ∀ (j : Nat) (a : Option A), j < m → C2_Store__data [some (.r k), a, some (.r (k + (4 + j))), none, none] h = some (.ok (.d (.lst ((chs.getD j []).map rowD))) h) := fun j a hj => by
    have hlj : (chs.getD j []).length ≤ 4000 := hl _ (by rw [List.getD_eq_getElem?_getD, List.getElem?_eq_getElem (by omega)]; exact List.getElem_mem _)
    unfold C2_Store__data
    have g5j := g5 j hj
    rw [lc_mapC (k := k + (4 + j)) chA (fun r => A.d (rowD r)) (by apply x_ItC <;> wtm_at "tq_x") g5j (by show _ ≤ 16777216; omega) fun n r e => ⟨[some (.r k), a, some (.r (k + (4 + j))), none, some (.d (chg r))], rfl, by
      have e1 : mMethP "Change" "header" 1 sem_Change__header (mVar 4) maNil [some (.r k), a, some (.r (k + (4 + j))), none, some (.d (chg r))] h = some (.ok (.d (hdD r)) h) := by
        have := header_ok r []
        wtm_at "tq_x"
      have e2 : mTup (maCons (mUn (gFld FT "parts") (mVar 4)) maNil) [some (.r k), a, some (.r (k + (4 + j))), none, some (.d (chg r))] h = some (.ok (.d (.tup [.tup r.parts])) h) := by wtm_at "tq_x"
      unfold E2_Store__data
      exact x_Bin e1 e2 (g_catt (by show 6 ≤ 16777216; decide))⟩]
    exact x_mkL (allD_mapf _ _) (by wtm_at "tq_len")
  have c3 : ∀ (a : Option A), C3_Store__data [some (.r k), a, none, none, none] h = some (.ok (.d (.lst (chs.map fun c => .tup (c.map rowD)))) h) := fun a => by
    unfold C3_Store__data
    rw [lc_mapC (k := k + (4 + m)) (xs := List.range m) (fun i => A.r (k + (4 + i))) (fun i => A.d (.tup ((chs.getD i []).map rowD))) (by apply x_ItC <;> wtm_at "tq_x") g4 (by show _ ≤ 16777216; rw [List.length_range]; omega) fun n i e => ⟨[some (.r k), a, some (.r (k + (4 + i))), none, none], rfl, by
      obtain ⟨hn, rfl⟩ := rangeget e
      have c2' := c2 i a hn
      have hlj : (chs.getD i []).length ≤ 4000 := hl _ (by rw [List.getD_eq_getElem?_getD, List.getElem?_eq_getElem (by omega)]; exact List.getElem_mem _)
      unfold E3_Store__data; wtm_at "tq_x"⟩]
    have : ((List.range m).map fun i => A.d (.tup ((chs.getD i []).map rowD))) = chs.map fun c => A.d (.tup (c.map rowD)) := by
      refine List.ext_getElem? fun i => ?_
      rw [List.getElem?_map, List.getElem?_map]
      rcases Nat.lt_or_ge i m with z | z
      · rw [List.getElem?_range z, getds [] (by omega : i < chs.length)]
        rfl
      · rw [List.getElem?_eq_none (by rw [List.length_range]; exact z), List.getElem?_eq_none (by omega)]
        rfl
    rw [this]
    exact x_mkL (allD_mapf _ _) (by wtm_at "tq_len")
  have c3' := c3 (some (.d (.lst (kept.map odD))))
  have q1 : allD (cut.map zA) = some (cut.map D.int) := allD_mapf _ _
  wtm_at "tq_s"
theorem vw_ok (hk : h0.length = k) (hm : chs.length = m) : view (h0 ++ stH k m cut caps kept chs) (.r k) = some (stD ⟨m, cut, caps, kept.map okD, chs⟩) := by
  have g0 := st_get0 (m := m) (cut := cut) (caps := caps) (kept := kept) (chs := chs) hk
  have g1 := st_get1 (m := m) (cut := cut) (caps := caps) (kept := kept) (chs := chs) hk
  have g2 := st_get2 (m := m) (cut := cut) (caps := caps) (kept := kept) (chs := chs) hk
  have g3 := st_get3 (m := m) (cut := cut) (caps := caps) (kept := kept) (chs := chs) hk
  have g4 := st_geto (cut := cut) (caps := caps) (kept := kept) hk hm
  have g5 : ∀ j, j < m → (h0 ++ stH k m cut caps kept chs)[k + (4 + j)]? = some (.lst ((chs.getD j []).map chA)) := fun j hj => st_getc (cut := cut) (caps := caps) (kept := kept) hk hm hj
  generalize h0 ++ stH k m cut caps kept chs = h at *
  have ml : ∀ {α : Type} (f : α → A) (g : α → D) (n : Nat) (xs : List α), (∀ x ∈ xs, vw n h (f x) = some (g x)) → mapMn (vw n h) (xs.map f) = some (xs.map g) := by
    intro α f g n xs
    induction xs with
    | nil => exact fun _ => rfl
    | cons x r ih =>
      intro hx
      rw [List.map_cons]
      exact views_cons (hx x (List.mem_cons_self ..)) (ih fun y hy => hx y (List.mem_cons_of_mem _ hy))
  have v1 : vw 31 h (.r (k + 1)) = some (.lst (cut.map D.int)) := by unfold vw; rw [g1]; dsimp only; rw [ml zA D.int 30 cut fun x _ => vw_d _ _ _]; rfl
  have v2 : vw 31 h (.r (k + 2)) = some (.lst caps) := by unfold vw; rw [g2]; dsimp only; rw [ml A.d (fun x => x) 30 caps fun x _ => vw_d _ _ _, List.map_id']; rfl
  have v3 : vw 31 h (.r (k + 3)) = some (.lst (kept.map okD)) := by unfold vw; rw [g3]; dsimp only; rw [ml (fun o => A.d (okD o)) okD 30 kept fun x _ => vw_d _ _ _]; rfl
  have v5 : ∀ j, j < m → vw 30 h (.r (k + (4 + j))) = some (.lst ((chs.getD j []).map chg)) := fun j hj => by unfold vw; rw [g5 j hj]; dsimp only; rw [ml chA chg 29 (chs.getD j []) fun x _ => vw_d _ _ _]; rfl
  have v4 : vw 31 h (.r (k + (4 + m))) = some (.lst (chs.map fun c => .lst (c.map chg))) := by
    unfold vw
    rw [g4]
    dsimp only
    rw [ml (fun i => A.r (k + (4 + i))) (fun i => D.lst ((chs.getD i []).map chg)) 30 (List.range m) fun i hi => v5 i (List.mem_range.mp hi)]
    have : ((List.range m).map fun i => D.lst ((chs.getD i []).map chg)) = chs.map fun c => .lst (c.map chg) := by
      refine List.ext_getElem? fun i => ?_
      rw [List.getElem?_map, List.getElem?_map]
      rcases Nat.lt_or_ge i m with z | z
      · rw [List.getElem?_range z, getds [] (by omega : i < chs.length)]
        rfl
      · rw [List.getElem?_eq_none (by rw [List.length_range]; exact z), List.getElem?_eq_none (by omega)]
        rfl
    rw [this]
    rfl
  show vw 32 h (.r k) = _
  unfold vw
  rw [g0]
  dsimp only
  rw [views_cons (f := vw 31 h) (vw_d _ _ _) (views_cons v1 (views_cons v2 (views_cons v3 (views_cons v4 views_nil))))]
  rfl
end
end KK

set_option maxHeartbeats 1000000
open PySem PySem.Spec PyProof.Rows L2 Tq
namespace KK
open PySem PySem.Spec PyProof.Rows L2 Tq
def atv (ds : List Int) (i : Int) : Int := match sem__law_at [.d (LD ds), .d (.int i)] [] with | some (.ok (.d (.int v)) _) => v | _ => 0
theorem atq_ok {ds : List Int} (hd : Drs ds) {i : Int} (hi : 0 ≤ i ∧ i < 100000000) : sem__law_at [.d (LD ds), .d (.int i)] [] = some (.ok (.d (.int (atv ds i))) []) ∧ Dr (atv ds i) := by
  obtain ⟨v, e, r⟩ := at_ok hd hi
  have : atv ds i = v := by unfold atv; rw [e]
  rw [this]
  exact ⟨e, r⟩
theorem at_c {ds : List Int} {i : Int} (hd : Drs ds) (hi : 0 ≤ i ∧ i < 100000000) : sem__law_at [.d (.lst (ds.map D.int)), .d (.int i)] [] = some (.ok (.d (.int (atv ds i))) []) := (atq_ok hd hi).1
theorem at_r {ds : List Int} (hd : Drs ds) (i : Int) (hi : 0 ≤ i ∧ i < 100000000) : 0 ≤ atv ds i ∧ atv ds i < 9973 := (atq_ok hd hi).2
local macro_rules | `(tactic| wtm_at "tq_call") => `(tactic| (((with_reducible apply at_c); focus (with_reducible assumption)); omega))
theorem g_pick {xs : List D} {z : Int} (h : Hq) (h0 : 0 ≤ z) (h1 : z.toNat < xs.length) : ∃ v, v ∈ xs ∧ gGet (.d (.lst xs)) (.d (.int z)) h = some (.ok (.d v) h) :=
  ⟨xs[z.toNat], List.getElem_mem _, g_getld (ix_int h0 h1) (List.getElem?_eq_getElem h1)⟩
theorem cut_mem {α : Type} {xs : List α} {lo hi : Option Int} {x : α} (h : x ∈ cut xs lo hi) : x ∈ xs := by
  unfold cut at h
  exact List.mem_of_mem_drop (List.mem_of_mem_take h)
/-! ### what may be compared -/
def Shp (n : Nat) (d : D) : Prop := d.toP.canLay0 = true ∧ d.toP.depth ≤ n
theorem Shp.mono {n k : Nat} {d : D} (h : Shp n d) (hk : n ≤ k) : Shp k d := ⟨h.1, Nat.le_trans h.2 hk⟩
theorem Shp.int {n : Nat} (i : Int) : Shp n (.int i) := ⟨rfl, Nat.zero_le _⟩
theorem Shp.non {n : Nat} : Shp n .non := ⟨rfl, Nat.zero_le _⟩
theorem Shp.bl {n : Nat} (b : Bool) : Shp n (.bl b) := ⟨rfl, Nat.zero_le _⟩
theorem Shp.str {n : Nat} {x : Str} (h : PyData.strOk x = true) : Shp n (.str x) := ⟨h, Nat.zero_le _⟩
theorem shps {n : Nat} : ∀ {ds : List D}, (∀ d ∈ ds, Shp n d) → PyData.canLayAll0 (D.toPs ds) = true ∧ PyData.depthAll (D.toPs ds) ≤ n
  | [], _ => ⟨rfl, Nat.zero_le _⟩
  | d :: r, h => by
    obtain ⟨h1, h2⟩ := h d (List.mem_cons_self ..)
    obtain ⟨h3, h4⟩ := shps fun x hx => h x (List.mem_cons_of_mem _ hx)
    constructor
    · show (d.toP.canLay0 && PyData.canLayAll0 (D.toPs r)) = true
      rw [h1, h3]
      rfl
    · show max d.toP.depth (PyData.depthAll (D.toPs r)) ≤ n
      exact Nat.max_le.mpr ⟨h2, h4⟩
theorem Shp.tup {n : Nat} {ds : List D} (h : ∀ d ∈ ds, Shp n d) : Shp (n + 1) (.tup ds) := by
  obtain ⟨h1, h2⟩ := shps h
  exact ⟨h1, Nat.succ_le_succ h2⟩
theorem Shp.tupm {α : Type} {n : Nat} {xs : List α} {f : α → D} (h : ∀ x ∈ xs, Shp n (f x)) : Shp (n + 1) (.tup (xs.map f)) := Shp.tup fun d hd => by
  obtain ⟨x, hx, rfl⟩ := List.mem_map.mp hd
  exact h x hx
theorem Shp.shp {n : Nat} {d : D} (h : Shp n d) (hn : n ≤ 64) : d.shp = true := by
  show (d.toP.canLay0 && decide (d.toP.depth ≤ 64)) = true
  rw [h.1, decide_eq_true (Nat.le_trans h.2 hn)]
  rfl
theorem all_nilP {P : D → Prop} : ∀ d ∈ ([] : List D), P d := fun d h => by cases h
theorem all_consP {P : D → Prop} {x : D} {r : List D} (h : P x) (hr : ∀ d ∈ r, P d) : ∀ d ∈ x :: r, P d := fun d hd => by
  rcases List.mem_cons.mp hd with rfl | hd
  · exact h
  · exact hr d hd
local macro_rules | `(tactic| wtm_at "tq_sh") => `(tactic| first | exact Shp.int _ | exact Shp.non | exact Shp.bl _ | exact Shp.str (by decide +kernel) | with_reducible assumption | ((with_reducible refine Shp.tup ?_); wtm_at "tq_sh") | exact all_nilP | (refine all_consP ?_ ?_ <;> wtm_at "tq_sh"))
/-! ### _law_change -/
def rs4 : List D := (List.range 4).map fun k => .tup [.bl true, .bl true, .bl (decide (((k : Nat) : Int) % 2 = 0))]
theorem rs4_ok : Shp 2 (.tup rs4) ∧ rs4.length = 4 := ⟨Shp.tupm fun x _ => by wtm_at "tq_sh", by unfold rs4; rw [List.length_map, List.length_range]⟩
theorem c1_lc (h : Hq) (a0 a1 a2 a3 a4 a5 a7 a8 a9 : Option A) : C1__law_change [a0, a1, a2, a3, a4, a5, none, a7, a8, a9] h = some (.ok (.d (.lst rs4)) h) := by
  unfold C1__law_change
  rw [lc_map (h1 := h) (xs := List.range 4) iD (fun k => A.d (.tup [.bl true, .bl true, .bl (decide (((k : Nat) : Int) % 2 = 0))])) (x_Rg (q := 4) rfl (by decide)) (by decide) fun n x e => ⟨[a0, a1, a2, a3, a4, a5, some (iD x), a7, a8, a9], rfl, by
    unfold E1__law_change iD; wtm_at "tq_x"⟩]
  exact x_mkL (allD_mapf _ _) (by wtm_at "tq_len")
abbrev parts0 : List D := [.non, .tup [.tup [.str "table", .str "t"]], .tup [], .tup [.tup [.str "undo", .tup [.int 0, .int 1]], .tup [.str "drop", .tup [.int 0, .int 1, .int 0]]]]
theorem parts0_ok : ∀ p ∈ parts0, PartOk p := all_consP (.inl rfl) (all_consP (.inr ⟨_, rfl, by decide⟩) (all_consP (.inr ⟨_, rfl, by decide⟩) (all_consP (.inr ⟨_, rfl, by decide⟩) all_nilP)))
theorem parts0_sh : ∀ p ∈ parts0, Shp 3 p := by wtm_at "tq_sh"
structure RowS (r : Row) : Prop where
  c : Shp 4 r.cap
  p : r.pubs.length ≤ 3 ∧ ∀ x ∈ r.pubs, Shp 5 x
  q : r.parts.length ≤ 8 ∧ ∀ x ∈ r.parts, Shp 3 x
theorem change_ok {ds : List Int} (hd : Drs ds) {i n : Int} (hi : 0 ≤ i ∧ i < 100000000) {a : Nat} {hs : List Int} (hl : hs.length ≤ 100) {h : Hq} {kr kh : Nat} (g1 : h[kr]? = some (.lst [.d (.int (a : Nat)), .d (.int n), .r kh])) (g2 : h[kh]? = some (.lst (hs.map zA))) :
    ∃ r : Row, r.a = a ∧ r.n = n ∧ r.hs = hs ∧ RowS r ∧ sem__law_change [.d (LD ds), .d (.int i), .r kr] h = some (.ok (.d (chg r)) h) := by
  have hr := at_r hd i hi
  obtain ⟨hrs, hrl⟩ := rs4_ok
  have hp : ∀ p : D, p = .tup [.str "seal"] → Shp 5 p := fun p e => by subst e; wtm_at "tq_sh"
  generalize hv : atv ds i = v at *
  obtain ⟨cap, hc, e1⟩ := g_pick (xs := [.non, .tup [.int 0, .int 1, .int 0], .tup [.int 5, .int 9, .int 9], .tup [.int (a : Nat), .int n, .int 0]]) (z := v % 4) h (by omega) (by show _ < 4; omega)
  have ec := c1_lc h (some (.d (LD ds))) (some (.d (.int i))) (some (.r kr)) (some (.d (.int v))) (some (.d cap)) none none none none
  generalize rs4 = rs at *
  have hc : Shp 4 cap := by
    have : ∀ d ∈ ([.non, .tup [.int 0, .int 1, .int 0], .tup [.int 5, .int 9, .int 9], .tup [.int (a : Nat), .int n, .int 0]] : List D), Shp 4 d := by wtm_at "tq_sh"
    exact this cap hc
  have hp : ∀ d ∈ ([.tup [.str "seal"], .tup [.str "grant", .int (v % 6), .tup rs], .tup [.str "revoke", .tup [.int 0, .int 1, .int 0]]] : List D), Shp 5 d := by
    have h2 : Shp 4 (.tup rs) := hrs.mono (by decide)
    wtm_at "tq_sh"
  have at1 : sem__law_at [.d (.lst (ds.map D.int)), .d (.int i)] [] = some (.ok (.d (.int v)) []) := by rw [← hv]; exact at_c hd hi
  have lp : (cut parts0 (some (v / 16 % 4)) none ++ cut parts0 none (some (v / 16 % 4))).length ≤ 8 := by
    rw [List.length_append]
    have := cut_len parts0 (some (v / 16 % 4)) none
    have := cut_len parts0 none (some (v / 16 % 4))
    have : parts0.length = 4 := rfl
    omega
  have lq : (cut ([.tup [.str "seal"], .tup [.str "grant", .int (v % 6), .tup rs], .tup [.str "revoke", .tup [.int 0, .int 1, .int 0]]] : List D) (some (v / 4 % 4)) none).length ≤ 3 := cut_len _ _ _
  have pm : ∀ p ∈ cut parts0 (some (v / 16 % 4)) none ++ cut parts0 none (some (v / 16 % 4)), p ∈ parts0 := fun p hp => (List.mem_append.mp hp).elim cut_mem cut_mem
  have hi' := cinit_ok (a := a) (n := n) (hs := hs) (cap := cap) (pubs := cut ([.tup [.str "seal"], .tup [.str "grant", .int (v % 6), .tup rs], .tup [.str "revoke", .tup [.int 0, .int 1, .int 0]]] : List D) (some (v / 4 % 4)) none) (parts := cut parts0 (some (v / 16 % 4)) none ++ cut parts0 none (some (v / 16 % 4))) (by show _ ≤ 16777216; omega) (by show _ ≤ 16777216; omega) (by show _ ≤ 16777216; omega) (fun p hp => parts0_ok p (pm p hp))
  refine ⟨⟨a, n, hs, cap, cut ([.tup [.str "seal"], .tup [.str "grant", .int (v % 6), .tup rs], .tup [.str "revoke", .tup [.int 0, .int 1, .int 0]]] : List D) (some (v / 4 % 4)) none, cut parts0 (some (v / 16 % 4)) none ++ cut parts0 none (some (v / 16 % 4))⟩, rfl, rfl, rfl, ⟨hc, ⟨lq, fun x hx => hp x (cut_mem hx)⟩, ⟨lp, fun x hx => parts0_sh x (pm x hx)⟩⟩, ?_⟩
  have al : allD (hs.map zA) = some (hs.map D.int) := allD_mapf _ _
  rw [List.length_append] at lp
  delta parts0 at *
  delta chg
  dsimp only
  wtm_at "tq_run"
  unfold b__law_change
  wtm_at "tq_s"
end KK

set_option maxHeartbeats 1000000
open PySem PySem.Spec PyProof.Rows L2 Tq
namespace KK
open PySem PySem.Spec PyProof.Rows L2 Tq
local macro_rules | `(tactic| wtm_at "tq_call") => `(tactic| (((with_reducible apply at_c); focus (with_reducible assumption)); omega))
structure TR where
  a : Nat
  n : Int
  hs : List Int
def RowAt (h : Hq) (id : Nat × Nat) (r : TR) : Prop := h[id.1]? = some (.lst [.d (.int (r.a : Nat)), .d (.int r.n), .r id.2]) ∧ h[id.2]? = some (.lst (r.hs.map zA))
def RowsAt (h : Hq) (ids : List (Nat × Nat)) (rows : List TR) : Prop := ids.length = rows.length ∧ ∀ (i : Nat) (id : Nat × Nat) (r : TR), ids[i]? = some id → rows[i]? = some r → RowAt h id r
def cnt (rows : List TR) (j : Nat) : Nat := (rows.filter fun r => decide (r.a = j)).length
/-- what the rows tell -/
structure RwOk (m : Nat) (rows : List TR) : Prop where
  r : ∀ r ∈ rows, r.a < m ∧ r.hs.length = m ∧ (∀ i < m, 0 ≤ r.hs.getD i 0 ∧ r.hs.getD i 0 ≤ cnt rows i) ∧ r.hs.getD r.a 0 + 1 ≤ cnt rows r.a
  n : ∀ j, (rows.filter fun r => decide (r.a = j)).map (·.n) = (List.range (cnt rows j)).map fun i => ((i : Nat) : Int) + 1
theorem get_set {h : Hq} {k j : Nat} {o o' : O} (e : h[k]? = some o) (n : j ≠ k) : (h.set j o')[k]? = some o := by rw [List.getElem?_set_ne n]; exact e
theorem get_same {h : Hq} {k : Nat} {o o' : O} (e : h[k]? = some o) : (h.set k o')[k]? = some o' := List.getElem?_set_self (lt_of_get e)
theorem map_range_set {α : Type} {m a : Nat} {f : Nat → α} {y : α} (ha : a < m) : ((List.range m).map f).set a y = (List.range m).map fun j => if j = a then y else f j := by
  refine List.ext_getElem? fun i => ?_
  rw [List.getElem?_map]
  rcases Nat.lt_or_ge i m with z | z
  · rw [List.getElem?_range z]
    by_cases q : a = i
    · subst q
      rw [List.getElem?_set_self (by rw [List.length_map, List.length_range]; exact z)]
      simp
    · rw [List.getElem?_set_ne q, List.getElem?_map, List.getElem?_range z]
      show some (f i) = some (if i = a then y else f i)
      rw [if_neg fun e => q e.symm]
  · rw [List.getElem?_eq_none (by rw [List.length_set, List.length_map, List.length_range]; exact z), List.getElem?_eq_none (by rw [List.length_range]; exact z)]
    rfl
/-- the heap while the rows are told -/
structure Told (h : Hq) (m : Nat) (si : Nat → Nat) (sv : Nat → List Int) (ids : List (Nat × Nat)) (rows : List TR) : Prop where
  g0 : h[0]? = some (.lst ((List.range m).map fun j => .r (si j)))
  gs : ∀ j < m, h[si j]? = some (.lst ((sv j).map zA))
  gr : h[m + 1]? = some (.lst (ids.map fun id => .r id.1))
  rw : RowsAt h ids rows
  s1 : ∀ i < m, ∀ j < m, si i = si j → i = j
  s2 : ∀ j < m, si j ≠ 0 ∧ si j ≠ m + 1 ∧ ∀ id ∈ ids, si j ≠ id.1 ∧ si j ≠ id.2
  i1 : ∀ id ∈ ids, id.1 ≠ 0 ∧ id.2 ≠ 0 ∧ id.1 ≠ m + 1 ∧ id.2 ≠ m + 1
  i2 : (ids.map (·.2)).Nodup
  v : ∀ j < m, (sv j).length = m ∧ (∀ i < m, 0 ≤ (sv j).getD i 0 ∧ (sv j).getD i 0 ≤ cnt rows i) ∧ (sv j).getD j 0 = cnt rows j
  r : RwOk m rows
theorem Told.ln {h : Hq} {m : Nat} {si : Nat → Nat} {sv : Nat → List Int} {ids : List (Nat × Nat)} {rows : List TR} (t : Told h m si sv ids rows) : ∀ id ∈ ids, id.1 < h.length ∧ id.2 < h.length := fun id hid => by
  obtain ⟨i, hi, e⟩ := List.getElem_of_mem hid
  have e1 : ids[i]? = some id := by rw [List.getElem?_eq_getElem hi, e]
  have hi2 : i < rows.length := by rw [← t.rw.1]; exact hi
  obtain ⟨a, b⟩ := t.rw.2 i id rows[i] e1 (List.getElem?_eq_getElem hi2)
  exact ⟨lt_of_get a, lt_of_get b⟩
/-- seen[author] anew -/
theorem Told.seen {h : Hq} {m a : Nat} {si : Nat → Nat} {sv : Nat → List Int} {ids : List (Nat × Nat)} {rows : List TR} (t : Told h m si sv ids rows) (ha : a < m) {mx : List Int} (hl : mx.length = m) (hx : ∀ i < m, 0 ≤ mx.getD i 0 ∧ mx.getD i 0 ≤ cnt rows i) (hy : mx.getD a 0 = cnt rows a) :
    Told ((h ++ [O.lst (mx.map zA)]).set 0 (O.lst (((List.range m).map fun j => A.r (si j)).set a (A.r h.length)))) m (fun j => if j = a then h.length else si j) (fun j => if j = a then mx else sv j) ids rows := by
  have ln := t.ln
  have l0 := lt_of_get t.g0
  have lr := lt_of_get t.gr
  have ls : ∀ j < m, si j < h.length := fun j hj => lt_of_get (t.gs j hj)
  have nl : (h ++ [O.lst (mx.map zA)])[h.length]? = some (.lst (mx.map zA)) := cell_app h _
  refine ⟨?_, fun j hj => ?_, ?_, ⟨t.rw.1, fun i id r e1 e2 => ?_⟩, fun i hi j hj e => ?_, fun j hj => ?_, t.i1, t.i2, fun j hj => ?_, t.r⟩
  · rw [get_same (app_keep t.g0), map_range_set ha]
    congr 3
    funext j
    by_cases z : j = a
    · rw [if_pos z, if_pos z]
    · rw [if_neg z, if_neg z]
  · by_cases z : j = a
    · subst z
      (try dsimp only)
      rw [if_pos rfl, if_pos rfl]
      exact get_set nl (by omega)
    · (try dsimp only)
      rw [if_neg z, if_neg z]
      exact get_set (app_keep (t.gs j hj)) (Ne.symm (t.s2 j hj).1)
  · exact get_set (app_keep t.gr) (by omega)
  · obtain ⟨h1, h2⟩ := t.rw.2 i id r e1 e2
    obtain ⟨n1, n2, _, _⟩ := t.i1 id (List.mem_of_getElem? e1)
    exact ⟨get_set (app_keep h1) (Ne.symm n1), get_set (app_keep h2) (Ne.symm n2)⟩
  · (try dsimp only at e)
    have := ls i hi
    have := ls j hj
    split at e <;> split at e
    · omega
    · omega
    · omega
    · exact t.s1 i hi j hj e
  · (try dsimp only)
    split
    · refine ⟨by omega, by omega, fun id hid => ?_⟩
      have := ln id hid
      omega
    · exact t.s2 j hj
  · (try dsimp only)
    split
    · rename_i z
      subst z
      exact ⟨hl, hx, hy⟩
    · exact t.v j hj
theorem cnt_snoc (rows : List TR) (r : TR) (j : Nat) : cnt (rows ++ [r]) j = cnt rows j + if r.a = j then 1 else 0 := by
  unfold cnt
  rw [List.filter_append, List.length_append]
  congr 1
  by_cases z : r.a = j
  · simp [z]
  · simp [z]
theorem RwOk.snoc {m : Nat} {rows : List TR} (t : RwOk m rows) {a : Nat} (ha : a < m) {hs : List Int} (hl : hs.length = m) (hx : ∀ i < m, 0 ≤ hs.getD i 0 ∧ hs.getD i 0 ≤ cnt rows i) (hy : hs.getD a 0 = cnt rows a) : RwOk m (rows ++ [⟨a, cnt rows a + 1, hs⟩]) := by
  refine ⟨fun r hr => ?_, fun j => ?_⟩
  · have mono : ∀ i, cnt rows i ≤ cnt (rows ++ [⟨a, cnt rows a + 1, hs⟩]) i := fun i => by rw [cnt_snoc]; exact Nat.le_add_right _ _
    rcases List.mem_append.mp hr with q | q
    · obtain ⟨h1, h2, h3, h4⟩ := t.r r q
      refine ⟨h1, h2, fun i hi => ⟨(h3 i hi).1, ?_⟩, ?_⟩
      · have := (h3 i hi).2
        have := mono i
        omega
      · have := mono r.a
        omega
    · rw [List.mem_singleton] at q
      subst q
      refine ⟨ha, hl, fun i hi => ⟨(hx i hi).1, ?_⟩, ?_⟩
      · have := (hx i hi).2
        have := mono i
        (try dsimp only)
        omega
      · (try dsimp only)
        rw [cnt_snoc, hy]
        (try dsimp only)
        rw [if_pos rfl]
        omega
  · rw [cnt_snoc, List.filter_append, List.map_append, t.n j]
    by_cases z : a = j
    · subst z
      rw [List.filter_cons_of_pos (by simp), if_pos rfl, List.range_succ, List.map_append]
      rfl
    · rw [List.filter_cons_of_neg (by simp [z]), if_neg z]
      simp
/-- a row more -/
theorem Told.row {h : Hq} {m a : Nat} {si : Nat → Nat} {sv : Nat → List Int} {ids : List (Nat × Nat)} {rows : List TR} (t : Told h m si sv ids rows) (ha : a < m) :
    Told (((h ++ [O.lst ((sv a).map zA)] ++ [O.lst [A.d (.int (a : Nat)), A.d (.int ((cnt rows a : Nat) + 1)), A.r h.length]]).set (m + 1) (O.lst ((ids.map fun id => A.r id.1) ++ [A.r (h.length + 1)]))).set (si a) (O.lst (((sv a).map zA).set a (zA ((cnt rows a : Nat) + 1))))) m si (fun j => if j = a then (sv a).set a ((cnt rows a : Nat) + 1) else sv j) (ids ++ [(h.length + 1, h.length)]) (rows ++ [⟨a, (cnt rows a : Nat) + 1, sv a⟩]) := by
  have ln := t.ln
  have l0 := lt_of_get t.g0
  have lr := lt_of_get t.gr
  have ls : ∀ j < m, si j < h.length := fun j hj => lt_of_get (t.gs j hj)
  obtain ⟨v1, v2, v3⟩ := t.v a ha
  have keep : ∀ {k : Nat} {o : O}, h[k]? = some o → (h ++ [O.lst ((sv a).map zA)] ++ [O.lst [.d (.int (a : Nat)), .d (.int ((cnt rows a : Nat) + 1)), .r h.length]])[k]? = some o := fun e => app_keep (app_keep e)
  have n1 : (h ++ [O.lst ((sv a).map zA)] ++ [O.lst [.d (.int (a : Nat)), .d (.int ((cnt rows a : Nat) + 1)), .r h.length]])[h.length]? = some (.lst ((sv a).map zA)) := app_keep (cell_app h _)
  have n2 : (h ++ [O.lst ((sv a).map zA)] ++ [O.lst [.d (.int (a : Nat)), .d (.int ((cnt rows a : Nat) + 1)), .r h.length]])[h.length + 1]? = some (.lst [.d (.int (a : Nat)), .d (.int ((cnt rows a : Nat) + 1)), .r h.length]) := by
    have := cell_app (h ++ [O.lst ((sv a).map zA)]) (O.lst [.d (.int (a : Nat)), .d (.int ((cnt rows a : Nat) + 1)), .r h.length])
    rwa [List.length_append, List.length_singleton] at this
  have sa := t.s2 a ha
  have la := ls a ha
  refine ⟨?_, fun j hj => ?_, ?_, ⟨by rw [List.length_append, List.length_append, t.rw.1]; rfl, fun i id r e1 e2 => ?_⟩, t.s1, fun j hj => ⟨(t.s2 j hj).1, (t.s2 j hj).2.1, fun id hid => ?_⟩, fun id hid => ?_, ?_, fun j hj => ?_, ?_⟩
  · exact get_set (get_set (keep t.g0) (by omega)) sa.1
  · (try dsimp only)
    by_cases z : j = a
    · subst z
      rw [if_pos rfl, get_same (get_set (keep (t.gs j hj)) (Ne.symm sa.2.1)), List.map_set]
    · rw [if_neg z]
      exact get_set (get_set (keep (t.gs j hj)) (Ne.symm (t.s2 j hj).2.1)) fun e => z (t.s1 a ha j hj e).symm
  · rw [get_set (get_same (keep t.gr)) sa.2.1, List.map_append]
    rfl
  · rcases Nat.lt_or_ge i ids.length with z | z
    · rw [List.getElem?_append_left z] at e1
      rw [List.getElem?_append_left (by rw [← t.rw.1]; exact z)] at e2
      obtain ⟨h1, h2⟩ := t.rw.2 i id r e1 e2
      have hid := List.mem_of_getElem? e1
      obtain ⟨p1, p2, p3, p4⟩ := t.i1 id hid
      obtain ⟨q1, q2⟩ := sa.2.2 id hid
      exact ⟨get_set (get_set (keep h1) (Ne.symm p3)) q1, get_set (get_set (keep h2) (Ne.symm p4)) q2⟩
    · have z2 : i = ids.length := by
        have := (List.getElem?_eq_some_iff.mp e1).1
        rw [List.length_append, List.length_singleton] at this
        omega
      subst z2
      rw [List.getElem?_append_right (Nat.le_refl _), Nat.sub_self] at e1
      rw [t.rw.1, List.getElem?_append_right (Nat.le_refl _), Nat.sub_self] at e2
      cases e1
      cases e2
      exact ⟨get_set (get_set n2 (by omega)) (by omega), get_set (get_set n1 (by omega)) (by omega)⟩
  · rcases List.mem_append.mp hid with q | q
    · exact (t.s2 j hj).2.2 id q
    · rw [List.mem_singleton] at q
      subst q
      have := ls j hj
      (try dsimp only)
      omega
  · rcases List.mem_append.mp hid with q | q
    · exact t.i1 id q
    · rw [List.mem_singleton] at q
      subst q
      (try dsimp only)
      omega
  · rw [List.map_append]
    refine List.nodup_append.mpr ⟨t.i2, by simp, fun x hx y hy e => ?_⟩
    simp at hy
    subst hy
    subst e
    obtain ⟨id, hid, e2⟩ := List.mem_map.mp hx
    have := (ln id hid).2
    omega
  · (try dsimp only)
    obtain ⟨w1, w2, w3⟩ := t.v j hj
    have mono : ∀ i, ((cnt rows i : Nat) : Int) ≤ (cnt (rows ++ [⟨a, (cnt rows a : Nat) + 1, sv a⟩]) i : Nat) := fun i => by rw [cnt_snoc]; omega
    split
    · rename_i z
      subst z
      have gd : ∀ i, i < m → ((sv j).set j (((cnt rows j : Nat) : Int) + 1)).getD i 0 = if i = j then ((cnt rows j : Nat) : Int) + 1 else (sv j).getD i 0 := fun i hi => by
        rw [List.getD_eq_getElem?_getD, List.getD_eq_getElem?_getD]
        by_cases q : i = j
        · subst q
          rw [List.getElem?_set_self (by omega), if_pos rfl]
          rfl
        · rw [List.getElem?_set_ne (Ne.symm q), if_neg q]
      refine ⟨by rw [List.length_set]; exact w1, fun i hi => ?_, ?_⟩
      · rw [gd i hi]
        split
        · rename_i q
          subst q
          rw [cnt_snoc]
          (try dsimp only)
          rw [if_pos rfl]
          omega
        · have := mono i
          have := w2 i hi
          omega
      · rw [gd j hj, if_pos rfl, cnt_snoc]
        (try dsimp only)
        rw [if_pos rfl]
        omega
    · rename_i z
      refine ⟨w1, fun i hi => ?_, ?_⟩
      · have := mono i
        have := w2 i hi
        omega
      · rw [cnt_snoc]
        (try dsimp only)
        rw [if_neg (Ne.symm z), w3]
        omega
  · exact t.r.snoc ha v1 v2 v3
end KK

set_option maxHeartbeats 1000000
open PySem PySem.Spec PyProof.Rows L2 Tq
namespace KK
open PySem PySem.Spec PyProof.Rows L2 Tq
local macro_rules | `(tactic| wtm_at "tq_call") => `(tactic| (((with_reducible apply at_c); focus (with_reducible assumption)); omega))
abbrev R8 (ds : List Int) (m : Nat) (a3 a4 a6 a7 : Option A) : Sl := [some (.d (.lst (ds.map D.int))), some (.d (.int (m : Nat))), some (.r 0), a3, a4, some (.r (m + 1)), a6, a7]
def mx (xs ys : List Int) (m : Nat) : List Int := (List.range m).map fun j => if ys.getD j 0 > xs.getD j 0 then ys.getD j 0 else xs.getD j 0
theorem mx_get {xs ys : List Int} {m i : Nat} (hi : i < m) : (mx xs ys m).getD i 0 = if ys.getD i 0 > xs.getD i 0 then ys.getD i 0 else xs.getD i 0 := by
  unfold mx
  rw [List.getD_eq_getElem?_getD, List.getElem?_map, List.getElem?_range hi]
  rfl
theorem told_turn {ds : List Int} (hd : Drs ds) {h : Hq} {m n : Nat} (hm : 1 ≤ m ∧ m ≤ 6) (hn : n < 13) {si : Nat → Nat} {sv : Nat → List Int} {ids : List (Nat × Nat)} {rows : List TR} (t : Told h m si sv ids rows) (hl : ids.length = n) (a4 a6 a7 : Option A) :
    ∃ b4 b6 b7 h' si' sv' ids' rows', B2__law_told (R8 ds m (some (iD n)) a4 a6 a7) h = some (.nx (R8 ds m (some (iD n)) b4 b6 b7) h') ∧ Told h' m si' sv' ids' rows' ∧ ids'.length = n + 1 := by
  have r1 := at_r hd (10 + 3 * (n : Int)) (by omega)
  have r2 := at_r hd (11 + 3 * (n : Int)) (by omega)
  obtain ⟨a, ea, ha⟩ : ∃ a : Nat, atv ds (10 + 3 * (n : Int)) % (m : Nat) = (a : Nat) ∧ a < m := by
    have h1 := Int.emod_nonneg (atv ds (10 + 3 * (n : Int))) (b := ((m : Nat) : Int)) (by omega)
    have h2 := Int.emod_lt_of_pos (atv ds (10 + 3 * (n : Int))) (b := ((m : Nat) : Int)) (by omega)
    exact ⟨(atv ds (10 + 3 * (n : Int)) % (m : Nat)).toNat, by omega, by omega⟩
  obtain ⟨p, ep, hp⟩ : ∃ p : Nat, atv ds (11 + 3 * (n : Int)) % (2 * (m : Nat)) = (p : Nat) ∧ p < 2 * m := by
    have h1 := Int.emod_nonneg (atv ds (11 + 3 * (n : Int))) (b := 2 * ((m : Nat) : Int)) (by omega)
    have h2 := Int.emod_lt_of_pos (atv ds (11 + 3 * (n : Int))) (b := 2 * ((m : Nat) : Int)) (by omega)
    exact ⟨(atv ds (11 + 3 * (n : Int)) % (2 * (m : Nat))).toNat, by omega, by omega⟩
  -- what is made of the third statement
  obtain ⟨b4, h2, si2, sv2, e3, t2⟩ : ∃ b4 h2 si2 sv2, mIf (mTB (mBin gLt (mVar 7) (mVar 1))) (mSetI true (mVar 2) (mVar 6) C2__law_told) mNx (R8 ds m (some (iD n)) a4 (some (.d (.int (a : Nat)))) (some (.d (.int (p : Nat))))) h = some (.nx (R8 ds m (some (iD n)) b4 (some (.d (.int (a : Nat)))) (some (.d (.int (p : Nat))))) h2) ∧ Told h2 m si2 sv2 ids rows := by
    by_cases z : p < m
    · have z2 : ((p : Nat) : Int) < (m : Nat) := by omega
      obtain ⟨va, wa, xa⟩ := t.v a ha
      obtain ⟨vp, wp, xp⟩ := t.v p z
      have g0 := t.g0
      have ga := t.gs a ha
      have gp := t.gs p z
      have ia : ((List.range m).map fun j => A.r (si j))[a]? = some (.r (si a)) := by rw [List.getElem?_map, List.getElem?_range ha]; rfl
      have ip : ((List.range m).map fun j => A.r (si j))[p]? = some (.r (si p)) := by rw [List.getElem?_map, List.getElem?_range z]; rfl
      have il : ((List.range m).map fun j => A.r (si j)).length = m := by rw [List.length_map, List.length_range]
      have ml : (mx (sv a) (sv p) m).length = m := by unfold mx; rw [List.length_map, List.length_range]
      have ec : C2__law_told (R8 ds m (some (iD n)) a4 (some (.d (.int (a : Nat)))) (some (.d (.int (p : Nat))))) h = some (.ok (.r h.length) (h ++ [.lst ((mx (sv a) (sv p) m).map zA)])) := by
        unfold C2__law_told
        rw [lc_map (h1 := h) (xs := List.range m) iD (fun j => zA (if (sv p).getD j 0 > (sv a).getD j 0 then (sv p).getD j 0 else (sv a).getD j 0)) (x_Rg (q := m) (by wtm_at "tq_x") (by wtm_at "tq_len")) (by wtm_at "tq_len") fun i x e => by
          obtain ⟨hx, rfl⟩ := rangeget e
          refine ⟨R8 ds m (some (iD n)) (some (iD x)) (some (.d (.int (a : Nat)))) (some (.d (.int (p : Nat)))), rfl, ?_⟩
          have ga' : ((sv a).map zA)[x]? = some (zA ((sv a).getD x 0)) := by rw [List.getElem?_map, getd (by omega)]; rfl
          have gp' : ((sv p).map zA)[x]? = some (zA ((sv p).getD x 0)) := by rw [List.getElem?_map, getd (by omega)]; rfl
          have la' : ((sv a).map zA).length = m := by rw [List.length_map]; exact va
          have lp' : ((sv p).map zA).length = m := by rw [List.length_map]; exact vp
          generalize (sv a).getD x 0 = u at *
          generalize (sv p).getD x 0 = w at *
          generalize (sv a).map zA = as at *
          generalize (sv p).map zA = ps at *
          generalize ((List.range m).map fun j => A.r (si j)) = rs at *
          unfold E2__law_told iD
          wtm_at "tq_x"]
        rw [show ((List.range m).map fun j => zA (if (sv p).getD j 0 > (sv a).getD j 0 then (sv p).getD j 0 else (sv a).getD j 0)) = (mx (sv a) (sv p) m).map zA by unfold mx; rw [List.map_map]; rfl]
        exact x_mkC (by rw [List.length_map, ml]; show _ ≤ 16777216; omega)
      have g0' : (h ++ [O.lst ((mx (sv a) (sv p) m).map zA)])[0]? = some (.lst ((List.range m).map fun j => .r (si j))) := app_keep g0
      refine ⟨a4, _, _, _, ?_, t.seen ha (mx := mx (sv a) (sv p) m) ml (fun i hi => ?_) ?_⟩
      · generalize ((List.range m).map fun j => A.r (si j)) = rs at *
        refine s_IfT (j := true) (h1 := h) ?_ rfl ?_
        · refine Eq.trans (b := some (.ok (decide (((p : Nat) : Int) < (m : Nat))) h)) (by wtm_at "tq_x") (by rw [decide_eq_true z2])
        · exact s_SetI ec (x_Var rfl) (x_Var rfl) g0' (ix_nat (by omega)) rfl
      · rw [mx_get hi]
        have := wa i hi
        have := wp i hi
        split <;> omega
      · rw [mx_get ha]
        have := wp a ha
        split <;> omega
    · have z2 : ¬ ((p : Nat) : Int) < (m : Nat) := by omega
      exact ⟨a4, h, si, sv, by wtm_at "tq_x", t⟩
  obtain ⟨va, wa, xa⟩ := t2.v a ha
  have g0 := t2.g0
  have ga := t2.gs a ha
  have gr := t2.gr
  have ia : ((List.range m).map fun j => A.r (si2 j))[a]? = some (.r (si2 a)) := by rw [List.getElem?_map, List.getElem?_range ha]; rfl
  have il : ((List.range m).map fun j => A.r (si2 j)).length = m := by rw [List.length_map, List.length_range]
  have ga' : ((sv2 a).map zA)[a]? = some (zA ((sv2 a).getD a 0)) := by rw [List.getElem?_map, getd (by omega)]; rfl
  have la' : ((sv2 a).map zA).length = m := by rw [List.length_map]; exact va
  rw [xa] at ga'
  refine ⟨b4, some (.d (.int (a : Nat))), some (.d (.int (p : Nat))), _, _, _, _, _, ?_, t2.row ha, by rw [List.length_append, hl]; rfl⟩
  unfold B2__law_told
  refine s_Seq (τ1 := R8 ds m (some (iD n)) a4 (some (.d (.int (a : Nat)))) a7) (h1 := h) (by rw [← ea]; unfold iD; wtm_at "tq_x") ?_
  refine s_Seq (τ1 := R8 ds m (some (iD n)) a4 (some (.d (.int (a : Nat)))) (some (.d (.int (p : Nat))))) (h1 := h) (by rw [← ep]; unfold iD; wtm_at "tq_x") ?_
  refine s_Seq e3 ?_
  have rl : (ids.map fun id => A.r id.1).length < LIM := by rw [List.length_map, hl]; show _ < 16777216; omega
  have sl2 : ((sv2 a).map zA).length ≤ LIM := by rw [la']; show _ ≤ 16777216; omega
  refine s_Seq (τ1 := R8 ds m (some (iD n)) b4 (some (.d (.int (a : Nat)))) (some (.d (.int (p : Nat))))) (h1 := (h2 ++ [O.lst ((sv2 a).map zA)] ++ [O.lst [A.d (.int (a : Nat)), .d (.int ((cnt rows a : Nat) + 1)), .r h2.length]]).set (m + 1) (O.lst ((ids.map fun id => A.r id.1) ++ [A.r (h2.length + 1)]))) ?_ ?_
  · refine s_Drop (w := .d .non) (x_M1 (x_Var rfl) (tokL_r gr) (b := .r (h2.length + 1)) (h2 := h2 ++ [.lst ((sv2 a).map zA)] ++ [.lst [.d (.int (a : Nat)), .d (.int ((cnt rows a : Nat) + 1)), .r h2.length]]) ?_ (g_app (app_keep (app_keep gr)) rl rfl))
    generalize ((List.range m).map fun j => A.r (si2 j)) = rs at *
    generalize (sv2 a).map zA = as at *
    refine x_Lst (ws := [.d (.int (a : Nat)), .d (.int ((cnt rows a : Nat) + 1)), .r h2.length]) (h1 := h2 ++ [.lst as]) ?_ ?_
    · refine x_cons (by wtm_at "tq_x") (x_cons (by wtm_at "tq_x") (x_cons ?_ x_nil))
      exact x_Un (a := .r (si2 a)) (h1 := h2) (by wtm_at "tq_x") (g_lstc ga (x_mkC sl2))
    · have := x_mkC (ws := [A.d (.int (a : Nat)), A.d (.int ((cnt rows a : Nat) + 1)), A.r h2.length]) (h := h2 ++ [.lst as]) (by show 3 ≤ 16777216; decide)
      rw [List.length_append, List.length_singleton] at this
      exact this
  · have ls := lt_of_get ga
    have s2 := t2.s2 a ha
    have keep : ∀ {k : Nat} {o : O}, k ≠ m + 1 → h2[k]? = some o → ((h2 ++ [O.lst ((sv2 a).map zA)] ++ [O.lst [.d (.int (a : Nat)), .d (.int ((cnt rows a : Nat) + 1)), .r h2.length]]).set (m + 1) (.lst ((ids.map fun id => .r id.1) ++ [.r (h2.length + 1)])))[k]? = some o := fun n e => get_set (app_keep (app_keep e)) (Ne.symm n)
    have g0'' := keep (by omega) g0
    have ga'' := keep s2.2.1 ga
    generalize ((h2 ++ [O.lst ((sv2 a).map zA)] ++ [O.lst [.d (.int (a : Nat)), .d (.int ((cnt rows a : Nat) + 1)), .r h2.length]]).set (m + 1) (.lst ((ids.map fun id => .r id.1) ++ [.r (h2.length + 1)]))) = H at *
    generalize ((List.range m).map fun j => A.r (si2 j)) = rs at *
    generalize (sv2 a).map zA = as at *
    exact s_SetI (w := zA ((cnt rows a : Nat) + 1)) (k := si2 a) (z := (a : Nat)) (h3 := H) (by wtm_at "tq_x") (by wtm_at "tq_x") (x_Var rfl) ga'' (ix_nat (by omega)) rfl
end KK

set_option maxHeartbeats 1000000
open PySem PySem.Spec PyProof.Rows L2 Tq
namespace KK
open PySem PySem.Spec PyProof.Rows L2 Tq
local macro_rules | `(tactic| wtm_at "tq_call") => `(tactic| (((with_reducible apply at_c); focus (with_reducible assumption)); omega))
/-- rows in the heap -/
structure RH (h : Hq) (kr : Nat) (ids : List (Nat × Nat)) (rows : List TR) : Prop where
  gr : h[kr]? = some (.lst (ids.map fun id => .r id.1))
  rw : RowsAt h ids rows
  nd : (ids.map (·.2)).Nodup
  kr : ∀ id ∈ ids, id.1 ≠ kr ∧ id.2 ≠ kr
theorem RH.keep {h h' : Hq} {kr : Nat} {ids : List (Nat × Nat)} {rows : List TR} (t : RH h kr ids rows) (k : ∀ (j : Nat) (o : O), h[j]? = some o → h'[j]? = some o) : RH h' kr ids rows := ⟨k _ _ t.gr, ⟨t.rw.1, fun i id r e1 e2 => by
  obtain ⟨a, b⟩ := t.rw.2 i id r e1 e2
  exact ⟨k _ _ a, k _ _ b⟩⟩, t.nd, t.kr⟩
abbrev R8n (ds : List Int) (m : Nat) (a3 : Option A) : Sl := [some (.d (.lst (ds.map D.int))), some (.d (.int (m : Nat))), some (.r 0), a3, none, none, none, none]
theorem l1_told {ds : List Int} {m : Nat} (hm : 1 ≤ m ∧ m ≤ 6) : ∃ a3, L1__law_told (R8n ds m none) [.lst []] = some (.nx (R8n ds m a3) (.lst ((List.range m).map fun j => .r (j + 1)) :: List.replicate m (.lst ((List.replicate m (0 : Int)).map zA)))) := by
  obtain ⟨τ', h', ⟨a3, rfl, rfl⟩, e⟩ := for_inv (gg := mgName 3) (mb := B1__law_told) (xs := List.range m) iD (τ := R8n ds m none) (h := [.lst []]) (fun n τ h => ∃ a3, τ = R8n ds m a3 ∧ h = .lst ((List.range (min n m)).map fun j => .r (j + 1)) :: List.replicate (min n m) (.lst ((List.replicate m (0 : Int)).map zA))) ⟨none, rfl, by simp⟩ (by wtm_at "tq_len") (fun n x τ h e i => by
    obtain ⟨a3, rfl, rfl⟩ := i
    obtain ⟨hn, rfl⟩ := rangeget e
    rw [Nat.min_eq_left (Nat.le_of_lt hn)]
    refine ⟨R8n ds m (some (iD x)), rfl, R8n ds m (some (iD x)), .lst ((List.range (min (x + 1) m)).map fun j => .r (j + 1)) :: List.replicate (min (x + 1) m) (.lst ((List.replicate m (0 : Int)).map zA)), ⟨_, rfl, rfl⟩, .inl ?_⟩
    have ec : ∀ h : Hq, C1__law_told (R8n ds m (some (iD x))) h = some (.ok (.r h.length) (h ++ [.lst ((List.replicate m (0 : Int)).map zA)])) := fun h => by
      unfold C1__law_told
      rw [lc_map (h1 := h) (xs := List.range m) iD (fun _ => zA 0) (x_Rg (q := m) (by wtm_at "tq_x") (by wtm_at "tq_len")) (by wtm_at "tq_len") fun i y e => ⟨[some (.d (.lst (ds.map D.int))), some (.d (.int (m : Nat))), some (.r 0), some (iD x), some (iD y), none, none, none], rfl, by unfold E1__law_told; wtm_at "tq_x"⟩]
      rw [List.map_const', List.length_range, ← List.map_replicate]
      exact x_mkC (by rw [List.length_map, List.length_replicate]; show _ ≤ 16777216; omega)
    unfold B1__law_told
    have ec' := ec (.lst ((List.range x).map fun j => .r (j + 1)) :: List.replicate x (.lst ((List.replicate m (0 : Int)).map zA)))
    refine Eq.trans (s_Drop (x_M1 (x_Var rfl) (tokL_r (ws := (List.range x).map fun j => .r (j + 1)) rfl) ec' (g_app (ws := (List.range x).map fun j => .r (j + 1)) rfl (by rw [List.length_map, List.length_range]; show _ < 16777216; omega) rfl))) ?_
    rw [Nat.min_eq_left (by omega : x + 1 ≤ m)]
    rw [List.length_cons, List.length_replicate, List.range_succ, List.map_append, List.replicate_succ']
    rfl)
  rw [List.length_range, Nat.min_self] at e
  exact ⟨a3, s_For (x_Rg (q := m) (x_Var rfl) (by show _ ≤ 16777216; omega)) e⟩
theorem told0 {m : Nat} (hm : 1 ≤ m ∧ m ≤ 6) : Told ((.lst ((List.range m).map fun j => A.r (j + 1)) :: List.replicate m (O.lst ((List.replicate m (0 : Int)).map zA))) ++ [.lst []]) m (fun j => j + 1) (fun _ => List.replicate m 0) [] [] := by
  have gd : ∀ i, (List.replicate m (0 : Int)).getD i 0 = 0 := fun i => by
    rw [List.getD_eq_getElem?_getD, List.getElem?_replicate]
    split <;> rfl
  refine ⟨rfl, fun j hj => ?_, ?_, ⟨rfl, fun i id r e => by simp at e⟩, fun i _ j _ e => by omega, fun j hj => ⟨by omega, by omega, fun id h => (by cases h)⟩, fun id h => (by cases h), (by simp), fun j hj => ⟨List.length_replicate, fun i _ => ?_, ?_⟩, ⟨fun r h => (by cases h), fun j => rfl⟩⟩
  · rw [List.cons_append, List.getElem?_cons_succ, List.getElem?_append_left (by rw [List.length_replicate]; exact hj), List.getElem?_replicate, if_pos hj]
  · rw [List.cons_append, List.getElem?_cons_succ, List.getElem?_append_right (by rw [List.length_replicate]; exact Nat.le_refl _), List.length_replicate, Nat.sub_self]
    rfl
  · rw [gd]
    exact ⟨by omega, Int.natCast_nonneg _⟩
  · rw [gd]
    rfl
theorem told_ok {ds : List Int} (hd : Drs ds) : ∃ (m : Nat) (h : Hq) (ids : List (Nat × Nat)) (rows : List TR) (k : Nat), (1 ≤ m ∧ m ≤ 6) ∧ sem__law_told [.d (LD ds)] [] = some (.ok (.r k) h) ∧ h[k]? = some (.lst [.d (.int (m : Nat)), .r (m + 1)]) ∧ RH h (m + 1) ids rows ∧ RwOk m rows ∧ rows.length ≤ 12 := by
  have r0 := at_r hd 0 (by decide)
  have r1 := at_r hd 1 (by decide)
  obtain ⟨m, em, hm⟩ : ∃ m : Nat, 1 + atv ds 0 % 8 % 6 = (m : Nat) ∧ 1 ≤ m ∧ m ≤ 6 := ⟨(1 + atv ds 0 % 8 % 6).toNat, by omega, by omega, by omega⟩
  obtain ⟨c, ec, hc⟩ : ∃ c : Nat, atv ds 1 % 13 = (c : Nat) ∧ c < 13 := ⟨(atv ds 1 % 13).toNat, by omega, by omega⟩
  obtain ⟨a3, e1⟩ := l1_told (ds := ds) hm
  have t0 := told0 hm
  generalize hh0 : ((.lst ((List.range m).map fun j => A.r (j + 1)) :: List.replicate m (O.lst ((List.replicate m (0 : Int)).map zA))) : Hq) = h0 at e1 t0
  have hl0 : h0.length = m + 1 := by rw [← hh0, List.length_cons, List.length_replicate]
  obtain ⟨τ', h', ⟨b3, b4, b6, b7, si, sv, ids, rows, rfl, t, hl⟩, e2⟩ := for_inv (gg := mgName 3) (mb := B2__law_told) (xs := List.range c) iD (τ := R8 ds m a3 none none none) (h := h0 ++ [.lst []]) (fun n τ h => ∃ b3 b4 b6 b7 si sv ids rows, τ = R8 ds m b3 b4 b6 b7 ∧ Told h m si sv ids rows ∧ ids.length = n) ⟨a3, none, none, none, _, _, [], [], rfl, t0, rfl⟩ (by wtm_at "tq_len") (fun n x τ h e i => by
    obtain ⟨b3, b4, b6, b7, si, sv, ids, rows, rfl, t, hl⟩ := i
    obtain ⟨hn, rfl⟩ := rangeget e
    obtain ⟨c4, c6, c7, h2, si2, sv2, ids2, rows2, e3, t2, hl2⟩ := told_turn hd hm (by omega) t hl b4 b6 b7
    exact ⟨R8 ds m (some (iD x)) b4 b6 b7, rfl, R8 ds m (some (iD x)) c4 c6 c7, h2, ⟨_, _, _, _, _, _, _, _, rfl, t2, hl2⟩, .inl e3⟩)
  rw [List.length_range] at hl
  refine ⟨m, h' ++ [.lst [.d (.int (m : Nat)), .r (m + 1)]], ids, rows, h'.length, hm, ?_, cell_app _ _, RH.keep ⟨t.gr, t.rw, t.i2, fun id hid => ⟨(t.i1 id hid).2.2.1, (t.i1 id hid).2.2.2⟩⟩ (fun j o e => app_keep e), t.r, by rw [← t.rw.1, hl]; omega⟩
  wtm_at "tq_run"
  unfold b__law_told
  refine s_Seq (τ1 := [some (.d (.lst (ds.map D.int))), some (.d (.int (m : Nat))), none, none, none, none, none, none]) (h1 := []) (by rw [← em]; wtm_at "tq_x") ?_
  refine s_Seq (τ1 := R8n ds m none) (h1 := [.lst []]) rfl ?_
  refine s_Seq e1 ?_
  refine s_Seq (τ1 := R8 ds m a3 none none none) (h1 := h0 ++ [.lst []]) ?_ ?_
  · refine Eq.trans (s_Set (x_Lst x_nil (x_mkC (by decide))) rfl) ?_
    rw [hl0]
    rfl
  · have it : mRange1 (mBin gMod (mCallP sem__law_at (lenIs 2 (maCons (mVar 0) (maCons (mC (.int 1)) maNil)))) (mC (.int 13))) (R8 ds m a3 none none none) (h0 ++ [.lst []]) = some (.ok (nxL ((List.range c).map iD)) (h0 ++ [.lst []])) := by
      refine x_Rg (q := c) ?_ (by wtm_at "tq_len")
      rw [← ec]
      wtm_at "tq_x"
    refine s_Seq (s_For it e2) ?_
    exact s_Ret (x_Lst (x_cons (x_Var rfl) (x_cons (x_Var rfl) x_nil)) (x_mkC (by show 2 ≤ 16777216; decide)))
end KK

set_option maxHeartbeats 2000000
open PySem PySem.Spec PyProof.Rows L2 Tq
namespace KK
open PySem PySem.Spec PyProof.Rows L2 Tq
local macro_rules | `(tactic| wtm_at "tq_call") => `(tactic| (((with_reducible apply at_c); focus (with_reducible assumption)); omega))
theorem cut_ok {ds : List Int} (hd : Drs ds) {m : Nat} (hm : 1 ≤ m ∧ m ≤ 6) {h : Hq} {kr : Nat} {ids : List (Nat × Nat)} {rows : List TR} (t : RH h kr ids rows) (ro : RwOk m rows) (hl : rows.length ≤ 12) :
    ∃ cut : List Int, cut.length = m ∧ (∀ j < m, 0 ≤ cut.getD j 0 ∧ cut.getD j 0 ≤ cnt rows j) ∧ sem__law_cut [.d (LD ds), .d (.int (m : Nat)), .r kr] h = some (.ok (.r h.length) (h ++ [.lst (cut.map zA)])) := by
  have r2 := at_r hd 2 (by decide)
  have r3 := at_r hd 3 (by decide)
  have r4 := at_r hd 4 (by decide)
  have gr := t.gr
  have li : (ids.map fun id => A.r id.1).length = rows.length := by rw [List.length_map, t.rw.1]
  have c1 : C1__law_cut [some (.d (.lst (ds.map D.int))), some (.d (.int (m : Nat))), some (.r kr), none, none, none] h = some (.ok (.r h.length) (h ++ [.lst ((List.replicate m (0 : Int)).map zA)])) := by
    unfold C1__law_cut
    rw [lc_map (h1 := h) (xs := List.range m) iD (fun _ => zA 0) (x_Rg (q := m) (by wtm_at "tq_x") (by wtm_at "tq_len")) (by wtm_at "tq_len") fun i y e => ⟨[some (.d (.lst (ds.map D.int))), some (.d (.int (m : Nat))), some (.r kr), some (iD y), none, none], rfl, by unfold E1__law_cut; wtm_at "tq_x"⟩]
    rw [List.map_const', List.length_range, ← List.map_replicate]
    exact x_mkC (by rw [List.length_map, List.length_replicate]; show _ ≤ 16777216; omega)
  have zr : ∀ j, (List.replicate m (0 : Int)).getD j 0 = 0 := fun j => by
    rw [List.getD_eq_getElem?_getD, List.getElem?_replicate]
    split <;> rfl
  by_cases z : rows.length = 0 ∨ atv ds 2 % 3 ≠ 2
  · refine ⟨List.replicate m 0, List.length_replicate, fun j hj => by rw [zr]; omega, ?_⟩
    wtm_at "tq_run"
    unfold b__law_cut
    have z' : ((ids.map fun id => A.r id.1).length : Int) = 0 ∨ ¬ atv ds 2 % 3 = 2 := by omega
    generalize ids.map (fun id => A.r id.1) = rs at *
    refine s_SeqR (s_If (j := true) (h1 := h) ?_ (.inl ⟨rfl, s_Ret c1⟩))
    refine Eq.trans (x_OrT (j := decide (((rs.length : Nat) : Int) = 0)) (l := !decide (atv ds 2 % 3 = 2)) (by wtm_at "tq_x") (fun _ => by wtm_at "tq_x")) ?_
    rcases z' with z' | z'
    · rw [decide_eq_true z']; rfl
    · rw [decide_eq_false z']; simp
  · obtain ⟨q, eq, hq⟩ : ∃ q : Nat, atv ds 3 % (rows.length : Nat) = (q : Nat) ∧ q < rows.length := by
      have h1 := Int.emod_nonneg (atv ds 3) (b := ((rows.length : Nat) : Int)) (by omega)
      have h2 := Int.emod_lt_of_pos (atv ds 3) (b := ((rows.length : Nat) : Int)) (by omega)
      exact ⟨(atv ds 3 % (rows.length : Nat)).toNat, by omega, by omega⟩
    obtain ⟨id, ei⟩ : ∃ id, ids[q]? = some id := ⟨ids[q]'(by rw [t.rw.1]; exact hq), List.getElem?_eq_getElem (by rw [t.rw.1]; exact hq)⟩
    have er : rows[q]? = some rows[q] := List.getElem?_eq_getElem hq
    obtain ⟨g1, g2⟩ := t.rw.2 q _ _ ei er
    obtain ⟨ha, hh, hx, hy⟩ := ro.r rows[q] (List.getElem_mem hq)
    generalize rows[q] = r at *
    have ir : (ids.map fun id => A.r id.1)[q]? = some (.r id.1) := by rw [List.getElem?_map, ei]; rfl
    have ga : (r.hs.map zA)[r.a]? = some (zA (r.hs.getD r.a 0)) := by rw [List.getElem?_map, getd (by omega)]; rfl
    have lh : (r.hs.map zA).length = m := by rw [List.length_map]; exact hh
    refine ⟨r.hs.set r.a (r.hs.getD r.a 0 + atv ds 4 % 2), by rw [List.length_set]; exact hh, fun j hj => ?_, ?_⟩
    · rw [List.getD_eq_getElem?_getD]
      by_cases y : r.a = j
      · subst y
        rw [List.getElem?_set_self (by omega)]
        have := hx r.a ha
        show 0 ≤ r.hs.getD r.a 0 + atv ds 4 % 2 ∧ r.hs.getD r.a 0 + atv ds 4 % 2 ≤ _
        omega
      · rw [List.getElem?_set_ne y, ← List.getD_eq_getElem?_getD]
        exact hx j hj
    · wtm_at "tq_run"
      unfold b__law_cut
      have lt : ((ids.map fun id => A.r id.1).length : Int) = (rows.length : Nat) := by rw [li]
      have zt : ¬ ((ids.map fun id => A.r id.1).length : Int) = 0 := by omega
      have z2 : atv ds 2 % 3 = 2 := by omega
      have lp : 0 < rows.length := by omega
      rw [← lt] at eq
      have q2 : q < (ids.map fun id => A.r id.1).length := by rw [li]; exact hq
      rw [List.map_set]
      have nl : (h ++ [O.lst (r.hs.map zA)])[h.length]? = some (.lst (r.hs.map zA)) := cell_app h _
      have ns : (h ++ [O.lst (r.hs.map zA)]).set h.length (.lst ((r.hs.map zA).set r.a (zA (r.hs.getD r.a 0 + atv ds 4 % 2)))) = h ++ [.lst ((r.hs.map zA).set r.a (zA (r.hs.getD r.a 0 + atv ds 4 % 2)))] := by
        rw [List.set_append_right _ _ (Nat.le_refl _), Nat.sub_self]
        rfl
      have g1' : (h ++ [O.lst (r.hs.map zA)])[id.1]? = some (.lst [.d (.int (r.a : Nat)), .d (.int r.n), .r id.2]) := app_keep g1
      generalize ids.map (fun id => A.r id.1) = rs at *
      generalize r.hs.getD r.a 0 = u at *
      generalize r.hs.map zA = hs at *
      refine s_Seq (τ1 := [some (.d (.lst (ds.map D.int))), some (.d (.int (m : Nat))), some (.r kr), none, none, none]) (h1 := h) (by wtm_at "tq_x") ?_
      refine s_Seq (τ1 := [some (.d (.lst (ds.map D.int))), some (.d (.int (m : Nat))), some (.r kr), none, some (.r id.1), none]) (h1 := h) ?_ ?_
      · refine s_Set (w := .r id.1) (x_Bin (a := .r kr) (b := .d (.int (q : Nat))) (h1 := h) (h2 := h) (x_Var rfl) ?_ (g_getc gr (ix_nat q2) ir)) rfl
        rw [← eq]
        wtm_at "tq_x"
      · refine s_Seq (τ1 := [some (.d (.lst (ds.map D.int))), some (.d (.int (m : Nat))), some (.r kr), none, some (.r id.1), some (.r h.length)]) (h1 := h ++ [.lst hs]) ?_ ?_
        · refine s_Set (x_Un (a := .r id.2) (h1 := h) (by wtm_at "tq_x") (g_lstc g2 (x_mkC (by rw [lh]; show _ ≤ 16777216; omega)))) rfl
        · generalize h ++ [O.lst hs] = H at *
          refine s_Seq (τ1 := [some (.d (.lst (ds.map D.int))), some (.d (.int (m : Nat))), some (.r kr), none, some (.r id.1), some (.r h.length)]) (s_SetI (w := zA (u + atv ds 4 % 2)) (k := h.length) (z := (r.a : Nat)) (h3 := H) (by wtm_at "tq_x") (x_Var rfl) (by wtm_at "tq_x") nl (ix_nat (by omega)) ns) ?_
          exact s_Ret (x_Var rfl)
end KK

set_option maxHeartbeats 2000000
open PySem PySem.Spec PyProof.Rows L2 Tq
namespace KK
open PySem PySem.Spec PyProof.Rows L2 Tq
local macro_rules | `(tactic| wtm_at "tq_call") => `(tactic| (((with_reducible apply at_c); focus (with_reducible assumption)); omega))
abbrev P8 (ds : List Int) (b : Int) (m kr : Nat) (a4 a5 a6 a7 : Option A) : Sl := [some (.d (.lst (ds.map D.int))), some (.d (.int b)), some (.d (.int (m : Nat))), some (.r kr), a4, a5, a6, a7]
/-- the last entries go -/
theorem pops_ok {ds : List Int} {b : Int} {m kr : Nat} {h : Hq} {a4 a6 a7 : Option A} {k1 k2 : Nat} {ws : List A} (g1 : h[k1]? = some (.lst ws)) (gw : ws[2]? = some (.r k2)) (hw : ws.length = 3) (ne : k1 ≠ k2) {hs : List Int} (g2 : h[k2]? = some (.lst (hs.map zA))) (c : Nat) (hc : c ≤ hs.length) (hl : hs.length ≤ 100) :
    ∃ a7', forM (nxL ((List.range c).map iD)) (mgName 7) B1__law_spoil FU 0 (P8 ds b m kr a4 (some (.r k1)) a6 a7) h = some (.nx (P8 ds b m kr a4 (some (.r k1)) a6 a7') (h.set k2 (.lst ((hs.take (hs.length - c)).map zA)))) := by
  obtain ⟨τ', h', ⟨a7', rfl, rfl⟩, e⟩ := for_inv (gg := mgName 7) (mb := B1__law_spoil) (xs := List.range c) iD (τ := P8 ds b m kr a4 (some (.r k1)) a6 a7) (h := h) (fun n τ h' => ∃ a7', τ = P8 ds b m kr a4 (some (.r k1)) a6 a7' ∧ h' = h.set k2 (.lst ((hs.take (hs.length - n)).map zA))) ⟨a7, rfl, by rw [Nat.sub_zero, List.take_of_length_le (Nat.le_refl _), set_same g2]⟩ (by wtm_at "tq_len") (fun n x τ h' e i => by
    obtain ⟨a7', rfl, rfl⟩ := i
    obtain ⟨hn, rfl⟩ := rangeget e
    refine ⟨P8 ds b m kr a4 (some (.r k1)) a6 (some (iD x)), rfl, P8 ds b m kr a4 (some (.r k1)) a6 (some (iD x)), _, ⟨_, rfl, rfl⟩, .inl ?_⟩
    have g1' : (h.set k2 (.lst ((hs.take (hs.length - x)).map zA)))[k1]? = some (.lst ws) := get_set g1 (Ne.symm ne)
    have g2' : (h.set k2 (.lst ((hs.take (hs.length - x)).map zA)))[k2]? = some (.lst ((hs.take (hs.length - x)).map zA)) := get_same g2
    have ix : ixN ws.length 2 = some 2 := by rw [hw]; rfl
    have e0 : mBin gGet (mVar 5) (mC (.int 2)) (P8 ds b m kr a4 (some (.r k1)) a6 (some (iD x))) (h.set k2 (.lst ((hs.take (hs.length - x)).map zA))) = some (.ok (.r k2) (h.set k2 (.lst ((hs.take (hs.length - x)).map zA)))) := x_Bin (x_Var rfl) x_C (g_getc g1' ix gw)
    have ll : ((hs.take (hs.length - x)).map zA).length = hs.length - x := by rw [List.length_map, List.length_take]; omega
    unfold B1__law_spoil
    refine s_Drop (x_M0 e0 (tokL_r g2') (g_pop (u := zA (hs.getD (hs.length - x - 1) 0)) g2' ?_ ?_))
    · rw [ll, List.getElem?_map, List.getElem?_take, if_pos (by omega), getd (by omega)]
      rfl
    · rw [List.set_set, ← List.map_dropLast, List.dropLast_eq_take, List.take_take, List.length_take]
      congr 4
      omega)
  rw [List.length_range] at e
  exact ⟨a7', e⟩
theorem g_extd {h : Hq} {k : Nat} {hs ys : List Int} (e : h[k]? = some (.lst (hs.map zA))) (hl : hs.length + ys.length ≤ LIM) : gExt (.r k) (.d (.lst (ys.map D.int))) h = some (.ok (.d .non) (h.set k (.lst ((hs ++ ys).map zA)))) := by
  have : (ys.map D.int).map A.d = ys.map zA := by rw [List.map_map]; rfl
  refine g_ext e (us := (ys.map D.int).map A.d) rfl (by rw [List.length_map, List.length_map, List.length_map]; exact hl) ?_
  rw [this, List.map_append]
theorem spoil_ok {ds : List Int} (hd : Drs ds) {m : Nat} (hm : 1 ≤ m ∧ m ≤ 6) {h : Hq} {kr : Nat} {ids : List (Nat × Nat)} {rows : List TR} (t : RH h kr ids rows) (hl : rows.length ≤ 12) (ha : ∀ r ∈ rows, r.a < m) {b : Int} (hb : 0 ≤ b ∧ b < 1000) :
    ∃ h', sem__law_spoil [.d (LD ds), .d (.int b), .d (.int (m : Nat)), .r kr] h = some (.ok (.d .non) h') ∧ (h' = h ∨ ∃ (i : Nat) (id : Nat × Nat) (r : TR) (hs : List Int), ids[i]? = some id ∧ rows[i]? = some r ∧ hs.length ≤ 8 ∧ h' = h.set id.2 (.lst (hs.map zA))) := by
  have r0 := at_r hd b (by omega)
  have r1 := at_r hd (b + 1) (by omega)
  have r2 := at_r hd (b + 2) (by omega)
  have r3 := at_r hd (b + 3) (by omega)
  have gr := t.gr
  have li : (ids.map fun id => A.r id.1).length = rows.length := by rw [List.length_map, t.rw.1]
  obtain ⟨f, ef, hf⟩ : ∃ f : Int, atv ds b % 7 = f ∧ 0 ≤ f ∧ f < 7 := ⟨_, rfl, by omega, by omega⟩
  have e1 : mSet 4 (mBin gMod (mCallP sem__law_at (lenIs 2 (maCons (mVar 0) (maCons (mVar 1) maNil)))) (mC (.int 7))) (P8 ds b m kr none none none none) h = some (.nx (P8 ds b m kr (some (.d (.int f))) none none none) h) := by
    rw [← ef]
    wtm_at "tq_x"
  by_cases z : rows.length = 0 ∨ f = 0
  · refine ⟨h, ?_, .inl rfl⟩
    have z' : ((ids.map fun id => A.r id.1).length : Int) = 0 ∨ f = 0 := by omega
    wtm_at "tq_run"
    unfold b__law_spoil
    refine s_Seq e1 ?_
    generalize ids.map (fun id => A.r id.1) = rs at *
    refine s_SeqR (s_If (j := true) (h1 := h) ?_ (.inl ⟨rfl, s_RetN⟩))
    refine Eq.trans (x_OrT (j := decide (((rs.length : Nat) : Int) = 0)) (l := decide (f = 0)) (by wtm_at "tq_x") (fun _ => by wtm_at "tq_x")) ?_
    rcases z' with z' | z'
    · rw [decide_eq_true z']; rfl
    · rw [decide_eq_true z']; simp
  · obtain ⟨q, eq, hq⟩ : ∃ q : Nat, atv ds (b + 1) % (rows.length : Nat) = (q : Nat) ∧ q < rows.length := by
      have h1 := Int.emod_nonneg (atv ds (b + 1)) (b := ((rows.length : Nat) : Int)) (by omega)
      have h2 := Int.emod_lt_of_pos (atv ds (b + 1)) (b := ((rows.length : Nat) : Int)) (by omega)
      exact ⟨(atv ds (b + 1) % (rows.length : Nat)).toNat, by omega, by omega⟩
    obtain ⟨p, ep, hp⟩ : ∃ p : Nat, atv ds (b + 2) % (m : Nat) = (p : Nat) ∧ p < m := by
      have h1 := Int.emod_nonneg (atv ds (b + 2)) (b := ((m : Nat) : Int)) (by omega)
      have h2 := Int.emod_lt_of_pos (atv ds (b + 2)) (b := ((m : Nat) : Int)) (by omega)
      exact ⟨(atv ds (b + 2) % (m : Nat)).toNat, by omega, by omega⟩
    obtain ⟨id, ei⟩ : ∃ id, ids[q]? = some id := ⟨ids[q]'(by rw [t.rw.1]; exact hq), List.getElem?_eq_getElem (by rw [t.rw.1]; exact hq)⟩
    have er : rows[q]? = some rows[q] := List.getElem?_eq_getElem hq
    obtain ⟨g1, g2⟩ := t.rw.2 q _ _ ei er
    have ha := ha rows[q] (List.getElem_mem hq)
    generalize rows[q] = r at *
    have ir : (ids.map fun id => A.r id.1)[q]? = some (.r id.1) := by rw [List.getElem?_map, ei]; rfl
    have ne : id.1 ≠ id.2 := fun e => by
      rw [e, g2] at g1
      have : r.hs.map zA = [.d (.int (r.a : Nat)), .d (.int r.n), .r id.2] := O.lst.inj (Option.some.inj g1)
      have e3 : (r.hs.map zA)[2]? = some (.r id.2) := by rw [this]; rfl
      rw [List.getElem?_map] at e3
      cases q : r.hs[2]? with
      | none => rw [q] at e3; cases e3
      | some w => rw [q] at e3; cases e3
    have lt : ((ids.map fun id => A.r id.1).length : Int) = (rows.length : Nat) := by rw [li]
    have zt : ¬ ((ids.map fun id => A.r id.1).length : Int) = 0 := by omega
    have zf : ¬ f = 0 := by omega
    have lp : 0 < rows.length := by omega
    rw [← lt] at eq
    have q2 : q < (ids.map fun id => A.r id.1).length := by rw [li]; exact hq
    have e2 : mSet 5 (mBin gGet (mVar 3) (mBin gMod (mCallP sem__law_at (lenIs 2 (maCons (mVar 0) (maCons (mBin (gAdd false) (mVar 1) (mC (.int 1))) maNil)))) (mUn gLen (mVar 3)))) (P8 ds b m kr (some (.d (.int f))) none none none) h = some (.nx (P8 ds b m kr (some (.d (.int f))) (some (.r id.1)) none none) h) := by
      generalize ids.map (fun id => A.r id.1) = rs at *
      refine s_Set (w := .r id.1) (x_Bin (a := .r kr) (b := .d (.int (q : Nat))) (h1 := h) (h2 := h) (x_Var rfl) ?_ (g_getc gr (ix_nat q2) ir)) rfl
      rw [← eq]
      wtm_at "tq_x"
    have e3 : mSet 6 (mBin gMod (mCallP sem__law_at (lenIs 2 (maCons (mVar 0) (maCons (mBin (gAdd false) (mVar 1) (mC (.int 2))) maNil)))) (mVar 2)) (P8 ds b m kr (some (.d (.int f))) (some (.r id.1)) none none) h = some (.nx (P8 ds b m kr (some (.d (.int f))) (some (.r id.1)) (some (.d (.int (p : Nat)))) none) h) := by
      rw [← ep]
      wtm_at "tq_x"
    have e0 : mIf (mOrT (mTB (mBin (gEq false) (mUn gLen (mVar 3)) (mC (.int 0)))) (mTB (mBin (gEq false) (mVar 4) (mC (.int 0))))) mRetN mNx (P8 ds b m kr (some (.d (.int f))) none none none) h = some (.nx (P8 ds b m kr (some (.d (.int f))) none none none) h) := by
      generalize ids.map (fun id => A.r id.1) = rs at *
      wtm_at "tq_x"
    by_cases y : r.hs.length = m
    · have y2 : ((r.hs.length : Nat) : Int) = (m : Nat) := by omega
      have gp : (r.hs.map zA)[p]? = some (zA (r.hs.getD p 0)) := by rw [List.getElem?_map, getd (by omega)]; rfl
      have ga : (r.hs.map zA)[r.a]? = some (zA (r.hs.getD r.a 0)) := by rw [List.getElem?_map, getd (by omega)]; rfl
      have st : ∀ (j : Nat) (v : Int), h.set id.2 (.lst ((r.hs.map zA).set j (.d (.int v)))) = h.set id.2 (.lst ((r.hs.set j v).map zA)) := fun j v => by rw [List.map_set]
      have sl : ∀ (j : Nat) (v : Int), (r.hs.set j v).length ≤ 8 := fun j v => by rw [List.length_set]; omega
      have lh : (r.hs.map zA).length = r.hs.length := List.length_map _
      have e4 : mIf (mTB (mBin (gEq true) (mUn gLen (mBin gGet (mVar 5) (mC (.int 2)))) (mVar 2))) mRetN mNx (P8 ds b m kr (some (.d (.int f))) (some (.r id.1)) (some (.d (.int (p : Nat)))) none) h = some (.nx (P8 ds b m kr (some (.d (.int f))) (some (.r id.1)) (some (.d (.int (p : Nat)))) none) h) := by
        have y3 : (((r.hs.map zA).length : Nat) : Int) = (m : Nat) := by rw [lh]; exact y2
        generalize r.hs.map zA = hs at *
        wtm_at "tq_x"
      have fin : ∀ (hs : List Int), hs.length ≤ 8 → sem__law_spoil [.d (LD ds), .d (.int b), .d (.int (m : Nat)), .r kr] h = some (.ok (.d .non) (h.set id.2 (.lst (hs.map zA)))) → ∃ h', sem__law_spoil [.d (LD ds), .d (.int b), .d (.int (m : Nat)), .r kr] h = some (.ok (.d .non) h') ∧ (h' = h ∨ ∃ (i : Nat) (id : Nat × Nat) (r : TR) (hs : List Int), ids[i]? = some id ∧ rows[i]? = some r ∧ hs.length ≤ 8 ∧ h' = h.set id.2 (.lst (hs.map zA))) := fun hs l e => ⟨_, e, .inr ⟨q, id, r, hs, ei, er, l, rfl⟩⟩
      have g0 : mBin gGet (mVar 5) (mC (.int 2)) (P8 ds b m kr (some (.d (.int f))) (some (.r id.1)) (some (.d (.int (p : Nat)))) none) h = some (.ok (.r id.2) h) := by wtm_at "tq_x"
      have l2 : r.hs.length ≤ 6 := by omega
      have pl : p < (r.hs.map zA).length := by rw [lh]; omega
      have al : r.a < (r.hs.map zA).length := by rw [lh]; omega
      have cases7 : f = 1 ∨ f = 2 ∨ f = 3 ∨ f = 4 ∨ f = 5 ∨ f = 6 := by omega
      clear gr zt q2 ir lt li eq
      rcases cases7 with c | c | c | c | c | c <;> subst c
      · have gs : gSl false (.d (.lst [.int (atv ds (b + 3) % 3), .int 2])) none (some (1 + atv ds (b + 3) / 3 % 2)) h = some (.ok (.d (.lst ((cut [atv ds (b + 3) % 3, 2] none (some (1 + atv ds (b + 3) / 3 % 2))).map D.int))) h) := by
          have := g_sll (h := h) (ds := [.int (atv ds (b + 3) % 3), .int 2]) (lo := none) (hi := some (1 + atv ds (b + 3) / 3 % 2)) (by show 2 ≤ 16777216; decide)
          rwa [show ([.int (atv ds (b + 3) % 3), .int 2] : List D) = ([atv ds (b + 3) % 3, 2] : List Int).map D.int from rfl, map_cut] at this
        have cl := cut_len ([atv ds (b + 3) % 3, 2] : List Int) none (some (1 + atv ds (b + 3) / 3 % 2))
        have cl2 : ([atv ds (b + 3) % 3, 2] : List Int).length = 2 := rfl
        generalize cut ([atv ds (b + 3) % 3, 2] : List Int) none (some (1 + atv ds (b + 3) / 3 % 2)) = ys at *
        refine fin (r.hs ++ ys) (by rw [List.length_append]; omega) ?_
        have gx := g_extd (ys := ys) g2 (by show _ ≤ 16777216; omega)
        generalize r.hs.map zA = hs at *
        wtm_at "tq_runN"
        unfold b__law_spoil
        refine s_Seq e1 (s_Seq e0 (s_Seq e2 (s_Seq e3 (s_Seq e4 ?_))))
        wtm_at "tq_s"
      · obtain ⟨c, ec, hc⟩ : ∃ c : Nat, (if 1 + atv ds (b + 3) % 2 < ((m : Nat) : Int) then 1 + atv ds (b + 3) % 2 else ((m : Nat) : Int)) = (c : Nat) ∧ c ≤ m := by
          refine ⟨(if 1 + atv ds (b + 3) % 2 < ((m : Nat) : Int) then 1 + atv ds (b + 3) % 2 else ((m : Nat) : Int)).toNat, ?_, ?_⟩ <;> split <;> omega
        obtain ⟨a7', ep⟩ := pops_ok (ds := ds) (b := b) (m := m) (kr := kr) (a4 := some (.d (.int 2))) (a6 := some (.d (.int (p : Nat)))) (a7 := none) g1 rfl rfl ne g2 c (by omega) (by omega)
        refine fin (r.hs.take (r.hs.length - c)) (by rw [List.length_take]; omega) ?_
        have it : mRange1 (mBin gMin2 (mVar 2) (mBin (gAdd false) (mC (.int 1)) (mBin gMod (mCallP sem__law_at (lenIs 2 (maCons (mVar 0) (maCons (mBin (gAdd false) (mVar 1) (mC (.int 3))) maNil)))) (mC (.int 2))))) (P8 ds b m kr (some (.d (.int 2))) (some (.r id.1)) (some (.d (.int (p : Nat)))) none) h = some (.ok (nxL ((List.range c).map iD)) h) := by
          refine x_Rg (q := c) ?_ (by show _ ≤ 16777216; omega)
          rw [← ec]
          wtm_at "tq_x"
        have el : L1__law_spoil (P8 ds b m kr (some (.d (.int 2))) (some (.r id.1)) (some (.d (.int (p : Nat)))) none) h = _ := s_For it ep
        clear ep it
        generalize (r.hs.take (r.hs.length - c)).map zA = hs' at *
        generalize r.hs.map zA = hs at *
        wtm_at "tq_runN"
        unfold b__law_spoil
        refine s_Seq e1 (s_Seq e0 (s_Seq e2 (s_Seq e3 (s_Seq e4 ?_))))
        wtm_at "tq_s"
      · refine fin (r.hs.set r.a (if r.hs.getD r.a 0 + 1 - 2 * (atv ds (b + 3) % 2) > 0 then r.hs.getD r.a 0 + 1 - 2 * (atv ds (b + 3) % 2) else 0)) (sl _ _) ?_
        rw [← st]
        generalize r.hs.getD r.a 0 = u at *
        generalize r.hs.map zA = hs at *
        wtm_at "tq_runN"
        unfold b__law_spoil
        refine s_Seq e1 (s_Seq e0 (s_Seq e2 (s_Seq e3 (s_Seq e4 ?_))))
        wtm_at "tq_s"
      · refine fin (r.hs.set p ((ids.length : Nat) + atv ds (b + 3) % 3)) (sl _ _) ?_
        have gr := t.gr
        rw [← st]
        have li2 : (ids.map fun id => A.r id.1).length = ids.length := List.length_map _
        rw [← li2]
        generalize ids.map (fun id => A.r id.1) = rs at *
        generalize r.hs.map zA = hs at *
        wtm_at "tq_runN"
        unfold b__law_spoil
        refine s_Seq e1 (s_Seq e0 (s_Seq e2 (s_Seq e3 (s_Seq e4 ?_))))
        wtm_at "tq_s"
      · refine fin (r.hs.set p (if r.hs.getD p 0 - 1 > 0 then r.hs.getD p 0 - 1 else 0)) (sl _ _) ?_
        rw [← st]
        generalize r.hs.getD p 0 = u at *
        generalize r.hs.map zA = hs at *
        wtm_at "tq_runN"
        unfold b__law_spoil
        refine s_Seq e1 (s_Seq e0 (s_Seq e2 (s_Seq e3 (s_Seq e4 ?_))))
        wtm_at "tq_s"
      · refine fin (r.hs.set p (r.hs.getD p 0 + 1)) (sl _ _) ?_
        rw [← st]
        generalize r.hs.getD p 0 = u at *
        generalize r.hs.map zA = hs at *
        wtm_at "tq_runN"
        unfold b__law_spoil
        refine s_Seq e1 (s_Seq e0 (s_Seq e2 (s_Seq e3 (s_Seq e4 ?_))))
        wtm_at "tq_s"
    · refine ⟨h, ?_, .inl rfl⟩
      have y3 : ¬ (((r.hs.map zA).length : Nat) : Int) = (m : Nat) := by rw [List.length_map]; omega
      generalize r.hs.map zA = hs at *
      wtm_at "tq_run"
      unfold b__law_spoil
      refine s_Seq e1 (s_Seq e0 (s_Seq e2 (s_Seq e3 ?_)))
      wtm_at "tq_s"
end KK

set_option maxHeartbeats 2000000
open PySem PySem.Spec PyProof.Rows L2 Tq
namespace KK
open PySem PySem.Spec PyProof.Rows L2 Tq
abbrev trD (r : TR) : D := .lst [.int (r.a : Nat), .int r.n, .lst (r.hs.map D.int)]
def overB (m : Nat) (r o : TR) : Bool := (List.range m).all fun k => !(decide (k < o.hs.length) && decide (r.hs.getD k 0 < o.hs.getD k 0))
def othB (m : Nat) (r : TR) (j : Nat) (o : TR) : Bool := !(decide (o.a = j) && decide (o.n = r.hs.getD j 0)) || overB m r o
def memB (m : Nat) (counts : List Int) (rows : List TR) (r : TR) (j : Nat) : Bool := decide (r.hs.getD j 0 ≤ counts.getD j 0) && rows.all (othB m r j)
def lsB (m : Nat) (counts : List Int) (rows : List TR) (r : TR) : Bool := decide (r.hs.length = m) && decide (r.hs.getD r.a 0 = r.n - 1) && (List.range m).all (memB m counts rows r)
abbrev Q7 (m : Nat) (counts : List Int) (rows : List TR) (r : TR) (a4 a5 a6 : Option A) : Sl := [some (.d (.int (m : Nat))), some (.d (.lst (counts.map D.int))), some (.d (.lst (rows.map trD))), some (.d (trD r)), a4, a5, a6]
theorem rowhs {τ : Sl} {h : Hq} {i : Nat} {r : TR} (e : τ[i]? = some (some (.d (trD r)))) : mBin gGet (mVar i) (mC (.int 2)) τ h = some (.ok (.d (.lst (r.hs.map D.int))) h) := x_Bin (x_Var e) x_C (g_getld (n := 2) rfl rfl)
theorem over_ok {m : Nat} {counts : List Int} {rows : List TR} {r o : TR} (hm : m ≤ 6) (hr : r.hs.length = m) (ho : o.hs.length ≤ 100) (a4 a6 : Option A) (h : Hq) :
    (overB m r o = true ∧ ∃ b6, L1__law_is_sound (Q7 m counts rows r a4 (some (.d (trD o))) a6) h = some (.nx (Q7 m counts rows r a4 (some (.d (trD o))) b6) h)) ∨ (overB m r o = false ∧ L1__law_is_sound (Q7 m counts rows r a4 (some (.d (trD o))) a6) h = some (.rt (.d (.bl false)) h)) := by
  have lp := for_all (gg := mgName 6) (mb := B1__law_is_sound) (τ := Q7 m counts rows r a4 (some (.d (trD o))) a6) (h := h) (xs := List.range m) (r := .d (.bl false)) iD (fun k => !(decide (k < o.hs.length) && decide (r.hs.getD k 0 < o.hs.getD k 0))) (fun τ => ∃ b, τ = Q7 m counts rows r a4 (some (.d (trD o))) b) ⟨_, rfl⟩ (by wtm_at "tq_len")
    (fun n x τ e i ht => by
      obtain ⟨b, rfl⟩ := i
      obtain ⟨hn, rfl⟩ := rangeget e
      refine ⟨Q7 m counts rows r a4 (some (.d (trD o))) (some (iD x)), rfl, ?_⟩
      have e1 := rowhs (h := h) (i := 3) (r := r) (τ := Q7 m counts rows r a4 (some (.d (trD o))) (some (.d (.int (x : Nat))))) rfl
      have e2 := rowhs (h := h) (i := 5) (r := o) (τ := Q7 m counts rows r a4 (some (.d (trD o))) (some (.d (.int (x : Nat))))) rfl
      have g1 := getd (xs := r.hs) (n := x) (by omega)
      unfold B1__law_is_sound iD
      by_cases z : x < o.hs.length
      · have g2 := getd z
        have z2 : ((x : Nat) : Int) < (o.hs.length : Nat) := by omega
        rw [decide_eq_true z, Bool.true_and]
        generalize r.hs.getD x 0 = u at *
        generalize o.hs.getD x 0 = w at *
        by_cases y : u < w
        · refine .inr ⟨by rw [decide_eq_true y]; rfl, ?_⟩
          wtm_at "tq_x"
        · refine .inl ⟨by rw [decide_eq_false y]; rfl, Q7 m counts rows r a4 (some (.d (trD o))) (some (.d (.int (x : Nat)))), ⟨_, rfl⟩, .inl ?_⟩
          wtm_at "tq_x"
      · have z2 : ¬ ((x : Nat) : Int) < (o.hs.length : Nat) := by omega
        refine .inl ⟨by rw [decide_eq_false z]; rfl, Q7 m counts rows r a4 (some (.d (trD o))) (some (.d (.int (x : Nat)))), ⟨_, rfl⟩, .inl ?_⟩
        wtm_at "tq_x")
  have it : mRange1 (mVar 0) (Q7 m counts rows r a4 (some (.d (trD o))) a6) h = some (.ok (nxL ((List.range m).map iD)) h) := x_Rg (q := m) (x_Var rfl) (by show _ ≤ 16777216; omega)
  rcases lp with ⟨hp, τ', ⟨b, rfl⟩, e⟩ | ⟨hp, e⟩
  · exact .inl ⟨hp, b, s_For it e⟩
  · exact .inr ⟨hp, s_For it e⟩
theorem oth_ok {m : Nat} {counts : List Int} {rows : List TR} {r : TR} {j : Nat} (hm : m ≤ 6) (hj : j < m) (hr : r.hs.length = m) (ho : ∀ o ∈ rows, o.hs.length ≤ 100) (hl : rows.length ≤ 12) (a5 a6 : Option A) (h : Hq) :
    (rows.all (othB m r j) = true ∧ ∃ b5 b6, L2__law_is_sound (Q7 m counts rows r (some (.d (.int (j : Nat)))) a5 a6) h = some (.nx (Q7 m counts rows r (some (.d (.int (j : Nat)))) b5 b6) h)) ∨ (rows.all (othB m r j) = false ∧ L2__law_is_sound (Q7 m counts rows r (some (.d (.int (j : Nat)))) a5 a6) h = some (.rt (.d (.bl false)) h)) := by
  have lp := for_all (gg := mgName 5) (mb := B2__law_is_sound) (τ := Q7 m counts rows r (some (.d (.int (j : Nat)))) a5 a6) (h := h) (xs := rows) (r := .d (.bl false)) (fun o => A.d (trD o)) (othB m r j) (fun τ => ∃ b c, τ = Q7 m counts rows r (some (.d (.int (j : Nat)))) b c) ⟨_, _, rfl⟩ (by show _ ≤ 16777216; omega)
    (fun n o τ e i ht => by
      obtain ⟨b, c, rfl⟩ := i
      refine ⟨Q7 m counts rows r (some (.d (.int (j : Nat)))) (some (.d (trD o))) c, rfl, ?_⟩
      have e1 := rowhs (h := h) (i := 3) (r := r) (τ := Q7 m counts rows r (some (.d (.int (j : Nat)))) (some (.d (trD o))) c) rfl
      have g1 := getd (xs := r.hs) (n := j) (by omega)
      have ov := over_ok (counts := counts) (rows := rows) hm hr (ho o (List.mem_of_getElem? e)) (some (.d (.int (j : Nat)))) c h
      unfold B2__law_is_sound othB
      by_cases z : o.a = j ∧ o.n = r.hs.getD j 0
      · rw [decide_eq_true z.1, decide_eq_true z.2, Bool.true_and, Bool.not_true, Bool.false_or]
        have z1 : ((o.a : Nat) : Int) = (j : Nat) := by omega
        have z2 := z.2
        generalize r.hs.getD j 0 = u at *
        rcases ov with ⟨p, b6, e6⟩ | ⟨p, e6⟩
        · refine .inl ⟨p, Q7 m counts rows r (some (.d (.int (j : Nat)))) (some (.d (trD o))) b6, ⟨_, _, rfl⟩, .inl ?_⟩
          wtm_at "tq_x"
        · refine .inr ⟨p, ?_⟩
          wtm_at "tq_x"
      · refine .inl ⟨?_, Q7 m counts rows r (some (.d (.int (j : Nat)))) (some (.d (trD o))) c, ⟨_, _, rfl⟩, .inl ?_⟩
        · by_cases q : o.a = j
          · rw [decide_eq_false fun y => z ⟨q, y⟩, Bool.and_false]; rfl
          · rw [decide_eq_false q, Bool.false_and]; rfl
        · clear ov
          by_cases q : o.a = j
          · have z1 : ((o.a : Nat) : Int) = (j : Nat) := by omega
            have z2 : ¬ o.n = r.hs.getD j 0 := fun y => z ⟨q, y⟩
            generalize r.hs.getD j 0 = u at *
            wtm_at "tq_x"
          · have z1 : ¬ ((o.a : Nat) : Int) = (j : Nat) := by omega
            wtm_at "tq_x")
  have it : mItems (mVar 2) (Q7 m counts rows r (some (.d (.int (j : Nat)))) a5 a6) h = some (.ok (nxL (rows.map fun o => A.d (trD o))) h) := by
    rw [show (rows.map fun o => A.d (trD o)) = (rows.map trD).map A.d by rw [List.map_map]; rfl]
    exact x_It (x_Var rfl)
  rcases lp with ⟨hp, τ', ⟨b, c, rfl⟩, e⟩ | ⟨hp, e⟩
  · exact .inl ⟨hp, b, c, s_For it e⟩
  · exact .inr ⟨hp, s_For it e⟩
theorem lsound_ok {m : Nat} {counts : List Int} {rows : List TR} {r : TR} (hm : m ≤ 6) (hc : counts.length = m) (ha : r.a < m) (hr : r.hs.length ≤ 100) (ho : ∀ o ∈ rows, o.hs.length ≤ 100) (hl : rows.length ≤ 12) (h : Hq) :
    sem__law_is_sound [.d (.int (m : Nat)), .d (.lst (counts.map D.int)), .d (.lst (rows.map trD)), .d (trD r)] h = some (.ok (.d (.bl (lsB m counts rows r))) h) := by
  wtm_at "tq_run"
  unfold b__law_is_sound lsB
  have e1 := rowhs (h := h) (i := 3) (r := r) (τ := Q7 m counts rows r none none none) rfl
  by_cases z : r.hs.length = m
  · have z2 : ((r.hs.length : Nat) : Int) = (m : Nat) := by omega
    have ga := getd (xs := r.hs) (n := r.a) (by omega)
    by_cases y : r.hs.getD r.a 0 = r.n - 1
    · rw [decide_eq_true z, decide_eq_true y, Bool.true_and, Bool.true_and]
      rw [y] at ga
      have lp := for_all (gg := mgName 4) (mb := B3__law_is_sound) (τ := Q7 m counts rows r none none none) (h := h) (xs := List.range m) (r := .d (.bl false)) iD (memB m counts rows r) (fun τ => ∃ b c d, τ = Q7 m counts rows r b c d) ⟨_, _, _, rfl⟩ (by wtm_at "tq_len")
        (fun n j τ e i ht => by
          obtain ⟨b, c, d, rfl⟩ := i
          obtain ⟨hj, rfl⟩ := rangeget e
          refine ⟨Q7 m counts rows r (some (iD j)) c d, rfl, ?_⟩
          have e1 := rowhs (h := h) (i := 3) (r := r) (τ := Q7 m counts rows r (some (.d (.int (j : Nat)))) c d) rfl
          have g1 := getd (xs := r.hs) (n := j) (by omega)
          have g2 := getd (xs := counts) (n := j) (by omega)
          have ot := oth_ok (counts := counts) hm hj z ho hl c d h
          unfold B3__law_is_sound memB iD
          generalize counts.getD j 0 = v at *
          by_cases x : r.hs.getD j 0 ≤ v
          · rw [decide_eq_true x, Bool.true_and]
            have x2 : ¬ v < r.hs.getD j 0 := by omega
            rcases ot with ⟨p, b5, b6, e6⟩ | ⟨p, e6⟩
            · refine .inl ⟨p, Q7 m counts rows r (some (.d (.int (j : Nat)))) b5 b6, ⟨_, _, _, rfl⟩, .inl ?_⟩
              clear p
              generalize r.hs.getD j 0 = u at *
              wtm_at "tq_s"
            · refine .inr ⟨p, ?_⟩
              clear p
              generalize r.hs.getD j 0 = u at *
              wtm_at "tq_s"
          · rw [decide_eq_false x, Bool.false_and]
            have x2 : v < r.hs.getD j 0 := by omega
            refine .inr ⟨rfl, ?_⟩
            clear ot
            generalize r.hs.getD j 0 = u at *
            wtm_at "tq_s")
      have it : mRange1 (mVar 0) (Q7 m counts rows r none none none) h = some (.ok (nxL ((List.range m).map iD)) h) := x_Rg (q := m) (x_Var rfl) (by show _ ≤ 16777216; omega)
      rcases lp with ⟨hp, τ', ⟨b, c, d, rfl⟩, e⟩ | ⟨hp, e⟩
      · rw [hp]
        have e2 : L3__law_is_sound (Q7 m counts rows r none none none) h = _ := s_For it e
        clear e it
        wtm_at "tq_s"
      · rw [hp]
        have e2 : L3__law_is_sound (Q7 m counts rows r none none none) h = _ := s_For it e
        clear e it
        wtm_at "tq_s"
    · rw [decide_eq_false y, Bool.and_false, Bool.false_and]
      generalize r.hs.getD r.a 0 = u at *
      wtm_at "tq_s"
  · have z2 : ¬ ((r.hs.length : Nat) : Int) = (m : Nat) := fun e => z (by omega)
    rw [decide_eq_false z, Bool.false_and, Bool.false_and]
    wtm_at "tq_s"
end KK

set_option maxHeartbeats 2000000
namespace KK
open PySem PySem.Spec PyProof.Rows L2 Tq
def tr (r : Row) : TR := ⟨r.a, r.n, r.hs⟩
def chsOf (m : Nat) (rs : List Row) : List (List Row) := (List.range m).map fun j => rs.filter fun r => decide (r.a = j)
theorem chsOf_get {m j : Nat} (rs : List Row) (hj : j < m) : (chsOf m rs).getD j [] = rs.filter fun r => decide (r.a = j) := by
  unfold chsOf
  rw [List.getD_eq_getElem?_getD, List.getElem?_map, List.getElem?_range hj]
  rfl
/-- numbers one behind another -/
structure Cons (m : Nat) (cut counts : List Int) (rs : List Row) : Prop where
  n : ∀ j < m, (rs.filter fun r => decide (r.a = j)).map (·.n) = (List.range (rs.filter fun r => decide (r.a = j)).length).map fun i => cut.getD j 0 + 1 + ((i : Nat) : Int)
  c : ∀ j < m, counts.getD j 0 = cut.getD j 0 + ((rs.filter fun r => decide (r.a = j)).length : Nat)
  a : ∀ r ∈ rs, r.a < m
theorem find_mem {c v : Int} {cs : List Row} {l : Row} (hn : cs.map (·.n) = (List.range cs.length).map fun i => c + 1 + ((i : Nat) : Int)) (e : findR c cs v = some l) : l ∈ cs ∧ l.n = v := by
  unfold findR at e
  split at e
  · rename_i z
    refine ⟨List.mem_of_getElem? e, ?_⟩
    have hi := (List.getElem?_eq_some_iff.mp e).1
    have e1 : (cs.map (·.n))[(v - c - 1).toNat]? = some l.n := by rw [List.getElem?_map, e]; rfl
    rw [hn, List.getElem?_map, List.getElem?_range hi] at e1
    have : c + 1 + (((v - c - 1).toNat : Nat) : Int) = l.n := Option.some.inj e1
    omega
  · cases e
theorem find_of {c v : Int} {cs : List Row} {o : Row} (hn : cs.map (·.n) = (List.range cs.length).map fun i => c + 1 + ((i : Nat) : Int)) (ho : o ∈ cs) (e : o.n = v) : findR c cs v = some o := by
  obtain ⟨i, hi, e2⟩ := List.getElem_of_mem ho
  have e1 : (cs.map (·.n))[i]? = some o.n := by rw [List.getElem?_map, List.getElem?_eq_getElem hi, e2]; rfl
  rw [hn, List.getElem?_map, List.getElem?_range hi] at e1
  have e3 : c + 1 + ((i : Nat) : Int) = o.n := Option.some.inj e1
  unfold findR
  rw [if_pos (by omega), show (v - c - 1).toNat = i by omega, List.getElem?_eq_getElem hi, e2]
theorem whole_eq {m : Nat} {cut counts : List Int} {caps kept : List D} {rs : List Row} (hc : Cons m cut counts rs) : rs.all (soundB ⟨m, cut, caps, kept, chsOf m rs⟩) = (rs.map tr).all (lsB m counts (rs.map tr)) := by
  have own : ∀ r : Row, (tr r).hs = r.hs ∧ (tr r).a = r.a ∧ (tr r).n = r.n := fun r => ⟨rfl, rfl, rfl⟩
  have last : ∀ (r : Row) (j : Nat), j < m → lastR ⟨m, cut, caps, kept, chsOf m rs⟩ r j = findR (cut.getD j 0) (rs.filter fun r => decide (r.a = j)) (r.hs.getD j 0) := fun r j hj => by
    unfold lastR
    dsimp only
    rw [chsOf_get rs hj]
  have cnti : ∀ j, j < m → countI ⟨m, cut, caps, kept, chsOf m rs⟩ j = counts.getD j 0 := fun j hj => by
    unfold countI
    dsimp only
    rw [chsOf_get rs hj, hc.c j hj]
  rw [Bool.eq_iff_iff, List.all_eq_true, List.all_eq_true]
  constructor
  · intro h x hx
    obtain ⟨r, hr, rfl⟩ := List.mem_map.mp hx
    have hs := h r hr
    unfold soundB at hs
    rw [Bool.and_eq_true, Bool.and_eq_true, decide_eq_true_iff, decide_eq_true_iff, List.all_eq_true] at hs
    obtain ⟨⟨h1, h2⟩, h3⟩ := hs
    dsimp only at h1
    unfold lsB
    rw [Bool.and_eq_true, Bool.and_eq_true, decide_eq_true_iff, decide_eq_true_iff, List.all_eq_true]
    refine ⟨⟨h1, h2⟩, fun j hj => ?_⟩
    have hj' := List.mem_range.mp hj
    have h4 := h3 j hj
    unfold soundJ at h4
    rw [Bool.and_eq_true, decide_eq_true_iff, cnti j hj', last r j hj'] at h4
    unfold memB
    rw [Bool.and_eq_true, decide_eq_true_iff, List.all_eq_true]
    refine ⟨h4.1, fun o ho => ?_⟩
    obtain ⟨q, hq, rfl⟩ := List.mem_map.mp ho
    unfold othB
    rw [Bool.or_eq_true]
    by_cases z : q.a = j ∧ q.n = r.hs.getD j 0
    · refine .inr ?_
      have fo := find_of (hc.n j hj') (List.mem_filter.mpr ⟨hq, decide_eq_true z.1⟩) z.2
      have h5 := h4.2
      rw [fo] at h5
      have h5 : coversB r q = true := h5
      unfold coversB at h5
      rw [Bool.and_eq_true, decide_eq_true_iff, List.all_eq_true] at h5
      unfold overB
      rw [List.all_eq_true]
      intro k hk
      have hk' := List.mem_range.mp hk
      have h6 := of_decide_eq_true (h5.2 k (List.mem_range.mpr (by omega)))
      rw [Bool.not_eq_true', Bool.and_eq_false_iff]
      exact .inr (decide_eq_false (by show ¬ r.hs.getD k 0 < q.hs.getD k 0; omega))
    · refine .inl ?_
      rw [Bool.not_eq_true', Bool.and_eq_false_iff]
      by_cases y : q.a = j
      · exact .inr (decide_eq_false fun e => z ⟨y, e⟩)
      · exact .inl (decide_eq_false y)
  · intro h r hr
    have len : ∀ q ∈ rs, q.hs.length = m := fun q hq => by
      have := h (tr q) (List.mem_map_of_mem hq)
      unfold lsB at this
      rw [Bool.and_eq_true, Bool.and_eq_true, decide_eq_true_iff] at this
      exact this.1.1
    have hs := h (tr r) (List.mem_map_of_mem hr)
    unfold lsB at hs
    rw [Bool.and_eq_true, Bool.and_eq_true, decide_eq_true_iff, decide_eq_true_iff, List.all_eq_true] at hs
    obtain ⟨⟨h1, h2⟩, h3⟩ := hs
    unfold soundB
    rw [Bool.and_eq_true, Bool.and_eq_true, decide_eq_true_iff, decide_eq_true_iff, List.all_eq_true]
    refine ⟨⟨h1, h2⟩, fun j hj => ?_⟩
    have hj' := List.mem_range.mp hj
    have h4 := h3 j hj
    unfold memB at h4
    rw [Bool.and_eq_true, decide_eq_true_iff, List.all_eq_true] at h4
    unfold soundJ
    rw [Bool.and_eq_true, decide_eq_true_iff, cnti j hj', last r j hj']
    refine ⟨h4.1, ?_⟩
    cases q : findR (cut.getD j 0) (rs.filter fun r => decide (r.a = j)) (r.hs.getD j 0) with
    | none => rfl
    | some l =>
      obtain ⟨l1, l2⟩ := find_mem (hc.n j hj') q
      obtain ⟨l3, l4⟩ := List.mem_filter.mp l1
      have l4 : l.a = j := of_decide_eq_true l4
      have h5 := h4.2 (tr l) (List.mem_map_of_mem l3)
      unfold othB at h5
      rw [show decide ((tr l).a = j) = true from decide_eq_true l4, show decide ((tr l).n = (tr r).hs.getD j 0) = true from decide_eq_true l2, Bool.and_true, Bool.not_true, Bool.false_or] at h5
      unfold overB at h5
      rw [List.all_eq_true] at h5
      show coversB r l = true
      unfold coversB
      rw [Bool.and_eq_true, decide_eq_true_iff, List.all_eq_true, len l l3, len r hr]
      refine ⟨rfl, fun k hk => ?_⟩
      have h6 := h5 k hk
      rw [Bool.not_eq_true', Bool.and_eq_false_iff, decide_eq_false_iff_not, decide_eq_false_iff_not] at h6
      have hk' := List.mem_range.mp hk
      have ll := len l l3
      refine decide_eq_true ?_
      rcases h6 with h6 | h6
      · exact absurd (by show k < l.hs.length; omega) h6
      · have h6 : ¬ r.hs.getD k 0 < l.hs.getD k 0 := h6
        omega
theorem chsOf_mem {m : Nat} {rs : List Row} (h : ∀ r ∈ rs, r.a < m) (r : Row) : r ∈ (chsOf m rs).flatten ↔ r ∈ rs := by
  unfold chsOf
  rw [List.mem_flatten]
  constructor
  · rintro ⟨l, hl, hr⟩
    obtain ⟨j, _, rfl⟩ := List.mem_map.mp hl
    exact (List.mem_filter.mp hr).1
  · intro hr
    exact ⟨_, List.mem_map.mpr ⟨r.a, List.mem_range.mpr (h r hr), rfl⟩, List.mem_filter.mpr ⟨hr, decide_eq_true rfl⟩⟩
theorem chsOf_all {m : Nat} {rs : List Row} (h : ∀ r ∈ rs, r.a < m) (f : Row → Bool) : (chsOf m rs).flatten.all f = rs.all f := by
  rw [Bool.eq_iff_iff, List.all_eq_true, List.all_eq_true]
  exact ⟨fun q x hx => q x ((chsOf_mem h x).mpr hx), fun q x hx => q x ((chsOf_mem h x).mp hx)⟩
theorem chsOf_len (rs : List Row) : ∀ (m : Nat), (chsOf m rs).flatten.length ≤ m * rs.length
  | 0 => by unfold chsOf; simp
  | m + 1 => by
    have ih := chsOf_len rs m
    unfold chsOf at ih ⊢
    rw [List.range_succ, List.map_append, List.flatten_append, List.length_append]
    have : ([m].map fun j => rs.filter fun r => decide (r.a = j)).flatten.length ≤ rs.length := by
      simp only [List.map_cons, List.map_nil, List.flatten_cons, List.flatten_nil, List.append_nil]
      exact List.length_filter_le _ _
    rw [Nat.succ_mul]
    omega
/-- a row more -/
theorem chsOf_add {m : Nat} {rs : List Row} {r : Row} (ha : r.a < m) : addC (chsOf m rs) r = chsOf m (rs ++ [r]) := by
  unfold addC
  rw [chsOf_get rs ha]
  unfold chsOf
  rw [map_range_set ha]
  refine List.map_congr_left fun j hj => ?_
  rw [List.filter_append]
  by_cases z : j = r.a
  · subst z
    rw [if_pos rfl]
    simp
  · rw [if_neg z]
    simp [Ne.symm z]
theorem chsOf_nil (m : Nat) : chsOf m [] = List.replicate m [] := by
  unfold chsOf
  show (List.range m).map (fun _ => ([] : List Row)) = _
  rw [List.map_const', List.length_range]
end KK

set_option maxHeartbeats 2000000
namespace KK
open PySem PySem.Spec PyProof.Rows L2 Tq
theorem seg (k : Nat) : ∀ (c : Nat), k ≤ c → ((List.range c).map fun i => ((i : Nat) : Int) + 1).filter (fun z => decide (((k : Nat) : Int) < z)) = (List.range (c - k)).map fun i => ((k : Nat) : Int) + 1 + ((i : Nat) : Int)
  | 0, h => by
    have : k = 0 := by omega
    subst this
    rfl
  | c + 1, h => by
    by_cases z : k = c + 1
    · subst z
      rw [Nat.sub_self]
      show _ = []
      rw [List.filter_eq_nil_iff]
      intro a ha
      obtain ⟨i, hi, rfl⟩ := List.mem_map.mp ha
      have := List.mem_range.mp hi
      rw [decide_eq_true_iff]
      omega
    · rw [List.range_succ, List.map_append, List.filter_append, seg k c (by omega), show c + 1 - k = (c - k) + 1 by omega, List.range_succ, List.map_append]
      congr 1
      show List.filter _ [((c : Nat) : Int) + 1] = [((k : Nat) : Int) + 1 + ((c - k : Nat) : Int)]
      have q : ((k : Nat) : Int) < (c : Nat) + 1 := by omega
      have q2 : ((c : Nat) : Int) + 1 = ((k : Nat) : Int) + 1 + ((c - k : Nat) : Int) := by omega
      simp only [List.filter_cons, List.filter_nil, decide_eq_true q, if_true]
      rw [q2]
def an (r : TR) : Nat × Int := (r.a, r.n)
theorem filt_an (j : Nat) : ∀ {xs ys : List TR}, xs.map an = ys.map an → (xs.filter fun r => decide (r.a = j)).map (·.n) = (ys.filter fun r => decide (r.a = j)).map (·.n)
  | [], [], _ => rfl
  | [], _ :: _, e => by cases e
  | _ :: _, [], e => by cases e
  | x :: xs, y :: ys, e => by
    rw [List.map_cons, List.map_cons] at e
    have e1 : an x = an y := (List.cons.inj e).1
    have ih := filt_an j (List.cons.inj e).2
    have ea : x.a = y.a := congrArg Prod.fst e1
    have en : x.n = y.n := congrArg Prod.snd e1
    by_cases z : x.a = j
    · have z2 : y.a = j := ea ▸ z
      simp only [List.filter_cons, decide_eq_true z, decide_eq_true z2, if_true, List.map_cons]
      rw [ih, en]
    · have z2 : ¬ y.a = j := fun e => z (ea.trans e)
      simp only [List.filter_cons, decide_eq_false z, decide_eq_false z2]
      exact ih
theorem cons_ok {m : Nat} {rows0 rows : List TR} {cut counts : List Int} {rs : List Row} (ro : RwOk m rows0) (hc : ∀ j < m, 0 ≤ cut.getD j 0 ∧ cut.getD j 0 ≤ cnt rows0 j) (hk : ∀ j < m, counts.getD j 0 = (cnt rows0 j : Nat))
    (hr : rows.map an = (rows0.filter fun r => decide (cut.getD r.a 0 < r.n)).map an) (hs : rs.map tr = rows) : Cons m cut counts rs := by
  have key : ∀ j < m, (rs.filter fun r => decide (r.a = j)).map (·.n) = (List.range (cnt rows0 j - (cut.getD j 0).toNat)).map fun i => cut.getD j 0 + 1 + ((i : Nat) : Int) := fun j hj => by
    have e1 : (rs.filter fun r => decide (r.a = j)).map (·.n) = (rows.filter fun r => decide (r.a = j)).map (·.n) := by
      rw [← hs, List.filter_map, List.map_map]
      rfl
    rw [e1, filt_an j hr, List.filter_filter]
    have e2 : (rows0.filter fun r => decide (r.a = j) && decide (cut.getD r.a 0 < r.n)) = (rows0.filter fun r => decide (r.a = j)).filter fun r => decide (cut.getD j 0 < r.n) := by
      rw [List.filter_filter]
      refine List.filter_congr fun r _ => ?_
      by_cases z : r.a = j
      · subst z; rw [Bool.and_comm]
      · rw [decide_eq_false z, Bool.false_and, Bool.and_false]
    rw [e2]
    have e3 : ((rows0.filter fun r => decide (r.a = j)).filter fun r => decide (cut.getD j 0 < r.n)).map (·.n) = ((rows0.filter fun r => decide (r.a = j)).map (·.n)).filter fun z => decide (cut.getD j 0 < z) := by
      rw [List.filter_map]
      rfl
    rw [e3, ro.n j]
    obtain ⟨c1, c2⟩ := hc j hj
    have e4 : cut.getD j 0 = (((cut.getD j 0).toNat : Nat) : Int) := by omega
    have := seg (cut.getD j 0).toNat (cnt rows0 j) (by omega)
    rw [← e4] at this
    exact this
  have len : ∀ j < m, (rs.filter fun r => decide (r.a = j)).length = cnt rows0 j - (cut.getD j 0).toNat := fun j hj => by
    have := congrArg List.length (key j hj)
    rwa [List.length_map, List.length_map, List.length_range] at this
  refine ⟨fun j hj => by rw [len j hj]; exact key j hj, fun j hj => ?_, fun r hr' => ?_⟩
  · rw [len j hj, hk j hj]
    have := hc j hj
    omega
  · have h1 : an (tr r) ∈ rows.map an := List.mem_map_of_mem (by rw [← hs]; exact List.mem_map_of_mem hr')
    rw [hr] at h1
    obtain ⟨q, hq, e⟩ := List.mem_map.mp h1
    have := (ro.r q (List.mem_filter.mp hq).1).1
    have e1 : q.a = r.a := congrArg Prod.fst e
    omega
end KK

set_option maxHeartbeats 2000000
open PySem PySem.Spec PyProof.Rows L2 Tq
namespace KK
open PySem PySem.Spec PyProof.Rows L2 Tq
local macro_rules | `(tactic| wtm_at "tq_call") => `(tactic| (((with_reducible apply at_c); focus (with_reducible assumption)); omega))
abbrev G (ns ds : List Int) (m : Nat) (a3 a4 a5 a6 a7 a8 a9 a10 a11 : Option A) : Sl := [some (.d (.scr ns)), some (.d (.lst (ds.map D.int))), some (.d (.int (m : Nat))), a3, a4, a5, a6, a7, a8, a9, a10, a11]
theorem nth_n {m : Nat} {rows : List TR} (ro : RwOk m rows) {n : Nat} {r : TR} (e : rows[n]? = some r) : r.n = (cnt (rows.take n) r.a : Nat) + 1 := by
  have hn := (List.getElem?_eq_some_iff.mp e).1
  have sp : rows = rows.take n ++ r :: rows.drop (n + 1) := by
    have : rows.drop n = r :: rows.drop (n + 1) := by
      rw [List.drop_eq_getElem_cons hn]
      congr 1
      exact (List.getElem?_eq_some_iff.mp e).2
    rw [← this, List.take_append_drop]
  have f0 : ∀ xs ys : List TR, (((xs ++ r :: ys).filter fun q => decide (q.a = r.a)).map (·.n))[cnt xs r.a]? = some r.n := fun xs ys => by
    rw [List.filter_append, List.map_append, List.getElem?_append_right (by rw [List.length_map]; exact Nat.le_refl _), List.length_map]
    show (List.map _ _)[(cnt xs r.a) - cnt xs r.a]? = _
    rw [Nat.sub_self, List.filter_cons_of_pos (by simp)]
    rfl
  have f := f0 (rows.take n) (rows.drop (n + 1))
  rw [← sp] at f
  rw [ro.n r.a, List.getElem?_map] at f
  rcases Nat.lt_or_ge (cnt (rows.take n) r.a) (cnt rows r.a) with z | z
  · rw [List.getElem?_range z] at f
    exact (Option.some.inj f).symm
  · rw [List.getElem?_eq_none (by rw [List.length_range]; exact z)] at f
    cases f
theorem mRow {τ : Sl} {h : Hq} {i : Nat} {id : Nat × Nat} {r : TR} (e : τ[i]? = some (some (.r id.1))) (g : RowAt h id r) : mBin gGet (mVar i) (mC (.int 0)) τ h = some (.ok (.d (.int (r.a : Nat))) h) ∧ mBin gGet (mVar i) (mC (.int 1)) τ h = some (.ok (.d (.int r.n)) h) ∧ mBin gGet (mVar i) (mC (.int 2)) τ h = some (.ok (.r id.2) h) :=
  ⟨x_Bin (x_Var e) x_C (g_getc (n := 0) g.1 rfl rfl), x_Bin (x_Var e) x_C (g_getc (n := 1) g.1 rfl rfl), x_Bin (x_Var e) x_C (g_getc (n := 2) g.1 rfl rfl)⟩
/-- counts -/
theorem l1_law {ns ds : List Int} {m kr kc : Nat} (hm : 1 ≤ m ∧ m ≤ 6) {h : Hq} {ids : List (Nat × Nat)} {rows : List TR} (t : RH h kr ids rows) (ro : RwOk m rows) (hl : rows.length ≤ 12) (a6 a7 : Option A) :
    ∃ (counts : List Int) (b7 : Option A), counts.length = m ∧ (∀ j < m, counts.getD j 0 = (cnt rows j : Nat)) ∧ L1_law (G ns ds m (some (.r kr)) (some (.r kc)) (some (.r h.length)) a6 a7 none none none none) (h ++ [.lst ((List.replicate m (0 : Int)).map zA)]) = some (.nx (G ns ds m (some (.r kr)) (some (.r kc)) (some (.r h.length)) a6 b7 none none none none) (h ++ [.lst (counts.map zA)])) := by
  have gr := t.gr
  have zr : ∀ j, (List.replicate m (0 : Int)).getD j 0 = 0 := fun j => by
    rw [List.getD_eq_getElem?_getD, List.getElem?_replicate]
    split <;> rfl
  obtain ⟨τ', h', e, b7, cs, rfl, rfl, hcl, hcs⟩ := forC_inv (g := mgName 7) (mb := B1_law) (ws := ids.map fun id => A.r id.1) (k := kr) (τ := G ns ds m (some (.r kr)) (some (.r kc)) (some (.r h.length)) a6 a7 none none none none) (h := h ++ [.lst ((List.replicate m (0 : Int)).map zA)])
    (fun n τ H => ∃ (b7 : Option A) (cs : List Int), τ = G ns ds m (some (.r kr)) (some (.r kc)) (some (.r h.length)) a6 b7 none none none none ∧ H = h ++ [.lst (cs.map zA)] ∧ cs.length = m ∧ ∀ j < m, cs.getD j 0 = (cnt (rows.take n) j : Nat))
    (fun n τ H i => by
      obtain ⟨b7, cs, _, rfl, _, _⟩ := i
      exact app_keep gr)
    ⟨a7, List.replicate m 0, rfl, rfl, List.length_replicate, fun j hj => by rw [zr]; rfl⟩
    (fun n w τ H hw i => by
      obtain ⟨b7, cs, rfl, rfl, hcl, hcs⟩ := i
      obtain ⟨id, ei, rfl⟩ := map_get hw
      have hn := (List.getElem?_eq_some_iff.mp ei).1
      have hn2 : n < rows.length := by rw [← t.rw.1]; exact hn
      have er : rows[n]? = some rows[n] := List.getElem?_eq_getElem hn2
      have nn := nth_n ro er
      obtain ⟨ha, _⟩ := ro.r _ (List.mem_of_getElem? er)
      obtain ⟨q1, q2⟩ := t.rw.2 n id _ ei er
      have g : RowAt (h ++ [O.lst (cs.map zA)]) id rows[n] := ⟨app_keep q1, app_keep q2⟩
      have tk : rows.take (n + 1) = rows.take n ++ [rows[n]] := by rw [List.take_add_one, er]; rfl
      generalize rows[n] = r at *
      obtain ⟨m0, m1, _⟩ := mRow (i := 7) (τ := G ns ds m (some (.r kr)) (some (.r kc)) (some (.r h.length)) a6 (some (.r id.1)) none none none none) rfl g
      have hca := hcs r.a ha
      refine ⟨G ns ds m (some (.r kr)) (some (.r kc)) (some (.r h.length)) a6 (some (.r id.1)) none none none none, G ns ds m (some (.r kr)) (some (.r kc)) (some (.r h.length)) a6 (some (.r id.1)) none none none none, h ++ [.lst ((cs.set r.a r.n).map zA)], rfl, .inl ?_, _, cs.set r.a r.n, rfl, rfl, by rw [List.length_set]; exact hcl, fun j hj => ?_⟩
      · have gc : (h ++ [O.lst (cs.map zA)])[h.length]? = some (.lst (cs.map zA)) := cell_app h _
        have ga : (cs.map zA)[r.a]? = some (zA (cs.getD r.a 0)) := by rw [List.getElem?_map, getd (by omega)]; rfl
        have lc : (cs.map zA).length = m := by rw [List.length_map]; exact hcl
        unfold B1_law
        refine s_SetI (w := .d (.int r.n)) (k := h.length) (z := (r.a : Nat)) (n := r.a) (h3 := h ++ [.lst (cs.map zA)]) ?_ (x_Var rfl) m0 gc (ix_nat (by omega)) ?_
        · refine x_Bin (a := .d (.int (cs.getD r.a 0))) (b := .d (.int r.n)) (x_Bin (x_Var rfl) m0 (g_getc gc (ix_nat (by omega)) ga)) m1 ?_
          have : r.n > cs.getD r.a 0 := by omega
          show some (Rs.ok (A.d (.int (if r.n > cs.getD r.a 0 then r.n else cs.getD r.a 0))) _) = _
          rw [if_pos this]
        · rw [List.set_append_right _ _ (Nat.le_refl _), Nat.sub_self, List.map_set]
          rfl
      · rw [tk, cnt_snoc, List.getD_eq_getElem?_getD]
        by_cases z : r.a = j
        · subst z
          rw [List.getElem?_set_self (by omega), if_pos rfl]
          show r.n = _
          omega
        · rw [List.getElem?_set_ne z, if_neg z, ← List.getD_eq_getElem?_getD, hcs j hj]
          omega) (by rw [List.length_map, t.rw.1]; show _ ≤ 16777216; omega)
  refine ⟨cs, b7, hcl, fun j hj => ?_, s_For (x_ItC (x_Var rfl) (app_keep gr)) e⟩
  rw [hcs j hj, List.length_map, t.rw.1, List.take_of_length_le (Nat.le_refl _)]
/-- the rows that are not cut away -/
theorem c2_law {ns ds : List Int} {m kr kc : Nat} {h : Hq} {ids : List (Nat × Nat)} {rows : List TR} (t : RH h kr ids rows) (hl : rows.length ≤ 12) {cut : List Int} (hc : cut.length = m) (gc : h[kc]? = some (.lst (cut.map zA))) (ha : ∀ r ∈ rows, r.a < m) (a5 a6 a7 : Option A) (h7 : a7 = none ∨ True) :
    ∃ ids' : List (Nat × Nat), RH (h ++ [.lst (ids'.map fun id => .r id.1)]) h.length ids' (rows.filter fun r => decide (cut.getD r.a 0 < r.n)) ∧ (∀ id ∈ ids', id ∈ ids) ∧ C2_law (G ns ds m (some (.r kr)) (some (.r kc)) a5 a6 a7 none none none none) h = some (.ok (.r h.length) (h ++ [.lst (ids'.map fun id => .r id.1)])) := by
  have zi : (ids.zip rows).map (fun p => A.r p.1.1) = ids.map fun id => A.r id.1 := by
    have : (ids.zip rows).map Prod.fst = ids := List.map_fst_zip (by rw [t.rw.1]; exact Nat.le_refl _)
    conv => rhs; rw [← this]
    rw [List.map_map]
    rfl
  have zr : (ids.zip rows).map Prod.snd = rows := List.map_snd_zip (by rw [t.rw.1]; exact Nat.le_refl _)
  have at_ : ∀ p ∈ ids.zip rows, RowAt h p.1 p.2 := fun p hp => by
    obtain ⟨i, hi, e⟩ := List.getElem_of_mem hp
    have e1 : (ids.zip rows)[i]? = some p := by rw [List.getElem?_eq_getElem hi, e]
    rw [List.getElem?_zip_eq_some] at e1
    exact t.rw.2 i p.1 p.2 e1.1 e1.2
  have gr := t.gr
  rw [← zi] at gr
  refine ⟨((ids.zip rows).filter fun p => decide (cut.getD p.2.a 0 < p.2.n)).map Prod.fst, ⟨cell_app h _, ?_, ?_, ?_⟩, fun id hid => ?_, ?_⟩
  · have er : (rows.filter fun r => decide (cut.getD r.a 0 < r.n)) = ((ids.zip rows).filter fun p => decide (cut.getD p.2.a 0 < p.2.n)).map Prod.snd := by
      conv => lhs; rw [← zr]
      rw [List.filter_map]
      rfl
    rw [er]
    refine ⟨by rw [List.length_map, List.length_map], fun i id r e1 e2 => ?_⟩
    rw [List.getElem?_map] at e1 e2
    cases q : ((ids.zip rows).filter fun p => decide (cut.getD p.2.a 0 < p.2.n))[i]? with
    | none => rw [q] at e1; cases e1
    | some p =>
      rw [q] at e1 e2
      cases e1
      cases e2
      obtain ⟨g1, g2⟩ := at_ p (List.mem_filter.mp (List.mem_of_getElem? q)).1
      exact ⟨app_keep g1, app_keep g2⟩
  · have s1 : (((ids.zip rows).filter fun p => decide (cut.getD p.2.a 0 < p.2.n)).map Prod.fst).Sublist ids := by
      have := (List.filter_sublist (l := ids.zip rows) (p := fun p => decide (cut.getD p.2.a 0 < p.2.n))).map Prod.fst
      rwa [List.map_fst_zip (by rw [t.rw.1]; exact Nat.le_refl _)] at this
    exact (s1.map (·.2)).nodup t.nd
  · intro id hid
    obtain ⟨p, hp, rfl⟩ := List.mem_map.mp hid
    obtain ⟨g1, g2⟩ := at_ p (List.mem_filter.mp hp).1
    have := lt_of_get g1
    have := lt_of_get g2
    omega
  · obtain ⟨p, hp, rfl⟩ := List.mem_map.mp hid
    exact (List.of_mem_zip (List.mem_filter.mp hp).1).1
  · unfold C2_law
    rw [lc_filterC (k := kr) (h1 := h) (xs := ids.zip rows) (fun p => A.r p.1.1) (fun p => decide (cut.getD p.2.a 0 < p.2.n)) (fun p => A.r p.1.1) (x_ItC (x_Var rfl) gr) gr (by rw [List.length_zip, t.rw.1, Nat.min_self]; show _ ≤ 16777216; omega) fun n p e => by
      have g := at_ p (List.mem_of_getElem? e)
      have ha' := ha p.2 (List.of_mem_zip (List.mem_of_getElem? e)).2
      obtain ⟨m0, m1, _⟩ := mRow (i := 7) (τ := G ns ds m (some (.r kr)) (some (.r kc)) a5 a6 (some (.r p.1.1)) none none none none) rfl g
      refine ⟨G ns ds m (some (.r kr)) (some (.r kc)) a5 a6 (some (.r p.1.1)) none none none none, rfl, ?_, fun _ => by unfold E2_law; exact x_Var rfl⟩
      have ga : (cut.map zA)[p.2.a]? = some (zA (cut.getD p.2.a 0)) := by rw [List.getElem?_map, getd (by omega)]; rfl
      unfold T1_law
      exact x_TB (x_Bin m1 (x_Bin (x_Var rfl) m0 (g_getc gc (ix_nat (by rw [List.length_map]; omega)) ga)) g_ogt)]
    rw [List.map_map]
    refine x_mkC ?_
    have := List.length_filter_le (fun p : (Nat × Nat) × TR => decide (cut.getD p.2.a 0 < p.2.n)) (ids.zip rows)
    rw [List.length_zip, t.rw.1, Nat.min_self] at this
    rw [List.length_map]
    show _ ≤ 16777216
    omega
/-- behind a fault -/
theorem RH.spoilt {h h' : Hq} {kr : Nat} {ids : List (Nat × Nat)} {rows : List TR} (t : RH h kr ids rows) (c : h' = h ∨ ∃ (i : Nat) (id : Nat × Nat) (r : TR) (hs : List Int), ids[i]? = some id ∧ rows[i]? = some r ∧ hs.length ≤ 8 ∧ h' = h.set id.2 (.lst (hs.map zA))) (hb : ∀ r ∈ rows, r.hs.length ≤ 8) :
    ∃ rows' : List TR, RH h' kr ids rows' ∧ rows'.map an = rows.map an ∧ (∀ r ∈ rows', r.hs.length ≤ 8) ∧ (∀ j o, (∀ id ∈ ids, id.2 ≠ j) → h[j]? = some o → h'[j]? = some o) ∧ h'.length = h.length := by
  rcases c with rfl | ⟨i, id, r, hs, ei, er, hl, rfl⟩
  · exact ⟨rows, t, rfl, hb, fun j o _ e => e, rfl⟩
  · have hid := List.mem_of_getElem? ei
    have hi := (List.getElem?_eq_some_iff.mp er).1
    obtain ⟨g1, g2⟩ := t.rw.2 i id r ei er
    have cross : ∀ (i' : Nat) (id' : Nat × Nat) (r' : TR), ids[i']? = some id' → rows[i']? = some r' → id'.1 ≠ id.2 := fun i' id' r' e1 e2 e => by
      obtain ⟨k1, _⟩ := t.rw.2 i' id' r' e1 e2
      rw [e, g2] at k1
      have : r.hs.map zA = [.d (.int (r'.a : Nat)), .d (.int r'.n), .r id'.2] := O.lst.inj (Option.some.inj k1)
      have e3 : (r.hs.map zA)[2]? = some (.r id'.2) := by rw [this]; rfl
      rw [List.getElem?_map] at e3
      cases q : r.hs[2]? with
      | none => rw [q] at e3; cases e3
      | some w => rw [q] at e3; cases e3
    refine ⟨rows.set i ⟨r.a, r.n, hs⟩, ⟨get_set t.gr (t.kr id hid).2, ⟨by rw [List.length_set]; exact t.rw.1, fun i' id' r' e1 e2 => ?_⟩, t.nd, t.kr⟩, ?_, fun q hq => ?_, fun j o n e => get_set e (n id hid), List.length_set ..⟩
    · by_cases z : i = i'
      · subst z
        rw [ei] at e1
        cases e1
        rw [List.getElem?_set_self hi] at e2
        cases e2
        exact ⟨get_set g1 (Ne.symm (cross i id r ei er)), get_same g2⟩
      · rw [List.getElem?_set_ne z] at e2
        obtain ⟨k1, k2⟩ := t.rw.2 i' id' r' e1 e2
        refine ⟨get_set k1 (Ne.symm (cross i' id' r' e1 e2)), get_set k2 fun e => z ?_⟩
        have n1 : (ids.map (·.2))[i]? = some id.2 := by rw [List.getElem?_map, ei]; rfl
        have n2 : (ids.map (·.2))[i']? = some id'.2 := by rw [List.getElem?_map, e1]; rfl
        have l1 := (List.getElem?_eq_some_iff.mp n1).1
        exact (List.getElem?_inj l1 t.nd).mp (by rw [n1, n2, e])
    · rw [List.map_set]
      refine List.ext_getElem? fun k => ?_
      by_cases z : i = k
      · subst z
        rw [List.getElem?_set_self (by rw [List.length_map]; exact hi), List.getElem?_map, er]
        rfl
      · rw [List.getElem?_set_ne z]
    · rcases List.mem_or_eq_of_mem_set hq with q1 | q1
      · exact hb q q1
      · subst q1
        exact hl
end KK

set_option maxHeartbeats 2000000
open PySem PySem.Spec PyProof.Rows L2 Tq
namespace KK
open PySem PySem.Spec PyProof.Rows L2 Tq
local macro_rules | `(tactic| wtm_at "tq_call") => `(tactic| (((with_reducible apply at_c); focus (with_reducible assumption)); omega))
local macro_rules | `(tactic| wtm_at "tq_sh") => `(tactic| first | exact Shp.int _ | exact Shp.non | exact Shp.bl _ | exact Shp.str (by decide +kernel) | with_reducible assumption | ((with_reducible refine Shp.tup ?_); wtm_at "tq_sh") | exact all_nilP | (refine all_consP ?_ ?_ <;> wtm_at "tq_sh"))
def k1 : KeT := ⟨[(.tup [.int 0, .int 1, .int 0], .tup [.str "table", .str "k"])], [], [], []⟩
theorem k1_ok : KeOk k1 := ⟨by decide, by decide, by decide, by decide, fun t h => by cases h⟩
/-- what is kept is small -/
def KpOk (o : Option KeT) : Prop := (∀ x, o = some x → KeOk x) ∧ Shp 4 (odD o)
theorem kp_none : KpOk none := ⟨fun x h => (by cases h), Shp.non⟩
theorem kp0 : KpOk (some k0) := ⟨fun x h => (by cases h; exact k0_ok), show Shp 4 (.tup [.tup [], .tup [], .tup [], .tup []]) by wtm_at "tq_sh"⟩
theorem kp1 : KpOk (some k1) := ⟨fun x h => (by cases h; exact k1_ok), show Shp 4 (.tup [.tup [.tup [.tup [.int 0, .int 1, .int 0], .tup [.str "table", .str "k"]]], .tup [], .tup [], .tup []]) by wtm_at "tq_sh"⟩
def S10 : MS := (mIf (mTB (mBin (gEq false) (mBin gMod (mBin gDiv (mCallP sem__law_at (lenIs 2 (maCons (mVar 1) (maCons (mC (.int 9)) maNil)))) (mC (.int 3))) (mC (.int 2))) (mC (.int 0)))) (mSeq (mIf (mTB (mBin gGt (mBin gGet (mVar 4) (mC (.int 0))) (mC (.int 0)))) (mSeq (mDrop (mM1 tokL gApp (mUn (gFld FT "capabilities") (mVar 8)) (mTup (maCons (mTup (maCons (mC (.int 0)) (maCons (mC (.int 1)) (maCons (mC (.int 0)) maNil)))) (maCons (mC .non) (maCons (mC (.int 1)) (maCons (mUn gTupOf C3_law) maNil)))))))
 (mSetI true (mUn (gFld FT "kept") (mVar 8)) (mBin gMod (mBin gDiv (mCallP sem__law_at (lenIs 2 (maCons (mVar 1) (maCons (mC (.int 9)) maNil)))) (mC (.int 6))) (mC (.int 4))) (mMakeP "Kept" 5 sem_Kept____init__ (mDfl [.kt []] (maCons (mLst false (maCons (mTup (maCons (mTup (maCons (mC (.int 0)) (maCons (mC (.int 1)) (maCons (mC (.int 0)) maNil)))) (maCons (mTup (maCons (mC (.str "table")) (maCons (mC (.str "k")) maNil))) maNil))) maNil)) (maCons (mLst false maNil) (maCons (mLst false maNil) maNil))))))) mNx)
 (mSeq (mSetI true (mUn (gFld FT "kept") (mVar 8)) (mBin gMod (mBin gDiv (mCallP sem__law_at (lenIs 2 (maCons (mVar 1) (maCons (mC (.int 9)) maNil)))) (mC (.int 24))) (mC (.int 4))) (mC .non))
 (mSetI true (mUn (gFld FT "kept") (mVar 8)) (mBin gMod (mBin gDiv (mCallP sem__law_at (lenIs 2 (maCons (mVar 1) (maCons (mC (.int 9)) maNil)))) (mC (.int 96))) (mC (.int 4))) (mC .non)))) mNx)
abbrev tD : D := .tup [.bl true, .bl true, .bl false]
theorem c3_law (τ : Sl) (h : Hq) (e : τ[6]? = some none ∨ True) (a0 a1 a2 a3 a4 a5 a6 a7 a8 a9 a10 a11 : Option A) : C3_law [a0, a1, a2, a3, a4, a5, a6, a7, a8, a9, a10, a11] h = some (.ok (.d (.lst [tD, tD, tD, tD])) h) := by
  unfold C3_law
  rw [lc_map (h1 := h) (xs := List.range 4) iD (fun _ => A.d tD) (x_Rg (q := 4) rfl (by decide)) (by decide) fun n x e => ⟨[a0, a1, a2, a3, a4, a5, some (iD x), a7, a8, a9, a10, a11], rfl, by unfold E3_law; wtm_at "tq_x"⟩]
  exact x_mkL (ds := [tD, tD, tD, tD]) rfl (by decide)
section
variable {ns ds : List Int} {m k kc : Nat} {h0 : Hq} {a3 a5 a6 a7 a9 a10 a11 : Option A}
theorem keptset {cut : List Int} {caps : List D} {kept : List (Option KeT)} {chs : List (List Row)} (hk : h0.length = k) (hl : kept.length = 4) {a4 : Option A} {q : Nat} (hq : q < 4) {o : Option KeT} {mv mi : E A} (e1 : mv (G ns ds m a3 a4 a5 a6 a7 (some (.r k)) a9 a10 a11) (h0 ++ stH k m cut caps kept chs) = some (.ok (.d (okD o)) (h0 ++ stH k m cut caps kept chs))) (e2 : mi (G ns ds m a3 a4 a5 a6 a7 (some (.r k)) a9 a10 a11) (h0 ++ stH k m cut caps kept chs) = some (.ok (.d (.int (q : Nat))) (h0 ++ stH k m cut caps kept chs))) :
    mSetI true (mUn (gFld FT "kept") (mVar 8)) mi mv (G ns ds m a3 a4 a5 a6 a7 (some (.r k)) a9 a10 a11) (h0 ++ stH k m cut caps kept chs) = some (.nx (G ns ds m a3 a4 a5 a6 a7 (some (.r k)) a9 a10 a11) (h0 ++ stH k m cut caps (kept.set q o) chs)) := by
  have g0 := st_get0 (m := m) (cut := cut) (caps := caps) (kept := kept) (chs := chs) hk
  have g3 := st_get3 (m := m) (cut := cut) (caps := caps) (kept := kept) (chs := chs) hk
  have s3 := st_set3 (m := m) (cut := cut) (caps := caps) (kept := kept) (kept' := kept.set q o) (chs := chs) hk
  rw [List.map_set] at s3
  refine s_SetI (w := .d (okD o)) (k := k + 3) (z := (q : Nat)) (n := q) e1 ?_ e2 g3 (ix_nat (by rw [List.length_map]; omega)) s3
  generalize h0 ++ stH k m cut caps kept chs = h at *
  wtm_at "tq_x"
theorem set_all {kept : List (Option KeT)} {q : Nat} {o : Option KeT} (h : ∀ x ∈ kept, KpOk x) (ho : KpOk o) : ∀ x ∈ kept.set q o, KpOk x := fun x hx => by
  rcases List.mem_or_eq_of_mem_set hx with z | z
  · exact h x z
  · rw [z]; exact ho
theorem s10_ok (hd : Drs ds) (hk : h0.length = k) (hm : 1 ≤ m) {cut cc : List Int} (hc : cut.length = m) (gc : h0[kc]? = some (.lst (cut.map zA))) {chs : List (List Row)} :
    ∃ (caps : List D) (kept : List (Option KeT)), caps.length ≤ 1 ∧ (∀ d ∈ caps, Shp 4 d) ∧ kept.length = 4 ∧ (∀ o ∈ kept, KpOk o) ∧
      S10 (G ns ds m a3 (some (.r kc)) a5 a6 a7 (some (.r k)) a9 a10 a11) (h0 ++ stH k m cc [] [some k0, some k0, some k0, some k0] chs) = some (.nx (G ns ds m a3 (some (.r kc)) a5 a6 a7 (some (.r k)) a9 a10 a11) (h0 ++ stH k m cc caps kept chs)) := by
  have r9 := at_r hd 9 (by decide)
  have k0s : ∀ o ∈ ([some k0, some k0, some k0, some k0] : List (Option KeT)), KpOk o := fun o ho => by
    simp only [List.mem_cons, List.not_mem_nil, or_false] at ho
    rcases ho with rfl | rfl | rfl | rfl <;> exact kp0
  by_cases z : atv ds 9 / 3 % 2 = 0
  · obtain ⟨q1, e1, hq1⟩ : ∃ q : Nat, atv ds 9 / 6 % 4 = (q : Nat) ∧ q < 4 := ⟨(atv ds 9 / 6 % 4).toNat, by omega, by omega⟩
    obtain ⟨q2, e2, hq2⟩ : ∃ q : Nat, atv ds 9 / 24 % 4 = (q : Nat) ∧ q < 4 := ⟨(atv ds 9 / 24 % 4).toNat, by omega, by omega⟩
    obtain ⟨q3, e3, hq3⟩ : ∃ q : Nat, atv ds 9 / 96 % 4 = (q : Nat) ∧ q < 4 := ⟨(atv ds 9 / 96 % 4).toNat, by omega, by omega⟩
    have ix : ∀ {H : Hq} {w : Int} {q : Nat}, atv ds 9 / w % 4 = (q : Nat) → divOk (atv ds 9) w = true → mBin gMod (mBin gDiv (mCallP sem__law_at (lenIs 2 (maCons (mVar 1) (maCons (mC (.int 9)) maNil)))) (mC (.int w))) (mC (.int 4)) (G ns ds m a3 (some (.r kc)) a5 a6 a7 (some (.r k)) a9 a10 a11) H = some (.ok (.d (.int (q : Nat))) H) := fun e dk => by
      rw [← e]
      wtm_at "tq_x"
    have t1 : ∀ H, mTB (mBin (gEq false) (mBin gMod (mBin gDiv (mCallP sem__law_at (lenIs 2 (maCons (mVar 1) (maCons (mC (.int 9)) maNil)))) (mC (.int 3))) (mC (.int 2))) (mC (.int 0))) (G ns ds m a3 (some (.r kc)) a5 a6 a7 (some (.r k)) a9 a10 a11) H = some (.ok (decide (atv ds 9 / 3 % 2 = 0)) H) := fun H => by wtm_at "tq_x"
    have main : ∃ (caps : List D) (kept : List (Option KeT)), caps.length ≤ 1 ∧ (∀ d ∈ caps, Shp 4 d) ∧ kept.length = 4 ∧ (∀ o ∈ kept, KpOk o) ∧ (mIf (mTB (mBin gGt (mBin gGet (mVar 4) (mC (.int 0))) (mC (.int 0)))) (mSeq (mDrop (mM1 tokL gApp (mUn (gFld FT "capabilities") (mVar 8)) (mTup (maCons (mTup (maCons (mC (.int 0)) (maCons (mC (.int 1)) (maCons (mC (.int 0)) maNil)))) (maCons (mC .non) (maCons (mC (.int 1)) (maCons (mUn gTupOf C3_law) maNil)))))))
 (mSetI true (mUn (gFld FT "kept") (mVar 8)) (mBin gMod (mBin gDiv (mCallP sem__law_at (lenIs 2 (maCons (mVar 1) (maCons (mC (.int 9)) maNil)))) (mC (.int 6))) (mC (.int 4))) (mMakeP "Kept" 5 sem_Kept____init__ (mDfl [.kt []] (maCons (mLst false (maCons (mTup (maCons (mTup (maCons (mC (.int 0)) (maCons (mC (.int 1)) (maCons (mC (.int 0)) maNil)))) (maCons (mTup (maCons (mC (.str "table")) (maCons (mC (.str "k")) maNil))) maNil))) maNil)) (maCons (mLst false maNil) (maCons (mLst false maNil) maNil))))))) mNx) (G ns ds m a3 (some (.r kc)) a5 a6 a7 (some (.r k)) a9 a10 a11) (h0 ++ stH k m cc [] [some k0, some k0, some k0, some k0] chs) = some (.nx (G ns ds m a3 (some (.r kc)) a5 a6 a7 (some (.r k)) a9 a10 a11) (h0 ++ stH k m cc caps kept chs)) := by
      have gc' : (h0 ++ stH k m cc [] [some k0, some k0, some k0, some k0] chs)[kc]? = some (.lst (cut.map zA)) := app_keep gc
      have g1 : (cut.map zA)[0]? = some (zA (cut.getD 0 0)) := by rw [List.getElem?_map, getd (by omega)]; rfl
      have tt : ∀ H : Hq, H[kc]? = some (.lst (cut.map zA)) → mTB (mBin gGt (mBin gGet (mVar 4) (mC (.int 0))) (mC (.int 0))) (G ns ds m a3 (some (.r kc)) a5 a6 a7 (some (.r k)) a9 a10 a11) H = some (.ok (decide (0 < cut.getD 0 0)) H) := fun H gH => by
        exact x_TB (x_Bin (x_Bin (x_Var rfl) x_C (g_getc gH (n := 0) (ix_nat (l := (cut.map zA).length) (i := 0) (by rw [List.length_map]; omega)) g1)) x_C g_gt)
      by_cases y : 0 < cut.getD 0 0
      · refine ⟨[.tup [.tup [.int 0, .int 1, .int 0], .non, .int 1, .tup [tD, tD, tD, tD]]], ([some k0, some k0, some k0, some k0] : List (Option KeT)).set q1 (some k1), by decide, by wtm_at "tq_sh", by rw [List.length_set]; rfl, set_all k0s kp1, ?_⟩
        refine s_IfT (tt _ gc') (decide_eq_true y) ?_
        have g0 := st_get0 (m := m) (cut := cc) (caps := []) (kept := [some k0, some k0, some k0, some k0]) (chs := chs) hk
        have g2 := st_get2 (m := m) (cut := cc) (caps := []) (kept := [some k0, some k0, some k0, some k0]) (chs := chs) hk
        have s2 := st_set2 (m := m) (cut := cc) (caps := []) (caps' := [.tup [.tup [.int 0, .int 1, .int 0], .non, .int 1, .tup [tD, tD, tD, tD]]]) (kept := [some k0, some k0, some k0, some k0]) (chs := chs) hk
        refine s_Seq (τ1 := G ns ds m a3 (some (.r kc)) a5 a6 a7 (some (.r k)) a9 a10 a11) (h1 := h0 ++ stH k m cc [.tup [.tup [.int 0, .int 1, .int 0], .non, .int 1, .tup [tD, tD, tD, tD]]] [some k0, some k0, some k0, some k0] chs) ?_ ?_
        · have c3 := c3_law [] (h0 ++ stH k m cc [] [some k0, some k0, some k0, some k0] chs) (.inr trivial) (some (.d (.scr ns))) (some (.d (.lst (ds.map D.int)))) (some (.d (.int (m : Nat)))) a3 (some (.r kc)) a5 a6 a7 (some (.r k)) a9 a10 a11
          refine s_Drop (x_M1 (a := .r (k + 2)) (h1 := h0 ++ stH k m cc [] [some k0, some k0, some k0, some k0] chs) ?_ (tokL_r g2) (b := .d (.tup [.tup [.int 0, .int 1, .int 0], .non, .int 1, .tup [tD, tD, tD, tD]])) (h2 := h0 ++ stH k m cc [] [some k0, some k0, some k0, some k0] chs) ?_ (g_app g2 (by decide) s2))
          · generalize h0 ++ stH k m cc [] [some k0, some k0, some k0, some k0] chs = h at *
            wtm_at "tq_x"
          · generalize h0 ++ stH k m cc [] [some k0, some k0, some k0, some k0] chs = h at *
            wtm_at "tq_x"
        · refine keptset hk rfl hq1 (o := some k1) ?_ (ix e1 rfl)
          generalize h0 ++ stH k m cc [.tup [.tup [.int 0, .int 1, .int 0], .non, .int 1, .tup [tD, tD, tD, tD]]] [some k0, some k0, some k0, some k0] chs = h at *
          have := kinit0_ok k1_ok rfl
          have e : mDfl [.kt []] (maCons (mLst false (maCons (mTup (maCons (mTup (maCons (mC (.int 0)) (maCons (mC (.int 1)) (maCons (mC (.int 0)) maNil)))) (maCons (mTup (maCons (mC (.str "table")) (maCons (mC (.str "k")) maNil))) maNil))) maNil)) (maCons (mLst false maNil) (maCons (mLst false maNil) maNil))) (G ns ds m a3 (some (.r kc)) a5 a6 a7 (some (.r k)) a9 a10 a11) h = some (.ok [.d (.lst (k1.acts.map pr)), .d (.lst (k1.sums.map pr)), .d (.lst (k1.texts.map tx)), .d (.kt [])] h) := by
            refine x_Dfl (ws := [.d (.lst (k1.acts.map pr)), .d (.lst (k1.sums.map pr)), .d (.lst (k1.texts.map tx))]) ?_ rfl
            show _ = some (Rs.ok [A.d (.lst [.tup [.tup [.int 0, .int 1, .int 0], .tup [.str "table", .str "k"]]]), A.d (.lst []), A.d (.lst [])] h)
            wtm_at "tq_x"
          exact x_MakeP (n := 5) (C := "Kept") e rfl (by wtm_at "tq_x") this (view_n rfl (by wtm_at "tq_x"))
      · refine ⟨[], [some k0, some k0, some k0, some k0], by decide, by wtm_at "tq_sh", rfl, k0s, ?_⟩
        exact s_IfF (tt _ gc') (decide_eq_false y) s_Nx
    obtain ⟨caps, kept, p1, p2, p3, p4, em⟩ := main
    refine ⟨caps, (kept.set q2 none).set q3 none, p1, p2, by rw [List.length_set, List.length_set]; exact p3, set_all (set_all p4 kp_none) kp_none, ?_⟩
    unfold S10
    refine s_IfT (t1 _) (decide_eq_true z) (s_Seq em (s_Seq (keptset hk p3 hq2 (o := none) x_C (ix e2 rfl)) (keptset hk (by rw [List.length_set]; exact p3) hq3 (o := none) x_C (ix e3 rfl))))
  · refine ⟨[], [some k0, some k0, some k0, some k0], by decide, by wtm_at "tq_sh", rfl, k0s, ?_⟩
    unfold S10
    generalize h0 ++ stH k m cc [] [some k0, some k0, some k0, some k0] chs = h at *
    wtm_at "tq_x"
end
end KK

set_option maxHeartbeats 2000000
open PySem PySem.Spec PyProof.Rows L2 Tq
namespace KK
open PySem PySem.Spec PyProof.Rows L2 Tq
local macro_rules | `(tactic| wtm_at "tq_call") => `(tactic| (((with_reducible apply at_c); focus (with_reducible assumption)); omega))
section
variable {ns ds : List Int} {m k kc : Nat} {h0 : Hq} {a3 a5 a6 a7 a9 a10 a11 : Option A}
def cutN (cut : List Int) (m n : Nat) : List Int := (List.range m).map fun j => if j < n then cut.getD j 0 else 0
theorem cutN0 (cut : List Int) (m : Nat) : cutN cut m 0 = List.replicate m 0 := by
  unfold cutN
  show (List.range m).map (fun _ => (0 : Int)) = _
  rw [List.map_const', List.length_range]
theorem cutNm {cut : List Int} {m : Nat} (h : cut.length = m) : cutN cut m m = cut := by
  unfold cutN
  refine List.ext_getElem? fun i => ?_
  rw [List.getElem?_map]
  rcases Nat.lt_or_ge i m with z | z
  · rw [List.getElem?_range z, getd (by omega)]
    show some (if i < m then cut.getD i 0 else 0) = _
    rw [if_pos z]
  · rw [List.getElem?_eq_none (by rw [List.length_range]; exact z), List.getElem?_eq_none (by omega)]
    rfl
theorem l2_law (hk : h0.length = k) (hm : m ≤ 6) {cut : List Int} (hc : cut.length = m) (gc : h0[kc]? = some (.lst (cut.map zA))) {caps : List D} {kept : List (Option KeT)} {chs : List (List Row)} :
    ∃ b6, L2_law (G ns ds m a3 (some (.r kc)) a5 a6 a7 (some (.r k)) a9 a10 a11) (h0 ++ stH k m (List.replicate m 0) caps kept chs) = some (.nx (G ns ds m a3 (some (.r kc)) a5 b6 a7 (some (.r k)) a9 a10 a11) (h0 ++ stH k m cut caps kept chs)) := by
  obtain ⟨τ', h', ⟨b6, rfl, rfl⟩, e⟩ := for_inv (gg := mgName 6) (mb := B2_law) (xs := List.range m) iD (τ := G ns ds m a3 (some (.r kc)) a5 a6 a7 (some (.r k)) a9 a10 a11) (h := h0 ++ stH k m (List.replicate m 0) caps kept chs) (fun n τ h => ∃ b6, τ = G ns ds m a3 (some (.r kc)) a5 b6 a7 (some (.r k)) a9 a10 a11 ∧ h = h0 ++ stH k m (cutN cut m n) caps kept chs) ⟨a6, rfl, by rw [cutN0]⟩ (by wtm_at "tq_len") (fun n x τ h e i => by
    obtain ⟨b6, rfl, rfl⟩ := i
    obtain ⟨hn, rfl⟩ := rangeget e
    refine ⟨G ns ds m a3 (some (.r kc)) a5 (some (iD x)) a7 (some (.r k)) a9 a10 a11, rfl, G ns ds m a3 (some (.r kc)) a5 (some (iD x)) a7 (some (.r k)) a9 a10 a11, h0 ++ stH k m (cutN cut m (x + 1)) caps kept chs, ⟨_, rfl, rfl⟩, .inl ?_⟩
    have g0 := st_get0 (m := m) (cut := cutN cut m x) (caps := caps) (kept := kept) (chs := chs) hk
    have g1 := st_get1 (m := m) (cut := cutN cut m x) (caps := caps) (kept := kept) (chs := chs) hk
    have s1 := st_set1 (m := m) (cut := cutN cut m x) (cut' := cutN cut m (x + 1)) (caps := caps) (kept := kept) (chs := chs) hk
    have gc' : (h0 ++ stH k m (cutN cut m x) caps kept chs)[kc]? = some (.lst (cut.map zA)) := app_keep gc
    have ga : (cut.map zA)[x]? = some (zA (cut.getD x 0)) := by rw [List.getElem?_map, getd (by omega)]; rfl
    have lc : (cut.map zA).length = m := by rw [List.length_map]; exact hc
    have ln : ((cutN cut m x).map zA).length = m := by unfold cutN; rw [List.length_map, List.length_map, List.length_range]
    have st : ((cutN cut m x).map zA).set x (zA (cut.getD x 0)) = (cutN cut m (x + 1)).map zA := by
      unfold cutN
      rw [List.map_map, List.map_map, map_range_set hn]
      refine List.map_congr_left fun j hj => ?_
      show (if j = x then zA (cut.getD x 0) else zA (if j < x then cut.getD j 0 else 0)) = zA (if j < x + 1 then cut.getD j 0 else 0)
      by_cases z : j = x
      · subst z
        rw [if_pos rfl, if_pos (by omega)]
      · rw [if_neg z]
        by_cases y : j < x
        · rw [if_pos y, if_pos (by omega)]
        · rw [if_neg y, if_neg (by omega)]
    rw [← st] at s1
    unfold B2_law
    refine s_SetI (w := zA (cut.getD x 0)) (k := k + 1) (z := (x : Nat)) (n := x) (h1 := h0 ++ stH k m (cutN cut m x) caps kept chs) ?_ ?_ (x_Var rfl) g1 (ix_nat (by omega)) s1
    · exact x_Bin (x_Var rfl) (x_Var rfl) (g_getc gc' (ix_nat (by omega)) ga)
    · generalize h0 ++ stH k m (cutN cut m x) caps kept chs = h at *
      wtm_at "tq_x")
  rw [List.length_range, cutNm hc] at e
  exact ⟨b6, s_For (x_Rg (q := m) (x_Var rfl) (by show _ ≤ 16777216; omega)) e⟩
theorem l3_law (hd : Drs ds) (hk : h0.length = k) (hm : m ≤ 6) {kr : Nat} {ids : List (Nat × Nat)} {rows : List TR} (t : RH h0 kr ids rows) (hl : rows.length ≤ 12) (ha : ∀ r ∈ rows, r.a < m) (hh : ∀ r ∈ rows, r.hs.length ≤ 8) {cut : List Int} {caps : List D} {kept : List (Option KeT)} {a4 : Option A} :
    ∃ (b6 : Option A) (rs : List Row), rs.map tr = rows ∧ (∀ r ∈ rs, RowS r) ∧ L3_law (G ns ds m (some (.r kr)) a4 a5 a6 a7 (some (.r k)) a9 a10 a11) (h0 ++ stH k m cut caps kept (List.replicate m [])) = some (.nx (G ns ds m (some (.r kr)) a4 a5 b6 a7 (some (.r k)) a9 a10 a11) (h0 ++ stH k m cut caps kept (chsOf m rs))) := by
  have li : (ids.map fun id => A.r id.1).length = rows.length := by rw [List.length_map, t.rw.1]
  obtain ⟨τ', h', ⟨b6, rs, rfl, rfl, hrs, hss⟩, e⟩ := for_inv (gg := mgName 6) (mb := B3_law) (xs := List.range rows.length) iD (τ := G ns ds m (some (.r kr)) a4 a5 a6 a7 (some (.r k)) a9 a10 a11) (h := h0 ++ stH k m cut caps kept (List.replicate m [])) (fun n τ h => ∃ (b6 : Option A) (rs : List Row), τ = G ns ds m (some (.r kr)) a4 a5 b6 a7 (some (.r k)) a9 a10 a11 ∧ h = h0 ++ stH k m cut caps kept (chsOf m rs) ∧ rs.map tr = rows.take n ∧ ∀ r ∈ rs, RowS r) ⟨a6, [], rfl, by rw [chsOf_nil], rfl, fun r h => by cases h⟩ (by wtm_at "tq_len") (fun n x τ h e i => by
    obtain ⟨b6, rs, rfl, rfl, hrs, hss⟩ := i
    obtain ⟨hn, rfl⟩ := rangeget e
    have er : rows[x]? = some rows[x] := List.getElem?_eq_getElem hn
    obtain ⟨id, ei⟩ : ∃ id, ids[x]? = some id := ⟨ids[x]'(by rw [t.rw.1]; exact hn), List.getElem?_eq_getElem (by rw [t.rw.1]; exact hn)⟩
    obtain ⟨q1, q2⟩ := t.rw.2 x id _ ei er
    have ha' := ha _ (List.mem_of_getElem? er)
    have hh' := hh _ (List.mem_of_getElem? er)
    have tk : rows.take (x + 1) = rows.take x ++ [rows[x]] := by rw [List.take_add_one, er]; rfl
    generalize rows[x] = r at *
    obtain ⟨R, e1, e2, e3, e4, ec⟩ := change_ok hd (i := 60 + (x : Int)) (n := r.n) (a := r.a) (hs := r.hs) (by omega) (by omega) (h := h0 ++ stH k m cut caps kept (chsOf m rs)) (kr := id.1) (kh := id.2) (app_keep q1) (app_keep q2)
    have cl : (chsOf m rs).length = m := by unfold chsOf; rw [List.length_map, List.length_range]
    have rl : rs.length = x := by
      have := congrArg List.length hrs
      rw [List.length_map, List.length_take] at this
      omega
    have ga : ((chsOf m rs).getD R.a []).length ≤ 4000 := by
      rw [e1, chsOf_get rs ha']
      have := List.length_filter_le (fun q : Row => decide (q.a = r.a)) rs
      omega
    have ad := add_ok (r := R) (cut := cut) (caps := caps) (kept := kept) hk cl (by rw [e1]; exact ha') hm ga
    rw [chsOf_add (by rw [e1]; exact ha')] at ad
    have gr : (h0 ++ stH k m cut caps kept (chsOf m rs))[kr]? = some (.lst (ids.map fun id => .r id.1)) := app_keep t.gr
    have ir : (ids.map fun id => A.r id.1)[x]? = some (.r id.1) := by rw [List.getElem?_map, ei]; rfl
    have g0 := st_get0 (m := m) (cut := cut) (caps := caps) (kept := kept) (chs := chsOf m rs) hk
    refine ⟨G ns ds m (some (.r kr)) a4 a5 (some (iD x)) a7 (some (.r k)) a9 a10 a11, rfl, G ns ds m (some (.r kr)) a4 a5 (some (iD x)) a7 (some (.r k)) a9 a10 a11, h0 ++ stH k m cut caps kept (chsOf m (rs ++ [R])), ⟨_, rs ++ [R], rfl, rfl, ?_, fun q hq => ?_⟩, .inl ?_⟩
    · rw [tk, List.map_append, hrs]
      congr 1
      show [tr R] = [r]
      unfold tr
      rw [e1, e2, e3]
    · rcases List.mem_append.mp hq with z | z
      · exact hss q z
      · rw [List.mem_singleton.mp z]
        exact e4
    · unfold B3_law
      refine s_Drop (w := .d .non) (x_Meth (a := .r k) (h1 := h0 ++ stH k m cut caps kept (chsOf m rs)) (x_Var rfl) (ins_r g0 (by decide +kernel)) (ws := [.d (chg R)]) (h2 := h0 ++ stH k m cut caps kept (chsOf m rs)) (x_cons ?_ x_nil) rfl ad)
      refine x_Call (ws := [.d (.lst (ds.map D.int)), .d (.int (60 + (x : Int))), .r id.1]) (h1 := h0 ++ stH k m cut caps kept (chsOf m rs)) (x_len (x_cons (x_Var rfl) (x_cons (x_Bin x_C (x_Var rfl) g_add) (x_cons (x_Bin (x_Var rfl) (x_Var rfl) (g_getc gr (ix_nat (by rw [li]; exact hn)) ir)) x_nil))) rfl) ec)
  rw [List.length_range, List.take_of_length_le (Nat.le_refl _)] at hrs
  refine ⟨b6, rs, hrs, hss, s_For (x_Rg (q := rows.length) ?_ (by show _ ≤ 16777216; omega)) e⟩
  have gr : (h0 ++ stH k m cut caps kept (List.replicate m []))[kr]? = some (.lst (ids.map fun id => .r id.1)) := app_keep t.gr
  have := g_lenc gr
  rw [li] at this
  exact x_Un (x_Var rfl) this
theorem vw_rows {h : Hq} {kr : Nat} {ids : List (Nat × Nat)} {rows : List TR} (t : RH h kr ids rows) : view h (.r kr) = some (.lst (rows.map trD)) ∧ ∀ (i : Nat) (id : Nat × Nat) (r : TR), ids[i]? = some id → rows[i]? = some r → view h (.r id.1) = some (trD r) := by
  have one : ∀ (n : Nat) (i : Nat) (id : Nat × Nat) (r : TR), ids[i]? = some id → rows[i]? = some r → vw (n + 3) h (.r id.1) = some (trD r) := fun n i id r e1 e2 => by
    obtain ⟨g1, g2⟩ := t.rw.2 i id r e1 e2
    have v2 : vw (n + 2) h (.r id.2) = some (.lst (r.hs.map D.int)) := by
      have g2' : h[id.2]? = some (.lst ((r.hs.map D.int).map A.d)) := by rw [g2, List.map_map]; rfl
      exact vw_cell g2'
    unfold vw
    rw [g1]
    dsimp only
    rw [views_cons (f := vw (n + 2) h) (vw_d _ _ _) (views_cons (vw_d _ _ _) (views_cons v2 views_nil))]
    rfl
  refine ⟨?_, fun i id r e1 e2 => one 29 i id r e1 e2⟩
  have go : ∀ (is : List (Nat × Nat)) (rs : List TR), is.length = rs.length → (∀ (i : Nat) (id : Nat × Nat) (r : TR), is[i]? = some id → rs[i]? = some r → vw 31 h (.r id.1) = some (trD r)) → mapMn (vw 31 h) (is.map fun id => .r id.1) = some (rs.map trD) := by
    intro is
    induction is with
    | nil =>
      intro rs hl _
      cases rs with
      | nil => rfl
      | cons r rs => simp at hl
    | cons id is ih =>
      intro rs hl hv
      cases rs with
      | nil => simp at hl
      | cons r rs =>
        rw [List.map_cons, List.map_cons]
        exact views_cons (hv 0 id r rfl rfl) (ih rs (by simpa using hl) fun i id' r' e1 e2 => hv (i + 1) id' r' (by simpa using e1) (by simpa using e2))
  show vw 32 h (.r kr) = _
  unfold vw
  rw [t.gr]
  dsimp only
  rw [go ids rows t.rw.1 fun i id r e1 e2 => one 28 i id r e1 e2]
  rfl
theorem l4_law {H : Hq} (hm : m ≤ 6) {kr kn : Nat} {ids : List (Nat × Nat)} {rows : List TR} (t : RH H kr ids rows) (hl : rows.length ≤ 12) (ha : ∀ r ∈ rows, r.a < m) (hh : ∀ r ∈ rows, r.hs.length ≤ 8) {counts : List Int} (hc : counts.length = m) (gn : H[kn]? = some (.lst (counts.map zA))) {a4 a8 : Option A} :
    ∃ b7, L4_law (G ns ds m (some (.r kr)) a4 (some (.r kn)) a6 a7 a8 (some (.d (.bl true))) a10 a11) H = some (.nx (G ns ds m (some (.r kr)) a4 (some (.r kn)) a6 b7 a8 (some (.d (.bl (rows.all (lsB m counts rows))))) a10 a11) H) := by
  obtain ⟨v1, v2⟩ := vw_rows t
  have vn : view H (.r kn) = some (.lst (counts.map D.int)) := by
    have g : H[kn]? = some (.lst ((counts.map D.int).map A.d)) := by rw [gn, List.map_map]; rfl
    exact view_lst g
  obtain ⟨τ', h', e, b7, rfl, rfl⟩ := forC_inv (g := mgName 7) (mb := B4_law) (ws := ids.map fun id => A.r id.1) (k := kr) (τ := G ns ds m (some (.r kr)) a4 (some (.r kn)) a6 a7 a8 (some (.d (.bl true))) a10 a11) (h := H)
    (fun n τ h => ∃ b7 : Option A, τ = G ns ds m (some (.r kr)) a4 (some (.r kn)) a6 b7 a8 (some (.d (.bl ((rows.take n).all (lsB m counts rows))))) a10 a11 ∧ h = H)
    (fun n τ h i => by obtain ⟨_, _, rfl⟩ := i; exact t.gr)
    ⟨a7, rfl, rfl⟩
    (fun n w τ h hw i => by
      obtain ⟨b7, rfl, rfl⟩ := i
      obtain ⟨id, ei, rfl⟩ := map_get hw
      have hn := (List.getElem?_eq_some_iff.mp ei).1
      have hn2 : n < rows.length := by rw [← t.rw.1]; exact hn
      have er : rows[n]? = some rows[n] := List.getElem?_eq_getElem hn2
      have ha' := ha _ (List.mem_of_getElem? er)
      have hh' := hh _ (List.mem_of_getElem? er)
      have tk : rows.take (n + 1) = rows.take n ++ [rows[n]] := by rw [List.take_add_one, er]; rfl
      have vr := v2 n id _ ei er
      generalize rows[n] = r at *
      have ls := lsound_ok (counts := counts) (rows := rows) (r := r) hm hc ha' (by omega) (fun o ho => by have := hh o ho; omega) hl []
      have ev : mapMn (view h) [A.d (.int (m : Nat)), .r kn, .r kr, .r id.1] = some [.int (m : Nat), .lst (counts.map D.int), .lst (rows.map trD), trD r] := views_cons (vw_d _ _ _) (views_cons vn (views_cons v1 (views_cons vr views_nil)))
      have ec : mCallP sem__law_is_sound (lenIs 4 (maCons (mVar 2) (maCons (mVar 5) (maCons (mVar 3) (maCons (mVar 7) maNil))))) (G ns ds m (some (.r kr)) a4 (some (.r kn)) a6 (some (.r id.1)) a8 (some (.d (.bl ((rows.take n).all (lsB m counts rows))))) a10 a11) h = some (.ok (.d (.bl (lsB m counts rows r))) h) :=
        x_CallPv (ws := [.d (.int (m : Nat)), .r kn, .r kr, .r id.1]) (x_len (x_cons (x_Var rfl) (x_cons (x_Var rfl) (x_cons (x_Var rfl) (x_cons (x_Var rfl) x_nil)))) rfl) ev rfl ls view_d rfl
      refine ⟨G ns ds m (some (.r kr)) a4 (some (.r kn)) a6 (some (.r id.1)) a8 (some (.d (.bl ((rows.take n).all (lsB m counts rows))))) a10 a11, G ns ds m (some (.r kr)) a4 (some (.r kn)) a6 (some (.r id.1)) a8 (some (.d (.bl ((rows.take (n + 1)).all (lsB m counts rows))))) a10 a11, h, rfl, .inl ?_, _, rfl, rfl⟩
      rw [tk, List.all_append]
      have e1 : [r].all (lsB m counts rows) = lsB m counts rows r := by simp
      rw [e1]
      unfold B4_law
      have et := x_NotT (x_Tru ec (tru_b (h := h)))
      cases q : lsB m counts rows r with
      | true =>
        rw [q] at et
        rw [Bool.and_true]
        exact s_IfF et rfl s_Nx
      | false =>
        rw [q] at et
        rw [Bool.and_false]
        exact s_IfT et rfl (s_Set x_C rfl)) (by rw [List.length_map, t.rw.1]; show _ ≤ 16777216; omega)
  rw [List.length_map, t.rw.1, List.take_of_length_le (Nat.le_refl _)] at e
  exact ⟨b7, s_For (x_ItC (x_Var rfl) t.gr) e⟩
end
end KK

set_option maxHeartbeats 4000000
open PySem PySem.Spec PyProof.Rows L2 Tq
namespace KK
open PySem PySem.Spec PyProof.Rows L2 Tq
local macro_rules | `(tactic| wtm_at "tq_call") => `(tactic| (((with_reducible apply at_c); focus (with_reducible assumption)); omega))
theorem an_lt {m : Nat} {xs ys : List TR} (e : xs.map an = ys.map an) (h : ∀ r ∈ ys, r.a < m) : ∀ r ∈ xs, r.a < m := fun r hr => by
  have h1 : an r ∈ xs.map an := List.mem_map_of_mem hr
  rw [e] at h1
  obtain ⟨q, hq, e2⟩ := List.mem_map.mp h1
  have : q.a = r.a := congrArg Prod.fst e2
  have := h q hq
  omega
theorem an_len {xs ys : List TR} (e : xs.map an = ys.map an) : xs.length = ys.length := by
  have := congrArg List.length e
  rwa [List.length_map, List.length_map] at this
theorem sdat_shp {cut : List Int} {caps : List D} {kept : List (Option KeT)} {m : Nat} {rs : List Row} (h1 : ∀ d ∈ caps, Shp 4 d) (h2 : ∀ o ∈ kept, KpOk o) (h3 : ∀ r ∈ rs, RowS r) (ha : ∀ r ∈ rs, r.a < m) : (sdatD cut caps kept (chsOf m rs)).shp = true := by
  have row : ∀ r ∈ rs, Shp 7 (rowD r) := fun r hr => by
    obtain ⟨c, ⟨_, p⟩, ⟨_, q⟩⟩ := h3 r hr
    refine Shp.tup (all_consP (Shp.int _) (all_consP (Shp.int _) (all_consP (Shp.tupm (n := 5) fun x _ => Shp.int x) (all_consP (c.mono (by decide)) (all_consP (Shp.tup fun d hd => (p d hd)) (all_consP ?_ all_nilP))))))
    exact (Shp.tup (n := 3) fun d hd => q d hd).mono (by decide)
  refine Shp.shp (n := 10) (Shp.tup (all_consP ?_ (all_consP ?_ (all_consP ?_ (all_consP ?_ all_nilP))))) (by decide)
  · exact (Shp.tupm (n := 0) fun x _ => Shp.int x).mono (by decide)
  · exact (Shp.tup h1).mono (by decide)
  · exact (Shp.tupm (n := 4) fun o ho => (h2 o ho).2).mono (by decide)
  · refine Shp.tupm (n := 8) fun c hc => Shp.tupm (n := 7) fun r hr => row r ?_
    exact (chsOf_mem ha r).mp (List.mem_flatten.mpr ⟨c, hc, hr⟩)
theorem law_ok {ns : List Int} (hl : ns.length ≤ 63) (hb : ∀ z ∈ ns, Builtin.Int.intBits z ≤ 1048576) : ∃ h', sem_law [.d (.scr ns)] [] = some (.ok (.d (.bl true)) h') := by
  obtain ⟨ds, hd, e1⟩ := draws_ok hl hb
  obtain ⟨m, h1, ids, rows0, kt, hm, et, gt, t1, ro, hl0⟩ := told_ok hd
  obtain ⟨cut, hcl, hcb, ecut⟩ := cut_ok hd hm t1 ro hl0
  have ha0 : ∀ r ∈ rows0, r.a < m := fun r hr => (ro.r r hr).1
  have ln1 : ∀ id ∈ ids, id.1 < h1.length ∧ id.2 < h1.length := fun id hid => by
    obtain ⟨i, hi, e⟩ := List.getElem_of_mem hid
    have ei : ids[i]? = some id := by rw [List.getElem?_eq_getElem hi, e]
    have hi2 : i < rows0.length := by rw [← t1.rw.1]; exact hi
    obtain ⟨a, b⟩ := t1.rw.2 i id rows0[i] ei (List.getElem?_eq_getElem hi2)
    exact ⟨lt_of_get a, lt_of_get b⟩
  have gc2 : (h1 ++ [O.lst (cut.map zA)])[h1.length]? = some (.lst (cut.map zA)) := cell_app h1 _
  have l2 : (h1 ++ [O.lst (cut.map zA)]).length = h1.length + 1 := by rw [List.length_append]; rfl
  have t2 : RH (h1 ++ [.lst (cut.map zA)]) (m + 1) ids rows0 := t1.keep fun j o e => app_keep e
  generalize hkc : h1.length = kc at *
  generalize hh2 : h1 ++ [O.lst (cut.map zA)] = h2 at *
  obtain ⟨counts, b7, hcc, hcv, eL1⟩ := l1_law (ns := ns) (ds := ds) (kc := kc) hm t2 ro hl0 none none
  have gn3 : (h2 ++ [O.lst (counts.map zA)])[h2.length]? = some (.lst (counts.map zA)) := cell_app h2 _
  have gc3 : (h2 ++ [O.lst (counts.map zA)])[kc]? = some (.lst (cut.map zA)) := app_keep gc2
  have t3 : RH (h2 ++ [.lst (counts.map zA)]) (m + 1) ids rows0 := t2.keep fun j o e => app_keep e
  have l3 : (h2 ++ [O.lst (counts.map zA)]).length = kc + 2 := by rw [List.length_append, l2]; rfl
  have c1 : C1_law (G ns ds m (some (.r (m + 1))) (some (.r kc)) none none none none none none none) h2 = some (.ok (.r h2.length) (h2 ++ [.lst ((List.replicate m (0 : Int)).map zA)])) := by
    unfold C1_law
    rw [lc_map (h1 := h2) (xs := List.range m) iD (fun _ => zA 0) (x_Rg (q := m) (x_Var rfl) (by show _ ≤ 16777216; omega)) (by wtm_at "tq_len") fun n x e => ⟨G ns ds m (some (.r (m + 1))) (some (.r kc)) none (some (iD x)) none none none none none, rfl, by unfold E1_law; wtm_at "tq_x"⟩]
    rw [List.map_const', List.length_range, ← List.map_replicate]
    exact x_mkC (by rw [List.length_map, List.length_replicate]; show _ ≤ 16777216; omega)
  rw [l2] at gn3 eL1 c1
  generalize hh3 : h2 ++ [O.lst (counts.map zA)] = h3 at *
  obtain ⟨ids', t4, hid, eC2⟩ := c2_law (ns := ns) (ds := ds) (kc := kc) t3 hl0 hcl gc3 ha0 (some (.r (kc + 1))) none b7 (.inr trivial)
  have gc4 : (h3 ++ [O.lst (ids'.map fun id => .r id.1)])[kc]? = some (.lst (cut.map zA)) := app_keep gc3
  have gn4 : (h3 ++ [O.lst (ids'.map fun id => .r id.1)])[kc + 1]? = some (.lst (counts.map zA)) := app_keep gn3
  have hl1 : (rows0.filter fun r => decide (cut.getD r.a 0 < r.n)).length ≤ 12 := Nat.le_trans (List.length_filter_le _ _) hl0
  have ha1 : ∀ r ∈ (rows0.filter fun r => decide (cut.getD r.a 0 < r.n)), r.a < m := fun r hr => ha0 r (List.mem_filter.mp hr).1
  have hh1 : ∀ r ∈ (rows0.filter fun r => decide (cut.getD r.a 0 < r.n)), r.hs.length ≤ 8 := fun r hr => by
    have := (ro.r r (List.mem_filter.mp hr).1).2.1
    omega
  have nid : ∀ j, kc ≤ j → ∀ id ∈ ids', id.2 ≠ j := fun j hj id h => by
    have := (ln1 id (hid id h)).2
    omega
  generalize hr1 : (rows0.filter fun r => decide (cut.getD r.a 0 < r.n)) = rows1 at *
  generalize hh4 : h3 ++ [O.lst (ids'.map fun id => .r id.1)] = h4 at *
  -- the faults
  obtain ⟨h5, e5, c5⟩ := spoil_ok hd hm t4 hl1 ha1 (b := 5) (by decide)
  obtain ⟨rows2, t5, a5, hh5, kp5, le5⟩ := t4.spoilt c5 hh1
  have ha2 := an_lt a5 ha1
  have hl2 := an_len a5
  have r9 := at_r hd 9 (by decide)
  obtain ⟨h6, rows3, e6, t6, a6, hh6, kp6⟩ : ∃ h6 rows3, mIf (mTB (mBin (gEq false) (mBin gMod (mCallP sem__law_at (lenIs 2 (maCons (mVar 1) (maCons (mC (.int 9)) maNil)))) (mC (.int 3))) (mC (.int 2)))) (mDrop (mCall sem__law_spoil (lenIs 4 (maCons (mVar 1) (maCons (mC (.int 50)) (maCons (mVar 2) (maCons (mVar 3) maNil))))))) mNx (G ns ds m (some (.r h3.length)) (some (.r kc)) (some (.r (kc + 1))) none b7 none none none none) h5 = some (.nx (G ns ds m (some (.r h3.length)) (some (.r kc)) (some (.r (kc + 1))) none b7 none none none none) h6) ∧ RH h6 h3.length ids' rows3 ∧ rows3.map an = rows2.map an ∧ (∀ r ∈ rows3, r.hs.length ≤ 8) ∧ (∀ j o, (∀ id ∈ ids', id.2 ≠ j) → h5[j]? = some o → h6[j]? = some o) := by
    have tt : mTB (mBin (gEq false) (mBin gMod (mCallP sem__law_at (lenIs 2 (maCons (mVar 1) (maCons (mC (.int 9)) maNil)))) (mC (.int 3))) (mC (.int 2))) (G ns ds m (some (.r h3.length)) (some (.r kc)) (some (.r (kc + 1))) none b7 none none none none) h5 = some (.ok (decide (atv ds 9 % 3 = 2)) h5) := by wtm_at "tq_x"
    by_cases z : atv ds 9 % 3 = 2
    · obtain ⟨h6, e6, c6⟩ := spoil_ok hd hm t5 (by omega) ha2 (b := 50) (by decide)
      obtain ⟨rows3, t6, a6, hh6, kp6, _⟩ := t5.spoilt c6 hh5
      refine ⟨h6, rows3, s_IfT tt (decide_eq_true z) (s_Drop (w := .d .non) (x_Call (ws := [.d (.lst (ds.map D.int)), .d (.int 50), .d (.int (m : Nat)), .r h3.length]) (x_len (x_cons (x_Var rfl) (x_cons x_C (x_cons (x_Var rfl) (x_cons (x_Var rfl) x_nil)))) rfl) e6)), t6, a6, hh6, kp6⟩
    · exact ⟨h5, rows2, s_IfF tt (decide_eq_false z) s_Nx, t5, rfl, hh5, fun j o _ e => e⟩
  have ha3 := an_lt a6 ha2
  have hl3 := an_len a6
  have gc6 : h6[kc]? = some (.lst (cut.map zA)) := kp6 _ _ (nid kc (Nat.le_refl _)) (kp5 _ _ (nid kc (Nat.le_refl _)) gc4)
  have gn6 : h6[kc + 1]? = some (.lst (counts.map zA)) := kp6 _ _ (nid (kc + 1) (by omega)) (kp5 _ _ (nid (kc + 1) (by omega)) gn4)
  -- the store
  generalize hk : h6.length = k
  have es := sinit_ok hk hm.2
  obtain ⟨caps, kept, p1, p2, p3, p4, e10⟩ := s10_ok (ns := ns) (ds := ds) (m := m) (k := k) (kc := kc) (h0 := h6) (a3 := some (.r h3.length)) (a5 := some (.r (kc + 1))) (a6 := none) (a7 := b7) (a9 := none) (a10 := none) (a11 := none) hd hk hm.1 hcl gc6 (cc := List.replicate m 0) (chs := List.replicate m [])
  obtain ⟨b6, eL2⟩ := l2_law (ns := ns) (ds := ds) (a3 := some (.r h3.length)) (a5 := some (.r (kc + 1))) (a6 := none) (a7 := b7) (a9 := none) (a10 := none) (a11 := none) hk hm.2 hcl gc6 (caps := caps) (kept := kept) (chs := List.replicate m [])
  obtain ⟨c6, rs, hrs, hss, eL3⟩ := l3_law (ns := ns) (a5 := some (.r (kc + 1))) (a6 := b6) (a7 := b7) (a9 := none) (a10 := none) (a11 := none) hd hk hm.2 t6 (by omega) ha3 hh6 (cut := cut) (caps := caps) (kept := kept) (a4 := some (.r kc))
  have t7 : RH (h6 ++ stH k m cut caps kept (chsOf m rs)) h3.length ids' rows3 := t6.keep fun j o e => app_keep e
  obtain ⟨c7, eL4⟩ := l4_law (ns := ns) (ds := ds) (a6 := c6) (a7 := b7) (a10 := none) (a11 := none) hm.2 t7 (by omega) ha3 hh6 hcc (kn := kc + 1) (app_keep gn6) (a4 := some (.r kc)) (a8 := some (.r k))
  have cl : (chsOf m rs).length = m := by unfold chsOf; rw [List.length_map, List.length_range]
  have rl : rs.length ≤ 12 := by
    have := congrArg List.length hrs
    rw [List.length_map] at this
    omega
  have ra : ∀ r ∈ rs, r.a < m := fun r hr => ha3 (tr r) (by rw [← hrs]; exact List.mem_map_of_mem hr)
  have rh : ∀ r ∈ rs, r.hs.length ≤ 8 := fun r hr => hh6 (tr r) (by rw [← hrs]; exact List.mem_map_of_mem hr)
  have cc := cons_ok (m := m) (rows0 := rows0) (rows := rows3) (cut := cut) (counts := counts) (rs := rs) ro hcb hcv (by rw [a6, a5, ← hr1]) hrs
  have da := data_ok (cut := cut) (caps := caps) (kept := kept) (chs := chsOf m rs) hk cl hm.2 (by omega) (by omega) (by omega) (fun o ho => (p4 o ho).1) (fun c hc => by
    unfold chsOf at hc
    obtain ⟨j, _, rfl⟩ := List.mem_map.mp hc
    have := List.length_filter_le (fun r : Row => decide (r.a = j)) rs
    omega)
  have vw := vw_ok (cut := cut) (caps := caps) (kept := kept) (chs := chsOf m rs) hk cl
  have fl := chsOf_len rs m
  have wh := whole_ok (s := ⟨m, cut, caps, kept.map okD, chsOf m rs⟩) ⟨hm.2, hcl, cl, by
    have : m * rs.length ≤ 6 * 12 := Nat.mul_le_mul hm.2 rl
    show (chsOf m rs).flatten.length ≤ 4000
    omega⟩ (fun r hr => by
      have hr' := (chsOf_mem ra r).mp hr
      have := rh r hr'
      exact ⟨ra r hr', by omega⟩) []
  have we : (chsOf m rs).flatten.all (soundB ⟨m, cut, caps, kept.map okD, chsOf m rs⟩) = rows3.all (lsB m counts rows3) := by
    rw [chsOf_all ra, whole_eq cc, hrs]
  have wh : sem_is_whole [.d (stD ⟨m, cut, caps, kept.map okD, chsOf m rs⟩)] [] = some (.ok (.d (.bl (rows3.all (lsB m counts rows3)))) []) := by
    rw [← we]
    exact wh
  have sh := sdat_shp (cut := cut) p2 p4 hss ra
  generalize rows3.all (lsB m counts rows3) = E at *
  have g0 := st_get0 (m := m) (cut := cut) (caps := caps) (kept := kept) (chs := chsOf m rs) hk
  refine ⟨h6 ++ stH k m cut caps kept (chsOf m rs), ?_⟩
  wtm_at "tq_run"
  unfold b_law
  refine s_Seq (τ1 := [some (.d (.scr ns)), some (.d (.lst (ds.map D.int))), none, none, none, none, none, none, none, none, none, none]) (h1 := []) (s_Set (e1 _ _ rfl) rfl) ?_
  refine s_Seq (τ1 := G ns ds m (some (.r (m + 1))) none none none none none none none none) (h1 := h1) (s_Asg (w := .r kt) (x_Call (ws := [.d (.lst (ds.map D.int))]) (x_len (x_cons (x_Var rfl) x_nil) rfl) et) (mg_C gt rfl (mg_Cons (mg_Name rfl) (mg_Cons (mg_Name rfl) mg_Nil)))) ?_
  refine s_Seq (τ1 := G ns ds m (some (.r (m + 1))) (some (.r kc)) none none none none none none none) (h1 := h2) (s_Set (w := .r kc) (x_Call (ws := [.d (.lst (ds.map D.int)), .d (.int (m : Nat)), .r (m + 1)]) (x_len (x_cons (x_Var rfl) (x_cons (x_Var rfl) (x_cons (x_Var rfl) x_nil))) rfl) ecut) rfl) ?_
  refine s_Seq (τ1 := G ns ds m (some (.r (m + 1))) (some (.r kc)) (some (.r (kc + 1))) none none none none none none) (s_Set c1 rfl) ?_
  refine s_Seq eL1 ?_
  refine s_Seq (τ1 := G ns ds m (some (.r h3.length)) (some (.r kc)) (some (.r (kc + 1))) none b7 none none none none) (h1 := h4) (s_Set eC2 rfl) ?_
  refine s_Seq (τ1 := G ns ds m (some (.r h3.length)) (some (.r kc)) (some (.r (kc + 1))) none b7 none none none none) (h1 := h5) (s_Drop (w := .d .non) (x_Call (ws := [.d (.lst (ds.map D.int)), .d (.int 5), .d (.int (m : Nat)), .r h3.length]) (x_len (x_cons (x_Var rfl) (x_cons x_C (x_cons (x_Var rfl) (x_cons (x_Var rfl) x_nil)))) rfl) e5)) ?_
  refine s_Seq e6 ?_
  refine s_Seq (τ1 := G ns ds m (some (.r h3.length)) (some (.r kc)) (some (.r (kc + 1))) none b7 (some (.r k)) none none none) (s_Set (x_Make (ws := [.d (.int (m : Nat))]) (x_cons (x_Var rfl) x_nil) rfl hk es) rfl) ?_
  refine s_Seq e10 ?_
  refine s_Seq eL2 ?_
  refine s_Seq eL3 ?_
  refine s_Seq (τ1 := G ns ds m (some (.r h3.length)) (some (.r kc)) (some (.r (kc + 1))) c6 b7 (some (.r k)) (some (.d (.bl true))) none none) (s_Set x_C rfl) ?_
  refine s_Seq eL4 ?_
  have ed : ∀ a10 a11 : Option A, mMeth "Store" "data" 1 sem_Store__data (mVar 8) maNil (G ns ds m (some (.r h3.length)) (some (.r kc)) (some (.r (kc + 1))) c6 c7 (some (.r k)) (some (.d (.bl E))) a10 a11) (h6 ++ stH k m cut caps kept (chsOf m rs)) = some (.ok (.d (sdatD cut caps kept (chsOf m rs))) (h6 ++ stH k m cut caps kept (chsOf m rs))) := fun a10 a11 => x_Meth (x_Var rfl) (ins_r g0 (by decide +kernel)) x_nil rfl da
  have ew : ∀ a10 a11 : Option A, mCallP sem_is_whole (lenIs 1 (maCons (mVar 8) maNil)) (G ns ds m (some (.r h3.length)) (some (.r kc)) (some (.r (kc + 1))) c6 c7 (some (.r k)) (some (.d (.bl E))) a10 a11) (h6 ++ stH k m cut caps kept (chsOf m rs)) = some (.ok (.d (.bl E)) (h6 ++ stH k m cut caps kept (chsOf m rs))) := fun a10 a11 => x_CallPv (ws := [.r k]) (x_len (x_cons (x_Var rfl) x_nil) rfl) (views_cons vw views_nil) rfl wh view_d rfl
  generalize h6 ++ stH k m cut caps kept (chsOf m rs) = H at *
  generalize sdatD cut caps kept (chsOf m rs) = dd at *
  refine s_Seq (τ1 := G ns ds m (some (.r h3.length)) (some (.r kc)) (some (.r (kc + 1))) c6 c7 (some (.r k)) (some (.d (.bl E))) (some (.d dd)) none) (s_Set (ed _ _) rfl) ?_
  refine s_Seq (τ1 := G ns ds m (some (.r h3.length)) (some (.r kc)) (some (.r (kc + 1))) c6 c7 (some (.r k)) (some (.d (.bl E))) (some (.d dd)) (some (.d (.bl E)))) (s_Set (ew _ _) rfl) ?_
  have eb : ∀ b : Bool, (b == b) = true := fun b => by cases b <;> rfl
  refine s_Seq (s_IfF (j := false) (h1 := H) (x_OrT0 (x_NotT (j := true) (x_Tru (x_Un (x_Var rfl) (g_isi (N := "bool") rfl)) ?_)) (x_TB (x_Bin (x_Var rfl) (x_Var rfl) (g_eqv view_d view_d ?_)))) rfl s_Nx) ?_
  · rw [show isiN "bool" "bool" = true from by decide +kernel]
    rfl
  · rw [eqD_bl, eb]
    rfl
  · refine s_Ret (x_AndV1 (x_Bin (ed _ _) (x_Var rfl) (g_eqv view_d view_d ?_)) (x_Bin (ew _ _) (x_Var rfl) (g_eqv view_d view_d ?_)))
    · rw [eqD_same sh]
      rfl
    · rw [eqD_bl, eb]
      rfl
end KK

open PySem PySem.W PyProof.Rows
set_option maxHeartbeats 0 in
theorem PySem.Challenge.cw_kithwhole_k04_heard_lists_fit_holds : PySem.Challenge.rw_kithwhole_k04_heard_lists_fit.Holds := by
  w_on; o_law; k_head; (case hw => w_witness2)
  k_fill
  refine L2.walk_ofB (l := PySem.Challenge.rw_kithwhole_k04_heard_lists_fit) (n := 63) (k := 7) (x := "script") (CX := fun _ => L2.CX0) (sp := fun w => (fun vs H Q _ => Tq.spQ _ 1 KK.sem_law vs H Q L2.E0)) rfl (by decide) rfl ⟨rfl, by decide, by decide⟩ (fun w h Y => PySem.W.kIn_of Y) ?F (fun _ _ _ ns hl hb _ hS => Tq.sp_law hS (KK.law_ok hl hb)) (fun _ _ _ _ _ h => h)
  case F =>
    intro w mg fa h KX G hmg
    refine' KK.all_mk KX G hmg ?a_Change ?pg_Change ?hd_Change ?po_Change ?sa_Change ?n_Change_author ?n_Change_number ?n_Change_heard ?n_Change_capability ?n_Change_publics ?n_Change_parts ?mk_Change ?kc_Change ?a_Kept ?pg_Kept ?hd_Kept ?po_Kept ?sa_Kept ?n_Kept_acts ?n_Kept_sums ?n_Kept_texts ?n_Kept_shares ?mk_Kept ?kc_Kept ?a_Store ?pg_Store ?hd_Store ?po_Store ?sa_Store ?n_Store_members ?n_Store_cut ?n_Store_capabilities ?n_Store_kept ?n_Store_changes ?mk_Store ?kc_Store ?a0 ?l0 ?c0 ?k0 ?a1 ?l1 ?c1 ?k1 ?a2 ?l2 ?c2 ?k2 ?a3 ?l3 ?c3 ?k3 ?a4 ?l4 ?c4 ?k4 ?a5 ?l5 ?c5 ?k5 ?a6 ?i6 ?l6 ?c6 ?k6 ?lt6 ?lu6 ?a7 ?i7 ?l7 ?c7 ?k7 ?a8 ?i8 ?l8 ?c8 ?k8 ?a9 ?l9 ?c9 ?k9 ?a10 ?i10 ?l10 ?c10 ?k10 ?a11 ?i11 ?l11 ?c11 ?k11 ?a12 ?l12 ?c12 ?k12 ?a13 ?l13 ?c13 ?k13 ?a14 ?i14 ?l14 ?c14 ?k14 ?a15 ?i15 ?l15 ?c15 ?k15 ?a16 ?i16 ?l16 ?c16 ?k16 ?a17 ?l17 ?c17 ?k17 ?a18 ?l18 ?c18 ?k18 ?a19 ?l19 ?c19 ?k19 ?a20 ?i20 ?l20 ?c20 ?k20 ?a21 ?l21 ?c21 ?k21 ?a22 ?i22 ?l22 ?c22 ?k22 ?a23 ?l23 ?c23 ?k23 ?a24 ?l24 ?c24 ?k24 ?a25 ?l25 ?c25 ?k25 ?y_SPACES ?y_bool ?y_int ?y_isinstance ?y_len ?y_list ?y_max ?y_min ?y_range ?y_sorted ?y_sum ?y_tuple
    (case a_Change => k_is); (case pg_Change => k_is); (case hd_Change => k_is); (case po_Change => k_is); (case sa_Change => k_is); (case n_Change_author => k_is); (case n_Change_number => k_is); (case n_Change_heard => k_is); (case n_Change_capability => k_is); (case n_Change_publics => k_is); (case n_Change_parts => k_is); (case mk_Change => k_is); (case kc_Change => k_is); (case a_Kept => k_is); (case pg_Kept => k_is); (case hd_Kept => k_is); (case po_Kept => k_is); (case sa_Kept => k_is); (case n_Kept_acts => k_is); (case n_Kept_sums => k_is); (case n_Kept_texts => k_is); (case n_Kept_shares => k_is); (case mk_Kept => k_is); (case kc_Kept => k_is); (case a_Store => k_is); (case pg_Store => k_is); (case hd_Store => k_is); (case po_Store => k_is); (case sa_Store => k_is); (case n_Store_members => k_is); (case n_Store_cut => k_is); (case n_Store_capabilities => k_is); (case n_Store_kept => k_is); (case n_Store_changes => k_is); (case mk_Store => k_is); (case kc_Store => k_is); (case a0 => k_is); (case l0 => k_is); (case c0 => k_is); (case k0 => k_is); (case a1 => k_is); (case l1 => k_is); (case c1 => k_is); (case k1 => k_is); (case a2 => k_is); (case l2 => k_is); (case c2 => k_is); (case k2 => k_is); (case a3 => k_is); (case l3 => k_is); (case c3 => k_is); (case k3 => k_is); (case a4 => k_is); (case l4 => k_is); (case c4 => k_is); (case k4 => k_is); (case a5 => k_is); (case l5 => k_is); (case c5 => k_is); (case k5 => k_is); (case a6 => k_is); (case i6 => k_is); (case l6 => k_is); (case c6 => k_is); (case k6 => k_is); (case lt6 => k_is); (case lu6 => k_is); (case a7 => k_is); (case i7 => k_is); (case l7 => k_is); (case c7 => k_is); (case k7 => k_is); (case a8 => k_is); (case i8 => k_is); (case l8 => k_is); (case c8 => k_is); (case k8 => k_is); (case a9 => k_is); (case l9 => k_is); (case c9 => k_is); (case k9 => k_is); (case a10 => k_is); (case i10 => k_is); (case l10 => k_is); (case c10 => k_is); (case k10 => k_is); (case a11 => k_is); (case i11 => k_is); (case l11 => k_is); (case c11 => k_is); (case k11 => k_is); (case a12 => k_is); (case l12 => k_is); (case c12 => k_is); (case k12 => k_is); (case a13 => k_is); (case l13 => k_is); (case c13 => k_is); (case k13 => k_is); (case a14 => k_is); (case i14 => k_is); (case l14 => k_is); (case c14 => k_is); (case k14 => k_is); (case a15 => k_is); (case i15 => k_is); (case l15 => k_is); (case c15 => k_is); (case k15 => k_is); (case a16 => k_is); (case i16 => k_is); (case l16 => k_is); (case c16 => k_is); (case k16 => k_is); (case a17 => k_is); (case l17 => k_is); (case c17 => k_is); (case k17 => k_is); (case a18 => k_is); (case l18 => k_is); (case c18 => k_is); (case k18 => k_is); (case a19 => k_is); (case l19 => k_is); (case c19 => k_is); (case k19 => k_is); (case a20 => k_is); (case i20 => k_is); (case l20 => k_is); (case c20 => k_is); (case k20 => k_is); (case a21 => k_is); (case l21 => k_is); (case c21 => k_is); (case k21 => k_is); (case a22 => k_is); (case i22 => k_is); (case l22 => k_is); (case c22 => k_is); (case k22 => k_is); (case a23 => k_is); (case l23 => k_is); (case c23 => k_is); (case k23 => k_is); (case a24 => k_is); (case l24 => k_is); (case c24 => k_is); (case k24 => k_is); (case a25 => k_is); (case l25 => k_is); (case c25 => k_is); (case k25 => k_is); (case y_SPACES => k_is); (case y_bool => k_is); (case y_int => k_is); (case y_isinstance => k_is); (case y_len => k_is); (case y_list => k_is); (case y_max => k_is); (case y_min => k_is); (case y_range => k_is); (case y_sorted => k_is); (case y_sum => k_is); (case y_tuple => k_is)

