import PyProof.Rows.All
import Wide.All
import OpenK.AllK
import Wide.FinOn
import HandS.ForMost
import HandS.Wide
import HandS.Evl
import HandS.TupAny
import HandS.IsInst
import HandS.Exc
import HandS.TryOnly
import HandS.ExcOwn
import HandS.CallSlots
import HandS.WordsExc
import HandS.Dict
import HandS.More
import HandS.TupLe
import HandS.Deep
import HandS.Words
import HandS.Text
import PyProof.P3Eq
import HandS.Base
import HandS.Call
import HandS.List
import HandS.SortKw
import KE.SortData
import HandS.Defaults
import HandS.SortInts
import KE.DataEq
import HandS.DictComp
import HandS.Strs
import HandS.Flow
import HandS.Star
import HandS.Replace
import HandS.EndBits
import PySem.Challenge.RW_kithwhole_k30_arithmetic
set_option Elab.async false
set_option linter.all false
set_option maxRecDepth 100000
/-! Tq1: data as trees, cells that may turn, the state's truth in the heap. -/
namespace Tq
open PySem PySem.Spec PyProof.Rows L2

/-- other objects with parts: a dict by ints and texts, a dict by tuples of these, an instance of the class under a global name -/
inductive Hd where
  | dic (ks : List Key) | dit (ks : List (List Key)) | ins (C : Str) (fs : List Str)
/-- data that nobody changes -/
inductive D where
  | non | bl (b : Bool) | int (i : Int) | str (x : Str) | tup (xs : List D) | kt (xs : List D) | lst (xs : List D) | scr (ns : List Int) | fn (x : Str) | nd (h : Hd) (xs : List D)
/-- values: data, a cell, a tuple with cells in it -/
inductive A where
  | d (x : D) | r (k : Nat) | tup (ws : List A)
/-- what a cell holds -/
inductive O where
  | lst (ws : List A) | nd (h : Hd) (ws : List A) | dead
abbrev Hq := List O
abbrev Sl := List (Option A)
/-- an exception: of an own class, bare or with one field; of a built-in class -/
inductive Xc where
  | own (C : Str) | fld (C f : Str) (w : A) | blt (T : String)

def glAt (K : PySem.W.Frag) (C : Str) : Option Addr := match PySem.W.nsIn K mainGlobals C with | some (some (.ref c)) => some c | _ => none
inductive HdAt (K : PySem.W.Frag) (H : Hp) (a : Addr) : Hd → List V → List Addr → Prop
  | dic {ks : List Key} {vs : List V} : H a = some (.dK (ks.zip vs)) → ks.length = vs.length → HdAt K H a (.dic ks) vs [a]
  | dit {ks : List (List Key)} {vs : List V} : H a = some (.dT (ks.zip vs)) → ks.length = vs.length → HdAt K H a (.dit ks) vs [a]
  | ins {C : Str} {ca dx : Addr} {fs : List Str} {vs : List V} : glAt K C = some ca → H a = some (.ins ca dx (fs.zip vs)) → H dx = some (.own a) → fs.length = vs.length → HdAt K H a (.ins C fs) vs [a, dx]
theorem HdAt.to {K : PySem.W.Frag} {H H' : Hp} {a : Addr} {h : Hd} {vs : List V} {own : List Addr} (x : HdAt K H a h vs own) (e : ∀ b ∈ own, ∀ o, H b = some o → H' b = some o) : HdAt K H' a h vs own := by
  cases x with
  | dic h1 h2 => exact .dic (e _ (by simp) _ h1) h2
  | dit h1 h2 => exact .dit (e _ (by simp) _ h1) h2
  | ins h0 h1 h2 h4 => exact .ins h0 (e _ (by simp) _ h1) (e _ (by simp) _ h2) h4
theorem HdAt.own_or {K : PySem.W.Frag} {H : Hp} {a : Addr} {h : Hd} {vs : List V} {own : List Addr} (x : HdAt K H a h vs own) : a ∈ own ∧ (∀ b ∈ own, b = a ∨ H b = some (.own a)) ∧ (∀ b ∈ own, H b ≠ none) ∧ H a ≠ none ∧ ∀ z, H a ≠ some (.own z) := by
  cases x with
  | dic h1 h2 => exact ⟨by simp, by simp, by simp [h1], by simp [h1], by simp [h1]⟩
  | dit h1 h2 => exact ⟨by simp, by simp, by simp [h1], by simp [h1], by simp [h1]⟩
  | ins h0 h1 h2 h4 => exact ⟨by simp, by simp [h2], by simp [h1, h2], by simp [h1], by simp [h1]⟩
theorem sqt_of {K : PySem.W.Frag} {B : Hp} {a : Addr} {xs : List V} (h : B a = some (.tup xs)) : SqT K B a xs := .inl (.inl h)
theorem sqt_mono {K : PySem.W.Frag} {B B' : Hp} {a : Addr} {xs : List V} (e : Same B B') (h : SqT K B a xs) : SqT K B' a xs := by
  rcases h with (h | ⟨o, h⟩) | h
  · exact .inl (.inl (e _ _ h))
  · exact .inl (.inr ⟨o, e _ _ h⟩)
  · exact .inr h
mutual
inductive Rp (K : PySem.W.Frag) (B : Hp) : V → D → Prop
  | non : Rp K B .non .non
  | bl (b : Bool) : Rp K B (.bl b) (.bl b)
  | int (i : Int) : Rp K B (.int i) (.int i)
  | str (x : Str) : Rp K B (.str x) (.str x)
  | tup {a : Addr} {vs : List V} {ds : List D} : B a = some (.tup vs) → RpL K B vs ds → Rp K B (.ref a) (.tup ds)
  | kt {a : Addr} {vs : List V} {ds : List D} : SqT K B a vs → RpL K B vs ds → Rp K B (.ref a) (.kt ds)
  | lst {a : Addr} {vs : List V} {ds : List D} : B a = some (.lst vs) → RpL K B vs ds → Rp K B (.ref a) (.lst ds)
  | scr {a : Addr} {ns : List Int} : SqL K B a (ns.map V.int) → Rp K B (.ref a) (.scr ns)
  | fn {a : Addr} {x : Str} : glAt K x = some a → Rp K B (.ref a) (.fn x)
  | nd {a : Addr} {h : Hd} {vs : List V} {ds : List D} {own : List Addr} : HdAt K B a h vs own → RpL K B vs ds → Rp K B (.ref a) (.nd h ds)
inductive RpL (K : PySem.W.Frag) (B : Hp) : List V → List D → Prop
  | nil : RpL K B [] []
  | cons {v : V} {vs : List V} {d : D} {ds : List D} : Rp K B v d → RpL K B vs ds → RpL K B (v :: vs) (d :: ds)
end
section
variable {K : PySem.W.Frag} {B B' H H' : Hp}
mutual
theorem Rp.mono (e : Same B B') : ∀ {v : V} {d : D}, Rp K B v d → Rp K B' v d
  | _, _, .non => .non
  | _, _, .bl b => .bl b
  | _, _, .int i => .int i
  | _, _, .str x => .str x
  | _, _, .tup h r => .tup (e _ _ h) (RpL.mono e r)
  | _, _, .kt h r => .kt (sqt_mono e h) (RpL.mono e r)
  | _, _, .lst h r => .lst (e _ _ h) (RpL.mono e r)
  | _, _, .scr h => .scr (e.seq h)
  | _, _, .fn h => .fn h
  | _, _, .nd h r => .nd (h.to fun _ _ _ z => e _ _ z) (RpL.mono e r)
theorem RpL.mono (e : Same B B') : ∀ {vs : List V} {ds : List D}, RpL K B vs ds → RpL K B' vs ds
  | _, _, .nil => .nil
  | _, _, .cons h r => .cons (Rp.mono e h) (RpL.mono e r)
end
theorem RpL.length : ∀ {vs : List V} {ds : List D}, RpL K B vs ds → vs.length = ds.length
  | _, _, .nil => rfl
  | _, _, .cons _ r => congrArg (· + 1) r.length
theorem RpL.get : ∀ {vs : List V} {ds : List D} {i : Nat} {d : D}, RpL K B vs ds → ds[i]? = some d → ∃ v, vs[i]? = some v ∧ Rp K B v d
  | _, _, _, _, .nil, e => by simp at e
  | _, _, 0, _, .cons r _, e => by simp at e; subst e; exact ⟨_, rfl, r⟩
  | _, _, i + 1, d, .cons _ t, e => by
    obtain ⟨u, h1, h2⟩ := RpL.get (i := i) (d := d) t (by simpa using e)
    exact ⟨u, by simpa using h1, h2⟩
theorem RpL.append : ∀ {vs ws : List V} {ds es : List D}, RpL K B vs ds → RpL K B ws es → RpL K B (vs ++ ws) (ds ++ es)
  | _, _, _, _, .nil, s => s
  | _, _, _, _, .cons r t, s => .cons r (RpL.append t s)
end
mutual
inductive RA (K : PySem.W.Frag) (B : Hp) (ρ : Nat → Option Addr) : V → A → Prop
  | d {v : V} {x : D} : Rp K B v x → RA K B ρ v (.d x)
  | r {k : Nat} {a : Addr} : ρ k = some a → RA K B ρ (.ref a) (.r k)
  | tup {a : Addr} {vs : List V} {ws : List A} : B a = some (.tup vs) → RAL K B ρ vs ws → RA K B ρ (.ref a) (.tup ws)
inductive RAL (K : PySem.W.Frag) (B : Hp) (ρ : Nat → Option Addr) : List V → List A → Prop
  | nil : RAL K B ρ [] []
  | cons {v : V} {vs : List V} {w : A} {ws : List A} : RA K B ρ v w → RAL K B ρ vs ws → RAL K B ρ (v :: vs) (w :: ws)
end
/-- from state to state, while Z stands aside -/
structure Gr (Z B : Hp) (ρ : Nat → Option Addr) (B' : Hp) (ρ' : Nat → Option Addr) : Prop where
  bb : Same B B'
  rr : ∀ k a, ρ k = some a → ρ' k = some a
  fz : ∀ a, B a = none → B' a ≠ none → Z a = none
section
variable {K : PySem.W.Frag} {Z B B' B'' H H' : Hp} {ρ ρ' ρ'' : Nat → Option Addr}
theorem Gr.refl : Gr Z B ρ B ρ := ⟨fun _ _ h => h, fun _ _ h => h, fun a h h' => absurd h h'⟩
theorem Gr.trans (f : Gr Z B ρ B' ρ') (g : Gr Z B' ρ' B'' ρ'') : Gr Z B ρ B'' ρ'' := by
  refine ⟨fun a o h => g.bb a o (f.bb a o h), fun k a h => g.rr k a (f.rr k a h), fun a h h' => ?_⟩
  by_cases e : B' a = none
  · exact g.fz a e h'
  · exact f.fz a h e
mutual
theorem RA.mono (g : Gr Z B ρ B' ρ') : ∀ {v : V} {w : A}, RA K B ρ v w → RA K B' ρ' v w
  | _, _, .d r => .d (r.mono g.bb)
  | _, _, .r h => .r (g.rr _ _ h)
  | _, _, .tup h r => .tup (g.bb _ _ h) (RAL.mono g r)
theorem RAL.mono (g : Gr Z B ρ B' ρ') : ∀ {vs : List V} {ws : List A}, RAL K B ρ vs ws → RAL K B' ρ' vs ws
  | _, _, .nil => .nil
  | _, _, .cons h r => .cons (RA.mono g h) (RAL.mono g r)
end
theorem RAL.length : ∀ {vs : List V} {ws : List A}, RAL K B ρ vs ws → vs.length = ws.length
  | _, _, .nil => rfl
  | _, _, .cons _ r => congrArg (· + 1) r.length
theorem RAL.get : ∀ {vs : List V} {ds : List A} {i : Nat} {d : A}, RAL K B ρ vs ds → ds[i]? = some d → ∃ v, vs[i]? = some v ∧ RA K B ρ v d
  | _, _, _, _, .nil, e => by simp at e
  | _, _, 0, _, .cons r _, e => by simp at e; subst e; exact ⟨_, rfl, r⟩
  | _, _, i + 1, d, .cons _ t, e => by
    obtain ⟨u, h1, h2⟩ := RAL.get (i := i) (d := d) t (by simpa using e)
    exact ⟨u, by simpa using h1, h2⟩
theorem RAL.append : ∀ {vs ws : List V} {ds es : List A}, RAL K B ρ vs ds → RAL K B ρ ws es → RAL K B ρ (vs ++ ws) (ds ++ es)
  | _, _, _, _, .nil, s => s
  | _, _, _, _, .cons r t, s => .cons r (RAL.append t s)
theorem RAL.take : ∀ {vs : List V} {ds : List A} (n : Nat), RAL K B ρ vs ds → RAL K B ρ (vs.take n) (ds.take n)
  | _, _, 0, _ => by simpa using RAL.nil
  | _, _, _ + 1, .nil => .nil
  | _, _, n + 1, .cons r t => .cons r (RAL.take n t)
theorem RAL.drop : ∀ {vs : List V} {ds : List A} (n : Nat), RAL K B ρ vs ds → RAL K B ρ (vs.drop n) (ds.drop n)
  | _, _, 0, r => by simpa using r
  | _, _, _ + 1, .nil => .nil
  | _, _, n + 1, .cons _ t => RAL.drop n t
theorem RAL.set : ∀ {vs : List V} {ds : List A} (n : Nat) {v : V} {w : A}, RAL K B ρ vs ds → RA K B ρ v w → RAL K B ρ (vs.set n v) (ds.set n w)
  | _, _, _, _, _, .nil, _ => by simpa using RAL.nil
  | _, _, 0, _, _, .cons _ t, w => .cons w t
  | _, _, n + 1, _, _, .cons r t, w => .cons r (RAL.set n t w)
theorem RAL.reverse {vs : List V} {ds : List A} (h : RAL K B ρ vs ds) : RAL K B ρ vs.reverse ds.reverse := by
  induction vs generalizing ds with
  | nil => cases h; exact .nil
  | cons v vs ih =>
    cases h with
    | cons r t =>
      rw [List.reverse_cons, List.reverse_cons]
      exact (ih t).append (.cons r .nil)
theorem ral_ds : ∀ {vs : List V} {ds : List D}, RpL K B vs ds → RAL K B ρ vs (ds.map A.d)
  | _, _, .nil => .nil
  | _, _, .cons r t => .cons (.d r) (ral_ds t)
theorem ral_rpl : ∀ {ds : List D} {vs : List V}, RAL K B ρ vs (ds.map A.d) → RpL K B vs ds
  | [], _, h => by cases h; exact .nil
  | d :: r, _, h => by
    cases h with
    | cons h t =>
      cases h with
      | d h => exact .cons h (ral_rpl t)
theorem rpl_ints : ∀ (ns : List Int), RpL K B (ns.map V.int) (ns.map D.int)
  | [] => .nil
  | n :: r => .cons (.int n) (rpl_ints r)
end

/-! ### cells -/
inductive CeAt (K : PySem.W.Frag) (Z B H : Hp) (ρ : Nat → Option Addr) (a : Addr) : O → Prop
  | lst {vs : List V} {ws : List A} : H a = some (.lst vs) → RAL K B ρ vs ws → B a = none → Z a = none → CeAt K Z B H ρ a (.lst ws)
  | nd {hd : Hd} {vs : List V} {ws : List A} {own : List Addr} : HdAt K H a hd vs own → RAL K B ρ vs ws → (∀ b ∈ own, B b = none ∧ Z b = none) → CeAt K Z B H ρ a (.nd hd ws)
  | dead : Z a = none → CeAt K Z B H ρ a .dead
structure Ok (K : PySem.W.Frag) (Z B : Hp) (ρ : Nat → Option Addr) (H : Hp) (h : Hq) : Prop where
  ex : Same B H
  zz : Same Z H
  ce : ∀ (k : Nat) (o : O), h[k]? = some o → ∃ a, ρ k = some a ∧ CeAt K Z B H ρ a o
  nj : ∀ i j a, ρ i = some a → ρ j = some a → i = j
  al : ∀ k a, ρ k = some a → H a ≠ none
  up : ∀ k, h.length ≤ k → ρ k = none
section
variable {K : PySem.W.Frag} {Z B B' H H' : Hp} {ρ ρ' : Nat → Option Addr} {h : Hq} {σ : L2.St} {τ : Sl}
/-- a new object that nobody changes -/
theorem Ok.newB {q : Addr} {o : HO} (ok : Ok K Z B ρ H h) (hq : H q = none) : Ok K Z (upd B q o) ρ (upd H q o) h ∧ Gr Z B ρ (upd B q o) ρ := by
  have hb : B q = none := by
    cases z : B q with
    | none => rfl
    | some u => rw [ok.ex q u z] at hq; cases hq
  have hz : Z q = none := by
    cases z : Z q with
    | none => rfl
    | some u => rw [ok.zz q u z] at hq; cases hq
  have g : Gr Z B ρ (upd B q o) ρ := ⟨fun a u e => by rw [upd_ne (ne_of_none e hb)]; exact e, fun _ _ e => e, fun a e e' => by
    by_cases z : a = q
    · rw [z]; exact hz
    · rw [upd_ne z] at e'; exact absurd e e'⟩
  refine ⟨⟨fun a u e => ?_, fun a u e => ?_, fun k c e => ?_, ok.nj, fun k a e => ?_, ok.up⟩, g⟩
  · by_cases z : a = q
    · subst z; rw [upd_same] at e ⊢; exact e
    · rw [upd_ne z] at e ⊢; exact ok.ex a u e
  · rw [upd_ne (ne_of_none e hz)]; exact ok.zz a u e
  · obtain ⟨a, h1, h2⟩ := ok.ce k c e
    refine ⟨a, h1, ?_⟩
    cases h2 with
    | lst e1 e2 e3 e4 =>
      have n : a ≠ q := fun z => by subst z; rw [hq] at e1; cases e1
      exact .lst (by rw [upd_ne n]; exact e1) (e2.mono g) (by rw [upd_ne n]; exact e3) e4
    | nd e1 e2 e3 =>
      have n : ∀ b ∈ _, b ≠ q := fun b hb' z => e1.own_or.2.2.1 b hb' (by rw [z]; exact hq)
      exact .nd (e1.to fun b hb' u e => by rw [upd_ne (n b hb')]; exact e) (e2.mono g) fun b hb' => ⟨by rw [upd_ne (n b hb')]; exact (e3 b hb').1, (e3 b hb').2⟩
    | dead ed => exact .dead ed
  · by_cases z : a = q
    · subst z; rw [upd_same]; simp
    · rw [upd_ne z]; exact ok.al k a e
/-- a new cell -/
theorem Ok.newC {q : Addr} {o : O} (ok : Ok K Z B ρ H h) (hq : H q = none) (hh : ∀ b u, H b = some u → H' b = some u) (hq' : H' q ≠ none) (c : CeAt K Z B H' ρ q o) :
    Ok K Z B (fun k => if k = h.length then some q else ρ k) H' (h ++ [o]) ∧ Gr Z B ρ B (fun k => if k = h.length then some q else ρ k) := by
  have g : Gr Z B ρ B (fun k => if k = h.length then some q else ρ k) := ⟨fun _ _ e => e, fun k a e => by
    have : k ≠ h.length := fun z => by rw [ok.up k (by omega)] at e; cases e
    show (if k = h.length then some q else ρ k) = some a
    rw [if_neg this]; exact e, fun a e e' => absurd e e'⟩
  refine ⟨⟨fun a u e => hh _ _ (ok.ex a u e), fun a u e => hh _ _ (ok.zz a u e), fun k c' e => ?_, fun i j a e1 e2 => ?_, fun k a e => ?_, fun k e => ?_⟩, g⟩
  · by_cases z : k = h.length
    · subst z
      rw [List.getElem?_append_right (by omega), Nat.sub_self] at e
      cases e
      refine ⟨q, if_pos rfl, ?_⟩
      cases c with
      | lst e1 e2 e3 e4 => exact .lst e1 (e2.mono g) e3 e4
      | nd e1 e2 e3 => exact .nd e1 (e2.mono g) e3
      | dead ed => exact .dead ed
    · have hk : k < h.length := by
        have := (List.getElem?_eq_some_iff.mp e).1
        rw [List.length_append, List.length_singleton] at this
        omega
      rw [List.getElem?_append_left hk] at e
      obtain ⟨a, h1, h2⟩ := ok.ce k c' e
      refine ⟨a, g.rr k a h1, ?_⟩
      cases h2 with
      | lst e1 e2 e3 e4 => exact .lst (hh _ _ e1) (e2.mono g) e3 e4
      | nd e1 e2 e3 => exact .nd (e1.to fun b _ u e => hh _ _ e) (e2.mono g) e3
      | dead ed => exact .dead ed
  · have e1 : (if i = h.length then some q else ρ i) = some a := e1
    have e2 : (if j = h.length then some q else ρ j) = some a := e2
    split at e1 <;> split at e2
    · omega
    · cases e1; exact absurd hq (ok.al _ _ e2)
    · cases e2; exact absurd hq (ok.al _ _ e1)
    · exact ok.nj i j a e1 e2
  · have e : (if k = h.length then some q else ρ k) = some a := e
    split at e
    · cases e; exact hq'
    · have := ok.al k a e
      cases z : H a with
      | none => exact absurd z this
      | some u => rw [hh _ _ z]; simp
  · rw [List.length_append, List.length_singleton] at e
    show (if k = h.length then some q else ρ k) = none
    rw [if_neg (by omega)]
    exact ok.up k (by omega)
/-- a cell turns -/
theorem Ok.mut {k : Nat} {a : Addr} {o o' : O} {ob : HO} (ok : Ok K Z B ρ H h) (e : h[k]? = some o) (hr : ρ k = some a) (hn : ∀ z, H a ≠ some (.own z)) (hb : B a = none) (hz : Z a = none) (c : CeAt K Z B (upd H a ob) ρ a o') : Ok K Z B ρ (upd H a ob) (h.set k o') := by
  have hk : k < h.length := (List.getElem?_eq_some_iff.mp e).1
  refine ⟨fun b u q => ?_, fun b u q => ?_, fun j c' q => ?_, ok.nj, fun j b q => ?_, fun j q => ok.up j (by rwa [List.length_set] at q)⟩
  · rw [upd_ne (ne_of_none q hb)]; exact ok.ex b u q
  · rw [upd_ne (ne_of_none q hz)]; exact ok.zz b u q
  · by_cases z : j = k
    · subst z
      rw [List.getElem?_set_self hk] at q
      cases q
      exact ⟨a, hr, c⟩
    · rw [List.getElem?_set_ne (Ne.symm z)] at q
      obtain ⟨b, h1, h2⟩ := ok.ce j c' q
      have nab : b ≠ a := fun y => z (ok.nj j k a (by rw [← y]; exact h1) hr)
      refine ⟨b, h1, ?_⟩
      cases h2 with
      | lst e1 e2 e3 e4 => exact .lst (by rw [upd_ne nab]; exact e1) e2 e3 e4
      | nd e1 e2 e3 =>
        refine .nd (e1.to fun y hy u eu => ?_) e2 e3
        rcases e1.own_or.2.1 y hy with w | w
        · subst w; rw [upd_ne nab]; exact eu
        · rw [upd_ne fun v => hn b (by rw [← v]; exact w)]; exact eu
      | dead ed => exact .dead ed
  · by_cases z : b = a
    · subst z; rw [upd_same]; simp
    · rw [upd_ne z]; exact ok.al j b q
/-- other heaps that agree where it counts -/
theorem Ok.grow {H' : Hp} (ok : Ok K Z B ρ H h) (hh : ∀ b u, H b = some u → H' b = some u) : Ok K Z B ρ H' h := by
  refine ⟨fun a u e => hh _ _ (ok.ex a u e), fun a u e => hh _ _ (ok.zz a u e), fun k c e => ?_, ok.nj, fun k a e => ?_, ok.up⟩
  · obtain ⟨a, h1, h2⟩ := ok.ce k c e
    refine ⟨a, h1, ?_⟩
    cases h2 with
    | lst e1 e2 e3 e4 => exact .lst (hh _ _ e1) e2 e3 e4
    | nd e1 e2 e3 => exact .nd (e1.to fun b _ u e => hh _ _ e) e2 e3
    | dead ed => exact .dead ed
  · have := ok.al k a e
    cases z : H a with
    | none => exact absurd z this
    | some u => rw [hh _ _ z]; simp

/-! ### slots -/
structure SlOk (K : PySem.W.Frag) (B : Hp) (ρ : Nat → Option Addr) (σ : L2.St) (τ : Sl) : Prop where
  ln : σ.length = τ.length
  at_ : ∀ (i : Nat) (w : A), τ[i]? = some (some w) → ∃ v, σ[i]? = some (some v) ∧ RA K B ρ v w
theorem SlOk.mono (s : SlOk K B ρ σ τ) (g : Gr Z B ρ B' ρ') : SlOk K B' ρ' σ τ := ⟨s.ln, fun i w e => let ⟨v, h1, h2⟩ := s.at_ i w e; ⟨v, h1, h2.mono g⟩⟩
theorem SlOk.put (s : SlOk K B ρ σ τ) {i : Nat} {v : V} {w : A} (r : RA K B ρ v w) : SlOk K B ρ (σ.set i (some v)) (τ.set i (some w)) := by
  refine ⟨by rw [List.length_set, List.length_set]; exact s.ln, fun j u e => ?_⟩
  by_cases z : i = j
  · subst z
    have hi : i < τ.length := by
      have := (List.getElem?_eq_some_iff.mp e).1
      rwa [List.length_set] at this
    rw [List.getElem?_set_self hi] at e
    cases e
    exact ⟨v, List.getElem?_set_self (by rw [s.ln]; exact hi), r⟩
  · rw [List.getElem?_set_ne z] at e
    obtain ⟨x, h1, h2⟩ := s.at_ j u e
    exact ⟨x, by rw [List.getElem?_set_ne z]; exact h1, h2⟩
end

/-! ### trees of values -/
def mapMn {α β : Type} (f : α → Option β) : List α → Option (List β)
  | [] => some []
  | a :: r => match f a with | some b => (match mapMn f r with | some bs => some (b :: bs) | none => none) | none => none
def vw : Nat → Hq → A → Option D
  | _, _, .d x => some x
  | 0, _, _ => none
  | n + 1, h, .r k => match h[k]? with
    | some (.lst ws) => (mapMn (vw n h) ws).map .lst
    | some (.nd hd ws) => (mapMn (vw n h) ws).map (.nd hd)
    | _ => none
  | n + 1, h, .tup ws => (mapMn (vw n h) ws).map .tup
abbrev view (h : Hq) (w : A) : Option D := vw 32 h w
@[simp] theorem vw_d (n : Nat) (h : Hq) (x : D) : vw n h (.d x) = some x := by cases n <;> rfl
theorem mapMn_d : ∀ (f : A → Option D) (ds : List D), (∀ x, f (.d x) = some x) → mapMn f (ds.map A.d) = some ds
  | _, [], _ => rfl
  | f, d :: r, h => by
    rw [List.map_cons]
    unfold mapMn
    rw [h, mapMn_d f r h]
theorem vw_cell {n : Nat} {h : Hq} {k : Nat} {ds : List D} (e : h[k]? = some (.lst (ds.map A.d))) : vw (n + 1) h (.r k) = some (.lst ds) := by
  unfold vw
  rw [e]
  dsimp only
  rw [mapMn_d _ _ (vw_d n h)]
  rfl
section
variable {K : PySem.W.Frag} {Z B H : Hp} {ρ : Nat → Option Addr} {h : Hq}
theorem vws_of {f : A → Option D} {P : Hp} (hf : ∀ v w d, RA K B ρ v w → f w = some d → Rp K P v d) : ∀ {vs : List V} {ws : List A} {ds : List D}, RAL K B ρ vs ws → mapMn f ws = some ds → RpL K P vs ds
  | _, _, _, .nil, e => by cases e; exact .nil
  | _, w :: r, ds, .cons ra ral, e => by
    unfold mapMn at e
    split at e
    · rename_i b e1
      split at e
      · rename_i bs e2
        cases e
        exact .cons (hf _ _ _ ra e1) (vws_of hf ral e2)
      · cases e
    · cases e
/-- seen at a heap that holds what is frozen and the cells -/
theorem vw_at {P : Hp} (ok : Ok K Z B ρ H h) (e1 : Same B P) (e2 : ∀ b, Z b = none → B b = none → ∀ u, H b = some u → P b = some u) : ∀ (n : Nat) (v : V) (w : A) (d : D), RA K B ρ v w → vw n h w = some d → Rp K P v d
  | n, _, .d x, d, .d r, e => by rw [vw_d] at e; cases e; exact r.mono e1
  | 0, _, .r k, d, _, e => by cases e
  | 0, _, .tup ws, d, _, e => by cases e
  | n + 1, _, .r k, d, .r hr, e => by
    unfold vw at e
    split at e
    · rename_i ws e3
      obtain ⟨ds, e4, rfl⟩ := Option.map_eq_some_iff.mp e
      obtain ⟨a', h1, h2⟩ := ok.ce k _ e3
      rw [hr] at h1
      cases h1
      cases h2 with
      | lst q1 q2 q3 q4 => exact .lst (e2 _ q4 q3 _ q1) (vws_of (vw_at ok e1 e2 n) q2 e4)
    · rename_i hd ws e3
      obtain ⟨ds, e4, rfl⟩ := Option.map_eq_some_iff.mp e
      obtain ⟨a', h1, h2⟩ := ok.ce k _ e3
      rw [hr] at h1
      cases h1
      cases h2 with
      | nd q1 q2 q3 => exact .nd (q1.to fun b hb u eu => e2 b (q3 b hb).2 (q3 b hb).1 u eu) (vws_of (vw_at ok e1 e2 n) q2 e4)
    · cases e
  | n + 1, _, .tup ws, d, .tup ht rl, e => by
    unfold vw at e
    obtain ⟨ds, e4, rfl⟩ := Option.map_eq_some_iff.mp e
    exact .tup (e1 _ _ ht) (vws_of (vw_at ok e1 e2 n) rl e4)
theorem Ok.see (ok : Ok K Z B ρ H h) {n : Nat} {v : V} {w : A} {d : D} (r : RA K B ρ v w) (e : vw n h w = some d) : Rp K H v d := vw_at ok ok.ex (fun _ _ _ _ e => e) n v w d r e
end

/-! ### outcomes -/
inductive Rs (α : Type) where
  | ok (a : α) (h : Hq) | ex (x : Xc) (h : Hq)
abbrev E (α : Type) := Sl → Hq → Option (Rs α)
def bd {α β : Type} (r : Option (Rs α)) (k : α → Hq → Option (Rs β)) : Option (Rs β) := match r with
  | some (.ok a h) => k a h
  | some (.ex x h) => some (.ex x h)
  | none => none
@[simp] theorem bd_ok {α β : Type} (a : α) (h : Hq) (k : α → Hq → Option (Rs β)) : bd (some (.ok a h)) k = k a h := rfl
@[simp] theorem bd_ex {α β : Type} (x : Xc) (h : Hq) (k : α → Hq → Option (Rs β)) : bd (some (.ex x h)) k = some (.ex x h) := rfl
@[simp] theorem bd_no {α β : Type} (k : α → Hq → Option (Rs β)) : bd none k = none := rfl
inductive XcAt (K : PySem.W.Frag) (B : Hp) (ρ : Nat → Option Addr) (H : Hp) : Xc → Value → Option Addr → Prop
  | own {C : Str} {c : Addr} : glAt K C = some c → XcAt K B ρ H (.own C) (.ref c) none
  | fld {C f : Str} {c d : Addr} {v : V} {w : A} : glAt K C = some c → H d = some (.xd [(f, v)]) → RA K B ρ v w → XcAt K B ρ H (.fld C f w) (.ref c) (some d)
  | blt {T : String} : XcAt K B ρ H (.blt T) (.type T) none
def Post {α : Type} (K : PySem.W.Frag) (Z : Hp) (W : XK) (B : Hp) (ρ : Nat → Option Addr) (R : α → Hq → Hp → (Nat → Option Addr) → Hp → Prop) : Option (Rs α) → Prop
  | none => False
  | some (.ok a h) => ∀ B' ρ' H', Ok K Z B' ρ' H' h → Gr Z B ρ B' ρ' → R a h B' ρ' H'
  | some (.ex x h) => ∀ B' ρ' H' cls d, Ok K Z B' ρ' H' h → Gr Z B ρ B' ρ' → XcAt K B' ρ' H' x cls d → W cls d H'
section
variable {α β : Type} {K : PySem.W.Frag} {Z B B' H : Hp} {ρ ρ' : Nat → Option Addr} {h : Hq} {W : XK} {R : α → Hq → Hp → (Nat → Option Addr) → Hp → Prop} {r : Option (Rs α)}
theorem Post.from (q : Post K Z W B ρ R r) (g : Gr Z B ρ B' ρ') : Post K Z W B' ρ' R r := by
  match r, q with
  | some (.ok a h), q => exact fun B2 ρ2 H2 ok g2 => q B2 ρ2 H2 ok (g.trans g2)
  | some (.ex x h), q => exact fun B2 ρ2 H2 cls d ok g2 x => q B2 ρ2 H2 cls d ok (g.trans g2) x
theorem Post.imp {R' : α → Hq → Hp → (Nat → Option Addr) → Hp → Prop} (q : Post K Z W B ρ R r) (i : ∀ a h B' ρ' H', Ok K Z B' ρ' H' h → Gr Z B ρ B' ρ' → R a h B' ρ' H' → R' a h B' ρ' H') : Post K Z W B ρ R' r := by
  match r, q with
  | some (.ok a h), q => exact fun B2 ρ2 H2 ok g2 => i _ _ _ _ _ ok g2 (q B2 ρ2 H2 ok g2)
  | some (.ex x h), q => exact q
theorem Post.bd {R : β → Hq → Hp → (Nat → Option Addr) → Hp → Prop} {k : α → Hq → Option (Rs β)} (q : Post K Z W B ρ R (Tq.bd r k)) : Post K Z W B ρ (fun a h B' ρ' H' => Post K Z W B' ρ' R (k a h)) r := by
  match r, q with
  | some (.ok a h), q => exact fun B2 ρ2 H2 ok g2 => Post.from q g2
  | some (.ex x h), q => exact q
end
end Tq

/-! Tq2: expressions. -/
namespace Tq
open PySem PySem.Spec PyProof.Rows L2

abbrev LIM : Nat := 16777216
theorem lim_eq : LIM = sizeLine := by rw [sizeLine_eq]
abbrev Wx := WX
def tE (K : PySem.W.Frag) (W : WX) (m : E A) : TE := fun σ H Q => ∃ Z B ρ τ h, Ok K Z B ρ H h ∧ SlOk K B ρ σ τ ∧ Post K Z (fun c d H' => W c d σ H') B ρ (fun w _ B' ρ' H' => ∀ v, RA K B' ρ' v w → Q v H') (m τ h)
structure RX (X : Cx) (W : WX) (e : Expr) (m : E A) : Prop where
  pe : PE X e (tE X.K W m)
theorem pe_imp {X : Cx} {e : Expr} {t t' : TE} (h : PE X e t) (i : ∀ σ H Q, t' σ H Q → t σ H Q) : PE X e t' := ⟨fun pins s σ H Q I q => h.run pins s σ H Q I (i _ _ _ q)⟩
theorem pt_imp {X : Cx} {e : Expr} {t t' : TT} (h : PT X e t) (i : ∀ σ H Q, t' σ H Q → t σ H Q) : PT X e t' := ⟨fun pins s σ H Q I q => h.run pins s σ H Q I (i _ _ _ q)⟩
theorem pw_imp {X : Cx} {e : Expr} {t t' : TT} (h : PW X e t) (i : ∀ σ H Q, t' σ H Q → t σ H Q) : PW X e t' := ⟨fun w pins s σ H Q I q => h.run w pins s σ H Q I (i _ _ _ q)⟩
theorem pa_imp {X : Cx} {e : List Expr} {t t' : TA} (h : PA X e t) (i : ∀ σ H Q, t' σ H Q → t σ H Q) : PA X e t' := ⟨fun pos pins s σ H Q I q => h.run pos pins s σ H Q I (i _ _ _ q)⟩
theorem ps_imp {X : Cx} {e : Stmt} {t t' : TS} (h : PS X e t) (i : ∀ D σ H, t' D σ H → t D σ H) : PS X e t' := ⟨fun pins s σ H D I q => h.run pins s σ H D I (i _ _ _ q)⟩
theorem pss_imp {X : Cx} {e : List Stmt} {t t' : TS} (h : PSs X e t) (i : ∀ D σ H, t' D σ H → t D σ H) : PSs X e t' := ⟨fun pins s σ H D I q => h.run pins s σ H D I (i _ _ _ q)⟩
theorem po_imp {X : Cx} {e : Option Expr} {t t' : TO} (h : PO X e t) (i : ∀ σ H Q, t' σ H Q → t σ H Q) : PO X e t' := by
  constructor
  intros
  rename_i I q
  exact h.run _ _ _ _ _ I (i _ _ _ q)
theorem pe_or {X : Cx} {e : Expr} {t t' : TE} (h : PE X e t) (h' : PE X e t') : PE X e fun σ H Q => t σ H Q ∨ t' σ H Q := ⟨fun pins s σ H Q I q => q.elim (h.run pins s σ H Q I) (h'.run pins s σ H Q I)⟩

section
variable {α β : Type} {K : PySem.W.Frag} {W : WX} {σ : L2.St} {τ : Sl} {H : Hp} {Q : VK} {Z B : Hp} {ρ : Nat → Option Addr} {h : Hq}
/-- a step: e is m, and what follows -/
theorem te_bd {m : E A} {k : A → Hq → Option (Rs β)} {R : β → Hq → Hp → (Nat → Option Addr) → Hp → Prop} (ok : Ok K Z B ρ H h) (sl : SlOk K B ρ σ τ) (q : Post K Z (fun c d H' => W c d σ H') B ρ R (bd (m τ h) k))
    (c : ∀ v w h1 B1 ρ1 H1, RA K B1 ρ1 v w → Ok K Z B1 ρ1 H1 h1 → SlOk K B1 ρ1 σ τ → Gr Z B ρ B1 ρ1 → Post K Z (fun c d H' => W c d σ H') B1 ρ1 R (k w h1) → Q v H1) : tE K W m σ H Q :=
  ⟨Z, B, ρ, τ, h, ok, sl, q.bd.imp fun w h1 B1 ρ1 H1 ok1 g1 q1 v r => c v w h1 B1 ρ1 H1 r ok1 (sl.mono g1) g1 q1⟩
theorem te_last {m : E A} (ok : Ok K Z B ρ H h) (sl : SlOk K B ρ σ τ) {R : A → Hq → Hp → (Nat → Option Addr) → Hp → Prop} (q : Post K Z (fun c d H' => W c d σ H') B ρ R (m τ h))
    (c : ∀ v w h1 B1 ρ1 H1, RA K B1 ρ1 v w → Ok K Z B1 ρ1 H1 h1 → SlOk K B1 ρ1 σ τ → Gr Z B ρ B1 ρ1 → R w h1 B1 ρ1 H1 → Q v H1) : tE K W m σ H Q :=
  ⟨Z, B, ρ, τ, h, ok, sl, q.imp fun w h1 B1 ρ1 H1 ok1 g1 q1 v r => c v w h1 B1 ρ1 H1 r ok1 (sl.mono g1) g1 q1⟩
end
def pu {α : Type} (a : α) (h : Hq) : Option (Rs α) := some (.ok a h)
section
variable {α : Type} {K : PySem.W.Frag} {W : XK} {Z B : Hp} {ρ : Nat → Option Addr} {H : Hp} {h : Hq} {R : α → Hq → Hp → (Nat → Option Addr) → Hp → Prop}
theorem Post.now {a : α} (q : Post K Z W B ρ R (some (.ok a h))) (ok : Ok K Z B ρ H h) : R a h B ρ H := q B ρ H ok Gr.refl
end

/-! ### leaves -/
def mC (d : D) : E A := fun _ h => some (.ok (.d d) h)
def mVar (i : Nat) : E A := fun τ h => match τ[i]? with | some (some w) => some (.ok w h) | _ => none
def mNo {α : Type} : E α := fun _ _ => none
section
variable {X : Cx} {W : WX} {e a b c : Expr} {m ma mb mc : E A} {pos : Pos}
theorem rx_no : RX X W e mNo := ⟨⟨fun pins s σ H Q I q => by
  obtain ⟨_, _, _, _, _, _, _, q⟩ := q
  exact q.elim⟩⟩
theorem rx_const {v : V} {d : D} (h : PE X e (tC v)) (r : ∀ B, Rp X.K B v d) : RX X W e (mC d) := ⟨pe_imp h fun σ H Q q => by
  obtain ⟨Z, B, ρ, τ, h, ok, sl, q⟩ := q
  exact q.now ok v (.d (r B))⟩
theorem rx_int {i j pos} : RX X W (.Constant (.int i) j pos) (mC (.int i)) := rx_const pe_int fun _ => .int i
theorem rx_bl {i j pos} : RX X W (.Constant (.bool i) j pos) (mC (.bl i)) := rx_const pe_bl fun _ => .bl i
theorem rx_str {i j pos} : RX X W (.Constant (.str i) j pos) (mC (.str i)) := rx_const pe_str fun _ => .str i
theorem rx_non {j pos} : RX X W (.Constant .none j pos) (mC .non) := rx_const pe_non fun _ => .non
theorem rx_glob {x : Str} {v : V} {d : D} {u : Value} (hm : X.mg x = some u) (r : RelV v u) (rp : ∀ B, Rp X.K B v d) (hg : Gl X x := by rfl) (hd : (x == ("__debug__" : Str)) = false := by decide) : RX X W (.Name x pos) (mC d) :=
  rx_const (pe_glob hg hm r hd) rp
theorem rx_var (i : Nat) {x : Str} (hN : X.N[i]? = some x := by rfl) (hv : Vis X.env.scope x := by first | exact Or.inl rfl | exact Or.inr (Or.inl rfl) | exact Or.inr (Or.inr rfl)) (hd : (x == ("__debug__" : Str)) = false := by decide)
    (hcd : (x == ("__classdict__" : Str)) = false := by decide) : RX X W (.Name x pos) (mVar i) := ⟨pe_imp (pv i hN hv hd hcd) fun σ H Q q => by
  obtain ⟨Z, B, ρ, τ, h, ok, sl, q⟩ := q
  unfold mVar at q
  split at q
  · rename_i w e1
    obtain ⟨v, h1, h2⟩ := sl.at_ i w e1
    exact ⟨v, h1, q.now ok v h2⟩
  · exact q.elim⟩

/-! ### operators -/
abbrev G2 := A → A → Hq → Option (Rs A)
abbrev G1 := A → Hq → Option (Rs A)
def mBin (g : G2) (ma mb : E A) : E A := fun τ h => bd (ma τ h) fun a h1 => bd (mb τ h1) fun b h2 => g a b h2
def mUn (g : G1) (ma : E A) : E A := fun τ h => bd (ma τ h) fun a h1 => g a h1
def Op2 (K : PySem.W.Frag) (r : R2) (g : G2) : Prop := ∀ (Z B : Hp) (ρ : Nat → Option Addr) (H : Hp) (h : Hq) (x y : V) (a b : A) (W : XK) (Q : VK), Ok K Z B ρ H h → RA K B ρ x a → RA K B ρ y b →
  Post K Z W B ρ (fun w _ B' ρ' H' => ∀ v, RA K B' ρ' v w → Q v H') (g a b h) → r x y H Q
def Op1 (K : PySem.W.Frag) (r : V → Hp → VK → Prop) (g : G1) : Prop := ∀ (Z B : Hp) (ρ : Nat → Option Addr) (H : Hp) (h : Hq) (x : V) (a : A) (W : XK) (Q : VK), Ok K Z B ρ H h → RA K B ρ x a →
  Post K Z W B ρ (fun w _ B' ρ' H' => ∀ v, RA K B' ρ' v w → Q v H') (g a h) → r x H Q
theorem rx_op2 {g : G2} {r : R2} {ee : Expr} (ha : RX X W a ma) (hb : RX X W b mb) (og : Op2 X.K r g) (he : ∀ {ta tb : TE}, PE X a ta → PE X b tb → PE X ee (tOp r ta tb)) : RX X W ee (mBin g ma mb) := ⟨pe_imp (he ha.pe hb.pe) fun σ H Q q => by
  obtain ⟨Z, B, ρ, τ, h, ok, sl, q⟩ := q
  exact te_bd ok sl q fun x a h1 B1 ρ1 H1 rx ok1 sl1 g1 q1 => te_bd ok1 sl1 q1 fun y b h2 B2 ρ2 H2 ry ok2 sl2 g2 q2 => og Z B2 ρ2 H2 h2 x y a b _ Q ok2 (rx.mono g2) ry q2⟩
theorem rx_bin {op : Operator} {g : G2} {r : R2} (ho : OpR X (binaryOp op) r) (og : Op2 X.K r g) (ha : RX X W a ma) (hb : RX X W b mb) : RX X W (.BinOp a op b pos) (mBin g ma mb) :=
  rx_op2 ha hb og fun h1 h2 => pe_op ho h1 h2
theorem rx_cmp {op : CmpOp} {g : G2} {r : R2} (ho : OpR X (compareOp op) r) (og : Op2 X.K r g) (ha : RX X W a ma) (hb : RX X W b mb) (hm : behindInMarks op b = false) : RX X W (.Compare a [op] [b] pos) (mBin g ma mb) :=
  rx_op2 ha hb og fun h1 h2 => pe_cmpR ho h1 h2 hm
theorem rx_op1 {g : G1} {r : V → Hp → VK → Prop} {ee : Expr} (ha : RX X W a ma) (og : Op1 X.K r g) (he : ∀ {ta : TE}, PE X a ta → PE X ee (tUn r ta)) : RX X W ee (mUn g ma) := ⟨pe_imp (he ha.pe) fun σ H Q q => by
  obtain ⟨Z, B, ρ, τ, h, ok, sl, q⟩ := q
  exact te_bd ok sl q fun x a h1 B1 ρ1 H1 rx ok1 sl1 g1 q1 => og Z B1 ρ1 H1 h1 x a _ Q ok1 rx q1⟩
theorem rx_un {op : UnaryOp} {g : G1} {r : V → Hp → VK → Prop} (ho : UnR X (unaryOp op) r) (og : Op1 X.K r g) (ha : RX X W a ma) : RX X W (.UnaryOp op a pos) (mUn g ma) :=
  rx_op1 ha og fun h1 => pe_un ho h1

/-! ### argument lists -/
def tAs (K : PySem.W.Frag) (W : WX) (m : E (List A)) : TA := fun σ H Q => ∃ Z B ρ τ h, Ok K Z B ρ H h ∧ SlOk K B ρ σ τ ∧ Post K Z (fun c d H' => W c d σ H') B ρ (fun ws _ B' ρ' H' => ∀ vs, RAL K B' ρ' vs ws → Q vs H') (m τ h)
structure RAs (X : Cx) (W : WX) (es : List Expr) (m : E (List A)) : Prop where
  pa : PA X es (tAs X.K W m)
def maNil : E (List A) := fun _ h => some (.ok [] h)
def maCons (ma : E A) (mr : E (List A)) : E (List A) := fun τ h => bd (ma τ h) fun a h1 => bd (mr τ h1) fun r h2 => some (.ok (a :: r) h2)
variable {es : List Expr} {mr : E (List A)}
theorem ra_nil : RAs X W [] maNil := ⟨pa_imp pa_nil fun σ H Q q => by
  obtain ⟨Z, B, ρ, τ, h, ok, sl, q⟩ := q
  exact q.now ok [] .nil⟩
theorem ra_cons (ha : RX X W a ma) (hr : RAs X W es mr) (hs : starEach (a :: es) X.env = (false, eval a X.env) :: starEach es X.env := by rfl) : RAs X W (a :: es) (maCons ma mr) := ⟨pa_imp (pa_cons ha.pe hr.pa hs) fun σ H Q q => by
  obtain ⟨Z, B, ρ, τ, h, ok, sl, q⟩ := q
  refine te_bd ok sl q fun x a h1 B1 ρ1 H1 rx ok1 sl1 g1 q1 => ?_
  refine ⟨Z, B1, ρ1, τ, h1, ok1, sl1, q1.bd.imp fun ws h2 B2 ρ2 H2 ok2 g2 q2 vs rl => ?_⟩
  exact q2.now ok2 (x :: vs) (.cons (rx.mono g2) rl)⟩

/-! ### new lists and tuples -/
def A.toD? : A → Option D
  | .d x => some x
  | _ => none
def allD : List A → Option (List D) := mapMn A.toD?
theorem allD_of : ∀ {ws : List A} {ds : List D}, allD ws = some ds → ws = ds.map A.d
  | [], ds, h => by cases h; rfl
  | w :: r, ds, h => by
    unfold allD mapMn at h
    split at h
    · rename_i b e1
      split at h
      · rename_i bs e2
        cases h
        cases w with
        | d x =>
          cases e1
          rw [allD_of (ws := r) e2]
          rfl
        | r _ => cases e1
        | tup _ => cases e1
      · cases h
    · cases h
@[simp] theorem allD_map (ds : List D) : allD (ds.map A.d) = some ds := mapMn_d _ ds fun _ => rfl
/-- a new list: a cell, or data at once -/
def mkL (o : Bool) (ws : List A) (h : Hq) : Option (Rs A) := if ws.length ≤ LIM then (if o then some (.ok (.r h.length) (h ++ [.lst ws])) else (allD ws).map fun ds => .ok (.d (.lst ds)) h) else none
def mkT (ws : List A) (h : Hq) : Option (Rs A) := if ws.length ≤ LIM then (match allD ws with | some ds => some (.ok (.d (.tup ds)) h) | none => some (.ok (.tup ws) h)) else none
section
variable {K : PySem.W.Frag} {W : XK} {Z B : Hp} {ρ : Nat → Option Addr} {H : Hp} {h : Hq} {Q : VK} {ws : List A} {vs : List V} {o : Bool}
theorem mkL_len {R : A → Hq → Hp → (Nat → Option Addr) → Hp → Prop} (q : Post K Z W B ρ R (mkL o ws h)) : ws.length ≤ LIM := by
  unfold mkL at q
  split at q
  · assumption
  · exact q.elim
theorem mkL_ok (ok : Ok K Z B ρ H h) (r : RAL K B ρ vs ws) (q : Post K Z W B ρ (fun w _ B' ρ' H' => ∀ v, RA K B' ρ' v w → Q v H') (mkL o ws h)) {p : Addr} (hp : H p = none) : Q (.ref p) (upd H p (.lst vs)) := by
  unfold mkL at q
  split at q
  · split at q
    · have hb : B p = none := by
        cases z : B p with
        | none => rfl
        | some u => rw [ok.ex p u z] at hp; cases hp
      have hz : Z p = none := by
        cases z : Z p with
        | none => rfl
        | some u => rw [ok.zz p u z] at hp; cases hp
      obtain ⟨ok2, g⟩ := ok.newC (q := p) (H' := upd H p (.lst vs)) (o := .lst ws) hp (fun b u e => by rw [upd_ne (ne_of_none e hp)]; exact e) (by rw [upd_same]; simp) (.lst upd_same r hb hz)
      exact q _ _ _ ok2 g (.ref p) (.r (if_pos rfl))
    · cases e : allD ws with
      | none => rw [e] at q; exact q.elim
      | some ds =>
        rw [e] at q
        cases allD_of e
        obtain ⟨ok2, g⟩ := ok.newB (o := .lst vs) hp
        exact q _ _ _ ok2 g (.ref p) (.d (.lst upd_same ((ral_rpl r).mono g.bb)))
  · exact q.elim
theorem mkT_len {R : A → Hq → Hp → (Nat → Option Addr) → Hp → Prop} (q : Post K Z W B ρ R (mkT ws h)) : ws.length ≤ LIM := by
  unfold mkT at q
  split at q
  · assumption
  · exact q.elim
/-- a tuple that stands -/
theorem mkT_at (ok : Ok K Z B ρ H h) {p : Addr} (ht : B p = some (.tup vs)) (r : RAL K B ρ vs ws) (q : Post K Z W B ρ (fun w _ B' ρ' H' => ∀ v, RA K B' ρ' v w → Q v H') (mkT ws h)) : Q (.ref p) H := by
  unfold mkT at q
  split at q
  · cases e : allD ws with
    | none =>
      rw [e] at q
      exact q.now ok (.ref p) (.tup ht r)
    | some ds =>
      rw [e] at q
      cases allD_of e
      exact q.now ok (.ref p) (.d (.tup ht (ral_rpl r)))
  · exact q.elim
theorem mkT_ok (ok : Ok K Z B ρ H h) (r : RAL K B ρ vs ws) (q : Post K Z W B ρ (fun w _ B' ρ' H' => ∀ v, RA K B' ρ' v w → Q v H') (mkT ws h)) {p : Addr} (hp : H p = none) : Q (.ref p) (upd H p (.tup vs)) := by
  obtain ⟨ok2, g⟩ := ok.newB (o := .tup vs) hp
  exact mkT_at ok2 upd_same (r.mono g) (q.from g)
end
def mTup (mr : E (List A)) : E A := fun τ h => bd (mr τ h) fun ws h1 => mkT ws h1
def mLst (o : Bool) (mr : E (List A)) : E A := fun τ h => bd (mr τ h) fun ws h1 => mkL o ws h1
theorem rx_tup {x1} (hr : RAs X W es mr) : RX X W (.Tuple es x1 pos) (mTup mr) := ⟨pe_imp (pe_tup hr.pa) fun σ H Q q => by
  obtain ⟨Z, B, ρ, τ, h, ok, sl, q⟩ := q
  refine ⟨Z, B, ρ, τ, h, ok, sl, q.bd.imp fun ws h1 B1 ρ1 H1 ok1 g1 q1 vs rl => ?_⟩
  exact ⟨by rw [rl.length, ← lim_eq]; exact mkT_len q1, fun p hp => mkT_ok ok1 rl q1 hp⟩⟩
theorem rx_lst (o : Bool) (hr : RAs X W es mr) : RX X W (.List es pos) (mLst o mr) := ⟨pe_imp (pe_lst hr.pa) fun σ H Q q => by
  obtain ⟨Z, B, ρ, τ, h, ok, sl, q⟩ := q
  refine ⟨Z, B, ρ, τ, h, ok, sl, q.bd.imp fun ws h1 B1 ρ1 H1 ok1 g1 q1 vs rl => ?_⟩
  exact ⟨by rw [rl.length, ← lim_eq]; exact mkL_len q1, fun p hp => mkL_ok ok1 rl q1 hp⟩⟩
end
end Tq

/-! Tq3: operations. -/
namespace Tq
open PySem PySem.Spec PyProof.Rows L2

mutual
def D.toP : D → PyData
  | .non => .none | .bl b => .bool b | .int i => .int i | .str x => .str x
  | .tup xs => .tuple (D.toPs xs)
  | .kt xs => .tuple (D.toPs xs)
  | .lst xs => .list (D.toPs xs)
  | .scr ns => .list (ns.map PyData.int)
  | .fn _ => .dict []
  | .nd _ _ => .dict []
def D.toPs : List D → List PyData
  | [] => []
  | d :: r => d.toP :: D.toPs r
end
theorem D.toPs_eq : ∀ xs : List D, D.toPs xs = xs.map D.toP
  | [] => rfl
  | d :: r => by rw [D.toPs, D.toPs_eq r, List.map_cons]
theorem D.toP_tup (xs : List D) : (D.tup xs).toP = .tuple (xs.map D.toP) := by rw [D.toP, D.toPs_eq]
theorem D.toP_kt (xs : List D) : (D.kt xs).toP = .tuple (xs.map D.toP) := by rw [D.toP, D.toPs_eq]
theorem D.toP_lst (xs : List D) : (D.lst xs).toP = .list (xs.map D.toP) := by rw [D.toP, D.toPs_eq]
theorem dp_ints {K : PySem.W.Frag} {H : Hp} : ∀ ns : List Int, DpAll K H (ns.map V.int) (ns.map PyData.int)
  | [] => .nil
  | n :: r => .cons (.int n) (dp_ints r)
section
variable {K : PySem.W.Frag} {B H : Hp}
mutual
theorem Rp.dp0 : ∀ {v : V} {d : D}, Rp K B v d → d.toP.canLay0 = true → Dp K B v d.toP
  | _, _, .non, _ => .non
  | _, _, .bl b, _ => .bl b
  | _, _, .int i, _ => .int i
  | _, _, .str x, _ => .str x
  | _, _, .tup h r, c => by rw [D.toP_tup] at c ⊢; exact .tup (sqt_of h) (RpL.dp0 r c)
  | _, _, .kt h r, c => by rw [D.toP_kt] at c ⊢; exact .tup h (RpL.dp0 r c)
  | _, _, .lst h r, c => by rw [D.toP_lst] at c ⊢; exact .lst (SqL.of h) (RpL.dp0 r c)
  | _, _, .scr h, _ => by rw [D.toP]; exact .lst h (dp_ints _)
  | _, _, .fn _, c => by rw [D.toP] at c; cases c
  | _, _, .nd _ _, c => by rw [D.toP] at c; cases c
theorem RpL.dp0 : ∀ {vs : List V} {ds : List D}, RpL K B vs ds → PyData.canLayAll0 (ds.map D.toP) = true → DpAll K B vs (ds.map D.toP)
  | _, _, .nil, _ => .nil
  | _, _, .cons h r, c => by
    have c2 := Bool.and_eq_true_iff.mp c
    exact .cons (Rp.dp0 h c2.1) (RpL.dp0 r c2.2)
end
theorem Rp.dp {v : V} {d : D} (h : Rp K B v d) (hs : SeqAt.shaped d.toP = true) : Dp K B v d.toP := h.dp0 (SeqAt.canLay_of_shaped hs)
end
def D.eqv (a b : D) : Bool := PyData.eqv a.toP b.toP
def D.shp (a : D) : Bool := SeqAt.shaped a.toP

/-! ### what a value is -/
theorem rp_int {K : PySem.W.Frag} {B : Hp} {v : V} {i : Int} (r : Rp K B v (.int i)) : v = .int i := by cases r; rfl
theorem rp_str {K : PySem.W.Frag} {B : Hp} {v : V} {i : Str} (r : Rp K B v (.str i)) : v = .str i := by cases r; rfl
theorem rp_bl {K : PySem.W.Frag} {B : Hp} {v : V} {i : Bool} (r : Rp K B v (.bl i)) : v = .bl i := by cases r; rfl
theorem rp_non {K : PySem.W.Frag} {B : Hp} {v : V} (r : Rp K B v .non) : v = .non := by cases r; rfl
theorem ra_d {K : PySem.W.Frag} {B : Hp} {ρ : Nat → Option Addr} {v : V} {x : D} (w : RA K B ρ v (.d x)) : Rp K B v x := by
  cases w with
  | d r => exact r
theorem ra_int {K : PySem.W.Frag} {B : Hp} {ρ : Nat → Option Addr} {v : V} {i : Int} (w : RA K B ρ v (.d (.int i))) : v = .int i := rp_int (ra_d w)
theorem ra_str {K : PySem.W.Frag} {B : Hp} {ρ : Nat → Option Addr} {v : V} {i : Str} (w : RA K B ρ v (.d (.str i))) : v = .str i := rp_str (ra_d w)
def tupOf : A → Option (List A)
  | .d (.tup ds) => some (ds.map A.d)
  | .tup ws => some ws
  | _ => none
def lstOf (h : Hq) : A → Option (List A)
  | .d (.lst ds) => some (ds.map A.d)
  | .r k => match h[k]? with | some (.lst ws) => some ws | _ => none
  | _ => none
section
variable {K : PySem.W.Frag} {Z B H : Hp} {ρ : Nat → Option Addr} {h : Hq} {v : V} {a : A} {ws : List A}
theorem tupOf_ra (r : RA K B ρ v a) (e : tupOf a = some ws) : ∃ p vs, v = .ref p ∧ B p = some (.tup vs) ∧ RAL K B ρ vs ws := by
  unfold tupOf at e
  split at e
  · cases e
    cases ra_d r with
    | tup h1 r1 => exact ⟨_, _, rfl, h1, ral_ds r1⟩
  · cases e
    cases r with
    | tup h1 r1 => exact ⟨_, _, rfl, h1, r1⟩
  · cases e
theorem lstOf_ra (ok : Ok K Z B ρ H h) (r : RA K B ρ v a) (e : lstOf h a = some ws) : ∃ p vs, v = .ref p ∧ H p = some (.lst vs) ∧ RAL K B ρ vs ws := by
  unfold lstOf at e
  split at e
  · cases e
    cases ra_d r with
    | lst h1 r1 => exact ⟨_, _, rfl, ok.ex _ _ h1, ral_ds r1⟩
  · split at e
    · rename_i ws' e1
      cases e
      cases r with
      | r hr =>
        obtain ⟨p, h1, h2⟩ := ok.ce _ _ e1
        rw [hr] at h1
        cases h1
        cases h2 with
        | lst q1 q2 q3 q4 => exact ⟨_, _, rfl, q1, q2⟩
    · cases e
  · cases e
end

/-! ### operators that give flat data -/
def D.flat : D → Bool
  | .non => true | .bl _ => true | .int _ => true | .str _ => true | _ => false
theorem rp_flat {K : PySem.W.Frag} {B B' : Hp} {v : V} {d : D} (r : Rp K B v d) (h : d.flat = true) : Rp K B' v d := by
  cases r with
  | non => exact .non
  | bl b => exact .bl b
  | int i => exact .int i
  | str x => exact .str x
  | tup _ _ => cases h
  | kt _ _ => cases h
  | lst _ _ => cases h
  | scr _ => cases h
  | fn _ => cases h
  | nd _ _ => cases h
def gII (C : Int → Int → Bool) (f : Int → Int → Int) : G2 := fun a b h => match a, b with
  | .d (.int i), .d (.int j) => if C i j then some (.ok (.d (.int (f i j))) h) else none
  | _, _ => none
theorem og_ii {K : PySem.W.Frag} {C : Int → Int → Bool} {P : Int → Int → Prop} {f : Int → Int → Int} (hc : ∀ i j, C i j = true → P i j) : Op2 K (rI P fun i j => .int (f i j)) (gII C f) := by
  intro Z B ρ H h x y a b W Q ok rx ry q
  unfold gII at q
  split at q
  · split at q
    · rename_i hl
      exact ⟨_, _, ra_int rx, ra_int ry, hc _ _ hl, q.now ok _ (.d (.int _))⟩
    · exact q.elim
  · exact q.elim
def gSub : G2 := fun a b h => match a, b with
  | .d (.int i), .d (.int j) => some (.ok (.d (.int (i - j))) h)
  | _, _ => none
theorem og_sub {K : PySem.W.Frag} : Op2 K (rI0 fun i j => .int (i - j)) gSub := by
  intro Z B ρ H h x y a b W Q ok rx ry q
  unfold gSub at q
  split at q
  · exact ⟨_, _, ra_int rx, ra_int ry, q.now ok _ (.d (.int _))⟩
  · exact q.elim
/-- * of two factors of together less than 134 million bits -/
def CMulB (i j : Int) : Prop := i.natAbs.log2 + j.natAbs.log2 < 134000000
theorem CMulB.ok {i j : Int} (h : CMulB i j) : IntMulOk i j := by
  have b : ∀ x : Int, Builtin.Int.intBits x ≤ x.natAbs.log2 + 1 := fun x => by
    unfold Builtin.Int.intBits
    split <;> omega
  have h1 := b i
  have h2 := b j
  have h3 : i.natAbs.log2 + j.natAbs.log2 < 134000000 := h
  have e : bitsLine = 134217728 := by decide
  unfold IntMulOk
  intro z
  rw [Bool.and_eq_true] at z
  have z2 := z.2
  unfold Builtin.Int.intTooBig at z2
  have z3 := of_decide_eq_true z2
  rw [e] at z3
  omega
theorem op_mulB {X : Cx} : OpR X (binaryOp .Mult) (rI CMulB fun i j => .int (i * j)) := opI fun _ _ _ _ _ _ _ hc q => mul_int q hc.ok
def mulOk (i j : Int) : Bool := decide (i.natAbs.log2 + j.natAbs.log2 < 134000000)
def divOk (_ j : Int) : Bool := decide (0 < j) && decide (j.natAbs.log2 < 9000)
def modOk (_ j : Int) : Bool := decide (0 < j)
def powOk (i j : Int) : Bool := decide (0 ≤ j) && decide (j ≤ 1000000) && decide (i.natAbs < 2 ^ 64)
abbrev gMul := gII mulOk fun i j => i * j
abbrev gDiv := gII divOk fun i j => i / j
abbrev gMod := gII modOk fun i j => i % j
abbrev gPow := gII powOk fun i j => i ^ j.toNat
theorem og_mul {K : PySem.W.Frag} : Op2 K (rI CMulB fun i j => .int (i * j)) gMul := og_ii fun i j h => show i.natAbs.log2 + j.natAbs.log2 < 134000000 from of_decide_eq_true h
theorem og_div {K : PySem.W.Frag} : Op2 K (rI CDivW fun i j => .int (i / j)) gDiv := og_ii fun i j h => by
  unfold divOk at h
  rw [Bool.and_eq_true] at h
  exact ⟨of_decide_eq_true h.1, of_decide_eq_true h.2⟩
theorem og_mod {K : PySem.W.Frag} : Op2 K (rI (fun _ j => 0 < j) fun i j => .int (i % j)) gMod := og_ii fun i j h => of_decide_eq_true h
theorem og_pow {K : PySem.W.Frag} : Op2 K (rI CPow fun i j => .int (i ^ j.toNat)) gPow := og_ii fun i j h => by
  unfold powOk at h
  rw [Bool.and_eq_true, Bool.and_eq_true] at h
  exact ⟨of_decide_eq_true h.1.1, of_decide_eq_true h.1.2, of_decide_eq_true h.2⟩
def gNeg : G1 := fun a h => match a with
  | .d (.int i) => some (.ok (.d (.int (-i))) h)
  | _ => none
theorem og_neg {K : PySem.W.Frag} : Op1 K (rU fun i => .int (-i)) gNeg := by
  intro Z B ρ H h x a W Q ok rx q
  unfold gNeg at q
  split at q
  · exact ⟨_, ra_int rx, q.now ok _ (.d (.int _))⟩
  · exact q.elim
/-- + : o: a new list is a cell -/
def gAdd (o : Bool) : G2 := fun a b h => match a, b with
  | .d (.int i), .d (.int j) => some (.ok (.d (.int (i + j))) h)
  | .d (.str s), .d (.str t) => if s.length + t.length ≤ LIM then some (.ok (.d (.str (s ++ t))) h) else none
  | a, b => match tupOf a, tupOf b with
    | some xs, some ys => mkT (xs ++ ys) h
    | _, _ => match lstOf h a, lstOf h b with
      | some xs, some ys => mkL o (xs ++ ys) h
      | _, _ => none
abbrev rAddA (K : PySem.W.Frag) : R2 := fun x y H Q => rI0 (fun i j => .int (i + j)) x y H Q ∨ (∃ i j, x = .str i ∧ y = .str j ∧ i.length + j.length ≤ sizeLine ∧ Q (.str (i ++ j)) H) ∨ rCatA K x y H Q ∨ rCat x y H Q
theorem op_addA {X : Cx} : OpR X (binaryOp .Add) (rAddA X.K) := op_add.or (op_add_str.or (op_catA.or op_cat))
theorem og_add {K : PySem.W.Frag} {o : Bool} : Op2 K (rAddA K) (gAdd o) := by
  intro Z B ρ H h x y a b W Q ok rx ry q
  unfold gAdd at q
  split at q
  · exact .inl ⟨_, _, ra_int rx, ra_int ry, q.now ok _ (.d (.int _))⟩
  · split at q
    · rename_i hl
      exact .inr (.inl ⟨_, _, ra_str rx, ra_str ry, by rw [← lim_eq]; exact hl, q.now ok _ (.d (.str _))⟩)
    · exact q.elim
  · split at q
    · rename_i xs ys e1 e2
      obtain ⟨p, vs, rfl, h1, r1⟩ := tupOf_ra rx e1
      obtain ⟨p', us, rfl, h2, r2⟩ := tupOf_ra ry e2
      have hl := mkT_len q
      rw [List.length_append] at hl
      refine .inr (.inr (.inl ⟨p, p', vs, us, rfl, rfl, sqt_of (ok.ex _ _ h1), sqt_of (ok.ex _ _ h2), by rw [r1.length, r2.length, ← lim_eq]; exact hl, fun e => ?_, fun _ e => ?_, fun _ _ c hc => ?_⟩))
      · subst e
        cases r1
        exact mkT_at ok h2 r2 q
      · subst e
        cases r2
        rw [List.append_nil] at q
        exact mkT_at ok h1 r1 q
      · exact mkT_ok ok (r1.append r2) q hc
    · split at q
      · rename_i xs ys e1 e2
        obtain ⟨p, vs, rfl, h1, r1⟩ := lstOf_ra ok rx e1
        obtain ⟨p', us, rfl, h2, r2⟩ := lstOf_ra ok ry e2
        have hl := mkL_len q
        rw [List.length_append] at hl
        exact .inr (.inr (.inr ⟨p, p', vs, us, rfl, rfl, h1, h2, by rw [r1.length, r2.length, ← lim_eq]; exact hl, fun c hc => mkL_ok ok (r1.append r2) q hc⟩))
      · exact q.elim

/-! ### comparisons -/
/-- of data seen as a whole -/
def g2V (g : D → D → Option Bool) : G2 := fun a b h => match view h a with
  | some x => (match view h b with | some y => (match g x y with | some k => some (.ok (.d (.bl k)) h) | none => none) | none => none)
  | none => none
theorem og_2v {K : PySem.W.Frag} {g : D → D → Option Bool} {r : R2} (hg : ∀ H x y d e k Q, Rp K H x d → Rp K H y e → g d e = some k → Q (.bl k) H → r x y H Q) : Op2 K r (g2V g) := by
  intro Z B ρ H h x y a b W Q ok rx ry q
  unfold g2V at q
  split at q
  · rename_i d e1
    split at q
    · rename_i e e2
      split at q
      · rename_i k e3
        exact hg H x y d e k Q (ok.see rx e1) (ok.see ry e2) e3 (q.now ok _ (.d (.bl k)))
      · exact q.elim
    · exact q.elim
  · exact q.elim
def eqD (neg : Bool) (x y : D) : Option Bool := if x.shp && y.shp then some (if neg then !D.eqv x y else D.eqv x y) else none
abbrev gEq (neg : Bool) : G2 := g2V (eqD neg)
theorem og_eq {K : PySem.W.Frag} : Op2 K (rEqD K) (gEq false) := og_2v fun H x y d e k Q rx ry hk q => by
  unfold eqD at hk
  split at hk
  · rename_i hs
    rw [Bool.and_eq_true] at hs
    cases hk
    exact ⟨_, _, rx.dp hs.1, ry.dp hs.2, hs.1, hs.2, q⟩
  · cases hk
theorem og_ne {K : PySem.W.Frag} : Op2 K (rNeD K) (gEq true) := og_2v fun H x y d e k Q rx ry hk q => by
  unfold eqD at hk
  split at hk
  · rename_i hs
    rw [Bool.and_eq_true] at hs
    cases hk
    exact ⟨_, _, rx.dp hs.1, ry.dp hs.2, hs.1, hs.2, q⟩
  · cases hk
def gCmp (p : Int → Int → Bool) : G2 := fun a b h => match a, b with
  | .d (.int i), .d (.int j) => some (.ok (.d (.bl (p i j))) h)
  | _, _ => none
theorem og_cmp {K : PySem.W.Frag} {p : Int → Int → Bool} : Op2 K (rI0 fun i j => .bl (p i j)) (gCmp p) := by
  intro Z B ρ H h x y a b W Q ok rx ry q
  unfold gCmp at q
  split at q
  · exact ⟨_, _, ra_int rx, ra_int ry, q.now ok _ (.d (.bl _))⟩
  · exact q.elim
abbrev gLt := gCmp fun i j => decide (i < j)
abbrev gLe := gCmp fun i j => decide (i ≤ j)
abbrev gGt := gCmp fun i j => decide (j < i)
abbrev gGe := gCmp fun i j => decide (j ≤ i)
theorem og_lt {K : PySem.W.Frag} : Op2 K (rI0 fun i j => .bl (decide (i < j))) gLt := og_cmp
theorem og_le {K : PySem.W.Frag} : Op2 K (rI0 fun i j => .bl (decide (i ≤ j))) gLe := og_cmp
theorem og_gt {K : PySem.W.Frag} : Op2 K (rI0 fun i j => .bl (decide (j < i))) gGt := og_cmp
theorem og_ge {K : PySem.W.Frag} : Op2 K (rI0 fun i j => .bl (decide (j ≤ i))) gGe := og_cmp
def A.isNon : A → Bool | .d .non => true | _ => false
def A.isBl (b : Bool) : A → Bool | .d (.bl c) => c == b | _ => false
def gIs (neg : Bool) : G2 := fun a b h => match b with
  | .d .non => some (.ok (.d (.bl (neg != a.isNon))) h)
  | .d (.bl c) => some (.ok (.d (.bl (neg != a.isBl c))) h)
  | _ => none
def rIsA (neg : Bool) : R2 := fun x y H Q => (y = .non ∨ ∃ b, y = .bl b) ∧ Q (.bl (neg != decide (x = y))) H
theorem plain_of {x y : V} {v u : Value} (rx : RelV x v) (ry : RelV y u) (h : y = .non ∨ ∃ b, y = .bl b) : plainIs v u = true ∧ (v == u) = decide (x = y) := by
  rcases h with rfl | ⟨b, rfl⟩
  · cases ry
    cases x with
    | non => cases rx; exact ⟨rfl, rfl⟩
    | bl _ => cases rx; exact ⟨rfl, rfl⟩
    | int _ => obtain ⟨t, rfl⟩ := rx; exact ⟨rfl, rfl⟩
    | str _ => obtain ⟨t, rfl⟩ := rx; exact ⟨rfl, rfl⟩
    | byt _ => obtain ⟨t, rfl⟩ := rx; exact ⟨rfl, rfl⟩
    | flt _ => obtain ⟨t, rfl⟩ := rx; exact ⟨rfl, rfl⟩
    | ref _ => cases rx; exact ⟨rfl, rfl⟩
    | ty _ => cases rx; exact ⟨rfl, rfl⟩
  · cases ry
    cases x with
    | non => cases rx; exact ⟨rfl, rfl⟩
    | bl c => cases rx; exact ⟨rfl, by cases c <;> cases b <;> rfl⟩
    | int _ => obtain ⟨t, rfl⟩ := rx; exact ⟨rfl, rfl⟩
    | str _ => obtain ⟨t, rfl⟩ := rx; exact ⟨rfl, rfl⟩
    | byt _ => obtain ⟨t, rfl⟩ := rx; exact ⟨rfl, rfl⟩
    | flt _ => obtain ⟨t, rfl⟩ := rx; exact ⟨rfl, rfl⟩
    | ref _ => cases rx; exact ⟨rfl, rfl⟩
    | ty _ => cases rx; exact ⟨rfl, rfl⟩
theorem op_isA {X : Cx} : OpR X (compareOp .Is) (rIsA false) := by
  intro pins s σ H x y v u Q I rx ry h
  obtain ⟨hy, q⟩ := h
  obtain ⟨h1, h2⟩ := plain_of rx ry hy
  exact wpAny_is_plain h1 (fin_bl I q (by rw [h2]; simp))
theorem op_isNotA {X : Cx} : OpR X (compareOp .IsNot) (rIsA true) := by
  intro pins s σ H x y v u Q I rx ry h
  obtain ⟨hy, q⟩ := h
  obtain ⟨h1, h2⟩ := plain_of rx ry hy
  exact wpAny_isNot_plain h1 (fin_bl I q (by rw [h2]; simp))
theorem og_is {K : PySem.W.Frag} {neg : Bool} : Op2 K (rIsA neg) (gIs neg) := by
  intro Z B ρ H h x y a b W Q ok rx ry q
  unfold gIs at q
  split at q
  · obtain rfl := rp_non (ra_d ry)
    refine ⟨.inl rfl, ?_⟩
    have z : decide (x = V.non) = a.isNon := by
      cases rx with
      | d r => cases r <;> rfl
      | r _ => rfl
      | tup _ _ => rfl
    rw [z]
    exact q.now ok _ (.d (.bl _))
  · rename_i c
    obtain rfl := rp_bl (ra_d ry)
    refine ⟨.inr ⟨c, rfl⟩, ?_⟩
    have z : decide (x = V.bl c) = a.isBl c := by
      cases rx with
      | d r => cases r <;> first | rfl | (rename_i k; cases k <;> cases c <;> rfl)
      | r _ => rfl
      | tup _ _ => rfl
    rw [z]
    exact q.now ok _ (.d (.bl _))
  · exact q.elim

/-! ### items -/
theorem atI_some {α : Type} {xs : List α} {i : Int} {v : α} (h : atI xs i = some v) : ∃ j, ixN xs.length i = some j ∧ xs[j]? = some v := by
  unfold atI at h
  cases e : ixN xs.length i with
  | none => rw [e] at h; cases h
  | some j => rw [e] at h; exact ⟨j, rfl, h⟩
theorem atI_of {α β : Type} {xs : List α} {ys : List β} {i : Int} {j : Nat} {v : β} (hl : ys.length = xs.length) (h : ixN xs.length i = some j) (h2 : ys[j]? = some v) : atI ys i = some v := by
  unfold atI
  rw [hl, h]
  exact h2
def gIx : G2 := fun a b h => match b with
  | .d (.int i) => (match a with
    | .d (.str z) => if z.length ≤ LIM then (match atI z.cps.toList i with | some c => some (.ok (.d (.str ⟨#[c]⟩)) h) | none => none) else none
    | .d (.scr ns) => (match atI ns i with | some n => some (.ok (.d (.int n)) h) | none => none)
    | .d (.kt ds) => (match atI ds i with | some d => some (.ok (.d d) h) | none => none)
    | a => match tupOf a with
      | some ws => (match atI ws i with | some w => some (.ok w h) | none => none)
      | none => match lstOf h a with
        | some ws => (match atI ws i with | some w => some (.ok w h) | none => none)
        | none => none)
  | _ => none
theorem og_ix {K : PySem.W.Frag} : Op2 K (rIx K) gIx := by
  intro Z B ρ H h x y a b W Q ok rx ry q
  unfold gIx at q
  split at q
  · rename_i i
    cases ra_int ry
    split at q
    · split at q
      · rename_i hl
        split at q
        · rename_i c e3
          cases ra_str rx
          exact .inr (.inr ⟨_, _, _, rfl, rfl, by rw [← lim_eq]; exact hl, e3, q.now ok _ (.d (.str _))⟩)
        · exact q.elim
      · exact q.elim
    · split at q
      · rename_i n e3
        cases ra_d rx with
        | scr h1 =>
          obtain ⟨j, e4, e5⟩ := atI_some e3
          exact .inl ⟨_, _, _, .int n, rfl, rfl, ok.ex.seq h1, atI_of (List.length_map ..) e4 (by rw [List.getElem?_map, e5]; rfl), q.now ok _ (.d (.int n))⟩
      · exact q.elim
    · split at q
      · rename_i d e3
        cases ra_d rx with
        | kt h1 r1 =>
          obtain ⟨j, e4, e5⟩ := atI_some e3
          obtain ⟨v, e6, r2⟩ := r1.get e5
          exact .inr (.inl ⟨_, _, _, _, rfl, rfl, sqt_mono ok.ex h1, atI_of r1.length e4 e6, q.now ok _ (.d r2)⟩)
      · exact q.elim
    · split at q
      · rename_i ws e1
        split at q
        · rename_i w e3
          obtain ⟨p, vs, rfl, h1, r1⟩ := tupOf_ra rx e1
          obtain ⟨j, e4, e5⟩ := atI_some e3
          obtain ⟨v, e6, r2⟩ := r1.get e5
          exact .inr (.inl ⟨_, _, _, _, rfl, rfl, sqt_of (ok.ex _ _ h1), atI_of r1.length e4 e6, q.now ok _ r2⟩)
        · exact q.elim
      · split at q
        · rename_i ws e1
          split at q
          · rename_i w e3
            obtain ⟨p, vs, rfl, h1, r1⟩ := lstOf_ra ok rx e1
            obtain ⟨j, e4, e5⟩ := atI_some e3
            obtain ⟨v, e6, r2⟩ := r1.get e5
            exact .inl ⟨_, _, _, _, rfl, rfl, SqL.of h1, atI_of r1.length e4 e6, q.now ok _ r2⟩
          · exact q.elim
        · exact q.elim
  · exact q.elim
theorem rx_ix {X : Cx} {W : WX} {a b : Expr} {pos : Pos} {ma mb : E A} (ha : RX X W a ma) (hb : RX X W b mb) (hs : PlainIx b := by exact fun _ _ => rfl) : RX X W (.Subscript a b pos) (mBin gIx ma mb) := ⟨pe_imp (pe_ix ix_seq ha.pe hb.pe hs) fun σ H Q q => by
  obtain ⟨Z, B, ρ, τ, h, ok, sl, q⟩ := q
  exact te_bd ok sl q fun x a h1 B1 ρ1 H1 rx ok1 sl1 g1 q1 => te_bd ok1 sl1 q1 fun y b h2 B2 ρ2 H2 ry ok2 sl2 g2 q2 => og_ix Z B2 ρ2 H2 h2 x y a b _ Q ok2 (rx.mono g2) ry q2⟩

/-! ### slices -/
def tOo (K : PySem.W.Frag) (W : WX) (m : E (Option Int)) : TO := fun σ H Q => ∃ Z B ρ τ h, Ok K Z B ρ H h ∧ SlOk K B ρ σ τ ∧ Post K Z (fun c d H' => W c d σ H') B ρ (fun o _ B' ρ' H' => Q o H') (m τ h)
structure RO (X : Cx) (W : WX) (e : Option Expr) (m : E (Option Int)) : Prop where
  po : PO X e (tOo X.K W m)
def moN : E (Option Int) := fun _ h => some (.ok none h)
def moS (m : E A) : E (Option Int) := fun τ h => bd (m τ h) fun a h1 => match a with | .d (.int i) => some (.ok (some i) h1) | _ => none
theorem ro_none {X : Cx} {W : WX} : RO X W none moN := ⟨po_imp po_none fun σ H Q q => by
  obtain ⟨Z, B, ρ, τ, h, ok, sl, q⟩ := q
  exact q.now ok⟩
theorem ro_some {X : Cx} {W : WX} {e : Expr} {m : E A} (hm : RX X W e m) : RO X W (some e) (moS m) := ⟨po_imp (po_some hm.pe) fun σ H Q q => by
  obtain ⟨Z, B, ρ, τ, h, ok, sl, q⟩ := q
  refine te_bd ok sl q fun x a h1 B1 ρ1 H1 rx ok1 sl1 g1 q1 => ?_
  split at q1
  · exact ⟨_, ra_int rx, q1.now ok1⟩
  · exact q1.elim⟩
def cut {α : Type} (xs : List α) (lo hi : Option Int) : List α := (xs.drop (HT.sIx xs.length 0 lo)).take (HT.sIx xs.length xs.length hi - HT.sIx xs.length 0 lo)
theorem RAL.cut {K : PySem.W.Frag} {B : Hp} {ρ : Nat → Option Addr} {vs : List V} {ds : List A} (r : RAL K B ρ vs ds) (lo hi : Option Int) : RAL K B ρ (cutV vs lo hi) (cut ds lo hi) := by
  unfold cutV Tq.cut
  rw [r.length]
  exact (r.drop _).take _
theorem map_cut {α β : Type} (f : α → β) (xs : List α) (lo hi : Option Int) : cut (xs.map f) lo hi = (cut xs lo hi).map f := by
  unfold cut
  rw [List.length_map, List.map_take, List.map_drop]
def gSl (o : Bool) (a : A) (lo hi : Option Int) (h : Hq) : Option (Rs A) := match a with
  | .d (.str z) => if z.length ≤ LIM then some (.ok (.d (.str (cutS z lo hi))) h) else none
  | .d (.scr ns) => mkL o ((cut ns lo hi).map fun i => .d (.int i)) h
  | a => match tupOf a with
    | some ws => mkT (cut ws lo hi) h
    | none => match lstOf h a with
      | some ws => mkL o (cut ws lo hi) h
      | none => none
abbrev rSlAll (K : PySem.W.Frag) : V → Option Int → Option Int → Hp → VK → Prop := fun x lo hi H Q => rSlL K x lo hi H Q ∨ rSlA K x lo hi H Q ∨ rSlS x lo hi H Q
theorem og_sl {K : PySem.W.Frag} {o : Bool} {Z B H : Hp} {ρ : Nat → Option Addr} {h : Hq} {x : V} {a : A} {lo hi : Option Int} {W : XK} {Q : VK} (ok : Ok K Z B ρ H h) (rx : RA K B ρ x a) (q : Post K Z W B ρ (fun w _ B' ρ' H' => ∀ v, RA K B' ρ' v w → Q v H') (gSl o a lo hi h)) : rSlAll K x lo hi H Q := by
  unfold gSl at q
  split at q
  · split at q
    · rename_i hl
      cases ra_str rx
      exact .inr (.inr ⟨_, rfl, by rw [← lim_eq]; exact hl, q.now ok _ (.d (.str _))⟩)
    · exact q.elim
  · rename_i ns
    cases ra_d rx with
    | scr h1 =>
      refine .inl ⟨_, _, rfl, ok.ex.seq h1, fun p hp => ?_⟩
      have z : cutV (ns.map V.int) lo hi = (cut ns lo hi).map V.int := map_cut V.int ns lo hi
      refine mkL_ok ok ?_ q hp
      rw [z]
      have e := ral_ds (K := K) (B := B) (ρ := ρ) (rpl_ints (K := K) (B := B) (cut ns lo hi))
      rwa [List.map_map] at e
  · split at q
    · rename_i ws e1
      obtain ⟨p, vs, rfl, h1, r1⟩ := tupOf_ra rx e1
      refine .inr (.inl ⟨p, vs, rfl, sqt_of (ok.ex _ _ h1), fun e => ?_, fun _ c hc => mkT_ok ok (r1.cut lo hi) q hc⟩)
      have z : cut ws lo hi = ws := by
        unfold cut
        rw [← r1.length, e.1, e.2, List.drop_zero, Nat.sub_zero, r1.length, List.take_length]
      rw [z] at q
      exact mkT_at ok h1 r1 q
    · split at q
      · rename_i ws e1
        obtain ⟨p, vs, rfl, h1, r1⟩ := lstOf_ra ok rx e1
        exact .inl ⟨p, vs, rfl, SqL.of h1, fun c hc => mkL_ok ok (r1.cut lo hi) q hc⟩
      · exact q.elim
def mSl (o : Bool) (ma : E A) (ml mh : E (Option Int)) : E A := fun τ h => bd (ma τ h) fun a h1 => bd (ml τ h1) fun lo h2 => bd (mh τ h2) fun hi h3 => gSl o a lo hi h3
theorem rx_slice {X : Cx} {W : WX} (o : Bool) {a : Expr} {lo hi : Option Expr} {p2 pos : Pos} {ma : E A} {ml mh : E (Option Int)} (ha : RX X W a ma) (hl : RO X W lo ml) (hh : RO X W hi mh) :
    RX X W (.Subscript a (.Slice lo hi none p2) pos) (mSl o ma ml mh) := ⟨pe_imp (pe_slice (sl_list.or (sl_tupA.or sl_str)) ha.pe hl.po hh.po) fun σ H Q q => by
  obtain ⟨Z, B, ρ, τ, h, ok, sl, q⟩ := q
  refine te_bd ok sl q fun x a h1 B1 ρ1 H1 rx ok1 sl1 g1 q1 => ?_
  refine ⟨Z, B1, ρ1, τ, h1, ok1, sl1, q1.bd.imp fun lo h2 B2 ρ2 H2 ok2 g2 q2 => ?_⟩
  refine ⟨Z, B2, ρ2, τ, h2, ok2, sl1.mono g2, q2.bd.imp fun hi h3 B3 ρ3 H3 ok3 g3 q3 => ?_⟩
  exact og_sl ok3 (rx.mono (g2.trans g3)) q3⟩
end Tq

/-! Tq4: tests, conditional values, built-ins. -/
namespace Tq
open PySem PySem.Spec PyProof.Rows L2

def tT (K : PySem.W.Frag) (W : WX) (m : E Bool) : TT := fun σ H Q => ∃ Z B ρ τ h, Ok K Z B ρ H h ∧ SlOk K B ρ σ τ ∧ Post K Z (fun c d H' => W c d σ H') B ρ (fun b _ B' ρ' H' => Q b H') (m τ h)
structure RT (X : Cx) (W : WX) (e : Expr) (m : E Bool) : Prop where
  pt : PT X e (tT X.K W m)
structure RWt (X : Cx) (W : WX) (e : Expr) (m : E Bool) : Prop where
  pw : PW X e (tT X.K W m)
def truD : D → Option Bool
  | .non => some false | .bl b => some b | .int i => some (i != 0)
  | .str x => if x.length ≤ LIM then some ((x.length : Int) != 0) else none
  | .lst xs => some (!xs.isEmpty) | .tup xs => some (!xs.isEmpty) | .kt xs => some (!xs.isEmpty) | .scr ns => some (!ns.isEmpty)
  | .nd (.dic ks) xs => if xs.length = ks.length then some (!ks.isEmpty) else none
  | _ => none
def truA (h : Hq) : A → Option Bool
  | .d x => truD x
  | .tup ws => some (!ws.isEmpty)
  | .r k => match h[k]? with | some (.lst ws) => some (!ws.isEmpty) | some (.nd (.dic ks) ws) => some (!ks.isEmpty) | _ => none
def mTru (m : E A) : E Bool := fun τ h => bd (m τ h) fun a h1 => match truA h1 a with | some b => some (.ok b h1) | none => none
def mTB (m : E A) : E Bool := fun τ h => bd (m τ h) fun a h1 => match a with | .d (.bl b) => some (.ok b h1) | _ => none
def mNotT (m : E Bool) : E Bool := fun τ h => bd (m τ h) fun b h1 => some (.ok (!b) h1)
def mAndT (ma mb : E Bool) : E Bool := fun τ h => bd (ma τ h) fun b h1 => match b with | true => mb τ h1 | false => some (.ok false h1)
def mOrT (ma mb : E Bool) : E Bool := fun τ h => bd (ma τ h) fun b h1 => match b with | false => mb τ h1 | true => some (.ok true h1)
section
variable {X : Cx} {W : WX} {e a b c : Expr} {es rest : List Expr} {m ma mb mc : E A} {t ta tb : E Bool} {pos : Pos}
theorem zip_empty {κ : Type} : ∀ {ks : List κ} {vs : List V}, ks.length = vs.length → (ks.zip vs).isEmpty = ks.isEmpty
  | [], _, _ => rfl
  | _ :: _, [], h => by simp at h
  | _ :: _, _ :: _, _ => rfl
theorem tru_rp {K : PySem.W.Frag} {H : Hp} {v : V} {d : D} {k : Bool} (r : Rp K H v d) (h : truD d = some k) : TruV K v H k := by
  cases r with
  | non => cases h; rfl
  | bl b => cases h; rfl
  | int i => cases h; rfl
  | str x =>
    have h : (if x.length ≤ LIM then some ((x.length : Int) != 0) else none) = some k := h
    split at h
    · rename_i hl
      cases h
      exact ⟨by rw [← lim_eq]; exact hl, rfl⟩
    · cases h
  | tup h1 r1 =>
    cases h
    refine .inr (.inl ⟨_, sqt_of h1, ?_⟩)
    cases r1 <;> rfl
  | kt h1 r1 =>
    cases h
    refine .inr (.inl ⟨_, h1, ?_⟩)
    cases r1 <;> rfl
  | lst h1 r1 =>
    cases h
    refine .inl ⟨_, SqL.of h1, ?_⟩
    cases r1 <;> rfl
  | scr h1 =>
    rename_i a ns
    cases h
    refine .inl ⟨_, h1, ?_⟩
    cases ns <;> rfl
  | fn _ => cases h
  | nd h1 r1 =>
    cases h1 with
    | dic e1 e2 =>
      rename_i ks
      have h : (if _ then some (!ks.isEmpty) else none) = some k := h
      split at h
      · cases h
        exact .inr (.inr ⟨_, e1, by rw [zip_empty e2]⟩)
      · cases h
    | dit => cases h
    | ins => cases h
theorem tru_ra {K : PySem.W.Frag} {Z B H : Hp} {ρ : Nat → Option Addr} {h : Hq} {v : V} {a : A} {k : Bool} (ok : Ok K Z B ρ H h) (r : RA K B ρ v a) (e : truA h a = some k) : TruV K v H k := by
  unfold truA at e
  split at e
  · exact tru_rp ((ra_d r).mono ok.ex) e
  · cases e
    cases r with
    | tup h1 r1 =>
      refine .inr (.inl ⟨_, sqt_of (ok.ex _ _ h1), ?_⟩)
      cases r1 <;> rfl
  · split at e
    · rename_i ws e1
      cases e
      cases r with
      | r hr =>
        obtain ⟨p, h1, h2⟩ := ok.ce _ _ e1
        rw [hr] at h1
        cases h1
        cases h2 with
        | lst q1 q2 q3 q4 =>
          refine .inl ⟨_, SqL.of q1, ?_⟩
          cases q2 <;> rfl
    · rename_i ks ws e1
      cases e
      cases r with
      | r hr =>
        obtain ⟨p, h1, h2⟩ := ok.ce _ _ e1
        rw [hr] at h1
        cases h1
        cases h2 with
        | nd q1 q2 q3 =>
          cases q1 with
          | dic e1 e2 => exact .inr (.inr ⟨_, e1, by rw [zip_empty e2]⟩)
    · cases e
theorem rt_truth (ha : RX X W a m) (he : ∀ whole, isTrue a X.env whole = (do let v ← whole; standAt a.pos; holding [v] (truthy v)) := by exact fun _ => rfl) : RT X W a (mTru m) := ⟨pt_imp (pt_truth ha.pe he) fun σ H Q q => by
  obtain ⟨Z, B, ρ, τ, h, ok, sl, q⟩ := q
  refine te_bd ok sl q fun x a h1 B1 ρ1 H1 rx ok1 sl1 g1 q1 => ?_
  split at q1
  · rename_i k e
    exact ⟨k, tru_ra ok1 rx e, q1.now ok1⟩
  · exact q1.elim⟩
theorem rt_cmp {op : CmpOp} {g : G2} {r : R2} (ho : OpR X (compareOp op) r) (og : Op2 X.K r g) (ha : RX X W a ma) (hb : RX X W b mb) (hm : behindInMarks op b = false) : RT X W (.Compare a [op] [b] pos) (mTB (mBin g ma mb)) := ⟨pt_imp (pt_cmpR ho ha.pe hb.pe hm) fun σ H Q q => by
  obtain ⟨Z, B, ρ, τ, h, ok, sl, q⟩ := q
  have q2 := q.bd
  unfold mBin at q2
  exact te_bd ok sl q2 fun x a h1 B1 ρ1 H1 rx ok1 sl1 g1 q1 => te_bd ok1 sl1 q1 fun y b h2 B2 ρ2 H2 ry ok2 sl2 g2 q2 => og Z B2 ρ2 H2 h2 x y a b _ _ ok2 (rx.mono g2) ry (q2.imp fun w h3 B3 ρ3 H3 ok3 g3 q3 v rv => by
    split at q3
    · exact ⟨_, rp_bl (ra_d rv), q3.now ok3⟩
    · exact q3.elim)⟩
/-- a value that is True or False, as a test -/
theorem rt_val (ha : RX X W a m) (he : ∀ whole, isTrue a X.env whole = (do let v ← whole; standAt a.pos; holding [v] (truthy v)) := by exact fun _ => rfl) : RT X W a (mTru m) := rt_truth ha he
theorem rt_no : RT X W e mNo := ⟨⟨fun pins s σ H Q I q => by
  obtain ⟨_, _, _, _, _, _, _, q⟩ := q
  exact q.elim⟩⟩
theorem rt_not (h : RT X W a t) : RT X W (.UnaryOp .Not a pos) (mNotT t) := ⟨pt_imp (pt_not h.pt) fun σ H Q q => by
  obtain ⟨Z, B, ρ, τ, h, ok, sl, q⟩ := q
  exact ⟨Z, B, ρ, τ, h, ok, sl, q.bd.imp fun b h1 B1 ρ1 H1 ok1 g1 q1 => q1.now ok1⟩⟩
theorem RWt.rt (h : RWt X W e t) : RT X W e t := ⟨h.pw.pt⟩
theorem rw_and1 (h : RT X W a t) : RWt X W (.BoolOp .And [a] pos) t := ⟨pw_and1 h.pt⟩
theorem rw_or1 (h : RT X W a t) : RWt X W (.BoolOp .Or [a] pos) t := ⟨pw_or1 h.pt⟩
theorem rw_and (ha : RT X W a ta) (hb : RWt X W (.BoolOp .And (b :: rest) pos) tb) : RWt X W (.BoolOp .And (a :: b :: rest) pos) (mAndT ta tb) := ⟨pw_imp (pw_and ha.pt hb.pw) fun σ H Q q => by
  obtain ⟨Z, B, ρ, τ, h, ok, sl, q⟩ := q
  refine ⟨Z, B, ρ, τ, h, ok, sl, q.bd.imp fun b h1 B1 ρ1 H1 ok1 g1 q1 => ?_⟩
  cases b with
  | true => exact iteT ⟨Z, B1, ρ1, τ, h1, ok1, sl.mono g1, q1⟩
  | false => exact iteF (q1.now ok1)⟩
theorem rw_or (ha : RT X W a ta) (hb : RWt X W (.BoolOp .Or (b :: rest) pos) tb) : RWt X W (.BoolOp .Or (a :: b :: rest) pos) (mOrT ta tb) := ⟨pw_imp (pw_or ha.pt hb.pw) fun σ H Q q => by
  obtain ⟨Z, B, ρ, τ, h, ok, sl, q⟩ := q
  refine ⟨Z, B, ρ, τ, h, ok, sl, q.bd.imp fun b h1 B1 ρ1 H1 ok1 g1 q1 => ?_⟩
  cases b with
  | true => exact iteT (q1.now ok1)
  | false => exact iteF ⟨Z, B1, ρ1, τ, h1, ok1, sl.mono g1, q1⟩⟩

/-! ### and, or, not as values; a if t else b -/
def mAndV (ma mb : E A) : E A := fun τ h => bd (ma τ h) fun a h1 => match a with | .d (.bl true) => mb τ h1 | .d (.bl false) => some (.ok (.d (.bl false)) h1) | _ => none
def mOrV (ma mb : E A) : E A := fun τ h => bd (ma τ h) fun a h1 => match a with | .d (.bl false) => mb τ h1 | .d (.bl true) => some (.ok (.d (.bl true)) h1) | _ => none
def mNotV (ma : E A) : E A := fun τ h => bd (ma τ h) fun a h1 => match a with | .d (.bl b) => some (.ok (.d (.bl (!b))) h1) | _ => none
def mIfE (t : E Bool) (ma mb : E A) : E A := fun τ h => bd (t τ h) fun b h1 => match b with | true => ma τ h1 | false => mb τ h1
theorem rx_if (hc : RT X W c t) (ha : RX X W a ma) (hb : RX X W b mb) : RX X W (.IfExp c a b pos) (mIfE t ma mb) := ⟨pe_imp (pe_ifExp hc.pt ha.pe hb.pe) fun σ H Q q => by
  obtain ⟨Z, B, ρ, τ, h, ok, sl, q⟩ := q
  refine ⟨Z, B, ρ, τ, h, ok, sl, q.bd.imp fun b h1 B1 ρ1 H1 ok1 g1 q1 => ?_⟩
  cases b with
  | true => exact iteT ⟨Z, B1, ρ1, τ, h1, ok1, sl.mono g1, q1⟩
  | false => exact iteF ⟨Z, B1, ρ1, τ, h1, ok1, sl.mono g1, q1⟩⟩
theorem rx_one {op} (h : RX X W a m) : RX X W (.BoolOp op [a] pos) m := ⟨pe_one h.pe⟩
theorem rx_and (ha : RX X W a ma) (hb : RX X W (.BoolOp .And (b :: rest) pos) mb) : RX X W (.BoolOp .And (a :: b :: rest) pos) (mAndV ma mb) := ⟨pe_imp (pe_and ha.pe hb.pe) fun σ H Q q => by
  obtain ⟨Z, B, ρ, τ, h, ok, sl, q⟩ := q
  refine te_bd ok sl q fun x a h1 B1 ρ1 H1 rx ok1 sl1 g1 q1 => ?_
  split at q1
  · exact ⟨true, rp_bl (ra_d rx), iteT ⟨Z, B1, ρ1, τ, h1, ok1, sl1, q1⟩⟩
  · exact ⟨false, rp_bl (ra_d rx), iteF (q1.now ok1 _ (.d (.bl false)))⟩
  · exact q1.elim⟩
theorem rx_or (ha : RX X W a ma) (hb : RX X W (.BoolOp .Or (b :: rest) pos) mb) : RX X W (.BoolOp .Or (a :: b :: rest) pos) (mOrV ma mb) := ⟨pe_imp (L2.pe_or ha.pe hb.pe) fun σ H Q q => by
  obtain ⟨Z, B, ρ, τ, h, ok, sl, q⟩ := q
  refine te_bd ok sl q fun x a h1 B1 ρ1 H1 rx ok1 sl1 g1 q1 => ?_
  split at q1
  · exact ⟨false, rp_bl (ra_d rx), iteF ⟨Z, B1, ρ1, τ, h1, ok1, sl1, q1⟩⟩
  · exact ⟨true, rp_bl (ra_d rx), iteT (q1.now ok1 _ (.d (.bl true)))⟩
  · exact q1.elim⟩
theorem rx_not (ha : RX X W a ma) : RX X W (.UnaryOp .Not a pos) (mNotV ma) := ⟨pe_imp (pe_not ha.pe) fun σ H Q q => by
  obtain ⟨Z, B, ρ, τ, h, ok, sl, q⟩ := q
  refine te_bd ok sl q fun x a h1 B1 ρ1 H1 rx ok1 sl1 g1 q1 => ?_
  split at q1
  · exact ⟨_, rp_bl (ra_d rx), q1.now ok1 _ (.d (.bl _))⟩
  · exact q1.elim⟩
/-- a < b < c -/
def mChain (g1 g2 : G2) (ma mb mc : E A) : E A := fun τ h => bd (ma τ h) fun a h1 => bd (mb τ h1) fun b h2 => bd (g1 a b h2) fun k h3 => match k with
  | .d (.bl true) => bd (mc τ h3) fun c h4 => g2 b c h4
  | .d (.bl false) => some (.ok (.d (.bl false)) h3)
  | _ => none

/-! ### calls of built-ins -/
theorem rx_b1 {id : String} {x : Str} {r : List V → Hp → VK → Prop} {g : G1} {px : Pos} (hc : CallR X (.builtin id) r) (og : Op1 X.K (fun x H Q => r [x] H Q) g) (ha : RX X W a ma) (hm : X.mg x = none) (hv : bootBuiltins x = some (.builtin id) := by decide +kernel) (hg : Gl X x := by rfl)
    (hn : x ≠ "__name__" := by decide) (hdb : (x == ("__debug__" : Str)) = false := by decide) (he : starEach [a] X.env = (false, eval a X.env) :: starEach [] X.env := by rfl) : RX X W (.Call (.Name x px) [a] [] pos) (mUn g ma) :=
  rx_op1 ha og fun h1 => pe_callB hc hg hm hv (pa_cons h1 pa_nil he) hn hdb he
theorem rx_t1 {T : String} {x : Str} {r : List V → Hp → VK → Prop} {g : G1} {px : Pos} (hc : CallR X (.type T) r) (og : Op1 X.K (fun x H Q => r [x] H Q) g) (ha : RX X W a ma) (hm : X.mg x = none) (hv : bootBuiltins x = some (.type T) := by decide +kernel) (hg : Gl X x := by rfl)
    (hn : x ≠ "__name__" := by decide) (hdb : (x == ("__debug__" : Str)) = false := by decide) (he : starEach [a] X.env = (false, eval a X.env) :: starEach [] X.env := by rfl) : RX X W (.Call (.Name x px) [a] [] pos) (mUn g ma) :=
  rx_op1 ha og fun h1 => pe_callTy hc hg hm hv (pa_cons h1 pa_nil he) hn hdb he
theorem rx_b2 {id : String} {x : Str} {r : List V → Hp → VK → Prop} {g : G2} {px : Pos} (hc : CallR X (.builtin id) r) (og : Op2 X.K (fun x y H Q => r [x, y] H Q) g) (ha : RX X W a ma) (hb : RX X W b mb) (hm : X.mg x = none) (hv : bootBuiltins x = some (.builtin id) := by decide +kernel) (hg : Gl X x := by rfl)
    (hn : x ≠ "__name__" := by decide) (hdb : (x == ("__debug__" : Str)) = false := by decide) (he : starEach [a, b] X.env = (false, eval a X.env) :: starEach [b] X.env := by rfl) (he2 : starEach [b] X.env = (false, eval b X.env) :: starEach [] X.env := by rfl) (hpl : (backTo pos (starEach [b] X.env)).any (·.1) = false := by rfl) : RX X W (.Call (.Name x px) [a, b] [] pos) (mBin g ma mb) :=
  rx_op2 ha hb og fun h1 h2 => pe_callB hc hg hm hv (pa_cons h1 (pa_cons h2 pa_nil he2) he) hn hdb he hpl
/-- len -/
def lenA (h : Hq) : A → Option Nat
  | .d (.str x) => if x.length ≤ LIM then some x.length else none
  | .d (.scr ns) => some ns.length
  | .d (.kt ds) => some ds.length
  | a => match tupOf a with
    | some ws => some ws.length
    | none => match lstOf h a with | some ws => some ws.length | none => none
def gLen : G1 := fun a h => match lenA h a with | some n => some (.ok (.d (.int (n : Nat))) h) | none => none
theorem og_len {K : PySem.W.Frag} : Op1 K (fun x H Q => ∃ x' n, [x] = [x'] ∧ LenV K x' H n ∧ Q (.int n) H) gLen := by
  intro Z B ρ H h x a W Q ok rx q
  unfold gLen at q
  split at q
  · rename_i n e
    refine ⟨x, n, rfl, ?_, q.now ok _ (.d (.int _))⟩
    unfold lenA at e
    split at e
    · split at e
      · cases e
        cases ra_str rx
        exact ⟨by rw [← lim_eq]; assumption, rfl⟩
      · cases e
    · cases e
      cases ra_d rx with
      | scr h1 => exact .inl ⟨_, ok.ex.seq h1, (List.length_map ..).symm⟩
    · cases e
      cases ra_d rx with
      | kt h1 r1 => exact .inr ⟨_, sqt_mono ok.ex h1, r1.length.symm⟩
    · split at e
      · rename_i ws e1
        cases e
        obtain ⟨p, vs, rfl, h1, r1⟩ := tupOf_ra rx e1
        exact .inr ⟨_, sqt_of (ok.ex _ _ h1), r1.length.symm⟩
      · split at e
        · rename_i ws e1
          cases e
          obtain ⟨p, vs, rfl, h1, r1⟩ := lstOf_ra ok rx e1
          exact .inl ⟨_, SqL.of h1, r1.length.symm⟩
        · cases e
  · exact q.elim
/-- int of an int, of a bool -/
def gInt : G1 := fun a h => match a with
  | .d (.int i) => some (.ok (.d (.int i)) h)
  | .d (.bl b) => some (.ok (.d (.int (if b then 1 else 0))) h)
  | _ => none
theorem og_int {K : PySem.W.Frag} : Op1 K (fun x H Q => (∃ i, [x] = [.int i] ∧ Q (.int i) H) ∨ ∃ k, [x] = [.bl k] ∧ Q (.int (if k then 1 else 0)) H) gInt := by
  intro Z B ρ H h x a W Q ok rx q
  unfold gInt at q
  split at q
  · cases ra_int rx
    exact .inl ⟨_, rfl, q.now ok _ (.d (.int _))⟩
  · cases rp_bl (ra_d rx)
    exact .inr ⟨_, rfl, q.now ok _ (.d (.int _))⟩
  · exact q.elim
def gAbs : G1 := fun a h => match a with
  | .d (.int i) => some (.ok (.d (.int (if i < 0 then -i else i))) h)
  | _ => none
theorem og_abs {K : PySem.W.Frag} : Op1 K (fun x H Q => ∃ i, [x] = [.int i] ∧ Q (.int (if i < 0 then -i else i)) H) gAbs := by
  intro Z B ρ H h x a W Q ok rx q
  unfold gAbs at q
  split at q
  · cases ra_int rx
    exact ⟨_, rfl, q.now ok _ (.d (.int _))⟩
  · exact q.elim
def gMax2 : G2 := fun a b h => match a, b with
  | .d (.int i), .d (.int j) => some (.ok (.d (.int (if j > i then j else i))) h)
  | _, _ => none
theorem og_max2 {K : PySem.W.Frag} : Op2 K (fun x y H Q => ∃ i j, [x, y] = [.int i, .int j] ∧ Q (.int (if j > i then j else i)) H) gMax2 := by
  intro Z B ρ H h x y a b W Q ok rx ry q
  unfold gMax2 at q
  split at q
  · cases ra_int rx
    cases ra_int ry
    exact ⟨_, _, rfl, q.now ok _ (.d (.int _))⟩
  · exact q.elim
def gMin2 : G2 := fun a b h => match a, b with
  | .d (.int i), .d (.int j) => some (.ok (.d (.int (if j < i then j else i))) h)
  | _, _ => none
theorem og_min2 {K : PySem.W.Frag} : Op2 K (fun x y H Q => ∃ i j, [x, y] = [.int i, .int j] ∧ Q (.int (if j < i then j else i)) H) gMin2 := by
  intro Z B ρ H h x y a b W Q ok rx ry q
  unfold gMin2 at q
  split at q
  · cases ra_int rx
    cases ra_int ry
    exact ⟨_, _, rfl, q.now ok _ (.d (.int _))⟩
  · exact q.elim
/-- tuple(list), tuple(tuple) -/
def gTupOf : G1 := fun a h => match tupOf a with
  | some ws => mkT ws h
  | none => match lstOf h a with | some ws => mkT ws h | none => none
theorem og_tupOf {K : PySem.W.Frag} : Op1 K (fun x H Q => ∃ p ys, [x] = [.ref p] ∧ ((SqL K H p ys ∧ ∀ l, H l = none → Q (.ref l) (upd H l (.tup ys))) ∨ (SqT K H p ys ∧ Q (.ref p) H))) gTupOf := by
  intro Z B ρ H h x a W Q ok rx q
  unfold gTupOf at q
  split at q
  · rename_i ws e1
    obtain ⟨p, vs, rfl, h1, r1⟩ := tupOf_ra rx e1
    exact ⟨_, _, rfl, .inr ⟨sqt_of (ok.ex _ _ h1), mkT_at ok h1 r1 q⟩⟩
  · split at q
    · rename_i ws e1
      obtain ⟨p, vs, rfl, h1, r1⟩ := lstOf_ra ok rx e1
      exact ⟨_, _, rfl, .inl ⟨SqL.of h1, fun l hl => mkT_ok ok r1 q hl⟩⟩
    · exact q.elim
/-- list(list), list(tuple), list(script) -/
def gLstOf (o : Bool) : G1 := fun a h => match a with
  | .d (.scr ns) => mkL o (ns.map fun i => .d (.int i)) h
  | a => match tupOf a with
    | some ws => mkL o ws h
    | none => match lstOf h a with | some ws => mkL o ws h | none => none
theorem ral_ints {K : PySem.W.Frag} {B : Hp} {ρ : Nat → Option Addr} (ns : List Int) : RAL K B ρ (ns.map V.int) (ns.map fun i => A.d (.int i)) := by
  have e := ral_ds (ρ := ρ) (rpl_ints (K := K) (B := B) ns)
  rwa [List.map_map] at e
theorem og_lstOf {K : PySem.W.Frag} {o : Bool} : Op1 K (fun x H Q => ∃ p ys, [x] = [.ref p] ∧ (SqL K H p ys ∨ SqT K H p ys) ∧ ∀ l, H l = none → Q (.ref l) (upd H l (.lst ys))) (gLstOf o) := by
  intro Z B ρ H h x a W Q ok rx q
  unfold gLstOf at q
  split at q
  · rename_i ns
    cases ra_d rx with
    | scr h1 => exact ⟨_, _, rfl, .inl (ok.ex.seq h1), fun l hl => mkL_ok ok (ral_ints ns) q hl⟩
  · split at q
    · rename_i ws e1
      obtain ⟨p, vs, rfl, h1, r1⟩ := tupOf_ra rx e1
      exact ⟨_, _, rfl, .inr (sqt_of (ok.ex _ _ h1)), fun l hl => mkL_ok ok r1 q hl⟩
    · split at q
      · rename_i ws e1
        obtain ⟨p, vs, rfl, h1, r1⟩ := lstOf_ra ok rx e1
        exact ⟨_, _, rfl, .inl (SqL.of h1), fun l hl => mkL_ok ok r1 q hl⟩
      · exact q.elim
/-- str of an int -/
def gStrI : G1 := fun a h => match a with
  | .d (.int i) => if i.natAbs.log2 < 1920 then some (.ok (.d (.str (toString i))) h) else none
  | _ => none
theorem og_strI {K : PySem.W.Frag} : Op1 K (fun x H Q => ∃ i, [x] = [.int i] ∧ i.natAbs.log2 < 1920 ∧ Q (.str (toString i)) H) gStrI := by
  intro Z B ρ H h x a W Q ok rx q
  unfold gStrI at q
  split at q
  · split at q
    · rename_i hl
      cases ra_int rx
      exact ⟨_, rfl, hl, q.now ok _ (.d (.str _))⟩
    · exact q.elim
  · exact q.elim
def gOrd : G1 := fun a h => match a with
  | .d (.str x) => if x.length = 1 then some (.ok (.d (.int (x.cps.getD 0 0 : Nat))) h) else none
  | _ => none
theorem og_ord1 {K : PySem.W.Frag} : Op1 K (fun x H Q => ∃ z, [x] = [.str z] ∧ z.length = 1 ∧ Q (.int (z.cps.getD 0 0 : Nat)) H) gOrd := by
  intro Z B ρ H h x a W Q ok rx q
  unfold gOrd at q
  split at q
  · split at q
    · rename_i hl
      cases ra_str rx
      exact ⟨_, rfl, hl, q.now ok _ (.d (.int _))⟩
    · exact q.elim
  · exact q.elim
def gChr : G1 := fun a h => match a with
  | .d (.int i) => if 0 ≤ i ∧ i ≤ 1114111 then some (.ok (.d (.str ⟨#[i.toNat]⟩)) h) else none
  | _ => none
theorem og_chr {K : PySem.W.Frag} : Op1 K (fun x H Q => ∃ i, [x] = [.int i] ∧ 0 ≤ i ∧ i ≤ 1114111 ∧ Q (.str ⟨#[i.toNat]⟩) H) gChr := by
  intro Z B ρ H h x a W Q ok rx q
  unfold gChr at q
  split at q
  · split at q
    · rename_i hl
      cases ra_int rx
      exact ⟨_, rfl, hl.1, hl.2, q.now ok _ (.d (.str _))⟩
    · exact q.elim
  · exact q.elim

/-! ### sep.join(texts) -/
def strsA : List A → Option (List Str) := mapMn fun a => match a with | .d (.str x) => some x | _ => none
theorem strsA_ra {K : PySem.W.Frag} {B : Hp} {ρ : Nat → Option Addr} : ∀ {vs : List V} {ws : List A} {ys : List Str}, RAL K B ρ vs ws → strsA ws = some ys → vs = ys.map V.str
  | _, _, ys, .nil, h => by cases h; rfl
  | _, w :: r, ys, .cons ra ral, h => by
    unfold strsA mapMn at h
    split at h
    · rename_i b e1
      split at h
      · rename_i bs e2
        cases h
        split at e1
        · cases e1
          rw [strsA_ra ral e2, ra_str ra]
          rfl
        · cases e1
      · cases h
    · cases h
def gJoin : G2 := fun s u h => match s with
  | .d (.str a) => (match (match tupOf u with | some ws => some ws | none => lstOf h u) with
    | some ws => (match strsA ws with
      | some ys => if (ys.map (·.length)).sum + ys.length * a.length ≤ LIM then some (.ok (.d (.str (Txt.join a ys))) h) else none
      | none => none)
    | none => none)
  | _ => none
/-- a method of a built-in type with one argument -/
theorem rx_m1 {T id : String} {name : Str} {apos : Pos} {r : V → List V → Hp → VK → Prop} {g : G2} (pa : PlainAttrs T) (slot : Slot T name id) (hty : typeOf (.builtin id) = pure (.type "method_descriptor")) (hm : MtR X id r)
    (tok : A → Hq → Bool) (hC : ∀ (Z B : Hp) (ρ : Nat → Option Addr) (H : Hp) (h : Hq) (x : V) (a : A), Ok X.K Z B ρ H h → RA X.K B ρ x a → tok a h = true → tyV X.K T x H) (og : Op2 X.K (fun x y H Q => r x [y] H Q) g) (ha : RX X W a ma) (hb : RX X W b mb)
    (hbase : attributeBase a name X.env (eval a X.env) = eval a X.env := by rfl)
    (hfew : ((backTo pos (starEach (b :: []) X.env)).all (fun x => !x.1) && (backToKw pos (keywordEach [] X.env)).all (fun x => x.1.isSome)
      && decide ((b :: []).length + ([] : List Keyword).length + (if ([] : List Keyword).isEmpty then 0 else 1) < 30)) = true := by rfl)
    (hline : (apos.endLine == pos.line) = true := by rfl) (hs : starEach (b :: []) X.env = (false, eval b X.env) :: starEach [] X.env := by rfl) :
    RX X W (.Call (.Attribute a name apos) [b] [] pos) (fun τ h => bd (ma τ h) fun a h1 => if tok a h1 = true then bd (mb τ h1) fun b h2 => g a b h2 else none) := ⟨pe_imp (pe_bm pa slot hty hm ha.pe (pa_cons hb.pe pa_nil hs) hbase hfew hline hs) fun σ H Q q => by
  obtain ⟨Z, B, ρ, τ, h, ok, sl, q⟩ := q
  refine te_bd ok sl q fun x a h1 B1 ρ1 H1 rx ok1 sl1 g1 q1 => ?_
  split at q1
  · rename_i ht
    exact ⟨hC Z B1 ρ1 H1 h1 x a ok1 rx ht, te_bd ok1 sl1 q1 fun y b h2 B2 ρ2 H2 ry ok2 sl2 g2 q2 => og Z B2 ρ2 H2 h2 x y a b _ Q ok2 (rx.mono g2) ry q2⟩
  · exact q1.elim⟩
/-- a method of a built-in type without arguments -/
theorem rx_m0 {T id : String} {name : Str} {apos : Pos} {r : V → List V → Hp → VK → Prop} {g : G1} (pa : PlainAttrs T) (slot : Slot T name id) (hty : typeOf (.builtin id) = pure (.type "method_descriptor")) (hm : MtR X id r)
    (tok : A → Hq → Bool) (hC : ∀ (Z B : Hp) (ρ : Nat → Option Addr) (H : Hp) (h : Hq) (x : V) (a : A), Ok X.K Z B ρ H h → RA X.K B ρ x a → tok a h = true → tyV X.K T x H) (og : Op1 X.K (fun x H Q => r x [] H Q) g) (ha : RX X W a ma)
    (hbase : attributeBase a name X.env (eval a X.env) = eval a X.env := by rfl)
    (hline : (apos.endLine == pos.line) = true := by rfl) :
    RX X W (.Call (.Attribute a name apos) [] [] pos) (fun τ h => bd (ma τ h) fun a h1 => if tok a h1 = true then g a h1 else none) := ⟨pe_imp (pe_bm0 pa slot hty hm ha.pe hbase hline) fun σ H Q q => by
  obtain ⟨Z, B, ρ, τ, h, ok, sl, q⟩ := q
  refine te_bd ok sl q fun x a h1 B1 ρ1 H1 rx ok1 sl1 g1 q1 => ?_
  split at q1
  · rename_i ht
    exact ⟨hC Z B1 ρ1 H1 h1 x a ok1 rx ht, og Z B1 ρ1 H1 h1 x a _ Q ok1 rx q1⟩
  · exact q1.elim⟩
def tokS : A → Hq → Bool := fun a _ => match a with | .d (.str _) => true | _ => false
def tokL : A → Hq → Bool := fun a h => (lstOf h a).isSome
theorem tokS_ty {K : PySem.W.Frag} (Z B : Hp) (ρ : Nat → Option Addr) (H : Hp) (h : Hq) (x : V) (a : A) (ok : Ok K Z B ρ H h) (r : RA K B ρ x a) (e : tokS a h = true) : tyV K "str" x H := by
  unfold tokS at e
  split at e
  · cases ra_str r
    rfl
  · cases e
theorem tokL_ty {K : PySem.W.Frag} (Z B : Hp) (ρ : Nat → Option Addr) (H : Hp) (h : Hq) (x : V) (a : A) (ok : Ok K Z B ρ H h) (r : RA K B ρ x a) (e : tokL a h = true) : tyV K "list" x H := by
  unfold tokL at e
  obtain ⟨ws, e⟩ := Option.isSome_iff_exists.mp e
  obtain ⟨p, vs, rfl, h1, r1⟩ := lstOf_ra ok r e
  exact .inl ⟨rfl, _, SqL.of h1⟩
theorem og_join {K : PySem.W.Frag} : Op2 K (fun x y H Q => ∃ a p, ∃ ys : List Str, x = .str a ∧ [y] = [.ref p] ∧ (SqL K H p (ys.map V.str) ∨ SqT K H p (ys.map V.str)) ∧
      (ys.map (·.length)).sum + ys.length * a.length ≤ 16777216 ∧ Q (.str (Txt.join a ys)) H) gJoin := by
  intro Z B ρ H h x y a b W Q ok rx ry q
  unfold gJoin at q
  split at q
  · rename_i a
    split at q
    · rename_i ws e
      split at q
      · rename_i ys e2
        split at q
        · rename_i hl
          cases ra_str rx
          have z : ∃ p, y = .ref p ∧ (SqL K H p (ys.map V.str) ∨ SqT K H p (ys.map V.str)) := by
            split at e
            · rename_i ws' e1
              cases e
              obtain ⟨p, vs, rfl, h1, r1⟩ := tupOf_ra ry e1
              exact ⟨p, rfl, .inr (by rw [← strsA_ra r1 e2]; exact sqt_of (ok.ex _ _ h1))⟩
            · obtain ⟨p, vs, rfl, h1, r1⟩ := lstOf_ra ok ry e
              exact ⟨p, rfl, .inl (by rw [← strsA_ra r1 e2]; exact SqL.of h1)⟩
          obtain ⟨p, rfl, hp⟩ := z
          exact ⟨a, p, ys, rfl, rfl, hp, hl, q.now ok _ (.d (.str _))⟩
        · exact q.elim
      · exact q.elim
    · exact q.elim
  · exact q.elim
def mM1 (tok : A → Hq → Bool) (g : G2) (ma mb : E A) : E A := fun τ h => bd (ma τ h) fun a h1 => if tok a h1 = true then bd (mb τ h1) fun b h2 => g a b h2 else none
def mM0 (tok : A → Hq → Bool) (g : G1) (ma : E A) : E A := fun τ h => bd (ma τ h) fun a h1 => if tok a h1 = true then g a h1 else none
theorem rx_join {apos : Pos} (ha : RX X W a ma) (hb : RX X W b mb) (hbase : attributeBase a "join" X.env (eval a X.env) = eval a X.env := by rfl)
    (hfew : ((backTo pos (starEach (b :: []) X.env)).all (fun x => !x.1) && (backToKw pos (keywordEach [] X.env)).all (fun x => x.1.isSome)
      && decide ((b :: []).length + ([] : List Keyword).length + (if ([] : List Keyword).isEmpty then 0 else 1) < 30)) = true := by rfl)
    (hline : (apos.endLine == pos.line) = true := by rfl) (hs : starEach (b :: []) X.env = (false, eval b X.env) :: starEach [] X.env := by rfl) : RX X W (.Call (.Attribute a "join" apos) [b] [] pos) (mM1 tokS gJoin ma mb) :=
  rx_m1 F.plainAttrs_str F.slot_str_join F.type_str_join mt_join tokS tokS_ty og_join ha hb hbase hfew hline hs

/-! ### isinstance of built-in classes -/
def tyD : D → Option String
  | .non => some "NoneType" | .bl _ => some "bool" | .int _ => some "int" | .str _ => some "str" | .tup _ => some "tuple" | .kt _ => some "tuple" | .lst _ => some "list" | .scr _ => some "list"
  | .nd (.dic _) _ => some "dict" | .nd (.dit _) _ => some "dict" | _ => none
def tyA (h : Hq) : A → Option String
  | .d x => tyD x
  | .tup _ => some "tuple"
  | .r k => match h[k]? with | some (.lst _) => some "list" | some (.nd (.dic _) _) => some "dict" | some (.nd (.dit _) _) => some "dict" | _ => none
def isiN (T n : String) : Bool := n == T || (n == "bool" && T == "int")
def gIsi (T : String) : G1 := fun a h => match tyA h a with | some n => some (.ok (.d (.bl (isiN T n))) h) | none => none
theorem hd_ty {K : PySem.W.Frag} {H : Hp} {a : Addr} {hd : Hd} {vs : List V} {own : List Addr} (x : HdAt K H a hd vs own) (h : ∀ C fs, hd ≠ .ins C fs) : TyX K H (.ref a) (.type "dict") := by
  cases x with
  | dic h1 _ => exact .base (.dK h1)
  | dit h1 _ => exact .base (.dT h1)
  | ins => exact absurd rfl (h _ _)
theorem sqt_ty {K : PySem.W.Frag} {H : Hp} {a : Addr} {xs : List V} (h : SqT K H a xs) : TyX K H (.ref a) (.type "tuple") := by
  rcases h with (h | ⟨o, h⟩) | ⟨o, its, n, h, hc, _⟩
  · exact .base (.tup h)
  · exact .fTuple h
  · exact .kTuple h hc
theorem sql_ty {K : PySem.W.Frag} {H : Hp} {a : Addr} {xs : List V} (h : SqL K H a xs) : TyX K H (.ref a) (.type "list") := by
  rcases h with (h | ⟨o, h⟩) | ⟨o, its, n, h, hc, _⟩
  · exact .base (.lst h)
  · exact .base (.frz h)
  · exact .kList h hc
theorem tyx_rp {K : PySem.W.Frag} {H : Hp} {v : V} {d : D} {n : String} (r : Rp K H v d) (e : tyD d = some n) : TyX K H v (.type n) ∧ n ∈ ["NoneType", "bool", "int", "str", "tuple", "list", "dict"] := by
  cases r with
  | non => cases e; exact ⟨.base .non, by decide⟩
  | bl b => cases e; exact ⟨.base (.bl b), by decide⟩
  | int i => cases e; exact ⟨.base (.int i), by decide⟩
  | str x => cases e; exact ⟨.base (.str x), by decide⟩
  | tup h r => cases e; exact ⟨sqt_ty (sqt_of h), by decide⟩
  | kt h r => cases e; exact ⟨sqt_ty h, by decide⟩
  | lst h r => cases e; exact ⟨sql_ty (SqL.of h), by decide⟩
  | scr h => cases e; exact ⟨sql_ty h, by decide⟩
  | fn _ => cases e
  | nd h r =>
    rename_i hd _ _ _
    cases hd with
    | dic ks => cases e; exact ⟨hd_ty h (fun _ _ z => by cases z), by decide⟩
    | dit ks => cases e; exact ⟨hd_ty h (fun _ _ z => by cases z), by decide⟩
    | ins C fs => cases e
theorem tyx_ra {K : PySem.W.Frag} {Z B H : Hp} {ρ : Nat → Option Addr} {h : Hq} {v : V} {a : A} {n : String} (ok : Ok K Z B ρ H h) (r : RA K B ρ v a) (e : tyA h a = some n) : TyX K H v (.type n) ∧ n ∈ ["NoneType", "bool", "int", "str", "tuple", "list", "dict"] := by
  unfold tyA at e
  split at e
  · exact tyx_rp ((ra_d r).mono ok.ex) e
  · cases e
    cases r with
    | tup h1 r1 => exact ⟨sqt_ty (sqt_of (ok.ex _ _ h1)), by decide⟩
  · cases r with
    | r hr =>
      split at e
      · rename_i e1
        cases e
        obtain ⟨p, h1, h2⟩ := ok.ce _ _ e1
        rw [hr] at h1
        cases h1
        cases h2 with
        | lst q1 q2 q3 q4 => exact ⟨sql_ty (SqL.of q1), by decide⟩
      · rename_i e1
        cases e
        obtain ⟨p, h1, h2⟩ := ok.ce _ _ e1
        rw [hr] at h1
        cases h1
        cases h2 with
        | nd q1 q2 q3 => exact ⟨hd_ty q1 (fun _ _ z => by cases z), by decide⟩
      · rename_i e1
        cases e
        obtain ⟨p, h1, h2⟩ := ok.ce _ _ e1
        rw [hr] at h1
        cases h1
        cases h2 with
        | nd q1 q2 q3 => exact ⟨hd_ty q1 (fun _ _ z => by cases z), by decide⟩
      · cases e
theorem kit_isiN {K : PySem.W.Frag} {T n : String} (hT : T ∈ ["bool", "int", "str", "tuple", "list", "dict"]) (hn : n ∈ ["NoneType", "bool", "int", "str", "tuple", "list", "dict"]) : PySem.W.kitOne K (.type n) (.type T) = some (isiN T n) := by
  rcases (by simpa using hT : T = "bool" ∨ T = "int" ∨ T = "str" ∨ T = "tuple" ∨ T = "list" ∨ T = "dict") with rfl | rfl | rfl | rfl | rfl | rfl <;>
    rcases (by simpa using hn : n = "NoneType" ∨ n = "bool" ∨ n = "int" ∨ n = "str" ∨ n = "tuple" ∨ n = "list" ∨ n = "dict") with rfl | rfl | rfl | rfl | rfl | rfl | rfl <;> exact kit_ty (by decide +kernel)
theorem og_isi {K : PySem.W.Frag} {T : String} (hT : T ∈ ["bool", "int", "str", "tuple", "list", "dict"]) : Op1 K (fun x H Q => rIsi K [x, .ty T] H Q) (gIsi T) := by
  intro Z B ρ H h x a W Q ok rx q
  unfold gIsi at q
  split at q
  · rename_i n e
    obtain ⟨h1, h2⟩ := tyx_ra ok rx e
    exact ⟨x, .ty T, .type n, .type T, _, rfl, .ty T, h1, kit_isiN hT h2, q.now ok _ (.d (.bl _))⟩
  · exact q.elim
theorem rx_isi {x : Str} {Ts : String} {px py : Pos} (ha : RX X W a ma) (hmi : X.mg "isinstance" = none) (hmT : X.mg x = none) (hv : bootBuiltins x = some (.type Ts) := by decide +kernel) (hT : Ts ∈ ["bool", "int", "str", "tuple", "list", "dict"] := by decide)
    (hgi : Gl X "isinstance" := by rfl) (hg : Gl X x := by rfl) (hn : x ≠ "__name__" := by decide) (hdb : (x == ("__debug__" : Str)) = false := by decide)
    (he : starEach [a, .Name x py] X.env = (false, eval a X.env) :: starEach [.Name x py] X.env := by rfl) (he2 : starEach [.Name x py] X.env = (false, eval (.Name x py) X.env) :: starEach [] X.env := by rfl) (hpl : (backTo pos (starEach [.Name x py] X.env)).any (·.1) = false := by rfl) :
    RX X W (.Call (.Name "isinstance" px) [a, .Name x py] [] pos) (mUn (gIsi Ts) ma) :=
  rx_op1 ha (og_isi hT) fun h1 => pe_callB call_isi hgi hmi (by decide +kernel) (pa_cons h1 (pa_cons (pe_bltn (v := .ty Ts) hg hmT hv rfl hn hdb) pa_nil he2) he) (by decide) (by decide) he hpl
end
end Tq

/-! Tq5: statements, targets, for, while. -/
namespace Tq
open PySem PySem.Spec PyProof.Rows L2

inductive So where
  | nx (τ : Sl) (h : Hq) | bk (τ : Sl) (h : Hq) | ct (τ : Sl) (h : Hq) | rt (w : A) (h : Hq) | ex (x : Xc) (τ : Sl) (h : Hq)
abbrev MS := Sl → Hq → Option So
def PostS (K : PySem.W.Frag) (Z : Hp) (W : WX) (B : Hp) (ρ : Nat → Option Addr) (D : Ends) : Option So → Prop
  | none => False
  | some (.nx τ h) => ∀ σ' B' ρ' H', Ok K Z B' ρ' H' h → SlOk K B' ρ' σ' τ → Gr Z B ρ B' ρ' → D.nx σ' H'
  | some (.bk τ h) => ∀ σ' B' ρ' H', Ok K Z B' ρ' H' h → SlOk K B' ρ' σ' τ → Gr Z B ρ B' ρ' → D.bk σ' H'
  | some (.ct τ h) => ∀ σ' B' ρ' H', Ok K Z B' ρ' H' h → SlOk K B' ρ' σ' τ → Gr Z B ρ B' ρ' → D.ct σ' H'
  | some (.rt w h) => ∀ v B' ρ' H', RA K B' ρ' v w → Ok K Z B' ρ' H' h → Gr Z B ρ B' ρ' → D.rt v H'
  | some (.ex x τ h) => ∀ σ' B' ρ' H' cls d, Ok K Z B' ρ' H' h → SlOk K B' ρ' σ' τ → Gr Z B ρ B' ρ' → XcAt K B' ρ' H' x cls d → W cls d σ' H'
def tS (K : PySem.W.Frag) (W : WX) (m : MS) : TS := fun D σ H => ∃ Z B ρ τ h, Ok K Z B ρ H h ∧ SlOk K B ρ σ τ ∧ PostS K Z W B ρ D (m τ h)
structure RS (X : Cx) (W : WX) (st : Stmt) (m : MS) : Prop where
  ps : PS X st (tS X.K W m)
structure RSs (X : Cx) (W : WX) (st : List Stmt) (m : MS) : Prop where
  ps : PSs X st (tS X.K W m)
def sb {α : Type} (τ : Sl) (r : Option (Rs α)) (k : α → Hq → Option So) : Option So := match r with
  | some (.ok a h) => k a h
  | some (.ex x h) => some (.ex x τ h)
  | none => none
@[simp] theorem sb_ok {α : Type} (τ : Sl) (a : α) (h : Hq) (k : α → Hq → Option So) : sb τ (some (.ok a h)) k = k a h := rfl
@[simp] theorem sb_ex {α : Type} (τ : Sl) (x : Xc) (h : Hq) (k : α → Hq → Option So) : sb τ (some (.ex x h)) k = some (.ex x τ h) := rfl
@[simp] theorem sb_no {α : Type} (τ : Sl) (k : α → Hq → Option So) : sb τ none k = none := rfl
section
variable {α : Type} {K : PySem.W.Frag} {Z B B' H : Hp} {ρ ρ' : Nat → Option Addr} {h : Hq} {σ : L2.St} {τ : Sl} {W : WX} {D D' : Ends} {r : Option So}
theorem PostS.from (q : PostS K Z W B ρ D r) (g : Gr Z B ρ B' ρ') : PostS K Z W B' ρ' D r := by
  match r, q with
  | some (.nx τ h), q => exact fun σ2 B2 ρ2 H2 ok sl g2 => q σ2 B2 ρ2 H2 ok sl (g.trans g2)
  | some (.bk τ h), q => exact fun σ2 B2 ρ2 H2 ok sl g2 => q σ2 B2 ρ2 H2 ok sl (g.trans g2)
  | some (.ct τ h), q => exact fun σ2 B2 ρ2 H2 ok sl g2 => q σ2 B2 ρ2 H2 ok sl (g.trans g2)
  | some (.rt w h), q => exact fun v B2 ρ2 H2 rv ok g2 => q v B2 ρ2 H2 rv ok (g.trans g2)
  | some (.ex x τ h), q => exact fun σ2 B2 ρ2 H2 cls d ok sl g2 x => q σ2 B2 ρ2 H2 cls d ok sl (g.trans g2) x
theorem PostS.sb {r : Option (Rs α)} {k : α → Hq → Option So} (sl : SlOk K B ρ σ τ) (q : PostS K Z W B ρ D (Tq.sb τ r k)) : Post K Z (fun c d H' => W c d σ H') B ρ (fun a h B' ρ' H' => PostS K Z W B' ρ' D (k a h)) r := by
  match r, q with
  | some (.ok a h), q => exact fun B2 ρ2 H2 ok g2 => PostS.from q g2
  | some (.ex x h), q => exact fun B2 ρ2 H2 cls d ok g2 x => q σ B2 ρ2 H2 cls d ok (sl.mono g2) g2 x
theorem ts_bd {m : E A} {k : A → Hq → Option So} {Q : VK} (ok : Ok K Z B ρ H h) (sl : SlOk K B ρ σ τ) (q : PostS K Z W B ρ D (Tq.sb τ (m τ h) k))
    (c : ∀ v w h1 B1 ρ1 H1, RA K B1 ρ1 v w → Ok K Z B1 ρ1 H1 h1 → SlOk K B1 ρ1 σ τ → Gr Z B ρ B1 ρ1 → PostS K Z W B1 ρ1 D (k w h1) → Q v H1) : tE K W m σ H Q :=
  ⟨Z, B, ρ, τ, h, ok, sl, (q.sb sl).imp fun w h1 B1 ρ1 H1 ok1 g1 q1 v r => c v w h1 B1 ρ1 H1 r ok1 (sl.mono g1) g1 q1⟩
theorem PostS.nx1 {D : Ends} (q : PostS K Z W B ρ D (some (.nx τ h))) (ok : Ok K Z B ρ H h) (sl : SlOk K B ρ σ τ) : D.nx σ H := q σ B ρ H ok sl Gr.refl
end

/-! ### m's -/
def mNx : MS := fun τ h => some (.nx τ h)
def mSeq (m1 m2 : MS) : MS := fun τ h => match m1 τ h with | some (.nx τ' h') => m2 τ' h' | r => r
def mIf (t : E Bool) (m1 m2 : MS) : MS := fun τ h => sb τ (t τ h) fun b h1 => match b with | true => m1 τ h1 | false => m2 τ h1
def mSet (i : Nat) (m : E A) : MS := fun τ h => sb τ (m τ h) fun w h1 => some (.nx (τ.set i (some w)) h1)
def mDrop (m : E A) : MS := fun τ h => sb τ (m τ h) fun _ h1 => some (.nx τ h1)
def mRet (m : E A) : MS := fun τ h => sb τ (m τ h) fun w h1 => some (.rt w h1)
def mRetN : MS := fun _ h => some (.rt (.d .non) h)
def mBk : MS := fun τ h => some (.bk τ h)
def mCt : MS := fun τ h => some (.ct τ h)
def mNoS : MS := fun _ _ => none
section
variable {X : Cx} {W : WX} {st : Stmt} {rest b1 b2 : List Stmt} {m m1 m2 : MS} {me : E A} {t : E Bool} {e c : Expr} {pos : Pos}
theorem rs_no : RS X W st mNoS := ⟨⟨fun pins s σ H D I q => by
  obtain ⟨_, _, _, _, _, _, _, q⟩ := q
  exact q.elim⟩⟩
theorem rss_no {st : List Stmt} : RSs X W st mNoS := ⟨⟨fun pins s σ H D I q => by
  obtain ⟨_, _, _, _, _, _, _, q⟩ := q
  exact q.elim⟩⟩
theorem rss_nil : RSs X W [] mNx := ⟨pss_imp pss_nil fun D σ H q => by
  obtain ⟨Z, B, ρ, τ, h, ok, sl, q⟩ := q
  exact q.nx1 ok sl⟩
theorem rss_cons (h1 : RS X W st m1) (h2 : RSs X W rest m2) : RSs X W (st :: rest) (mSeq m1 m2) := ⟨pss_imp (pss_cons h1.ps h2.ps) fun D σ H q => by
  obtain ⟨Z, B, ρ, τ, h, ok, sl, q⟩ := q
  refine ⟨Z, B, ρ, τ, h, ok, sl, ?_⟩
  unfold mSeq at q
  split at q
  · rename_i τ1 h1 e1
    rw [e1]
    exact fun σ' B' ρ' H' ok' sl' g => ⟨Z, B', ρ', τ1, h1, ok', sl', q.from g⟩
  · rename_i hn
    revert q hn
    cases m1 τ h with
    | none => exact fun _ q => q.elim
    | some r =>
      cases r with
      | nx τ1 h1 => exact fun hn _ => (hn _ _ rfl).elim
      | bk _ _ => exact fun _ q => q
      | ct _ _ => exact fun _ q => q
      | rt _ _ => exact fun _ q => q
      | ex _ _ _ => exact fun _ q => q⟩
theorem rss_one (h1 : RS X W st m1) : RSs X W [st] m1 := ⟨pss_one h1.ps⟩
theorem rs_pass : RS X W (.Pass pos) mNx := ⟨ps_imp ps_pass fun D σ H q => by
  obtain ⟨Z, B, ρ, τ, h, ok, sl, q⟩ := q
  exact q.nx1 ok sl⟩
theorem rs_break : RS X W (.Break pos) mBk := ⟨ps_imp ps_break fun D σ H q => by
  obtain ⟨Z, B, ρ, τ, h, ok, sl, q⟩ := q
  exact q σ B ρ H ok sl Gr.refl⟩
theorem rs_cont : RS X W (.Continue pos) mCt := ⟨ps_imp ps_continue fun D σ H q => by
  obtain ⟨Z, B, ρ, τ, h, ok, sl, q⟩ := q
  exact q σ B ρ H ok sl Gr.refl⟩
theorem rs_doc {x j pos'} : RS X W (.Expr (.Constant (.str x) j pos) pos') mNx := ⟨ps_imp ps_doc fun D σ H q => by
  obtain ⟨Z, B, ρ, τ, h, ok, sl, q⟩ := q
  exact q.nx1 ok sl⟩
theorem rs_if (hc : RT X W c t) (ha : RSs X W b1 m1) (hb : RSs X W b2 m2) : RS X W (.If c b1 b2 pos) (mIf t m1 m2) := ⟨ps_imp (ps_if hc.pt ha.ps hb.ps) fun D σ H q => by
  obtain ⟨Z, B, ρ, τ, h, ok, sl, q⟩ := q
  refine ⟨Z, B, ρ, τ, h, ok, sl, (q.sb sl).imp fun b h1 B1 ρ1 H1 ok1 g1 q1 => ?_⟩
  cases b with
  | true => exact iteT ⟨Z, B1, ρ1, τ, h1, ok1, sl.mono g1, q1⟩
  | false => exact iteF ⟨Z, B1, ρ1, τ, h1, ok1, sl.mono g1, q1⟩⟩
theorem rs_set {i : Nat} {x : Str} {pos' : Pos} (hN : X.N.Nodup) (he : RX X W e me) (hi : X.N[i]? = some x := by rfl) (hx : Loc X.env.scope x := by first | exact .inl rfl | exact .inr rfl) (hs : swapsWith e (some (.Name x pos')) pos.line X.env = pure false := by rfl)
    (hf : X.fn x = true ∨ X.env.scope.names.lookup x = some .local := by first | exact .inl rfl | exact .inr rfl | assumption) : RS X W (.Assign [.Name x pos'] e pos) (mSet i me) := ⟨ps_imp (ps_set hN hi hx he.pe hs hf) fun D σ H q => by
  obtain ⟨Z, B, ρ, τ, h, ok, sl, q⟩ := q
  exact ts_bd ok sl q fun v w h1 B1 ρ1 H1 rv ok1 sl1 g1 q1 => q1.nx1 ok1 (sl1.put rv)⟩
theorem rs_drop (he : RX X W e me) (hs : swapsWith e none pos.line X.env = pure false := by rfl) : RS X W (.Expr e pos) (mDrop me) := ⟨ps_imp (ps_expr he.pe hs) fun D σ H q => by
  obtain ⟨Z, B, ρ, τ, h, ok, sl, q⟩ := q
  exact ts_bd ok sl q fun v w h1 B1 ρ1 H1 rv ok1 sl1 g1 q1 => q1.nx1 ok1 sl1⟩
theorem rs_ret (he : RX X W e me) : RS X W (.Return (some e) pos) (mRet me) := ⟨ps_imp (ps_ret he.pe) fun D σ H q => by
  obtain ⟨Z, B, ρ, τ, h, ok, sl, q⟩ := q
  exact ts_bd ok sl q fun v w h1 B1 ρ1 H1 rv ok1 sl1 g1 q1 => q1 v B1 ρ1 H1 rv ok1 Gr.refl⟩
theorem rs_retN : RS X W (.Return none pos) mRetN := ⟨ps_imp ps_retN fun D σ H q => by
  obtain ⟨Z, B, ρ, τ, h, ok, sl, q⟩ := q
  exact q .non B ρ H (.d .non) ok Gr.refl⟩

/-! ### targets -/
def Apart (vs : List Nat) (σ σ' : L2.St) : Prop := σ'.length = σ.length ∧ ∀ j, j ∉ vs → σ'[j]? = σ[j]?
theorem Apart.refl {vs : List Nat} {σ : L2.St} : Apart vs σ σ := ⟨rfl, fun _ _ => rfl⟩
theorem Apart.trans {vs : List Nat} {σ σ1 σ2 : L2.St} (a : Apart vs σ σ1) (b : Apart vs σ1 σ2) : Apart vs σ σ2 := ⟨b.1.trans a.1, fun j h => (b.2 j h).trans (a.2 j h)⟩
theorem Apart.set {vs : List Nat} {σ : L2.St} {i : Nat} {v : Option V} (h : i ∈ vs) : Apart vs σ (σ.set i v) := ⟨List.length_set .., fun j hj => List.getElem?_set_ne fun e => hj (by rw [← e]; exact h)⟩
structure RG (X : Cx) (vs : List Nat) (tg : Expr) (mg : A → Sl → Hq → Option Sl) : Prop where
  pg : PG X tg fun v σ H Q => ∃ Z B ρ w τ τ' h, Ok X.K Z B ρ H h ∧ SlOk X.K B ρ σ τ ∧ RA X.K B ρ v w ∧ mg w τ h = some τ' ∧ ∀ σ', SlOk X.K B ρ σ' τ' → Apart vs σ σ' → Q σ' H
def mgName (i : Nat) : A → Sl → Hq → Option Sl := fun w τ _ => some (τ.set i (some w))
theorem pg_imp {X : Cx} {e : Expr} {t t' : TG} (h : PG X e t) (i : ∀ v σ H Q, t' v σ H Q → t v σ H Q) : PG X e t' := ⟨fun pins s σ H v u Q I r q => h.run pins s σ H v u Q I r (i _ _ _ _ q)⟩
theorem pg_or {X : Cx} {e : Expr} {t t' : TG} (h : PG X e t) (h' : PG X e t') : PG X e fun v σ H Q => t v σ H Q ∨ t' v σ H Q := ⟨fun pins s σ H v u Q I r q => q.elim (h.run pins s σ H v u Q I r) (h'.run pins s σ H v u Q I r)⟩
theorem pgs_imp {X : Cx} {es : List Expr} {t t' : TGs} (h : PGs X es t) (i : ∀ v σ H Q, t' v σ H Q → t v σ H Q) : PGs X es t' := ⟨fun pins s σ H v u Q I r q => h.run pins s σ H v u Q I r (i _ _ _ _ q)⟩
theorem rg_name {vs : List Nat} {i : Nat} {x : Str} (hN : X.N.Nodup) (hm : i ∈ vs := by decide) (hi : X.N[i]? = some x := by rfl) (hx : Loc X.env.scope x := by first | exact .inl rfl | exact .inr rfl) (hf : X.fn x = true ∨ X.env.scope.names.lookup x = some .local := by first | exact .inl rfl | exact .inr rfl | assumption) :
    RG X vs (.Name x pos) (mgName i) := ⟨pg_imp (pg_name hN hi hx hf) fun v σ H Q q => by
  obtain ⟨Z, B, ρ, w, τ, τ', h, ok, sl, r, e, q⟩ := q
  cases e
  exact q _ (sl.put r) (Apart.set hm)⟩
structure RGs (X : Cx) (is : List Nat) (tgs : List Expr) (mg : List A → Sl → Hq → Option Sl) : Prop where
  pg : PGs X tgs fun vs σ H Q => ∃ Z B ρ ws τ τ' h, Ok X.K Z B ρ H h ∧ SlOk X.K B ρ σ τ ∧ RAL X.K B ρ vs ws ∧ mg ws τ h = some τ' ∧ ∀ σ', SlOk X.K B ρ σ' τ' → Apart is σ σ' → Q σ' H
def mgNil : List A → Sl → Hq → Option Sl := fun ws τ _ => match ws with | [] => some τ | _ => none
def mgCons (g : A → Sl → Hq → Option Sl) (gs : List A → Sl → Hq → Option Sl) : List A → Sl → Hq → Option Sl := fun ws τ h => match ws with
  | w :: r => (match g w τ h with | some τ1 => gs r τ1 h | none => none)
  | [] => none
/-- a, b = a tuple or a list of n -/
def mgTup (n : Nat) (gs : List A → Sl → Hq → Option Sl) : A → Sl → Hq → Option Sl := fun w τ h => match tupOf w with
  | some ws => if ws.length = n then gs ws τ h else none
  | none => match lstOf h w with
    | some ws => if ws.length = n then gs ws τ h else none
    | none => none
theorem rgs_nil {is : List Nat} : RGs X is [] mgNil := ⟨pgs_imp pgs_nil fun vs σ H Q q => by
  obtain ⟨Z, B, ρ, ws, τ, τ', h, ok, sl, r, e, q⟩ := q
  cases r with
  | nil => cases e; exact ⟨rfl, q σ sl Apart.refl⟩
  | cons _ _ => cases e⟩
theorem rgs_cons {is : List Nat} {es : List Expr} {g : A → Sl → Hq → Option Sl} {gs : List A → Sl → Hq → Option Sl} (h1 : RG X is e g) (h2 : RGs X is es gs)
    (hs : (assignEach (e :: es) X.env).map (·.2) = assign e X.env :: (assignEach es X.env).map (·.2) := by rfl) : RGs X is (e :: es) (mgCons g gs) := ⟨pgs_imp (pgs_cons h1.pg h2.pg hs) fun vs σ H Q q => by
  obtain ⟨Z, B, ρ, ws, τ, τ', h, ok, sl, r, e, q⟩ := q
  cases r with
  | nil => cases e
  | cons r rr =>
    unfold mgCons at e
    split at e
    · rename_i w r1 e0
      cases e0
      split at e
      · rename_i τ1 e1
        exact ⟨_, _, rfl, Z, B, ρ, _, τ, τ1, h, ok, sl, r, e1, fun σ1 sl1 a1 => ⟨Z, B, ρ, _, τ1, τ', h, ok, sl1, rr, e, fun σ2 sl2 a2 => q σ2 sl2 (a1.trans a2)⟩⟩
      · cases e
    · cases e⟩
theorem rg_tup {is : List Nat} {es : List Expr} {k : Nat} {gs : List A → Sl → Hq → Option Sl} (hc : X.calm = true) (h : RGs X is es gs) (n : Nat)
    (hn : (assignEach es X.env).length = n := by rfl) (hst : (assignEach es X.env).findIdx? (·.1) = none := by rfl) : RG X is (.Tuple es k pos) (mgTup n gs) := ⟨pg_imp (pg_or (pg_tup hc h.pg hn hst) (pg_lst hc h.pg hn hst)) fun v σ H Q q => by
  obtain ⟨Z, B, ρ, w, τ, τ', h, ok, sl, r, e, q⟩ := q
  unfold mgTup at e
  split at e
  · rename_i ws e1
    split at e
    · rename_i hl
      obtain ⟨p, vs, rfl, h1, r1⟩ := tupOf_ra r e1
      exact .inl ⟨p, vs, rfl, sqt_of (ok.ex _ _ h1), by rw [r1.length]; exact hl, Z, B, ρ, ws, τ, τ', h, ok, sl, r1, e, q⟩
    · cases e
  · split at e
    · rename_i ws e1
      split at e
      · rename_i hl
        obtain ⟨p, vs, rfl, h1, r1⟩ := lstOf_ra ok r e1
        exact .inr ⟨p, vs, rfl, SqL.of h1, by rw [r1.length]; exact hl, Z, B, ρ, ws, τ, τ', h, ok, sl, r1, e, q⟩
      · cases e
    · cases e⟩
def mAsg (g : A → Sl → Hq → Option Sl) (m : E A) : MS := fun τ h => sb τ (m τ h) fun w h1 => match g w τ h1 with | some τ1 => some (.nx τ1 h1) | none => none
theorem rs_asg {is : List Nat} {tg : Expr} {g : A → Sl → Hq → Option Sl} (he : RX X W e me) (hg : RG X is tg g) (hs : swapsWithSole [tg] e pos.line X.env = pure false := by rfl) (hw : swappedStores [tg] e X.env = pure none := by rfl)
    (h1 : (assignEach [tg] X.env).map (·.2) = [assign tg X.env] := by rfl) : RS X W (.Assign [tg] e pos) (mAsg g me) := ⟨ps_imp (ps_asg he.pe hg.pg hs hw h1) fun D σ H q => by
  obtain ⟨Z, B, ρ, τ, h, ok, sl, q⟩ := q
  refine ts_bd ok sl q fun v w h1 B1 ρ1 H1 rv ok1 sl1 g1 q1 => ?_
  split at q1
  · rename_i τ1 e1
    exact ⟨Z, B1, ρ1, w, τ, τ1, h1, ok1, sl1, rv, e1, fun σ' sl' _ => q1.nx1 ok1 sl'⟩
  · exact q1.elim⟩

/-! ### name op= e -/
def mAug (i : Nat) (g : G2) (m : E A) : MS := fun τ h => match τ[i]? with
  | some (some a) => sb τ (m τ h) fun b h1 => sb τ (g a b h1) fun w h2 => some (.nx (τ.set i (some w)) h2)
  | _ => none
theorem rs_aug {i : Nat} {x : Str} {op : Operator} {r : R2} {g : G2} {pos' : Pos} (hN : X.N.Nodup) (ho : OpR X (inplaceOp op) r) (og : Op2 X.K r g) (he : RX X W e me) (hi : X.N[i]? = some x := by rfl) (hx : Loc X.env.scope x := by first | exact .inl rfl | exact .inr rfl)
    (hf : X.fn x = true ∨ X.env.scope.names.lookup x = some .local := by first | exact .inl rfl | exact .inr rfl | assumption) : RS X W (.AugAssign (.Name x pos') op e pos) (mAug i g me) := ⟨ps_imp (ps_aug hN hi hx he.pe ho hf) fun D σ H q => by
  obtain ⟨Z, B, ρ, τ, h, ok, sl, q⟩ := q
  unfold mAug at q
  split at q
  · rename_i a e0
    obtain ⟨v0, h1, h2⟩ := sl.at_ _ _ e0
    refine ⟨v0, h1, ts_bd ok sl q fun v w h1 B1 ρ1 H1 rv ok1 sl1 g1 q1 => ?_⟩
    refine og Z B1 ρ1 H1 h1 v0 v a w _ _ ok1 (h2.mono g1) rv ((q1.sb sl1).imp fun u h3 B3 ρ3 H3 ok3 g3 q3 z rz => ?_)
    exact q3.nx1 ok3 ((sl1.mono g3).put rz)
  · exact q.elim⟩
theorem iop_addA {X : Cx} : OpR X (inplaceOp .Add) (fun x y H Q => rI0 (fun i j => .int (i + j)) x y H Q ∨ (∃ i j, x = .str i ∧ y = .str j ∧ i.length + j.length ≤ sizeLine ∧ Q (.str (i ++ j)) H)) := iop_add.or iop_add_str
def gIAdd : G2 := fun a b h => match a, b with
  | .d (.int i), .d (.int j) => some (.ok (.d (.int (i + j))) h)
  | .d (.str s), .d (.str t) => if s.length + t.length ≤ LIM then some (.ok (.d (.str (s ++ t))) h) else none
  | _, _ => none
theorem og_iadd {K : PySem.W.Frag} : Op2 K (fun x y H Q => rI0 (fun i j => .int (i + j)) x y H Q ∨ (∃ i j, x = .str i ∧ y = .str j ∧ i.length + j.length ≤ sizeLine ∧ Q (.str (i ++ j)) H)) gIAdd := by
  intro Z B ρ H h x y a b W Q ok rx ry q
  unfold gIAdd at q
  split at q
  · exact .inl ⟨_, _, ra_int rx, ra_int ry, q.now ok _ (.d (.int _))⟩
  · split at q
    · rename_i hl
      exact .inr ⟨_, _, ra_str rx, ra_str ry, by rw [← lim_eq]; exact hl, q.now ok _ (.d (.str _))⟩
    · exact q.elim
  · exact q.elim
theorem og_isub {K : PySem.W.Frag} : Op2 K (rI0 fun i j => .int (i - j)) gSub := og_sub
end

/-! ### what is walked -/
/-- by place: stuck, over, or the next -/
abbrev Nxt := Nat → Hq → Option (Option A)
abbrev NZ : Hp := fun _ => none
theorem Gr.wk {Z B B' : Hp} {ρ ρ' : Nat → Option Addr} (g : Gr Z B ρ B' ρ') : Gr NZ B ρ B' ρ' := ⟨g.bb, g.rr, fun _ _ _ => rfl⟩
def Walk (K : PySem.W.Frag) (B : Hp) (ρ : Nat → Option Addr) (J : It) (nx : Nxt) : Prop := ∀ (Z B2 : Hp) (ρ2 : Nat → Option Addr) (H2 : Hp) (h2 : Hq) (i : Nat), Ok K Z B2 ρ2 H2 h2 → Gr NZ B ρ B2 ρ2 →
  (nx i h2 = some none → J.stop i H2) ∧ ∀ w, nx i h2 = some (some w) → J.go i H2 ∧ ∀ x H', J.yld i H2 x H' → ∃ B3, RA K B3 ρ2 x w ∧ Ok K Z B3 ρ2 H' h2 ∧ Gr Z B2 ρ2 B3 ρ2
/-- data, places 0 .. -/
def nxL (ws : List A) : Nxt := fun i _ => some ws[i]?
/-- a cell, as it is then -/
def nxC (k : Nat) : Nxt := fun i h => match h[k]? with | some (.lst ws) => some ws[i]? | _ => none
structure RI (X : Cx) (W : WX) (tg iter : Expr) (m : E Nxt) : Prop where
  pi : PI X tg iter fun σ H R => ∃ Z B ρ τ h, Ok X.K Z B ρ H h ∧ SlOk X.K B ρ σ τ ∧ Post X.K Z (fun c d H' => W c d σ H') B ρ (fun nx _ B' ρ' H' => ∀ J, Walk X.K B' ρ' J nx → R J H') (m τ h)
theorem pi_imp {X : Cx} {tg e : Expr} {t t' : TI} (h : PI X tg e t) (i : ∀ σ H R, t' σ H R → t σ H R) : PI X tg e t' := ⟨fun pins s σ H R I q => h.run pins s σ H R I (i _ _ _ q)⟩
theorem pi_or {X : Cx} {tg e : Expr} {t t' : TI} (h : PI X tg e t) (h' : PI X tg e t') : PI X tg e fun σ H R => t σ H R ∨ t' σ H R := ⟨fun pins s σ H R I q => q.elim (h.run pins s σ H R I) (h'.run pins s σ H R I)⟩
/-- what stands to be walked -/
def itemsA : A → Option Nxt
  | .d (.lst xs) => some (nxL (xs.map A.d)) | .d (.tup xs) => some (nxL (xs.map A.d)) | .d (.kt xs) => some (nxL (xs.map A.d)) | .d (.scr ns) => some (nxL (ns.map fun i => .d (.int i)))
  | .d (.str x) => some (nxL (x.cps.toList.map fun c => .d (.str ⟨#[c]⟩)))
  | .tup ws => some (nxL ws)
  | .r k => some (nxC k)
  | _ => none
def mItems (m : E A) : E Nxt := fun τ h => bd (m τ h) fun a h1 => match a with
  | .r k => (match h1[k]? with | some (.lst _) => some (.ok (nxC k) h1) | _ => none)
  | a => match itemsA a with | some nx => some (.ok nx h1) | none => none
def rangeA (lo : Int) (n : Nat) : List A := (List.range n).map fun i => .d (.int (lo + (i : Nat)))
def mRange1 (m : E A) : E Nxt := fun τ h => bd (m τ h) fun a h1 => match a with
  | .d (.int j) => if -(2 ^ 62) ≤ j ∧ j < 2 ^ 62 then some (.ok (nxL (rangeA 0 j.toNat)) h1) else none
  | _ => none
def mRange2 (ma mb : E A) : E Nxt := fun τ h => bd (ma τ h) fun a h1 => bd (mb τ h1) fun b h2 => match a, b with
  | .d (.int i), .d (.int j) => if -(2 ^ 62) ≤ i ∧ i < 2 ^ 62 ∧ -(2 ^ 62) ≤ j ∧ j < 2 ^ 62 then some (.ok (nxL (rangeA i (j - i).toNat)) h2) else none
  | _, _ => none
section
variable {X : Cx} {W : WX} {tg iter e a b : Expr} {m ma mb : E A} {mi : E Nxt} {pos : Pos}
theorem walk_seq {K : PySem.W.Frag} {B : Hp} {ρ : Nat → Option Addr} {J : It} {vs : List V} {ws : List A} (r : RAL K B ρ vs ws)
    (hstop : ∀ Z B2 ρ2 H2 h2 i, Ok K Z B2 ρ2 H2 h2 → Gr NZ B ρ B2 ρ2 → vs.length ≤ i → J.stop i H2) (hgo : ∀ Z B2 ρ2 H2 h2 i v, Ok K Z B2 ρ2 H2 h2 → Gr NZ B ρ B2 ρ2 → vs[i]? = some v → J.go i H2 ∧ ∀ x H', J.yld i H2 x H' → x = v ∧ H' = H2) : Walk K B ρ J (nxL ws) := by
  intro Z B2 ρ2 H2 h2 i ok2 g2
  refine ⟨fun e => hstop Z B2 ρ2 H2 h2 i ok2 g2 ?_, fun w e => ?_⟩
  · have e : ws[i]? = none := Option.some.inj e
    rw [r.length]
    exact List.getElem?_eq_none_iff.mp e
  · have e : ws[i]? = some w := Option.some.inj e
    obtain ⟨v, h1, h2'⟩ := r.get e
    obtain ⟨k1, k2⟩ := hgo Z B2 ρ2 H2 h2 i v ok2 g2 h1
    refine ⟨k1, fun x H' y => ?_⟩
    obtain ⟨rfl, rfl⟩ := k2 x H' y
    exact ⟨B2, h2'.mono g2, ok2, Gr.refl⟩
theorem walk_list {K : PySem.W.Frag} {B : Hp} {ρ : Nat → Option Addr} {a : Addr} {vs : List V} {ws : List A} (h : SqL K B a vs) (r : RAL K B ρ vs ws) : Walk K B ρ (Itl K a) (nxL ws) :=
  walk_seq r (fun Z B2 ρ2 H2 h2 i ok2 g2 hl => ⟨vs, ok2.ex.seq (g2.bb.seq h), hl⟩) fun Z B2 ρ2 H2 h2 i v ok2 g2 hv => by
    have hq : SqL K H2 a vs := ok2.ex.seq (g2.bb.seq h)
    refine ⟨⟨vs, v, hq, hv⟩, fun x H' y => ?_⟩
    obtain ⟨rfl, y⟩ := y
    exact ⟨Option.some.inj ((y vs hq).symm.trans hv), rfl⟩
theorem walk_tup {K : PySem.W.Frag} {B : Hp} {ρ : Nat → Option Addr} {a : Addr} {vs : List V} {ws : List A} (h : SqT K B a vs) (r : RAL K B ρ vs ws) : Walk K B ρ (Itt K a) (nxL ws) :=
  walk_seq r (fun Z B2 ρ2 H2 h2 i ok2 g2 hl => ⟨vs, sqt_mono ok2.ex (sqt_mono g2.bb h), hl⟩) fun Z B2 ρ2 H2 h2 i v ok2 g2 hv => by
    have hq : SqT K H2 a vs := sqt_mono ok2.ex (sqt_mono g2.bb h)
    refine ⟨⟨vs, v, hq, hv⟩, fun x H' y => ?_⟩
    obtain ⟨rfl, y⟩ := y
    exact ⟨Option.some.inj ((y vs hq).symm.trans hv), rfl⟩
theorem walk_cell {K : PySem.W.Frag} {B : Hp} {ρ : Nat → Option Addr} {k : Nat} {a : Addr} (hr : ρ k = some a) : Walk K B ρ (Itl K a) (nxC k) := by
  intro Z B2 ρ2 H2 h2 i ok2 g2
  have at_ : ∀ ws, h2[k]? = some (.lst ws) → ∃ vs, H2 a = some (.lst vs) ∧ RAL K B2 ρ2 vs ws := fun ws e => by
    obtain ⟨p, h1, h3⟩ := ok2.ce _ _ e
    rw [g2.rr _ _ hr] at h1
    cases h1
    cases h3 with
    | lst q1 q2 q3 q4 => exact ⟨_, q1, q2⟩
  refine ⟨fun e => ?_, fun w e => ?_⟩
  · unfold nxC at e
    split at e
    · rename_i ws e1
      obtain ⟨vs, h1, h3⟩ := at_ ws e1
      have e : ws[i]? = none := Option.some.inj e
      exact ⟨vs, SqL.of h1, by rw [h3.length]; exact List.getElem?_eq_none_iff.mp e⟩
    · cases e
  · unfold nxC at e
    split at e
    · rename_i ws e1
      obtain ⟨vs, h1, h3⟩ := at_ ws e1
      have e : ws[i]? = some w := Option.some.inj e
      obtain ⟨v, h4, h5⟩ := h3.get e
      refine ⟨⟨vs, v, SqL.of h1, h4⟩, fun x H' y => ?_⟩
      obtain ⟨rfl, y⟩ := y
      have : x = v := Option.some.inj ((y vs (SqL.of h1)).symm.trans h4)
      subst this
      exact ⟨B2, h5, ok2, Gr.refl⟩
    · cases e
theorem walk_range {K : PySem.W.Frag} {B : Hp} {ρ : Nat → Option Addr} {lo : Int} {n : Nat} : Walk K B ρ (Itr lo n) (nxL (rangeA lo n)) := by
  have hl : (rangeA lo n).length = n := by unfold rangeA; rw [List.length_map, List.length_range]
  intro Z B2 ρ2 H2 h2 i ok2 g2
  refine ⟨fun e => ?_, fun w e => ?_⟩
  · have e : (rangeA lo n)[i]? = none := Option.some.inj e
    have := List.getElem?_eq_none_iff.mp e
    rw [hl] at this
    exact this
  · have e : (rangeA lo n)[i]? = some w := Option.some.inj e
    have hi : i < n := by
      rw [← hl]
      exact (List.getElem?_eq_some_iff.mp e).1
    refine ⟨hi, fun x H' y => ?_⟩
    obtain ⟨rfl, rfl⟩ := y
    unfold rangeA at e
    rw [List.getElem?_map, List.getElem?_range hi] at e
    cases e
    exact ⟨B2, .d (.int _), ok2, Gr.refl⟩
theorem walk_str {K : PySem.W.Frag} {B : Hp} {ρ : Nat → Option Addr} {x : Str} : Walk K B ρ (Its x) (nxL (x.cps.toList.map fun c => .d (.str ⟨#[c]⟩))) := by
  intro Z B2 ρ2 H2 h2 i ok2 g2
  refine ⟨fun e => ?_, fun w e => ?_⟩
  · have e : (x.cps.toList.map fun c => A.d (.str ⟨#[c]⟩))[i]? = none := Option.some.inj e
    have := List.getElem?_eq_none_iff.mp e
    show x.cps.size ≤ i
    simpa using this
  · have e : (x.cps.toList.map fun c => A.d (.str ⟨#[c]⟩))[i]? = some w := Option.some.inj e
    have hi : i < x.cps.size := by
      have z := (List.getElem?_eq_some_iff.mp e).1
      simpa using z
    refine ⟨hi, fun v H' y => ?_⟩
    obtain ⟨rfl, c, h1, rfl⟩ := y
    rw [List.getElem?_map, Array.getElem?_toList, h1] at e
    cases e
    exact ⟨B2, .d (.str _), ok2, Gr.refl⟩
/-- a list, a tuple, the script, a text, a cell -/
theorem ri_items (he : RX X W e m) : RI X W tg e (mItems m) := ⟨pi_imp (pi_or (pi_list he.pe) (pi_or (pi_tup he.pe) (pi_str he.pe))) fun σ H R q => by
  obtain ⟨Z, B, ρ, τ, h, ok, sl, q⟩ := q
  have dec : ∀ (r : Option (Rs A)), Post X.K Z (fun c d H' => W c d σ H') B ρ (fun nx _ B' ρ' H' => ∀ J, Walk X.K B' ρ' J nx → R J H') (bd r fun a h1 => match a with
      | .r k => (match h1[k]? with | some (.lst _) => some (.ok (nxC k) h1) | _ => none)
      | a => match itemsA a with | some nx => some (.ok nx h1) | none => none) →
      Post X.K Z (fun c d H' => W c d σ H') B ρ (fun w _ B' ρ' H' => ∀ v, RA X.K B' ρ' v w → ∃ a, v = .ref a ∧ (∃ xs, SqL X.K H' a xs) ∧ R (Itl X.K a) H') r ∨
      Post X.K Z (fun c d H' => W c d σ H') B ρ (fun w _ B' ρ' H' => ∀ v, RA X.K B' ρ' v w → ∃ a, v = .ref a ∧ (∃ xs, SqT X.K H' a xs) ∧ R (Itt X.K a) H') r ∨
      Post X.K Z (fun c d H' => W c d σ H') B ρ (fun w _ B' ρ' H' => ∀ v, RA X.K B' ρ' v w → ∃ x, v = .str x ∧ R (Its x) H') r := by
    intro r q
    match r, q with
    | some (.ex x h), q => exact .inl q
    | some (.ok a h1), q =>
      cases a with
      | r k =>
        refine .inl fun B1 ρ1 H1 ok1 g1 v rv => ?_
        have q : Post X.K Z (fun c d H' => W c d σ H') B ρ (fun nx _ B' ρ' H' => ∀ J, Walk X.K B' ρ' J nx → R J H') (match h1[k]? with | some (.lst _) => some (.ok (nxC k) h1) | _ => none) := q
        split at q
        · rename_i ws e1
          cases rv with
          | r hr =>
            obtain ⟨p, h2, h3⟩ := ok1.ce _ _ e1
            rw [hr] at h2
            cases h2
            cases h3 with
            | lst q1 q2 q3 q4 => exact ⟨_, rfl, ⟨_, SqL.of q1⟩, q B1 ρ1 H1 ok1 g1 _ (walk_cell hr)⟩
        · exact q.elim
      | tup ws =>
        refine .inr (.inl fun B1 ρ1 H1 ok1 g1 v rv => ?_)
        cases rv with
        | tup ht r1 => exact ⟨_, rfl, ⟨_, sqt_of (ok1.ex _ _ ht)⟩, q B1 ρ1 H1 ok1 g1 _ (walk_tup (sqt_of ht) r1)⟩
      | d x =>
        cases x with
        | lst xs =>
          refine .inl fun B1 ρ1 H1 ok1 g1 v rv => ?_
          cases ra_d rv with
          | lst h2 r1 => exact ⟨_, rfl, ⟨_, SqL.of (ok1.ex _ _ h2)⟩, q B1 ρ1 H1 ok1 g1 _ (walk_list (SqL.of h2) (ral_ds r1))⟩
        | scr ns =>
          refine .inl fun B1 ρ1 H1 ok1 g1 v rv => ?_
          cases ra_d rv with
          | scr h2 => exact ⟨_, rfl, ⟨_, ok1.ex.seq h2⟩, q B1 ρ1 H1 ok1 g1 _ (walk_list h2 (ral_ints ns))⟩
        | tup xs =>
          refine .inr (.inl fun B1 ρ1 H1 ok1 g1 v rv => ?_)
          cases ra_d rv with
          | tup h2 r1 => exact ⟨_, rfl, ⟨_, sqt_of (ok1.ex _ _ h2)⟩, q B1 ρ1 H1 ok1 g1 _ (walk_tup (sqt_of h2) (ral_ds r1))⟩
        | kt xs =>
          refine .inr (.inl fun B1 ρ1 H1 ok1 g1 v rv => ?_)
          cases ra_d rv with
          | kt h2 r1 => exact ⟨_, rfl, ⟨_, sqt_mono ok1.ex h2⟩, q B1 ρ1 H1 ok1 g1 _ (walk_tup h2 (ral_ds r1))⟩
        | str x =>
          refine .inr (.inr fun B1 ρ1 H1 ok1 g1 v rv => ?_)
          cases ra_str rv
          exact ⟨x, rfl, q B1 ρ1 H1 ok1 g1 _ walk_str⟩
        | non => exact q.elim
        | bl _ => exact q.elim
        | int _ => exact q.elim
        | fn _ => exact q.elim
        | nd _ _ => exact q.elim
  have q : Post X.K Z (fun c d H' => W c d σ H') B ρ (fun nx _ B' ρ' H' => ∀ J, Walk X.K B' ρ' J nx → R J H') (bd (m τ h) fun a h1 => match a with
      | .r k => (match h1[k]? with | some (.lst _) => some (.ok (nxC k) h1) | _ => none)
      | a => match itemsA a with | some nx => some (.ok nx h1) | none => none) := q
  rcases dec (m τ h) q with q | q | q
  · exact .inl ⟨Z, B, ρ, τ, h, ok, sl, q⟩
  · exact .inr (.inl ⟨Z, B, ρ, τ, h, ok, sl, q⟩)
  · exact .inr (.inr ⟨Z, B, ρ, τ, h, ok, sl, q⟩)⟩
theorem ri_range1 {px : Pos} (he : RX X W a m) (hm : X.mg "range" = none) (hg : Gl X "range" := by rfl) (hs : starEach [a] X.env = [(false, eval a X.env)] := by rfl) : RI X W tg (.Call (.Name "range" px) [a] [] pos) (mRange1 m) := ⟨pi_imp (pi_range1 hg hm (pa_cons he.pe pa_nil hs) hs) fun σ H R q => by
  obtain ⟨Z, B, ρ, τ, h, ok, sl, q⟩ := q
  refine te_bd ok sl q fun x a h1 B1 ρ1 H1 rx ok1 sl1 g1 q1 => ?_
  split at q1
  · split at q1
    · rename_i j hj
      cases ra_int rx
      exact ⟨j, rfl, hj.1, hj.2, q1.now ok1 _ walk_range⟩
    · exact q1.elim
  · exact q1.elim⟩
theorem ri_range2 {px : Pos} (ha : RX X W a ma) (hb : RX X W b mb) (hm : X.mg "range" = none) (hg : Gl X "range" := by rfl) (hs : starEach [a, b] X.env = [(false, eval a X.env), (false, eval b X.env)] := by rfl) (hs2 : starEach [b] X.env = [(false, eval b X.env)] := by rfl) :
    RI X W tg (.Call (.Name "range" px) [a, b] [] pos) (mRange2 ma mb) := ⟨pi_imp (pi_range2 hg hm (pa_cons ha.pe (pa_cons hb.pe pa_nil hs2) (by rw [hs, hs2])) hs hs2) fun σ H R q => by
  obtain ⟨Z, B, ρ, τ, h, ok, sl, q⟩ := q
  refine te_bd ok sl q fun x a h1 B1 ρ1 H1 rx ok1 sl1 g1 q1 => te_bd ok1 sl1 q1 fun y b h2 B2 ρ2 H2 ry ok2 sl2 g2 q2 => ?_
  split at q2
  · split at q2
    · rename_i i j hj
      cases ra_int rx
      cases ra_int ry
      exact ⟨i, j, rfl, hj, q2.now ok2 _ walk_range⟩
    · exact q2.elim
  · exact q2.elim⟩

/-! ### for -/
/-- f: turns left -/
def forM (nx : Nxt) (g : A → Sl → Hq → Option Sl) (mb : MS) : Nat → Nat → MS
  | 0, _, _, _ => none
  | f + 1, i, τ, h => match nx i h with
    | some none => some (.nx τ h)
    | some (some w) => (match g w τ h with
      | some τ1 => (match mb τ1 h with
        | some (.nx τ2 h2) => forM nx g mb f (i + 1) τ2 h2
        | some (.ct τ2 h2) => forM nx g mb f (i + 1) τ2 h2
        | some (.bk τ2 h2) => some (.nx τ2 h2)
        | r => r)
      | none => none)
    | none => none
abbrev FU : Nat := 16777217
def mFor (mi : E Nxt) (g : A → Sl → Hq → Option Sl) (mb : MS) : MS := fun τ h => sb τ (mi τ h) fun nx h1 => forM nx g mb FU 0 τ h1
variable {g : A → Sl → Hq → Option Sl} {mbd : MS} {body : List Stmt} {c : Expr} {t : E Bool}
theorem rs_for {is : List Nat} (hp : PassesOwn (model X.prog X.w) X.A X.env X.xe) (hc : X.calm = true) (hi : RI X W tg iter mi) (hg : RG X is tg g) (hb : RSs X W body mbd) (hs : ∀ x, foldedSetIterable iter X.env x = pure x := by intro _; rfl) : RS X W (.For tg iter body [] pos) (mFor mi g mbd) := ⟨ps_imp (ps_for hp hc hi.pi hg.pg hb.ps hs) fun D σ H q => by
  obtain ⟨Z, B, ρ, τ, h, ok, sl, q⟩ := q
  refine ⟨Z, B, ρ, τ, h, ok, sl, (q.sb sl).imp fun nx h1 B1 ρ1 H1 ok1 g1 q1 J wk => ?_⟩
  refine ⟨fun i m σ' H' => ∃ B' ρ' τ' h', Ok X.K Z B' ρ' H' h' ∧ SlOk X.K B' ρ' σ' τ' ∧ Gr Z B1 ρ1 B' ρ' ∧ PostS X.K Z W B' ρ' D (forM nx g mbd m i τ' h'), ⟨FU, B1, ρ1, τ, h1, ok1, sl.mono g1, Gr.refl, q1⟩, ?_⟩
  rintro i m σ2 H2 ⟨B2, ρ2, τ2, h2, ok2, sl2, g2, post⟩
  obtain ⟨stop, go⟩ := wk Z B2 ρ2 H2 h2 i ok2 g2.wk
  cases m with
  | zero => exact post.elim
  | succ m =>
    unfold forM at post
    split at post
    · rename_i e1
      exact .inl ⟨stop e1, post.nx1 ok2 sl2⟩
    · rename_i w e1
      obtain ⟨k1, k2⟩ := go w e1
      refine .inr ⟨k1, fun σ' H' => ∃ B' ρ' τ' h', Ok X.K Z B' ρ' H' h' ∧ SlOk X.K B' ρ' σ' τ' ∧ Gr Z B1 ρ1 B' ρ' ∧ PostS X.K Z W B' ρ' D (forM nx g mbd m (i + 1) τ' h'), fun σ' H' n => ⟨m, Nat.lt_succ_self m, n⟩, fun x H3 y => ?_⟩
      obtain ⟨B3, rx, ok3, g3⟩ := k2 x H3 y
      split at post
      · rename_i τ3 e3
        refine ⟨Z, B3, ρ2, w, τ2, τ3, h2, ok3, sl2.mono g3, rx, e3, fun σ4 sl4 _ => ?_⟩
        refine ⟨Z, B3, ρ2, τ3, h2, ok3, sl4, ?_⟩
        have post := post.from g3
        have g13 := g2.trans g3
        revert post
        cases mbd τ3 h2 with
        | none => exact fun h => h
        | some r =>
          cases r with
          | nx τ4 h4 => exact fun post σ5 B5 ρ5 H5 ok5 sl5 g5 => ⟨B5, ρ5, τ4, h4, ok5, sl5, g13.trans g5, post.from g5⟩
          | ct τ4 h4 => exact fun post σ5 B5 ρ5 H5 ok5 sl5 g5 => ⟨B5, ρ5, τ4, h4, ok5, sl5, g13.trans g5, post.from g5⟩
          | bk τ4 h4 => exact fun post => post
          | rt w h4 => exact fun post => post
          | ex x τ4 h4 => exact fun post => post
      · exact post.elim
    · exact post.elim⟩

/-! ### while: n turns at most -/
def mWhile (t : E Bool) (mb : MS) : Nat → MS
  | 0, _, _ => none
  | n + 1, τ, h => sb τ (t τ h) fun b h1 => match b with
    | false => some (.nx τ h1)
    | true => match mb τ h1 with
      | some (.nx τ2 h2) => mWhile t mb n τ2 h2
      | some (.ct τ2 h2) => mWhile t mb n τ2 h2
      | some (.bk τ2 h2) => some (.nx τ2 h2)
      | r => r
theorem rs_while (n : Nat) (hp : PassesOwn (model X.prog X.w) X.A X.env X.xe) (hc : RT X W c t) (hb : RSs X W body mbd) : RS X W (.While c body [] pos) (mWhile t mbd n) := ⟨ps_imp (ps_while hp hc.pt hb.ps) fun D σ H q => by
  refine ⟨fun m σ' H' => ∃ Z B' ρ' τ' h', Ok X.K Z B' ρ' H' h' ∧ SlOk X.K B' ρ' σ' τ' ∧ PostS X.K Z W B' ρ' D (mWhile t mbd m τ' h'), ⟨n, q⟩, ?_⟩
  rintro m σ2 H2 ⟨Z, B2, ρ2, τ2, h2, ok2, sl2, post⟩
  refine ⟨Z, B2, ρ2, τ2, h2, ok2, sl2, ?_⟩
  cases m with
  | zero => exact post.elim
  | succ m =>
    unfold mWhile at post
    refine (post.sb sl2).imp fun b h3 B3 ρ3 H3 ok3 g3 q3 => ?_
    cases b with
    | false => exact iteF (q3.nx1 ok3 (sl2.mono g3))
    | true =>
      refine iteT ⟨fun σ' H' => ∃ Z B' ρ' τ' h', Ok X.K Z B' ρ' H' h' ∧ SlOk X.K B' ρ' σ' τ' ∧ PostS X.K Z W B' ρ' D (mWhile t mbd m τ' h'), fun σ' H' h => ⟨m, Nat.lt_succ_self m, h⟩, Z, B3, ρ3, τ2, h3, ok3, sl2.mono g3, ?_⟩
      revert q3
      show PostS X.K Z W B3 ρ3 D (match mbd τ2 h3 with
        | some (.nx τ2 h2) => mWhile t mbd m τ2 h2
        | some (.ct τ2 h2) => mWhile t mbd m τ2 h2
        | some (.bk τ2 h2) => some (.nx τ2 h2)
        | r => r) → _
      cases mbd τ2 h3 with
      | none => exact fun h => h
      | some r =>
        cases r with
        | nx τ4 h4 => exact fun post σ5 B5 ρ5 H5 ok5 sl5 g5 => ⟨Z, B5, ρ5, τ4, h4, ok5, sl5, post.from g5⟩
        | ct τ4 h4 => exact fun post σ5 B5 ρ5 H5 ok5 sl5 g5 => ⟨Z, B5, ρ5, τ4, h4, ok5, sl5, post.from g5⟩
        | bk τ4 h4 => exact fun post => post
        | rt w h4 => exact fun post => post
        | ex x τ4 h4 => exact fun post => post⟩
end
end Tq

/-! Tq6: comprehensions. -/
namespace Tq
open PySem PySem.Spec PyProof.Rows L2

def wipeT (τ : Sl) : List Nat → Sl
  | [] => τ
  | v :: vs => (wipeT τ vs).set v none
theorem wipeT_length (τ : Sl) : ∀ vs : List Nat, (wipeT τ vs).length = τ.length
  | [] => rfl
  | v :: vs => by unfold wipeT; rw [List.length_set, wipeT_length τ vs]
theorem wipe_get (σ : L2.St) : ∀ (vs : List Nat) (i : Nat), (L2.wipe σ vs)[i]? = if i ∈ vs ∧ i < σ.length then some none else σ[i]?
  | [], i => by simp [L2.wipe]
  | v :: vs, i => by
    unfold L2.wipe
    rw [List.getElem?_set, wipe_get σ vs i, L2.wipe_length]
    by_cases e : v = i
    · subst e
      by_cases hl : v < σ.length
      · simp [hl]
      · simp [hl]
    · rw [if_neg e]
      simp [List.mem_cons, Ne.symm e]
theorem wipeT_get (τ : Sl) : ∀ (vs : List Nat) (i : Nat), (wipeT τ vs)[i]? = if i ∈ vs ∧ i < τ.length then some none else τ[i]?
  | [], i => by simp [wipeT]
  | v :: vs, i => by
    unfold wipeT
    rw [List.getElem?_set, wipeT_get τ vs i, wipeT_length]
    by_cases e : v = i
    · subst e
      by_cases hl : v < τ.length
      · simp [hl]
      · simp [hl]
    · rw [if_neg e]
      simp [List.mem_cons, Ne.symm e]
theorem wipe_apart {σ1 σ2 : L2.St} {vs : List Nat} (h : Apart vs σ1 σ2) : L2.wipe σ2 vs = L2.wipe σ1 vs := by
  apply List.ext_getElem?
  intro i
  rw [wipe_get, wipe_get, h.1]
  by_cases z : i ∈ vs
  · by_cases hl : i < σ1.length
    · rw [if_pos ⟨z, hl⟩, if_pos ⟨z, hl⟩]
    · have h1 := h.1
      rw [if_neg fun y => hl y.2, if_neg fun y => hl y.2, List.getElem?_eq_none (by omega : σ2.length ≤ i), List.getElem?_eq_none (by omega : σ1.length ≤ i)]
  · rw [if_neg fun y => z y.1, if_neg fun y => z y.1, h.2 i z]
theorem wipe_wipe (σ : L2.St) (vs : List Nat) : L2.wipe (L2.wipe σ vs) vs = L2.wipe σ vs := by
  apply List.ext_getElem?
  intro i
  rw [wipe_get, wipe_get, L2.wipe_length]
  by_cases z : i ∈ vs ∧ i < σ.length
  · rw [if_pos z]
    try rw [if_pos z]
  · rw [if_neg z]
    try rw [if_neg z]
theorem SlOk.wipe {K : PySem.W.Frag} {B : Hp} {ρ : Nat → Option Addr} {σ : L2.St} {τ : Sl} (s : SlOk K B ρ σ τ) (vs : List Nat) : SlOk K B ρ (L2.wipe σ vs) (wipeT τ vs) := by
  refine ⟨by rw [L2.wipe_length, wipeT_length]; exact s.ln, fun i w e => ?_⟩
  rw [wipeT_get] at e
  split at e
  · cases e
  · rename_i hn
    rw [wipe_get, if_neg (by rw [s.ln]; exact hn)]
    exact s.at_ i w e

/-! ### an object of the reading's own, that stands aside -/
section
variable {K : PySem.W.Frag} {Z B H : Hp} {ρ : Nat → Option Addr} {h : Hq} {q : Addr} {o o2 : HO}
theorem CeAt.zs {Z2 : Hp} {a : Addr} {c : O} (x : CeAt K Z B H ρ a c) (hz : ∀ b, Z b = none → H b ≠ none → Z2 b = none) (ha : H a ≠ none) : CeAt K Z2 B H ρ a c := by
  cases x with
  | lst e1 e2 e3 e4 => exact .lst e1 e2 e3 (hz _ e4 ha)
  | nd e1 e2 e3 => exact .nd e1 e2 fun b hb => ⟨(e3 b hb).1, hz b (e3 b hb).2 (e1.own_or.2.2.1 b hb)⟩
  | dead e => exact .dead (hz _ e ha)
/-- a new object stands aside -/
theorem Ok.aside (ok : Ok K Z B ρ H h) (hq : H q = none) : Ok K (upd Z q o) B ρ (upd H q o) h := by
  have ok2 := ok.grow (H' := upd H q o) fun b u e => by rw [upd_ne (ne_of_none e hq)]; exact e
  refine ⟨ok2.ex, fun b u e => ?_, fun k c e => ?_, ok2.nj, ok2.al, ok2.up⟩
  · by_cases z : b = q
    · subst z; rw [upd_same] at e ⊢; exact e
    · rw [upd_ne z] at e; exact ok2.zz b u e
  · obtain ⟨a, h1, h2⟩ := ok.ce k c e
    have ha := ok.al k a h1
    obtain ⟨a', h1', h3⟩ := ok2.ce k c e
    rw [h1] at h1'
    cases h1'
    refine ⟨a, h1, ?_⟩
    have n : a ≠ q := fun z => ha (by rw [z]; exact hq)
    cases h2 with
    | lst e1 e2 e3 e4 => exact .lst (by rw [upd_ne n]; exact e1) e2 e3 (by rw [upd_ne n]; exact e4)
    | nd e1 e2 e3 =>
      have nb : ∀ b ∈ _, b ≠ q := fun b hb z => e1.own_or.2.2.1 b hb (by rw [z]; exact hq)
      exact .nd (e1.to fun b hb u e => by rw [upd_ne (nb b hb)]; exact e) e2 fun b hb => ⟨(e3 b hb).1, by rw [upd_ne (nb b hb)]; exact (e3 b hb).2⟩
    | dead e1 => exact .dead (by rw [upd_ne n]; exact e1)
/-- it turns -/
theorem Ok.turn (ok : Ok K (upd Z q o) B ρ H h) (hb : B q = none) (hz : Z q = none) : Ok K (upd Z q o2) B ρ (upd H q o2) h := by
  have hq : H q = some o := ok.zz q o upd_same
  refine ⟨fun b u e => by rw [upd_ne (ne_of_none e hb)]; exact ok.ex b u e, fun b u e => ?_, fun k c e => ?_, ok.nj, fun k a e => ?_, ok.up⟩
  · by_cases z : b = q
    · subst z; rw [upd_same] at e ⊢; exact e
    · rw [upd_ne z] at e ⊢
      exact ok.zz b u (by rw [upd_ne z]; exact e)
  · obtain ⟨a, h1, h2⟩ := ok.ce k c e
    refine ⟨a, h1, ?_⟩
    have ne : ∀ {b : Addr}, upd Z q o b = none → b ≠ q ∧ Z b = none := fun {b} e => by
      have z : b ≠ q := fun z => by rw [z, upd_same] at e; cases e
      rw [upd_ne z] at e
      exact ⟨z, e⟩
    cases h2 with
    | lst e1 e2 e3 e4 => exact .lst (by rw [upd_ne (ne e4).1]; exact e1) e2 e3 (by rw [upd_ne (ne e4).1]; exact (ne e4).2)
    | nd e1 e2 e3 =>
      exact .nd (e1.to fun b hb u e => by rw [upd_ne (ne (e3 b hb).2).1]; exact e) e2 fun b hb => ⟨(e3 b hb).1, by rw [upd_ne (ne (e3 b hb).2).1]; exact (ne (e3 b hb).2).2⟩
    | dead e1 => exact .dead (by rw [upd_ne (ne e1).1]; exact (ne e1).2)
  · by_cases z : a = q
    · subst z; rw [upd_same]; simp
    · rw [upd_ne z]; exact ok.al k a e
theorem Gr.aside {B' : Hp} {ρ' : Nat → Option Addr} (g : Gr (upd Z q o) B ρ B' ρ') (hz : Z q = none) : Gr Z B ρ B' ρ' := ⟨g.bb, g.rr, fun a e e' => by
  have z := g.fz a e e'
  by_cases y : a = q
  · subst y; exact hz
  · rwa [upd_ne y] at z⟩
theorem Ok.bare (ok : Ok K (upd Z q o) B ρ H h) (hz : Z q = none) : Ok K Z B ρ H h := ⟨ok.ex, fun b u e => ok.zz b u (by rw [upd_ne (ne_of_none e hz)]; exact e), fun k c e => by
  obtain ⟨a, h1, h2⟩ := ok.ce k c e
  refine ⟨a, h1, h2.zs (fun b e _ => ?_) (ok.al k a h1)⟩
  by_cases z : b = q
  · rw [z]; exact hz
  · rwa [upd_ne z] at e, ok.nj, ok.al, ok.up⟩
/-- it becomes a cell, or data -/
theorem Ok.adopt {W : XK} {Q : VK} {vs : List V} {ws : List A} {o : Bool} (ok : Ok K (upd Z q (.lst vs)) B ρ H h) (hb : B q = none) (hz : Z q = none) (r : RAL K B ρ vs ws) (p : Post K Z W B ρ (fun w _ B' ρ' H' => ∀ v, RA K B' ρ' v w → Q v H') (mkL o ws h)) : Q (.ref q) H := by
  have hq : H q = some (.lst vs) := ok.zz q _ upd_same
  have fresh : ∀ k a, ρ k = some a → a ≠ q := fun k a e z => by
    have hk : k < h.length := by
      apply Classical.byContradiction
      intro y
      rw [ok.up k (by omega)] at e
      cases e
    obtain ⟨c, hc⟩ : ∃ c, h[k]? = some c := ⟨_, List.getElem?_eq_getElem hk⟩
    obtain ⟨a', h1, h2⟩ := ok.ce k c hc
    rw [e] at h1
    cases h1
    have key : upd Z q (.lst vs) a = none := by
      cases h2 with
      | lst _ _ _ e4 => exact e4
      | nd e1 _ e3 => exact (e3 _ e1.own_or.1).2
      | dead e4 => exact e4
    rw [z, upd_same] at key
    cases key
  have ok0 := ok.bare hz
  have own_ne : ∀ (k : Nat) (c : O) (a : Addr), h[k]? = some c → ρ k = some a → CeAt K Z (upd B q (.lst vs)) H ρ a c ∧ CeAt K Z B H ρ a c := fun k c a e ea => by
    obtain ⟨a', h1, h2⟩ := ok.ce k c e
    rw [ea] at h1
    cases h1
    have ne : ∀ {b : Addr}, upd Z q (.lst vs) b = none → b ≠ q ∧ Z b = none := fun {b} e => by
      have z : b ≠ q := fun z => by rw [z, upd_same] at e; cases e
      rw [upd_ne z] at e
      exact ⟨z, e⟩
    have gg : Gr Z B ρ (upd B q (.lst vs)) ρ := ⟨fun a u e => by rw [upd_ne (ne_of_none e hb)]; exact e, fun _ _ e => e, fun a e e' => by
      by_cases z : a = q
      · rw [z]; exact hz
      · rw [upd_ne z] at e'; exact absurd e e'⟩
    cases h2 with
    | lst e1 e2 e3 e4 => exact ⟨.lst e1 (e2.mono gg) (by rw [upd_ne (ne e4).1]; exact e3) (ne e4).2, .lst e1 e2 e3 (ne e4).2⟩
    | nd e1 e2 e3 => exact ⟨.nd e1 (e2.mono gg) fun b hb => ⟨by rw [upd_ne (ne (e3 b hb).2).1]; exact (e3 b hb).1, (ne (e3 b hb).2).2⟩, .nd e1 e2 fun b hb => ⟨(e3 b hb).1, (ne (e3 b hb).2).2⟩⟩
    | dead e1 => exact ⟨.dead (ne e1).2, .dead (ne e1).2⟩
  unfold mkL at p
  split at p
  · split at p
    · have gg : Gr Z B ρ B (fun k => if k = h.length then some q else ρ k) := ⟨fun _ _ e => e, fun k a e => by
        have : k ≠ h.length := fun z => by rw [ok.up k (by omega)] at e; cases e
        show (if k = h.length then some q else ρ k) = some a
        rw [if_neg this]; exact e, fun a e e' => absurd e e'⟩
      refine p B (fun k => if k = h.length then some q else ρ k) H ⟨ok0.ex, ok0.zz, fun k c e => ?_, fun i j a e1 e2 => ?_, fun k a e => ?_, fun k e => ?_⟩ gg (.ref q) (.r (if_pos rfl))
      · by_cases z : k = h.length
        · subst z
          rw [List.getElem?_append_right (by omega), Nat.sub_self] at e
          cases e
          exact ⟨q, if_pos rfl, .lst hq (r.mono gg) hb hz⟩
        · have hk : k < h.length := by
            have := (List.getElem?_eq_some_iff.mp e).1
            rw [List.length_append, List.length_singleton] at this
            omega
          rw [List.getElem?_append_left hk] at e
          obtain ⟨a, h1, _⟩ := ok.ce k c e
          refine ⟨a, gg.rr k a h1, ?_⟩
          cases (own_ne k c a e h1).2 with
          | lst e1 e2 e3 e4 => exact .lst e1 (e2.mono gg) e3 e4
          | nd e1 e2 e3 => exact .nd e1 (e2.mono gg) e3
          | dead e1 => exact .dead e1
      · have e1 : (if i = h.length then some q else ρ i) = some a := e1
        have e2 : (if j = h.length then some q else ρ j) = some a := e2
        split at e1 <;> split at e2
        · omega
        · cases e1; exact absurd rfl (fresh _ _ e2)
        · cases e2; exact absurd rfl (fresh _ _ e1)
        · exact ok.nj i j a e1 e2
      · have e : (if k = h.length then some q else ρ k) = some a := e
        split at e
        · cases e; rw [hq]; simp
        · exact ok.al k a e
      · rw [List.length_append, List.length_singleton] at e
        show (if k = h.length then some q else ρ k) = none
        rw [if_neg (by omega)]
        exact ok.up k (by omega)
    · cases e : allD ws with
      | none => rw [e] at p; exact p.elim
      | some ds =>
        rw [e] at p
        cases allD_of e
        have gg : Gr Z B ρ (upd B q (.lst vs)) ρ := ⟨fun a u e => by rw [upd_ne (ne_of_none e hb)]; exact e, fun _ _ e => e, fun a e e' => by
          by_cases z : a = q
          · rw [z]; exact hz
          · rw [upd_ne z] at e'; exact absurd e e'⟩
        refine p (upd B q (.lst vs)) ρ H ⟨fun b u e => ?_, ok0.zz, fun k c e => ?_, ok.nj, ok.al, ok.up⟩ gg (.ref q) (.d (.lst upd_same ((ral_rpl r).mono gg.bb)))
        · by_cases z : b = q
          · subst z; rw [upd_same] at e; rw [hq]; exact e
          · rw [upd_ne z] at e; exact ok.ex b u e
        · obtain ⟨a, h1, _⟩ := ok.ce k c e
          exact ⟨a, h1, (own_ne k c a e h1).1⟩
  · exact p.elim
end

/-! ### comprehensions -/
def compM (nx : Nxt) (g : A → Sl → Hq → Option Sl) (mt : E Bool) (me : E A) (τw : Sl) : Nat → Nat → Hq → Option (List A × Hq)
  | 0, _, _ => none
  | f + 1, i, h => match nx i h with
    | some none => some ([], h)
    | some (some w) => (match g w τw h with
      | some τ1 => (match mt τ1 h with
        | some (.ok true h1) => (match me τ1 h1 with
          | some (.ok a h2) => (match compM nx g mt me τw f (i + 1) h2 with | some (r, h3) => some (a :: r, h3) | none => none)
          | _ => none)
        | some (.ok false h1) => compM nx g mt me τw f (i + 1) h1
        | _ => none)
      | none => none)
    | none => none
def mYes : E Bool := fun _ h => some (.ok true h)
def mLC (o : Bool) (mi : E Nxt) (g : A → Sl → Hq → Option Sl) (mt : E Bool) (me : E A) (vs : List Nat) : E A := fun τ h => bd (mi τ h) fun nx h1 => match compM nx g mt me (wipeT τ vs) FU 0 h1 with
  | some (ws, h2) => if ws.length ≤ LIM then mkL o ws h2 else none
  | none => none
structure RTs (X : Cx) (W : WX) (ifs : List Expr) (m : E Bool) : Prop where
  pt : PTs X ifs (tT X.K W m)
theorem pts_imp {X : Cx} {e : List Expr} {t t' : TT} (h : PTs X e t) (i : ∀ σ H Q, t' σ H Q → t σ H Q) : PTs X e t' := ⟨fun pins s σ H Q I q => h.run pins s σ H Q I (i _ _ _ q)⟩
theorem rts_nil {X : Cx} {W : WX} : RTs X W [] mYes := ⟨pts_imp pts_nil fun σ H Q q => by
  obtain ⟨Z, B, ρ, τ, h, ok, sl, q⟩ := q
  exact q.now ok⟩
theorem rts_one {X : Cx} {W : WX} {c : Expr} {m : E Bool} (h : RT X W c m) : RTs X W [c] m := ⟨pts_one h.pt⟩
abbrev W0 : WX := fun _ _ _ _ => False
/-- what stays true in the making of the list -/
theorem lc_reads {X : Cx} {vs : List Nat} {g : A → Sl → Hq → Option Sl} {mt : E Bool} {me : E A} {gg : TG} {tt : TT} {te : TE} {o : Bool}
    (hgg : ∀ v σ H Q, (∃ Z B ρ w τ τ' h, Ok X.K Z B ρ H h ∧ SlOk X.K B ρ σ τ ∧ RA X.K B ρ v w ∧ g w τ h = some τ' ∧ ∀ σ', SlOk X.K B ρ σ' τ' → Apart vs σ σ' → Q σ' H) → gg v σ H Q)
    (htt : ∀ σ H Q, tT X.K W0 mt σ H Q → tt σ H Q) (hte : ∀ σ H Q, tE X.K W0 me σ H Q → te σ H Q)
    {σ : L2.St} {Z B1 H1 : Hp} {ρ1 : Nat → Option Addr} {h1 h2 : Hq} {τ : Sl} {nx : Nxt} {J : It} {ws : List A} {Q : VK} {W : XK} (ok1 : Ok X.K Z B1 ρ1 H1 h1) (sl1 : SlOk X.K B1 ρ1 σ τ) (wk : Walk X.K B1 ρ1 J nx)
    (e : compM nx g mt me (wipeT τ vs) FU 0 h1 = some (ws, h2)) (hl : ws.length ≤ LIM) (k : Post X.K Z W B1 ρ1 (fun w _ B' ρ' H' => ∀ v, RA X.K B' ρ' v w → Q v H') (mkL o ws h2)) :
    ∀ D, H1 D = none → ∃ Wv : Nat → Nat → Hp → Prop, (∃ m, Wv 0 m (upd H1 D (.lst []))) ∧ ∀ i m H, Wv i m H →
  (J.stop i H ∧ Q (.ref D) H) ∨ (J.go i H ∧ ∃ Nx : Hp → Prop, (∀ H', Nx H' → ∃ m', m' < m ∧ Wv (i + 1) m' H') ∧ ∀ x H', J.yld i H x H' → gg x (L2.wipe σ vs) H' fun σ2 H2 => L2.wipe σ2 vs = L2.wipe σ vs ∧ tt σ2 H2 fun b H3 =>
    if b = true then te σ2 H3 fun y H4 => ∃ acc, H4 D = some (.lst acc) ∧ acc.length < sizeLine ∧ Nx (upd H4 D (.lst (acc ++ [y]))) else Nx H3) := by
  intro D hD
  have hzD : Z D = none := by
    cases z : Z D with
    | none => rfl
    | some u => rw [ok1.zz D u z] at hD; cases hD
  have hbD : B1 D = none := by
    cases z : B1 D with
    | none => rfl
    | some u => rw [ok1.ex D u z] at hD; cases hD
  refine ⟨fun i m H' => ∃ B' ρ' h' acc as rest, Ok X.K (upd Z D (.lst acc)) B' ρ' H' h' ∧ Gr Z B1 ρ1 B' ρ' ∧ B' D = none ∧ RAL X.K B' ρ' acc as ∧
      compM nx g mt me (wipeT τ vs) m i h' = some (rest, h2) ∧ ws = as ++ rest,
    ⟨FU, B1, ρ1, h1, [], [], ws, ok1.aside hD, Gr.refl, hbD, .nil, e, rfl⟩, ?_⟩
  rintro i m H2 ⟨B2, ρ2, h', acc, as, rest, ok2, g2, hb2, ra, ec, ew⟩
  cases m with
  | zero => cases ec
  | succ m =>
    obtain ⟨stop, go⟩ := wk _ B2 ρ2 H2 h' i ok2 g2.wk
    unfold compM at ec
    split at ec
    · rename_i e1
      cases ec
      rw [List.append_nil] at ew
      subst ew
      exact .inl ⟨stop e1, ok2.adopt hb2 hzD ra (k.from g2)⟩
    · rename_i w e1
      obtain ⟨k1, k2⟩ := go w e1
      refine .inr ⟨k1, fun H' => ∃ B' ρ' h' acc as rest, Ok X.K (upd Z D (.lst acc)) B' ρ' H' h' ∧ Gr Z B1 ρ1 B' ρ' ∧ B' D = none ∧ RAL X.K B' ρ' acc as ∧
        compM nx g mt me (wipeT τ vs) m (i + 1) h' = some (rest, h2) ∧ ws = as ++ rest, fun H' q => ⟨m, Nat.lt_succ_self m, q⟩, fun x H3 y => ?_⟩
      obtain ⟨B3, rx, ok3, g3⟩ := k2 x H3 y
      have keep : ∀ {B' : Hp} {ρ' : Nat → Option Addr} {Ba : Hp} {ρa : Nat → Option Addr}, Ba D = none → Gr (upd Z D (.lst acc)) Ba ρa B' ρ' → B' D = none := fun {B' ρ' Ba ρa} hn g => by
        cases z : B' D with
        | none => rfl
        | some u =>
          have := g.fz D hn (by rw [z]; simp)
          rw [upd_same] at this
          cases this
      have hb3 := keep hb2 g3
      have g13 := g2.trans (g3.aside hzD)
      split at ec
      · rename_i τ3 e3
        refine hgg _ _ _ _ ⟨_, B3, ρ2, w, wipeT τ vs, τ3, h', ok3, (sl1.mono g13).wipe vs, rx, e3, fun σ4 sl4 a4 => ⟨(wipe_apart a4).trans (wipe_wipe σ vs), htt _ _ _ ⟨_, B3, ρ2, τ3, h', ok3, sl4, ?_⟩⟩⟩
        split at ec
        · rename_i h5 e5
          rw [e5]
          intro B5 ρ5 H5 ok5 g5
          refine iteT (hte _ _ _ ⟨_, B5, ρ5, τ3, h5, ok5, sl4.mono g5, ?_⟩)
          have hb5 := keep hb3 g5
          split at ec
          · rename_i a h6 e6
            rw [e6]
            intro B6 ρ6 H6 ok6 g6 v rv
            have hb6 := keep hb5 g6
            split at ec
            · rename_i r h7 e7
              cases ec
              have g36 := (g5.trans g6).aside hzD
              refine ⟨acc, ok6.zz D _ upd_same, ?_, B6, ρ6, h6, acc ++ [v], as ++ [a], r, ok6.turn hb6 hzD, g13.trans g36, hb6, (ra.mono ((g3.aside hzD).trans g36)).append (.cons rv .nil), e7, by rw [ew, List.append_assoc]; rfl⟩
              rw [ra.length, ← lim_eq]
              rw [ew, List.length_append, List.length_cons] at hl
              omega
            · cases ec
          · cases ec
        · rename_i h5 e5
          rw [e5]
          intro B5 ρ5 H5 ok5 g5
          exact iteF ⟨B5, ρ5, h5, acc, as, rest, ok5, g13.trans (g5.aside hzD), keep hb3 g5, ra.mono ((g3.aside hzD).trans (g5.aside hzD)), ec, ew⟩
        · cases ec
      · cases ec
    · cases ec
section
variable {X : Cx} {W : WX} {tg iter elt : Expr} {ifs : List Expr} {scope : Scope} {mi : E Nxt} {g : A → Sl → Hq → Option Sl} {mt : E Bool} {me : E A} {pos : Pos}
theorem rx_lc (o : Bool) (hc : X.calm = true) (hN : X.N.Nodup) (own : List (Str × Nat)) (hi : RI X W tg iter mi)
    (hg : ∀ (s : Shared) (H : Hp) (C : Addr) (cl : List (Str × Addr)) (fp : List Addr), RG (X.blk s H scope (compEnvC scope cl C X.env) fp) (own.map (·.2)) tg g) (ht : ∀ (s : Shared) (H : Hp) (C : Addr) (cl : List (Str × Addr)) (fp : List Addr), RTs (X.blk s H scope (compEnvC scope cl C X.env) fp) W0 ifs mt)
    (he : ∀ (s : Shared) (H : Hp) (C : Addr) (cl : List (Str × Addr)) (fp : List Addr), RX (X.blk s H scope (compEnvC scope cl C X.env) fp) W0 elt me) (ok : BlkOk X.N X.env.scope scope own)
    (hs : ∀ x, foldedSetIterable iter X.env x = pure x := by intro _; rfl) : RX X W (.ListComp elt [⟨tg, iter, ifs, 0⟩] scope pos) (mLC o mi g mt me (own.map (·.2))) := ⟨pe_imp (pe_lc hc hN hi.pi ok (g := fun v σ H Q => ∃ Z B ρ w τ τ' h, Ok X.K Z B ρ H h ∧ SlOk X.K B ρ σ τ ∧ RA X.K B ρ v w ∧ g w τ h = some τ' ∧ ∀ σ', SlOk X.K B ρ σ' τ' → Apart (own.map (·.2)) σ σ' → Q σ' H) (tt := tT X.K W0 mt) (te := tE X.K W0 me)
    (fun s H C cl fp => (hg s H C cl fp).pg) (fun s H C cl fp => (ht s H C cl fp).pt) (fun s H C cl fp => (he s H C cl fp).pe) hs) fun σ H Q q => by
  obtain ⟨Z, B, ρ, τ, h, okk, sl, q⟩ := q
  unfold mLC at q
  refine ⟨Z, B, ρ, τ, h, okk, sl, q.bd.imp fun nx h1 B1 ρ1 H1 ok1 g1 q1 J wk => ?_⟩
  split at q1
  · rename_i ws h2 e1
    split at q1
    · rename_i hl
      exact lc_reads (X := X) (fun _ _ _ _ h => h) (fun _ _ _ h => h) (fun _ _ _ h => h) ok1 (sl.mono g1) wk e1 hl q1
    · exact q1.elim
  · exact q1.elim⟩
theorem rs_setLc (o : Bool) {i : Nat} {y : Str} {py spos : Pos} (hc : X.calm = true) (hN : X.N.Nodup) (own : List (Str × Nat)) (hi : RI X W tg iter mi)
    (hg : ∀ (s : Shared) (H : Hp) (C : Addr) (cl : List (Str × Addr)) (fp : List Addr), RG (X.blk s H scope (compEnvC scope cl C X.env) fp) (own.map (·.2)) tg g) (ht : ∀ (s : Shared) (H : Hp) (C : Addr) (cl : List (Str × Addr)) (fp : List Addr), RTs (X.blk s H scope (compEnvC scope cl C X.env) fp) W0 ifs mt)
    (he : ∀ (s : Shared) (H : Hp) (C : Addr) (cl : List (Str × Addr)) (fp : List Addr), RX (X.blk s H scope (compEnvC scope cl C X.env) fp) W0 elt me) (ok : BlkOk X.N X.env.scope scope own)
    (hsw : swapsWith (.ListComp elt [⟨tg, iter, ifs, 0⟩] scope pos) (some (.Name y py)) spos.line X.env = pure true) (hy : X.N[i]? = some y := by rfl) (hyl : X.env.scope.names.lookup y = some .local := by rfl)
    (hs : ∀ x, foldedSetIterable iter X.env x = pure x := by intro _; rfl) : RS X W (.Assign [.Name y py] (.ListComp elt [⟨tg, iter, ifs, 0⟩] scope pos) spos) (mSet i (mLC o mi g mt me (own.map (·.2)))) := ⟨ps_imp (ps_setLc hc hN hy hyl hsw hi.pi ok (g := fun v σ H Q => ∃ Z B ρ w τ τ' h, Ok X.K Z B ρ H h ∧ SlOk X.K B ρ σ τ ∧ RA X.K B ρ v w ∧ g w τ h = some τ' ∧ ∀ σ', SlOk X.K B ρ σ' τ' → Apart (own.map (·.2)) σ σ' → Q σ' H) (tt := tT X.K W0 mt) (te := tE X.K W0 me)
    (fun s H C cl fp => (hg s H C cl fp).pg) (fun s H C cl fp => (ht s H C cl fp).pt) (fun s H C cl fp => (he s H C cl fp).pe) hs) fun D σ H q => by
  obtain ⟨Z, B, ρ, τ, h, okk, sl, q⟩ := q
  have q2 := q.sb sl
  unfold mLC at q2
  refine ⟨Z, B, ρ, τ, h, okk, sl, q2.bd.imp fun nx h1 B1 ρ1 H1 ok1 g1 q1 J wk => ?_⟩
  split at q1
  · rename_i ws h2 e1
    split at q1
    · rename_i hl
      refine lc_reads (X := X) (Q := fun x H1 => gName i x σ H1 D.nx) (fun _ _ _ _ h => h) (fun _ _ _ h => h) (fun _ _ _ h => h) ok1 (sl.mono g1) wk e1 hl (q1.imp fun w h3 B3 ρ3 H3 ok3 g3 q3 v rv => ?_)
      exact q3.nx1 ok3 (((sl.mono g1).mono g3).put rv)
    · exact q1.elim
  · exact q1.elim⟩
end
end Tq

/-! Tq7: cells that turn: lists, fields, dicts. -/
namespace Tq
open PySem PySem.Spec PyProof.Rows L2
theorem ps_or {X : Cx} {e : Stmt} {t t' : TS} (h : PS X e t) (h' : PS X e t') : PS X e fun D σ H => t D σ H ∨ t' D σ H := ⟨fun pins s σ H D I q => q.elim (h.run pins s σ H D I) (h'.run pins s σ H D I)⟩
section
variable {K : PySem.W.Frag} {Z B H : Hp} {ρ : Nat → Option Addr} {h : Hq} {v : V} {k : Nat} {ws : List A}
theorem cell_lst (ok : Ok K Z B ρ H h) (r : RA K B ρ v (.r k)) (e : h[k]? = some (.lst ws)) : ∃ a vs, v = .ref a ∧ ρ k = some a ∧ H a = some (.lst vs) ∧ RAL K B ρ vs ws ∧
    ∀ vs' ws', RAL K B ρ vs' ws' → Ok K Z B ρ (upd H a (.lst vs')) (h.set k (.lst ws')) := by
  cases r with
  | r hr =>
    obtain ⟨a, h1, h2⟩ := ok.ce _ _ e
    rw [hr] at h1
    cases h1
    cases h2 with
    | lst q1 q2 q3 q4 => exact ⟨_, _, rfl, hr, q1, q2, fun vs' ws' r' => ok.mut e hr (fun z y => by rw [q1] at y; cases y) q3 q4 (.lst upd_same r' q3 q4)⟩
end
/-! ### list methods -/
def gApp : G2 := fun a w h => match a with
  | .r k => (match h[k]? with | some (.lst ws) => if ws.length < LIM then some (.ok (.d .non) (h.set k (.lst (ws ++ [w])))) else none | _ => none)
  | _ => none
theorem og_app {K : PySem.W.Frag} : Op2 K (fun x y H Q => rAppend x [y] H Q) gApp := by
  intro Z B ρ H h x y a b W Q ok rx ry q
  unfold gApp at q
  split at q
  · split at q
    · rename_i ws e
      split at q
      · rename_i hl
        obtain ⟨p, vs, rfl, hr, h1, r1, up⟩ := cell_lst ok rx e
        exact ⟨p, vs, y, rfl, rfl, h1, by rw [r1.length, ← lim_eq]; exact hl, q.now (up _ _ (r1.append (.cons ry .nil))) |> fun z => q B ρ _ (up _ _ (r1.append (.cons ry .nil))) Gr.refl _ (.d .non)⟩
      · exact q.elim
    · exact q.elim
  · exact q.elim
def gExt : G2 := fun a w h => match a with
  | .r k => (match h[k]? with
    | some (.lst ws) => (match lstOf h w with
      | some us => if ws.length + us.length ≤ LIM then some (.ok (.d .non) (h.set k (.lst (ws ++ us)))) else none
      | none => none)
    | _ => none)
  | _ => none
theorem og_ext {K : PySem.W.Frag} : Op2 K (fun x y H Q => rExtend x [y] H Q) gExt := by
  intro Z B ρ H h x y a b W Q ok rx ry q
  unfold gExt at q
  split at q
  · split at q
    · rename_i ws e
      split at q
      · rename_i us e2
        split at q
        · rename_i hl
          obtain ⟨p, vs, rfl, hr, h1, r1, up⟩ := cell_lst ok rx e
          obtain ⟨p', zs, rfl, h2, r2⟩ := lstOf_ra ok ry e2
          exact ⟨p, p', vs, zs, rfl, rfl, h1, h2, by rw [r1.length, r2.length, ← lim_eq]; exact hl, q B ρ _ (up _ _ (r1.append r2)) Gr.refl _ (.d .non)⟩
        · exact q.elim
      · exact q.elim
    · exact q.elim
  · exact q.elim
def gRev : G1 := fun a h => match a with
  | .r k => (match h[k]? with | some (.lst ws) => some (.ok (.d .non) (h.set k (.lst ws.reverse))) | _ => none)
  | _ => none
theorem og_rev {K : PySem.W.Frag} : Op1 K (fun x H Q => rReverse x [] H Q) gRev := by
  intro Z B ρ H h x a W Q ok rx q
  unfold gRev at q
  split at q
  · split at q
    · rename_i ws e
      obtain ⟨p, vs, rfl, hr, h1, r1, up⟩ := cell_lst ok rx e
      exact ⟨p, vs, rfl, rfl, h1, q B ρ _ (up _ _ r1.reverse) Gr.refl _ (.d .non)⟩
    · exact q.elim
  · exact q.elim
def gPop : G1 := fun a h => match a with
  | .r k => (match h[k]? with | some (.lst ws) => (match ws[ws.length - 1]? with | some w => some (.ok w (h.set k (.lst ws.dropLast))) | none => none) | _ => none)
  | _ => none
theorem RAL.dropLast {K : PySem.W.Frag} {B : Hp} {ρ : Nat → Option Addr} {vs : List V} {ws : List A} (r : RAL K B ρ vs ws) : RAL K B ρ vs.dropLast ws.dropLast := by
  rw [List.dropLast_eq_take, List.dropLast_eq_take, r.length]
  exact r.take _
theorem og_pop {K : PySem.W.Frag} : Op1 K (fun x H Q => rPop x [] H Q) gPop := by
  intro Z B ρ H h x a W Q ok rx q
  unfold gPop at q
  split at q
  · split at q
    · rename_i ws e
      split at q
      · rename_i w e2
        obtain ⟨p, vs, rfl, hr, h1, r1, up⟩ := cell_lst ok rx e
        obtain ⟨v, h2, r2⟩ := r1.get e2
        exact ⟨p, vs, v, rfl, rfl, h1, by rw [r1.length]; exact h2, q B ρ _ (up _ _ r1.dropLast) Gr.refl _ r2⟩
      · exact q.elim
    · exact q.elim
  · exact q.elim
section
variable {X : Cx} {W : WX} {a b : Expr} {ma mb : E A} {pos apos : Pos}
theorem rx_append (ha : RX X W a ma) (hb : RX X W b mb) (hbase : attributeBase a "append" X.env (eval a X.env) = eval a X.env := by rfl)
    (hfew : ((backTo pos (starEach (b :: []) X.env)).all (fun x => !x.1) && (backToKw pos (keywordEach [] X.env)).all (fun x => x.1.isSome)
      && decide ((b :: []).length + ([] : List Keyword).length + (if ([] : List Keyword).isEmpty then 0 else 1) < 30)) = true := by rfl)
    (hline : (apos.endLine == pos.line) = true := by rfl) (hs : starEach (b :: []) X.env = (false, eval b X.env) :: starEach [] X.env := by rfl) : RX X W (.Call (.Attribute a "append" apos) [b] [] pos) (mM1 tokL gApp ma mb) :=
  rx_m1 F.plainAttrs_list F.slot_list_append F.type_list_append mt_append tokL tokL_ty og_app ha hb hbase hfew hline hs
theorem rx_extend (ha : RX X W a ma) (hb : RX X W b mb) (hbase : attributeBase a "extend" X.env (eval a X.env) = eval a X.env := by rfl)
    (hfew : ((backTo pos (starEach (b :: []) X.env)).all (fun x => !x.1) && (backToKw pos (keywordEach [] X.env)).all (fun x => x.1.isSome)
      && decide ((b :: []).length + ([] : List Keyword).length + (if ([] : List Keyword).isEmpty then 0 else 1) < 30)) = true := by rfl)
    (hline : (apos.endLine == pos.line) = true := by rfl) (hs : starEach (b :: []) X.env = (false, eval b X.env) :: starEach [] X.env := by rfl) : RX X W (.Call (.Attribute a "extend" apos) [b] [] pos) (mM1 tokL gExt ma mb) :=
  rx_m1 F.plainAttrs_list F.slot_list_extend F.type_list_extend mt_extend tokL tokL_ty og_ext ha hb hbase hfew hline hs
theorem rx_reverse (ha : RX X W a ma) (hbase : attributeBase a "reverse" X.env (eval a X.env) = eval a X.env := by rfl) (hline : (apos.endLine == pos.line) = true := by rfl) : RX X W (.Call (.Attribute a "reverse" apos) [] [] pos) (mM0 tokL gRev ma) :=
  rx_m0 F.plainAttrs_list F.slot_list_reverse F.type_list_reverse mt_reverse tokL tokL_ty og_rev ha hbase hline
theorem rx_pop0 (ha : RX X W a ma) (hbase : attributeBase a "pop" X.env (eval a X.env) = eval a X.env := by rfl) (hline : (apos.endLine == pos.line) = true := by rfl) : RX X W (.Call (.Attribute a "pop" apos) [] [] pos) (mM0 tokL gPop ma) :=
  rx_m0 F.plainAttrs_list F.slot_list_pop F.type_list_pop mt_pop tokL tokL_ty og_pop ha hbase hline
end

/-! ### keys, parts by keys -/
def keyD : D → Option Key
  | .int i => some (.inl i)
  | .str x => some (.inr x)
  | _ => none
def keysD : List D → Option (List Key)
  | [] => some []
  | d :: r => match keyD d, keysD r with | some k, some ks => some (k :: ks) | _, _ => none
def keyA : A → Option Key
  | .d d => keyD d
  | _ => none
def keyT : A → Option (List Key)
  | .d (.tup ds) => keysD ds
  | _ => none
theorem keyD_rp {K : PySem.W.Frag} {B : Hp} {v : V} {d : D} {k : Key} (r : Rp K B v d) (h : keyD d = some k) : v = kV k := by
  cases r <;> first | (cases h; rfl) | cases h
theorem keysD_rp {K : PySem.W.Frag} {B : Hp} : ∀ {vs : List V} {ds : List D} {ks : List Key}, RpL K B vs ds → keysD ds = some ks → vs = ks.map kV
  | _, _, _, .nil, h => by cases h; rfl
  | _, d :: r, ks, .cons w wl, h => by
    unfold keysD at h
    split at h
    · rename_i k ks' h1 h2
      cases h
      rw [keyD_rp w h1, keysD_rp wl h2]
      rfl
    · cases h
section
variable {κ α : Type} [DecidableEq κ]
def dGet (k : κ) : List κ → List α → Option α
  | k' :: ks, s :: ss => if k' = k then some s else dGet k ks ss
  | _, _ => none
def dPut (k : κ) (s : α) : List κ → List α → List κ × List α
  | k' :: ks, s' :: ss => if k' = k then (k' :: ks, s :: ss) else ((k' :: (dPut k s ks ss).1), (s' :: (dPut k s ks ss).2))
  | ks, _ => if ks = [] then ([k], [s]) else (ks, [])
end
section
variable {κ : Type} [DecidableEq κ] {K : PySem.W.Frag} {B : Hp} {ρ : Nat → Option Addr}
theorem dGet_ok {k : κ} : ∀ {ks : List κ} {vs : List V} {ws : List A}, RAL K B ρ vs ws → ks.length = vs.length →
    (dGet k ks ws = none → valV (ks.zip vs) k = none) ∧ ∀ w, dGet k ks ws = some w → ∃ v, valV (ks.zip vs) k = some v ∧ RA K B ρ v w
  | [], _, _, r, _ => ⟨fun _ => by simp [valV], fun w h => by cases r <;> cases h⟩
  | k' :: ks, _, _, .nil, e => by simp at e
  | k' :: ks, _, _, .cons (v := v) (vs := vr) (w := s) (ws := sr) w wl, e => by
    have ih := dGet_ok (k := k) (ks := ks) wl (by simpa using e)
    by_cases z : k' = k
    · refine ⟨fun h => ?_, fun x h => ⟨v, ?_, ?_⟩⟩
      · simp [dGet, z] at h
      · rw [List.zip_cons_cons]; exact valV_pos z
      · simp [dGet, z] at h
        subst h
        exact w
    · have e1 : dGet k (k' :: ks) (s :: sr) = dGet k ks sr := by simp [dGet, z]
      have e2 : valV ((k' :: ks).zip (v :: vr)) k = valV (ks.zip vr) k := by rw [List.zip_cons_cons]; exact valV_neg z
      rw [e1, e2]
      exact ih
/-- the pairs with k: v, by place -/
def putZ (k : κ) (v : V) : List (κ × V) → List (κ × V)
  | [] => [(k, v)]
  | (k', x) :: r => if k' = k then (k', v) :: r else (k', x) :: putZ k v r
theorem map_other {k : κ} {v : V} : ∀ {l : List (κ × V)}, (∀ p ∈ l, p.1 ≠ k) → l.map (fun kv => if kv.1 = k then (kv.1, v) else kv) = l
  | [], _ => rfl
  | p :: r, h => by
    rw [List.map_cons, if_neg (h p (List.mem_cons_self ..)), map_other fun q hq => h q (List.mem_cons_of_mem _ hq)]
theorem putK_eq {k : κ} {v : V} : ∀ {l : List (κ × V)}, (l.map (·.1)).Nodup → putK l k v = putZ k v l
  | [], _ => by simp [putK, putZ]
  | (k', x) :: r, nd => by
    have nd : (k' :: r.map (·.1)).Nodup := nd
    obtain ⟨n1, n2⟩ := List.nodup_cons.mp nd
    have ih := putK_eq (k := k) (v := v) n2
    unfold putZ
    by_cases z : k' = k
    · subst z
      rw [if_pos rfl]
      unfold putK
      have : ((k', x) :: r).any (fun kv => decide (kv.1 = k')) = true := by simp
      rw [if_pos this, List.map_cons, if_pos rfl, map_other fun p hp e => n1 (by rw [← e]; exact List.mem_map_of_mem hp)]
    · rw [if_neg z]
      unfold putK at ih ⊢
      have e1 : ((k', x) :: r).any (fun kv => decide (kv.1 = k)) = r.any (fun kv => decide (kv.1 = k)) := by simp [z]
      rw [e1]
      by_cases y : r.any (fun kv => decide (kv.1 = k)) = true
      · rw [if_pos y] at ih ⊢
        rw [List.map_cons, if_neg z, ih]
      · rw [if_neg y] at ih ⊢
        rw [List.cons_append, ih]
theorem dPut_ok {k : κ} {v : V} {w : A} (rv : RA K B ρ v w) : ∀ {ks : List κ} {vs : List V} {ws : List A}, RAL K B ρ vs ws → ks.length = vs.length →
    ∃ vs', putZ k v (ks.zip vs) = (dPut k w ks ws).1.zip vs' ∧ (dPut k w ks ws).1.length = vs'.length ∧ RAL K B ρ vs' (dPut k w ks ws).2 ∧ (dPut k w ks ws).1 = if k ∈ ks then ks else ks ++ [k]
  | [], _, _, r, e => by
    cases r with
    | nil => exact ⟨[v], by simp [dPut, putZ], by simp [dPut], by simpa [dPut] using RAL.cons rv .nil, by simp [dPut]⟩
    | cons _ _ => simp at e
  | k' :: ks, _, _, .nil, e => by simp at e
  | k' :: ks, _, _, .cons (v := u) (vs := vr) (w := s) (ws := sr) w0 wl, e => by
    obtain ⟨vs', h1, h2, h3, h4⟩ := dPut_ok (k := k) rv (ks := ks) wl (by simpa using e)
    by_cases z : k' = k
    · refine ⟨v :: vr, ?_, ?_, ?_, ?_⟩
      · simp [dPut, putZ, z]
      · simp [dPut, z]; simpa using e
      · simp only [dPut, if_pos z]; exact .cons rv wl
      · simp [dPut, z]
    · refine ⟨u :: vs', ?_, ?_, ?_, ?_⟩
      · simp only [dPut, if_neg z, List.zip_cons_cons, putZ]
        rw [h1]
      · simp [dPut, z, h2]
      · simp only [dPut, if_neg z]; exact .cons w0 h3
      · simp only [dPut, if_neg z, List.mem_cons, Ne.symm z, false_or]
        rw [h4]
        by_cases y : k ∈ ks
        · rw [if_pos y, if_pos y]
        · rw [if_neg y, if_neg y]; rfl
end
/-- what is at a key; none: the value has no such reading; some none: nothing is there -/
def hGet (hd : Hd) (ws : List A) (kd : A) : Option (Option A) := match hd with
  | .dic ks => (keyA kd).map fun k => dGet k ks ws
  | .dit ks => (keyT kd).map fun k => dGet k ks ws
  | .ins _ _ => none
def hPut (hd : Hd) (ws : List A) (kd w : A) : Option (Hd × List A) := match hd with
  | .dic ks => if ks.Nodup ∧ ks.length < LIM then (keyA kd).map fun k => (.dic (dPut k w ks ws).1, (dPut k w ks ws).2) else none
  | .dit ks => if ks.Nodup ∧ ks.length < LIM then (keyT kd).map fun k => (.dit (dPut k w ks ws).1, (dPut k w ks ws).2) else none
  | .ins _ _ => none
/-- a dict, whatever it is in -/
def dicOf (h : Hq) : A → Option (Hd × List A)
  | .d (.nd hd xs) => some (hd, xs.map A.d)
  | .r k => match h[k]? with | some (.nd hd ws) => some (hd, ws) | _ => none
  | _ => none
section
variable {K : PySem.W.Frag} {Z B H : Hp} {ρ : Nat → Option Addr} {h : Hq} {x y v : V} {a kd w : A} {hd : Hd} {ws : List A}
theorem dicOf_ra (ok : Ok K Z B ρ H h) (r : RA K B ρ x a) (e : dicOf h a = some (hd, ws)) : ∃ p vs own, x = .ref p ∧ HdAt K H p hd vs own ∧ RAL K B ρ vs ws := by
  unfold dicOf at e
  split at e
  · cases e
    cases ra_d r with
    | nd h1 r1 => exact ⟨_, _, _, rfl, h1.to fun b _ u z => ok.ex b u z, ral_ds r1⟩
  · split at e
    · rename_i e1
      cases e
      cases r with
      | r hr =>
        obtain ⟨p, h1, h2⟩ := ok.ce _ _ e1
        rw [hr] at h1
        cases h1
        cases h2 with
        | nd q1 q2 q3 => exact ⟨_, _, _, rfl, q1, q2⟩
    · cases e
  · cases e
theorem hGet_isD {p : Addr} {vs : List V} {own : List Addr} {o : Option A} (x : HdAt K H p hd vs own) (e : hGet hd ws kd = some o) : IsD H p := by
  cases x with
  | dic h1 _ => exact .inl ⟨_, .inl h1⟩
  | dit h1 _ => exact .inr ⟨_, .inl h1⟩
  | ins => cases e
theorem hGet_ok {p : Addr} {vs : List V} {own : List Addr} {o : Option A} (ok : Ok K Z B ρ H h) (x : HdAt K H p hd vs own) (r : RAL K B ρ vs ws) (ry : RA K B ρ y kd) (e : hGet hd ws kd = some o) :
    (o = none → DGet H p y none) ∧ ∀ w, o = some w → ∃ v, DGet H p y (some v) ∧ RA K B ρ v w := by
  cases x with
  | dic h1 h2 =>
    obtain ⟨k, hk, rfl⟩ := Option.map_eq_some_iff.mp e
    have hy : y = kV k := by
      unfold keyA at hk
      split at hk
      · exact keyD_rp (ra_d ry) hk
      · cases hk
    subst hy
    obtain ⟨g1, g2⟩ := dGet_ok (k := k) r h2
    refine ⟨fun z => ?_, fun w z => ?_⟩
    · rw [← g1 z]; exact .k h1
    · obtain ⟨v, q1, q2⟩ := g2 w z
      exact ⟨v, by rw [← q1]; exact .k h1, q2⟩
  | dit h1 h2 =>
    obtain ⟨k, hk, rfl⟩ := Option.map_eq_some_iff.mp e
    have hy : ∃ b, y = .ref b ∧ H b = some (.tup (k.map kV)) := by
      unfold keyT at hk
      split at hk
      · cases ra_d ry with
        | tup q1 q2 => exact ⟨_, rfl, by rw [ok.ex _ _ q1, keysD_rp q2 hk]⟩
      · cases hk
    obtain ⟨b, rfl, hb⟩ := hy
    obtain ⟨g1, g2⟩ := dGet_ok (k := k) r h2
    refine ⟨fun z => ?_, fun w z => ?_⟩
    · rw [← g1 z]; exact .t h1 hb
    · obtain ⟨v, q1, q2⟩ := g2 w z
      exact ⟨v, by rw [← q1]; exact .t h1 hb, q2⟩
  | ins => cases e
theorem map_fst_zip {κ : Type} : ∀ {ks : List κ} {vs : List V}, ks.length = vs.length → (ks.zip vs).map (·.1) = ks
  | [], _, _ => rfl
  | _ :: _, [], e => by simp at e
  | k :: ks, v :: vs, e => by rw [List.zip_cons_cons, List.map_cons, map_fst_zip (by simpa using e)]
theorem hPut_ok {p : Addr} {vs : List V} {own : List Addr} {hd' : Hd} {ws' : List A} (ok : Ok K Z B ρ H h) (x : HdAt K H p hd vs own) (r : RAL K B ρ vs ws) (ry : RA K B ρ y kd) (rv : RA K B ρ v w) (e : hPut hd ws kd w = some (hd', ws')) :
    ∃ (o : HO) (vs' : List V), DPut H p y v (upd H p o) ∧ own = [p] ∧ HdAt K (upd H p o) p hd' vs' own ∧ RAL K B ρ vs' ws' := by
  cases x with
  | dic h1 h2 =>
    unfold hPut at e
    dsimp only at e
    split at e
    · rename_i hn
      obtain ⟨k, hk, e⟩ := Option.map_eq_some_iff.mp e
      cases e
      have hy : y = kV k := by
        unfold keyA at hk
        split at hk
        · exact keyD_rp (ra_d ry) hk
        · cases hk
      subst hy
      obtain ⟨vs', q1, q2, q3, _⟩ := dPut_ok (k := k) rv r h2
      refine ⟨_, vs', .k h1 (by rw [List.length_zip, ← h2, Nat.min_self, ← lim_eq]; exact hn.2), rfl, .dic ?_ q2, q3⟩
      rw [upd_same, putK_eq (by rw [map_fst_zip h2]; exact hn.1), q1]
    · cases e
  | dit h1 h2 =>
    unfold hPut at e
    dsimp only at e
    split at e
    · rename_i hn
      obtain ⟨k, hk, e⟩ := Option.map_eq_some_iff.mp e
      cases e
      have hy : ∃ b, y = .ref b ∧ H b = some (.tup (k.map kV)) := by
        unfold keyT at hk
        split at hk
        · cases ra_d ry with
          | tup q1 q2 => exact ⟨_, rfl, by rw [ok.ex _ _ q1, keysD_rp q2 hk]⟩
        · cases hk
      obtain ⟨b, rfl, hb⟩ := hy
      obtain ⟨vs', q1, q2, q3, _⟩ := dPut_ok (k := k) rv r h2
      refine ⟨_, vs', .t h1 hb (by rw [List.length_zip, ← h2, Nat.min_self, ← lim_eq]; exact hn.2), rfl, .dit ?_ q2, q3⟩
      rw [upd_same, putK_eq (by rw [map_fst_zip h2]; exact hn.1), q1]
    · cases e
  | ins => cases e
/-- a cell with parts turns, its own dict stays -/
theorem cell_nd (ok : Ok K Z B ρ H h) {k : Nat} (r : RA K B ρ v (.r k)) (e : h[k]? = some (.nd hd ws)) : ∃ a vs own, v = .ref a ∧ ρ k = some a ∧ HdAt K H a hd vs own ∧ RAL K B ρ vs ws ∧
    ∀ o hd' vs' ws', HdAt K (upd H a o) a hd' vs' own → RAL K B ρ vs' ws' → Ok K Z B ρ (upd H a o) (h.set k (.nd hd' ws')) := by
  cases r with
  | r hr =>
    obtain ⟨a, h1, h2⟩ := ok.ce _ _ e
    rw [hr] at h1
    cases h1
    cases h2 with
    | nd q1 q2 q3 => exact ⟨_, _, _, rfl, hr, q1, q2, fun o hd' vs' ws' x' r' => ok.mut e hr q1.own_or.2.2.2.2 (q3 _ q1.own_or.1).1 (q3 _ q1.own_or.1).2 (.nd x' r' q3)⟩
end

/-! ### xs[i], d[k] -/
def gGetD : G2 := fun a kd h => match dicOf h a with
  | some (hd, ws) => (match hGet hd ws kd with | some (some w) => some (.ok w h) | _ => none)
  | none => none
def gGet : G2 := fun a kd h => if (dicOf h a).isSome then gGetD a kd h else gIx a kd h
section
variable {X : Cx} {W : WX} {a b : Expr} {ma mb : E A} {pos : Pos}
/-- of a list, a tuple, a text, a dict -/
theorem rx_sub (hu : X.A.units + 1 < cLine) (ha : RX X W a ma) (hb : RX X W b mb) (hs : PlainIx b := by exact fun _ _ => rfl) (hs2 : NoSl b := by exact fun _ _ => rfl) : RX X W (.Subscript a b pos) (mBin gGet ma mb) := ⟨pe_imp (pe_or (pe_ix ix_seq ha.pe hb.pe hs) (pe_dget hu ha.pe hb.pe hs2)) fun σ H Q q => by
  obtain ⟨Z, B, ρ, τ, h, ok, sl, q⟩ := q
  unfold mBin at q
  have dec : ∀ (r : Option (Rs A)), Post X.K Z (fun c d H' => W c d σ H') B ρ (fun w _ B' ρ' H' => ∀ v, RA X.K B' ρ' v w → Q v H') (bd r fun a h1 => bd (mb τ h1) fun b h2 => gGet a b h2) →
      Post X.K Z (fun c d H' => W c d σ H') B ρ (fun w _ B' ρ' H' => ∀ v, RA X.K B' ρ' v w → tE X.K W mb σ H' fun y H2 => rIx X.K v y H2 Q) r ∨
      Post X.K Z (fun c d H' => W c d σ H') B ρ (fun w _ B' ρ' H' => ∀ v, RA X.K B' ρ' v w → tE X.K W mb σ H' fun y H2 => ∃ a v', v = .ref a ∧ DGet H2 a y (some v') ∧ Q v' H2) r := by
    intro r q
    match r, q with
    | some (.ex x h), q => exact .inl q
    | some (.ok a h1), q =>
      have q : Post X.K Z (fun c d H' => W c d σ H') B ρ (fun w _ B' ρ' H' => ∀ v, RA X.K B' ρ' v w → Q v H') (bd (mb τ h1) fun b h2 => gGet a b h2) := q
      -- what the other evaluation says
      have dec2 : ∀ (r2 : Option (Rs A)), Post X.K Z (fun c d H' => W c d σ H') B ρ (fun w _ B' ρ' H' => ∀ v, RA X.K B' ρ' v w → Q v H') (bd r2 fun b h2 => gGet a b h2) →
          (∀ b h2, r2 = some (.ok b h2) → dicOf h2 a = none) ∨ ∃ b h2 hw, r2 = some (.ok b h2) ∧ dicOf h2 a = some hw := by
        intro r2 _
        match r2 with
        | none => exact .inl fun _ _ e => by cases e
        | some (.ex _ _) => exact .inl fun _ _ e => by cases e
        | some (.ok b h2) =>
          cases e : dicOf h2 a with
          | none => exact .inl fun _ _ z => by cases z; exact e
          | some hw => exact .inr ⟨b, h2, hw, rfl, e⟩
      rcases dec2 (mb τ h1) q with hn | ⟨b, h2, hw, e1, e2⟩
      · refine .inl fun B1 ρ1 H1 ok1 g1 v rv => ⟨Z, B1, ρ1, τ, h1, ok1, sl.mono g1, ?_⟩
        have q := (q.from g1).bd
        revert q hn
        cases mb τ h1 with
        | none => exact fun _ q => q
        | some r2 =>
          cases r2 with
          | ex _ _ => exact fun _ q => q
          | ok b h2 =>
            intro hn q B2 ρ2 H2 ok2 g2 y ry
            have q : Post X.K Z (fun c d H' => W c d σ H') B2 ρ2 (fun w _ B' ρ' H' => ∀ v, RA X.K B' ρ' v w → Q v H') (gGet a b h2) := q B2 ρ2 H2 ok2 g2
            unfold gGet at q
            rw [hn b h2 rfl] at q
            exact og_ix Z B2 ρ2 H2 h2 v y a b _ Q ok2 (rv.mono g2) ry q
      · refine .inr fun B1 ρ1 H1 ok1 g1 v rv => ⟨Z, B1, ρ1, τ, h1, ok1, sl.mono g1, ?_⟩
        have q := (q.from g1).bd
        rw [e1] at q ⊢
        intro B2 ρ2 H2 ok2 g2 y ry
        have q : Post X.K Z (fun c d H' => W c d σ H') B2 ρ2 (fun w _ B' ρ' H' => ∀ v, RA X.K B' ρ' v w → Q v H') (gGet a b h2) := q B2 ρ2 H2 ok2 g2
        unfold gGet at q
        rw [e2] at q
        have q : Post X.K Z (fun c d H' => W c d σ H') B2 ρ2 (fun w _ B' ρ' H' => ∀ v, RA X.K B' ρ' v w → Q v H') (gGetD a b h2) := q
        unfold gGetD at q
        rw [e2] at q
        obtain ⟨hd, ws⟩ := hw
        dsimp only at q
        split at q
        · rename_i w e3
          obtain ⟨p, vs, own, rfl, x1, r1⟩ := dicOf_ra ok2 (rv.mono g2) e2
          obtain ⟨v', g, rv'⟩ := (hGet_ok ok2 x1 r1 ry e3).2 w rfl
          exact ⟨p, v', rfl, g, q.now ok2 _ rv'⟩
        · exact q.elim
  rcases dec (ma τ h) q with q | q
  · exact .inl ⟨Z, B, ρ, τ, h, ok, sl, q⟩
  · exact .inr ⟨Z, B, ρ, τ, h, ok, sl, q⟩⟩
end
/-! ### a[i] = v, d[k] = v -/
def putA (a kd w : A) (h : Hq) : Option Hq := match a with
  | .r k => (match h[k]? with
    | some (.lst ws) => (match kd with
      | .d (.int i) => (match ixN ws.length i with | some n => some (h.set k (.lst (ws.set n w))) | none => none)
      | _ => none)
    | some (.nd hd ws) => (match hPut hd ws kd w with | some (hd', ws') => some (h.set k (.nd hd' ws')) | none => none)
    | _ => none)
  | _ => none
def isLst (h : Hq) : A → Bool
  | .r k => match h[k]? with | some (.lst _) => true | _ => false
  | _ => false
/-- value, object, index -/
def mSetI (lst : Bool) (mo mi mv : E A) : MS := fun τ h => sb τ (mv τ h) fun w h1 => sb τ (mo τ h1) fun a h2 => sb τ (mi τ h2) fun kd h3 => if isLst h3 a = lst then (match putA a kd w h3 with | some h4 => some (.nx τ h4) | none => none) else none
section
variable {X : Cx} {W : WX} {o i e : Expr} {mo mi mv : E A} {pos tpos : Pos}
theorem rs_setL (ho : RX X W o mo) (hi : RX X W i mi) (hv : RX X W e mv) (hs : swapsWithSole [.Subscript o i tpos] e pos.line X.env = pure false := by rfl) (hw : swappedStores [.Subscript o i tpos] e X.env = pure none := by rfl)
    (h1 : (assignEach [.Subscript o i tpos] X.env).map (·.2) = [assign (.Subscript o i tpos) X.env] := by rfl)
    (ha : ∀ v, assign (.Subscript o i tpos) X.env v = (do
      let ov ← holding [v] (eval o X.env)
      let iv ← holding [v, ov] (eval i X.env)
      standAt tpos
      holding [v, ov, iv] (setItem ov iv v)
      release [v, ov, iv] []) := by intro _; rfl) : RS X W (.Assign [.Subscript o i tpos] e pos) (mSetI true mo mi mv) := ⟨ps_imp (ps_asg hv.pe (pg_sub ho.pe hi.pe set_list ha) hs hw h1) fun D σ H q => by
  obtain ⟨Z, B, ρ, τ, h, ok, sl, q⟩ := q
  refine ts_bd ok sl q fun v w h1 B1 ρ1 H1 rv ok1 sl1 g1 q1 => ts_bd ok1 sl1 q1 fun x a h2 B2 ρ2 H2 rx ok2 sl2 g2 q2 => ts_bd ok2 sl2 q2 fun y kd h3 B3 ρ3 H3 ry ok3 sl3 g3 q3 => ?_
  split at q3
  · rename_i hl
    split at q3
    · rename_i h4 e4
      unfold isLst at hl
      split at hl
      · split at hl
        · rename_i k ws e5
          unfold putA at e4
          dsimp only at e4
          rw [e5] at e4
          dsimp only at e4
          split at e4
          · rename_i j
            split at e4
            · rename_i n e6
              cases e4
              cases ra_int ry
              obtain ⟨p, vs, rfl, hr, h1', r1, up⟩ := cell_lst ok3 (rx.mono g3) e5
              exact ⟨p, vs, j, n, rfl, rfl, h1', by rw [r1.length]; exact e6, q3.nx1 (up _ _ (r1.set n (rv.mono (g2.trans g3)))) sl3⟩
            · cases e4
          · cases e4
        · cases hl
      · cases hl
    · exact q3.elim
  · exact q3.elim⟩
theorem rs_setD (hu : X.A.units + 1 < cLine) (ho : RX X W o mo) (hi : RX X W i mi) (hv : RX X W e mv) (hs : swapsWith e (some (.Subscript o i tpos)) pos.line X.env = pure false := by rfl) : RS X W (.Assign [.Subscript o i tpos] e pos) (mSetI false mo mi mv) := ⟨ps_imp (ps_dput hu ho.pe hi.pe hv.pe hs) fun D σ H q => by
  obtain ⟨Z, B, ρ, τ, h, ok, sl, q⟩ := q
  refine ts_bd ok sl q fun v w h1 B1 ρ1 H1 rv ok1 sl1 g1 q1 => ts_bd ok1 sl1 q1 fun x a h2 B2 ρ2 H2 rx ok2 sl2 g2 q2 => ts_bd ok2 sl2 q2 fun y kd h3 B3 ρ3 H3 ry ok3 sl3 g3 q3 => ?_
  split at q3
  · rename_i hl
    split at q3
    · rename_i h4 e4
      unfold putA at e4
      split at e4
      · rename_i k
        split at e4
        · rename_i ws e5
          unfold isLst at hl
          dsimp only at hl
          rw [e5] at hl
          cases hl
        · rename_i hd ws e5
          split at e4
          · rename_i hd' ws' e6
            cases e4
            obtain ⟨p, vs, own, rfl, hr, x1, r1, up⟩ := cell_nd ok3 (rx.mono g3) e5
            obtain ⟨o', vs', d1, d2, d3, d4⟩ := hPut_ok ok3 x1 r1 ry (rv.mono (g2.trans g3)) e6
            exact ⟨p, _, rfl, d1, q3.nx1 (up _ _ _ _ d3 d4) sl3⟩
          · cases e4
        · cases e4
      · cases e4
    · exact q3.elim
  · exact q3.elim⟩
/-- o[i] op= e: object, index, what is there, value -/
def mAugI (lst : Bool) (g : G2) (mo mi mv : E A) : MS := fun τ h => sb τ (mo τ h) fun a h1 => sb τ (mi τ h1) fun kd h2 => sb τ (if lst = true then (if isLst h2 a = true then gIx a kd h2 else none) else gGetD a kd h2) fun u h2' => sb τ (mv τ h2') fun w h3 => sb τ (g u w h3) fun z h4 =>
  if isLst h4 a = lst then (match putA a kd z h4 with | some h5 => some (.nx τ h5) | none => none) else none
theorem get_list : ∀ (pins : List (Addr × Obj)) (s : Shared) (σ : L2.St) (H : Hp) (o i : V) (ov iv : Value) (Q : VK), Inv X pins σ H s → RelV o ov → RelV i iv → rIxL X.K o i H Q →
    wpAny (model X.prog X.w) X.A (getItem ov iv) (EP X pins σ Q) X.xe s := by
  intro pins s σ H x y v u Q I rx ry h
  obtain ⟨p, xs, i, z, rfl, rfl, hq, he, q⟩ := h
  cases rx
  obtain ⟨t, rfl⟩ := ry
  obtain ⟨its, r, pl, hz⟩ := I.list hq
  obtain ⟨j, h1, h2, h3, h4, h5⟩ := atI_get he
  obtain ⟨w, ew, rw'⟩ := r.get h2
  have hl := r.length
  have hn := line63
  have fin : EP X pins σ Q w s := ⟨z, H, I, rw', q⟩
  by_cases h0 : 0 ≤ i
  · have hj : i.toNat = j := by
      rw [seqIndex_of h0 h5] at h1
      exact Option.some.inj h1
    exact wpAny_getItem_list pl.isList h0 (by omega) (by rw [hj]; simpa using ew) fin
  · have hj : (i + (its.toArray.size : Int)).toNat = j := by
      rw [seqIndex_neg (by omega) h4] at h1
      rw [List.size_toArray, ← hl]
      exact Option.some.inj h1
    exact wpAny_getItem_list_neg pl.isList (by omega) (by rw [List.size_toArray] <;> omega) (by omega) (by rw [hj]; simpa using ew) fin
theorem rs_augL {op : Operator} {r : R2} {g : G2} (hop : OpR X (inplaceOp op) r) (og : Op2 X.K r g) (ho : RX X W o mo) (hi : RX X W i mi) (hv : RX X W e mv)
    (ha : ∀ ov iv new, augStore i ov iv new = (do holding [new, ov, iv] (setItem ov iv new); release [new, ov, iv] []; pure .next) := by intros; rfl) : RS X W (.AugAssign (.Subscript o i tpos) op e pos) (mAugI true g mo mi mv) := ⟨ps_imp (ps_augS ho.pe hi.pe get_list hv.pe hop set_list ha) fun D σ H q => by
  obtain ⟨Z, B, ρ, τ, h, ok, sl, q⟩ := q
  refine ts_bd ok sl q fun x a h1 B1 ρ1 H1 rx ok1 sl1 g1 q1 => ts_bd ok1 sl1 q1 fun y kd h2 B2 ρ2 H2 ry ok2 sl2 g2 q2 => ?_
  rw [if_pos rfl] at q2
  split at q2
  · rename_i hl2
    have rx2 := rx.mono g2
    unfold isLst at hl2
    split at hl2
    · rename_i k
      split at hl2
      · rename_i ws e5
        obtain ⟨p, vs, rfl, hr, h1', r1, up⟩ := cell_lst ok2 rx2 e5
        have tn : tupOf (.r k) = none := rfl
        have ln : lstOf h2 (.r k) = some ws := by unfold lstOf; dsimp only; rw [e5]
        unfold gIx at q2
        split at q2
        · rename_i j
          dsimp only at q2
          rw [tn, ln] at q2
          dsimp only at q2
          cases e6 : atI ws j with
          | none => rw [e6] at q2; exact q2.elim
          | some u =>
            rw [e6] at q2
            cases ra_int ry
            obtain ⟨n, e4, e5'⟩ := atI_some e6
            obtain ⟨v0, e7, r2⟩ := r1.get e5'
            refine ⟨p, vs, j, v0, rfl, rfl, SqL.of h1', atI_of r1.length e4 e7, ts_bd ok2 sl2 q2 fun v w h3 B3 ρ3 H3 rv ok3 sl3 g3 q3 => ?_⟩
            refine og Z B3 ρ3 H3 h3 v0 v u w _ _ ok3 (r2.mono g3) rv ((q3.sb sl3).imp fun z h4 B4 ρ4 H4 ok4 g4 q4 zv rz => ?_)
            split at q4
            · rename_i hl4
              split at q4
              · rename_i h5 e8
                unfold isLst at hl4
                dsimp only at hl4
                split at hl4
                · rename_i ws4 e9
                  unfold putA at e8
                  dsimp only at e8
                  rw [e9] at e8
                  dsimp only at e8
                  split at e8
                  · rename_i n4 e10
                    cases e8
                    obtain ⟨p4, vs4, ep, hr4, h4', r4, up4⟩ := cell_lst ok4 (rx2.mono (g3.trans g4)) e9
                    cases ep
                    exact ⟨p, vs4, j, n4, rfl, rfl, h4', by rw [r4.length]; exact e10, q4.nx1 (up4 _ _ (r4.set n4 rz)) (sl3.mono g4)⟩
                  · cases e8
                · cases hl4
              · exact q4.elim
            · exact q4.elim
        · exact q2.elim
      · cases hl2
    · cases hl2
  · exact q2.elim⟩
theorem rs_augD {op : Operator} {r : R2} {g : G2} (hu : X.A.units + 1 < cLine) (hop : OpR X (inplaceOp op) r) (og : Op2 X.K r g) (ho : RX X W o mo) (hi : RX X W i mi) (hv : RX X W e mv)
    (ha : ∀ ov iv new, augStore i ov iv new = (do holding [new, ov, iv] (setItem ov iv new); release [new, ov, iv] []; pure .next) := by intro _ _ _; rfl) : RS X W (.AugAssign (.Subscript o i tpos) op e pos) (mAugI false g mo mi mv) := ⟨ps_imp (ps_daug hu ho.pe hi.pe hv.pe (fun pins s σ H x y u v Q I rx ry h => hop pins s σ H x y u v Q I rx ry h) ha) fun D σ H q => by
  obtain ⟨Z, B, ρ, τ, h, ok, sl, q⟩ := q
  refine ts_bd ok sl q fun x a h1 B1 ρ1 H1 rx ok1 sl1 g1 q1 => ts_bd ok1 sl1 q1 fun y kd h2 B2 ρ2 H2 ry ok2 sl2 g2 q2 => ?_
  rw [if_neg (by simp)] at q2
  · unfold gGetD at q2
    split at q2
    · rename_i hd ws e5
      split at q2
      · rename_i u e6
        obtain ⟨p, vs, own, rfl, x1, r1⟩ := dicOf_ra ok2 (rx.mono g2) e5
        obtain ⟨v0, gg, r2⟩ := (hGet_ok ok2 x1 r1 ry e6).2 u rfl
        refine ⟨p, v0, rfl, gg, ts_bd ok2 sl2 q2 fun v w h3 B3 ρ3 H3 rv ok3 sl3 g3 q3 => ?_⟩
        refine og Z B3 ρ3 H3 h3 v0 v u w _ _ ok3 (r2.mono g3) rv ((q3.sb sl3).imp fun z h4 B4 ρ4 H4 ok4 g4 q4 zv rz => ?_)
        split at q4
        · rename_i hl4
          split at q4
          · rename_i h5 e8
            unfold putA at e8
            split at e8
            · rename_i k
              split at e8
              · rename_i ws4 e9
                unfold isLst at hl4
                dsimp only at hl4
                rw [e9] at hl4
                cases hl4
              · rename_i hd4 ws4 e9
                split at e8
                · rename_i hd' ws' e10
                  cases e8
                  obtain ⟨p4, vs4, own4, ep, hr4, x4, r4, up4⟩ := cell_nd ok4 (rx.mono (g2.trans (g3.trans g4))) e9
                  cases ep
                  obtain ⟨o', vs', d1, d2, d3, d4⟩ := hPut_ok ok4 x4 r4 (ry.mono (g3.trans g4)) rz e10
                  exact ⟨_, d1, q4.nx1 (up4 _ _ _ _ d3 d4) (sl3.mono g4)⟩
                · cases e8
              · cases e8
            · cases e8
          · exact q4.elim
        · exact q4.elim
      · exact q2.elim
    · exact q2.elim⟩
end
end Tq

/-! Tq8: fields, instances, calls, defs. -/
namespace Tq
open PySem PySem.Spec PyProof.Rows L2

/-! ### fields -/
/-- classes of the text: the names of their instances' fields -/
abbrev FTab := List (Str × List Str)
def fOk (T : FTab) (C f : Str) : Bool := T.any fun p => decide (p.1 = C) && decide (f ∈ p.2)
structure ClsT (K : PySem.W.Frag) (T : FTab) : Prop where
  at_ : ∀ C f, fOk T C f = true → ∃ ca, glAt K C = some ca ∧ Cls K ca ∧ NoAttr K ca f
theorem clsT_nil {K : PySem.W.Frag} : ClsT K [] := ⟨fun _ _ h => by cases h⟩
theorem clsT_cons {K : PySem.W.Frag} {C : Str} {fs : List Str} {ca : Addr} {T : FTab} (h0 : glAt K C = some ca) (h1 : Cls K ca) (h2 : ∀ f ∈ fs, NoAttr K ca f) (h3 : ClsT K T) : ClsT K ((C, fs) :: T) := ⟨fun D f h => by
  unfold fOk at h
  rw [List.any_cons, Bool.or_eq_true] at h
  rcases h with h | h
  · rw [Bool.and_eq_true] at h
    have e : C = D := of_decide_eq_true h.1
    subst e
    exact ⟨ca, h0, h1, h2 f (of_decide_eq_true h.2)⟩
  · exact h3.at_ D f h⟩
def fGet (f : Str) : List Str → List A → Option A
  | g :: fs, w :: ws => if g = f then some w else fGet f fs ws
  | _, _ => none
def fPut (f : Str) (w : A) : List Str → List A → List Str × List A
  | g :: fs, u :: ws => if g = f then (g :: fs, w :: ws) else (g :: (fPut f w fs ws).1, u :: (fPut f w fs ws).2)
  | fs, _ => if fs = [] then ([f], [w]) else (fs, [])
section
variable {K : PySem.W.Frag} {B : Hp} {ρ : Nat → Option Addr}
theorem fGet_ok {f : Str} : ∀ {fs : List Str} {vs : List V} {ws : List A} {w : A}, RAL K B ρ vs ws → fGet f fs ws = some w → ∃ v, (fs.zip vs).lookup f = some v ∧ RA K B ρ v w
  | [], _, _, _, r, h => by cases r <;> cases h
  | g :: fs, _, _, _, .nil, h => by cases h
  | g :: fs, _, _, w, .cons (v := v) r rl, h => by
    unfold fGet at h
    split at h
    · rename_i e
      cases h
      subst e
      exact ⟨v, by simp, r⟩
    · rename_i e
      obtain ⟨u, h1, h2⟩ := fGet_ok (fs := fs) rl h
      refine ⟨u, ?_, h2⟩
      rw [List.zip_cons_cons, List.lookup_cons]
      have : (f == g) = false := by simpa using Ne.symm e
      rw [this]
      exact h1
theorem fPut_ok {f : Str} {v : V} {w : A} (rv : RA K B ρ v w) : ∀ {fs : List Str} {vs : List V} {ws : List A}, RAL K B ρ vs ws → fs.length = vs.length →
    ∃ vs', putF f v (fs.zip vs) = (fPut f w fs ws).1.zip vs' ∧ (fPut f w fs ws).1.length = vs'.length ∧ RAL K B ρ vs' (fPut f w fs ws).2
  | [], _, _, r, e => by
    cases r with
    | nil => exact ⟨[v], by simp [fPut, putF], by simp [fPut], by simpa [fPut] using RAL.cons rv .nil⟩
    | cons _ _ => simp at e
  | g :: fs, _, _, .nil, e => by simp at e
  | g :: fs, _, _, .cons (v := u) (vs := vr) (w := s) (ws := sr) w0 wl, e => by
    obtain ⟨vs', h1, h2, h3⟩ := fPut_ok (f := f) rv (fs := fs) wl (by simpa using e)
    by_cases z : g = f
    · refine ⟨v :: vr, ?_, ?_, ?_⟩
      · simp [fPut, putF, z]
      · simp [fPut, z]; simpa using e
      · simp only [fPut, if_pos z]; exact .cons rv wl
    · refine ⟨u :: vs', ?_, ?_, ?_⟩
      · simp only [fPut, if_neg z, List.zip_cons_cons, putF]
        rw [h1]
      · simp [fPut, z, h2]
      · simp only [fPut, if_neg z]; exact .cons w0 h3
end
def gFld (T : FTab) (f : Str) : G1 := fun a h => match dicOf h a with
  | some (.ins C fs, ws) => if fOk T C f = true then (match fGet f fs ws with | some w => some (.ok w h) | none => none) else none
  | _ => none
/-- o.f = e: value, object -/
def mSetF (T : FTab) (f : Str) (mo mv : E A) : MS := fun τ h => sb τ (mv τ h) fun w h1 => sb τ (mo τ h1) fun a h2 => match a with
  | .r k => (match h2[k]? with
    | some (.nd (.ins C fs) ws) => if fOk T C f = true ∧ fs.length < 1000 then some (.nx τ (h2.set k (.nd (.ins C (fPut f w fs ws).1) (fPut f w fs ws).2))) else none
    | _ => none)
  | _ => none
/-- o.f op= e: object, what is there, value -/
def mAugF (T : FTab) (f : Str) (g : G2) (mo mv : E A) : MS := fun τ h => sb τ (mo τ h) fun a h1 => sb τ (gFld T f a h1) fun u h1' => sb τ (mv τ h1') fun w h2 => sb τ (g u w h2) fun z h3 => match a with
  | .r k => (match h1[k]?, h3[k]? with
    | some (.nd (.ins C _) _), some (.nd (.ins C' fs) ws) => if C = C' ∧ fOk T C f = true ∧ fs.length < 1000 then some (.nx τ (h3.set k (.nd (.ins C (fPut f z fs ws).1) (fPut f z fs ws).2))) else none
    | _, _ => none)
  | _ => none
theorem zip_len {κ : Type} {fs : List κ} {vs : List V} (h : fs.length = vs.length) : (fs.zip vs).length = fs.length := by rw [List.length_zip, h, Nat.min_self]
section
variable {X : Cx} {W : WX} {T : FTab} {o e : Expr} {mo mv : E A} {f : Str} {pos pos' tpos : Pos}
theorem rx_fld (hT : ClsT X.K T) (ho : RX X W o mo) (hb : attributeBase o f X.env (eval o X.env) = eval o X.env := by rfl) : RX X W (.Attribute o f pos) (mUn (gFld T f) mo) := ⟨pe_imp (pe_fld ho.pe hb) fun σ H Q q => by
  obtain ⟨Z, B, ρ, τ, h, ok, sl, q⟩ := q
  refine te_bd ok sl q fun x a h1 B1 ρ1 H1 rx ok1 sl1 g1 q1 => ?_
  unfold gFld at q1
  split at q1
  · rename_i C fs ws e1
    split at q1
    · rename_i hf
      split at q1
      · rename_i w e2
        obtain ⟨ca, c1, c2, c3⟩ := hT.at_ C f hf
        obtain ⟨p, vs, own, rfl, x1, r1⟩ := dicOf_ra ok1 rx e1
        cases x1 with
        | ins i0 i1 i2 i3 =>
          rw [c1] at i0
          cases i0
          obtain ⟨v, k1, k2⟩ := fGet_ok r1 e2
          exact ⟨p, ca, _, _, v, rfl, i1, c2, c3, k1, q1.now ok1 _ k2⟩
      · exact q1.elim
    · exact q1.elim
  · exact q1.elim⟩
theorem rs_setF (hT : ClsT X.K T) (ho : RX X W o mo) (hv : RX X W e mv) (hs : swapsWith e (some (.Attribute o f pos')) pos.line X.env = pure false := by rfl) : RS X W (.Assign [.Attribute o f pos'] e pos) (mSetF T f mo mv) := ⟨ps_imp (ps_fld ho.pe hv.pe hs) fun D σ H q => by
  obtain ⟨Z, B, ρ, τ, h, ok, sl, q⟩ := q
  refine ts_bd ok sl q fun v w h1 B1 ρ1 H1 rv ok1 sl1 g1 q1 => ts_bd ok1 sl1 q1 fun x a h2 B2 ρ2 H2 rx ok2 sl2 g2 q2 => ?_
  split at q2
  · rename_i k
    split at q2
    · rename_i C fs ws e1
      split at q2
      · rename_i hf
        obtain ⟨ca, c1, c2, c3⟩ := hT.at_ C f hf.1
        obtain ⟨p, vs, own, rfl, hr, x1, r1, up⟩ := cell_nd ok2 rx e1
        cases x1 with
        | ins i0 i1 i2 i3 =>
          rw [c1] at i0
          cases i0
          obtain ⟨vs', d1, d2, d3⟩ := fPut_ok (f := f) (rv.mono g2) r1 i3
          refine ⟨p, ca, _, _, rfl, i1, c2, c3, by rw [zip_len i3]; exact hf.2, q2.nx1 (up _ _ vs' _ ?_ d3) sl2⟩
          exact .ins c1 (by rw [upd_same, d1]) (by rw [upd_ne fun z => by rw [z, i1] at i2; cases i2]; exact i2) d2
      · exact q2.elim
    · exact q2.elim
  · exact q2.elim⟩
theorem rs_augF {op : Operator} {r : R2} {g : G2} (hT : ClsT X.K T) (hop : OpR X (inplaceOp op) r) (og : Op2 X.K r g) (ho : RX X W o mo) (hv : RX X W e mv) : RS X W (.AugAssign (.Attribute o f tpos) op e pos) (mAugF T f g mo mv) := ⟨ps_imp (ps_fldaug ho.pe hv.pe (fun pins s σ H x y u v Q I rx ry h => hop pins s σ H x y u v Q I rx ry h)) fun D σ H q => by
  obtain ⟨Z, B, ρ, τ, h, ok, sl, q⟩ := q
  refine ts_bd ok sl q fun x a h1 B1 ρ1 H1 rx ok1 sl1 g1 q1 => ?_
  unfold gFld at q1
  split at q1
  · rename_i C fs ws e1
    split at q1
    · rename_i hf
      split at q1
      · rename_i u e2
        obtain ⟨ca, c1, c2, c3⟩ := hT.at_ C f hf
        obtain ⟨p, vs, own, rfl, x1, r1⟩ := dicOf_ra ok1 rx e1
        cases x1 with
        | ins i0 i1 i2 i3 =>
          rw [c1] at i0
          cases i0
          obtain ⟨v0, k1, k2⟩ := fGet_ok r1 e2
          refine ⟨p, ca, _, _, v0, rfl, i1, c2, c3, k1, ts_bd ok1 sl1 q1 fun v w h2 B2 ρ2 H2 rv ok2 sl2 g2 q2 => ?_⟩
          refine og Z B2 ρ2 H2 h2 v0 v u w _ _ ok2 (k2.mono g2) rv ((q2.sb sl2).imp fun z h3 B3 ρ3 H3 ok3 g3 q3 zv rz => ?_)
          split at q3
          · rename_i k
            split at q3
            · rename_i C1 fs1 ws1 C2 fs2 ws2 e3 e4
              split at q3
              · rename_i hc
                obtain ⟨rfl, hf2, hl⟩ := hc
                have eC : C1 = C := by
                  unfold dicOf at e1
                  dsimp only at e1
                  rw [e3] at e1
                  cases e1
                  rfl
                subst eC
                obtain ⟨p4, vs4, own4, ep, hr4, x4, r4, up⟩ := cell_nd ok3 (rx.mono (g2.trans g3)) e4
                cases ep
                cases x4 with
                | ins j0 j1 j2 j3 =>
                  rw [c1] at j0
                  cases j0
                  obtain ⟨vs', d1, d2, d3⟩ := fPut_ok (f := f) rz r4 j3
                  refine ⟨_, _, j1, by rw [zip_len j3]; exact hl, q3.nx1 (up _ _ vs' _ ?_ d3) (sl2.mono g3)⟩
                  exact .ins c1 (by rw [upd_same, d1]) (by rw [upd_ne fun z => by rw [z, j1] at j2; cases j2]; exact j2) d2
              · exact q3.elim
            · exact q3.elim
          · exact q3.elim
      · exact q1.elim
    · exact q1.elim
  · exact q1.elim⟩
end

/-! ### promises -/
abbrev Sem1 := List A → Hq → Option (Rs A)
def spQ (K : PySem.W.Frag) (np : Nat) (sem : Sem1) : Sp := fun vs H Q Ex => vs.length = np ∧ ∃ Z B ρ h ws, Ok K Z B ρ H h ∧ RAL K B ρ vs ws ∧ Post K Z Ex B ρ (fun w _ B' ρ' H' => ∀ v, RA K B' ρ' v w → Q v H') (sem ws h)
def startT (n : Nat) (ws : List A) : Sl := ws.map some ++ List.replicate (n - ws.length) none
def runB (np n : Nat) (m : MS) : Sem1 := fun ws h => if ws.length = np then (match m (startT n ws) h with
  | some (.rt w h') => some (.ok w h')
  | some (.nx _ h') => some (.ok (.d .non) h')
  | some (.ex x _ h') => some (.ex x h')
  | _ => none) else none
theorem slok_start {K : PySem.W.Frag} {B : Hp} {ρ : Nat → Option Addr} {vs : List V} {ws : List A} (N : List Str) (r : RAL K B ρ vs ws) : SlOk K B ρ (L2.start N vs) (startT N.length ws) := by
  unfold L2.start startT
  refine ⟨by simp [r.length], fun i w e => ?_⟩
  by_cases hi : i < ws.length
  · rw [List.getElem?_append_left (by simpa using hi), List.getElem?_map] at e
    cases z : ws[i]? with
    | none => rw [z] at e; cases e
    | some u =>
      rw [z] at e
      cases e
      obtain ⟨v, h1, h2⟩ := r.get z
      exact ⟨v, by rw [List.getElem?_append_left (by simpa [r.length] using hi), List.getElem?_map, h1]; rfl, h2⟩
  · rw [List.getElem?_append_right (by simpa using Nat.le_of_not_lt hi), List.getElem?_replicate] at e
    split at e <;> cases e
theorem runB_post {K : PySem.W.Frag} {Z B : Hp} {ρ : Nat → Option Addr} {Ex : XK} {Q : VK} {np n : Nat} {m : MS} {ws : List A} {h : Hq} (q : Post K Z Ex B ρ (fun w _ B' ρ' H' => ∀ v, RA K B' ρ' v w → Q v H') (runB np n m ws h)) :
    PostS K Z (fun c d _ H' => Ex c d H') B ρ { nx := fun _ H' => Q .non H', rt := Q } (m (startT n ws) h) := by
  unfold runB at q
  split at q
  · split at q
    · rename_i w h' e
      rw [e]
      exact fun v B' ρ' H' rv ok g => q B' ρ' H' ok g v rv
    · rename_i τ h' e
      rw [e]
      exact fun σ' B' ρ' H' ok sl g => q B' ρ' H' ok g .non (.d .non)
    · rename_i x τ h' e
      rw [e]
      exact fun σ' B' ρ' H' cls d ok sl g xc => q B' ρ' H' cls d ok g xc
    · exact q.elim
  · exact q.elim
structure Src (K : PySem.W.Frag) (mg : Str → Option Value) (x : Str) (st : Stmt) (ps : List Str) : Prop where
  ex : ∃ (fa : Addr) (fd : FuncData), Fun K x x st fa fd ∧ mg x = some (.ref fa) ∧ Binds K fd ps []
structure Def (P : Program) (w : World) (K : PySem.W.Frag) (mg : Str → Option Value) (base : Heap) (k : Nat) (x : Str) (ps : List Str) (sem : Sem1) : Prop where
  ex : ∃ (fa : Addr) (fd : FuncData), FnOk P w K mg base (L2.CX P w) k fa fd ps (spQ K ps.length sem) ∧ mg x = some (.ref fa) ∧ PySem.W.keepIn K (.ref fa) = true ∧ Binds K fd ps []
/-- a method -/
structure SrcM (K : PySem.W.Frag) (C m : Str) (st : Stmt) (ps : List Str) (qual : Str) : Prop where
  ex : ∃ (ca fa : Addr) (fd : FuncData), glAt K C = some ca ∧ Cls K ca ∧ Meth K ca m fa ∧ Fun K m qual st fa fd ∧ Binds K fd ps []
structure DefM (P : Program) (w : World) (K : PySem.W.Frag) (mg : Str → Option Value) (base : Heap) (k : Nat) (C m : Str) (ps : List Str) (sem : Sem1) : Prop where
  ex : ∃ (ca fa : Addr) (fd : FuncData), glAt K C = some ca ∧ Cls K ca ∧ Meth K ca m fa ∧ FnOk P w K mg base (L2.CX P w) k fa fd ps (spQ K ps.length sem) ∧ Binds K fd ps []
/-- a class with its __init__ -/
structure MkC (K : PySem.W.Frag) (mg : Str → Option Value) (C : Str) : Prop where
  ex : ∃ ca fa, glAt K C = some ca ∧ mg C = some (.ref ca) ∧ Mk K ca fa ∧ PySem.W.findIn K (.ref ca) "__init__" = some (some (.ref fa))
section
variable {Pr : Program} {w : World} {K : PySem.W.Frag} {mg : Str → Option Value} {base : Heap}
theorem fn_trX {x qual : Str} {st : Stmt} {fa : Addr} {fd : FuncData} {N ps : List Str} {k : Nat} {sem : Sem1} (m : MS) (F : Fun K x qual st fa fd) (Sc : FnScope N ps (defScope st)) (hsem : ∀ ws h r, sem ws h = some r → runB ps.length N.length m ws h = some r)
    (hb : ∀ (cdv : Value) (A : Around) (outer : List Env) (s : Shared) (H : Hp) (Ex : XK), Room k (A.deeper (envOfC qual (defScope st) s.heap.objs.size fa cdv)) →
      Takes (cxOf (L2.CX Pr w) Pr w K mg base N qual (defScope st) fa cdv A outer s H Ex) (fun c d _ H' => Ex c d H') →
      PassesOwn (model Pr w) (cxOf (L2.CX Pr w) Pr w K mg base N qual (defScope st) fa cdv A outer s H Ex).A (cxOf (L2.CX Pr w) Pr w K mg base N qual (defScope st) fa cdv A outer s H Ex).env (cxOf (L2.CX Pr w) Pr w K mg base N qual (defScope st) fa cdv A outer s H Ex).xe →
      RSs (cxOf (L2.CX Pr w) Pr w K mg base N qual (defScope st) fa cdv A outer s H Ex) (fun c d _ H' => Ex c d H') (defBody st) m) : FnOk Pr w K mg base (L2.CX Pr w) (k + 1) fa fd ps (spQ K ps.length sem) := by
  refine F.okX Sc (fun vs H Q Ex h => h.1) (fun cdv A outer s H vs Q Ex hr h => ?_)
  obtain ⟨hl, Z, B, ρ, h0, ws, ok, r, q⟩ := h
  refine ⟨_, (hb cdv A outer s H Ex hr (takes_of rfl rfl rfl rfl) (passes_of rfl)).ps, Z, B, ρ, startT N.length ws, h0, ok, slok_start _ r, ?_⟩
  have q2 : Post K Z Ex B ρ (fun w _ B' ρ' H' => ∀ v, RA K B' ρ' v w → Q v H') (runB ps.length N.length m ws h0) := by
    cases e : sem ws h0 with
    | none => rw [e] at q; exact q.elim
    | some r => rw [e] at q; rw [hsem ws h0 r e]; exact q
  exact runB_post q2
theorem def_tr {x : Str} {st : Stmt} {N ps : List Str} {k : Nat} {sem : Sem1} (S : Src K mg x st ps) (Sc : FnScope N ps (defScope st)) (m : MS)
    (hb : ∀ (fa : Addr) (cdv : Value) (A : Around) (outer : List Env) (s : Shared) (H : Hp) (Ex : XK), Room k (A.deeper (envOfC x (defScope st) s.heap.objs.size fa cdv)) →
      Takes (cxOf (L2.CX Pr w) Pr w K mg base N x (defScope st) fa cdv A outer s H Ex) (fun c d _ H' => Ex c d H') →
      PassesOwn (model Pr w) (cxOf (L2.CX Pr w) Pr w K mg base N x (defScope st) fa cdv A outer s H Ex).A (cxOf (L2.CX Pr w) Pr w K mg base N x (defScope st) fa cdv A outer s H Ex).env (cxOf (L2.CX Pr w) Pr w K mg base N x (defScope st) fa cdv A outer s H Ex).xe →
      RSs (cxOf (L2.CX Pr w) Pr w K mg base N x (defScope st) fa cdv A outer s H Ex) (fun c d _ H' => Ex c d H') (defBody st) m)
    (hsem : ∀ ws h r, sem ws h = some r → runB ps.length N.length m ws h = some r := by exact fun _ _ _ h => h) : Def Pr w K mg base (k + 1) x ps sem := by
  obtain ⟨fa, fd, F, hm', hbd⟩ := S.ex
  exact ⟨fa, fd, fn_trX m F Sc hsem (fun cdv A outer s H Ex hr => hb fa cdv A outer s H Ex hr), hm', F.kp, hbd⟩
theorem defM_tr {C mn qual : Str} {st : Stmt} {N ps : List Str} {k : Nat} {sem : Sem1} (S : SrcM K C mn st ps qual) (Sc : FnScope N ps (defScope st)) (m : MS)
    (hb : ∀ (fa : Addr) (cdv : Value) (A : Around) (outer : List Env) (s : Shared) (H : Hp) (Ex : XK), Room k (A.deeper (envOfC qual (defScope st) s.heap.objs.size fa cdv)) →
      Takes (cxOf (L2.CX Pr w) Pr w K mg base N qual (defScope st) fa cdv A outer s H Ex) (fun c d _ H' => Ex c d H') →
      PassesOwn (model Pr w) (cxOf (L2.CX Pr w) Pr w K mg base N qual (defScope st) fa cdv A outer s H Ex).A (cxOf (L2.CX Pr w) Pr w K mg base N qual (defScope st) fa cdv A outer s H Ex).env (cxOf (L2.CX Pr w) Pr w K mg base N qual (defScope st) fa cdv A outer s H Ex).xe →
      RSs (cxOf (L2.CX Pr w) Pr w K mg base N qual (defScope st) fa cdv A outer s H Ex) (fun c d _ H' => Ex c d H') (defBody st) m)
    (hsem : ∀ ws h r, sem ws h = some r → runB ps.length N.length m ws h = some r := by exact fun _ _ _ h => h) : DefM Pr w K mg base (k + 1) C mn ps sem := by
  obtain ⟨ca, fa, fd, h1, h2, h3, F, hbd⟩ := S.ex
  exact ⟨ca, fa, fd, h1, h2, h3, fn_trX m F Sc hsem (fun cdv A outer s H Ex hr => hb fa cdv A outer s H Ex hr), hbd⟩
/-- the law itself: nothing is let out -/
theorem fn_tr0 {x qual : Str} {st : Stmt} {fa : Addr} {fd : FuncData} {N ps : List Str} {k : Nat} {sem : Sem1} (m : MS) (F : Fun K x qual st fa fd) (Sc : FnScope N ps (defScope st)) (hsem : ∀ ws h r, sem ws h = some r → runB ps.length N.length m ws h = some r)
    (hb : ∀ (cdv : Value) (A : Around) (outer : List Env) (s : Shared) (H : Hp) (Ex : XK), Room k (A.deeper (envOfC qual (defScope st) s.heap.objs.size fa cdv)) →
      Takes (cxOf CX0 Pr w K mg base N qual (defScope st) fa cdv A outer s H Ex).nox W0 →
      PassesOwn (model Pr w) (cxOf CX0 Pr w K mg base N qual (defScope st) fa cdv A outer s H Ex).nox.A (cxOf CX0 Pr w K mg base N qual (defScope st) fa cdv A outer s H Ex).nox.env (cxOf CX0 Pr w K mg base N qual (defScope st) fa cdv A outer s H Ex).nox.xe →
      RSs (cxOf CX0 Pr w K mg base N qual (defScope st) fa cdv A outer s H Ex).nox W0 (defBody st) m) : FnOk Pr w K mg base CX0 (k + 1) fa fd ps (fun vs H Q _ => spQ K ps.length sem vs H Q E0) := by
  refine F.ok Sc (fun vs H Q Ex h => h.1) (fun cdv A outer s H vs Q Ex hr h => ?_)
  obtain ⟨hl, Z, B, ρ, h0, ws, ok, r, q⟩ := h
  refine ⟨_, (hb cdv A outer s H Ex hr takes0 PassesOwn.never).ps, Z, B, ρ, startT N.length ws, h0, ok, slok_start _ r, ?_⟩
  have q2 : Post K Z E0 B ρ (fun w _ B' ρ' H' => ∀ v, RA K B' ρ' v w → Q v H') (runB ps.length N.length m ws h0) := by
    cases e : sem ws h0 with
    | none => rw [e] at q; exact q.elim
    | some r => rw [e] at q; rw [hsem ws h0 r e]; exact q
  exact runB_post q2
theorem def_none {x : Str} {st : Stmt} {ps : List Str} {k : Nat} (S : Src K mg x st ps) : Def Pr w K mg base k x ps (fun _ _ => none) := by
  obtain ⟨fa, fd, F, hm', hbd⟩ := S.ex
  refine ⟨fa, fd, ⟨fun vs H Q Ex h => ?_, fun A outer s H args us vs Q Ex hr he hb hv h => ?_⟩, hm', F.kp, hbd⟩
  · obtain ⟨_, _, _, _, _, _, _, _, e⟩ := h
    exact e.elim
  · obtain ⟨_, _, _, _, _, _, _, _, e⟩ := h
    exact e.elim
theorem Def.mono {x : Str} {ps : List Str} {j k : Nat} {sem : Sem1} (D : Def Pr w K mg base j x ps sem) (h : j ≤ k) : Def Pr w K mg base k x ps sem := by
  obtain ⟨fa, fd, F, h1, h2, h3⟩ := D.ex
  exact ⟨fa, fd, F.mono h, h1, h2, h3⟩
end

/-! ### calls -/
def Xc.fz (h : Hq) : Xc → Option Xc
  | .own C => some (.own C)
  | .fld C f w => (view h w).map fun d => .fld C f (.d d)
  | .blt T => some (.blt T)
/-- with the whole heap -/
def mCall (sem : Sem1) (mr : E (List A)) : E A := fun τ h => bd (mr τ h) fun ws h1 => sem ws h1
/-- with no cell in sight: the answer is data -/
def callP (sem : Sem1) (ws : List A) (h1 : Hq) : Option (Rs A) := match mapMn (view h1) ws with
  | some ds => (match sem (ds.map A.d) [] with
    | some (.ok w h') => (match view h' w with | some d => if (allD ws).isSome || d.flat then some (.ok (.d d) h1) else none | none => none)
    | some (.ex x h') => if (allD ws).isSome then (match x.fz h' with | some x' => some (.ex x' h1) | none => none) else none
    | none => none)
  | none => none
def mCallP (sem : Sem1) (mr : E (List A)) : E A := fun τ h => bd (mr τ h) fun ws h1 => callP sem ws h1
section
variable {K : PySem.W.Frag} {Z B H : Hp} {ρ : Nat → Option Addr} {h : Hq}
/-- nobody's cells: what is there stands aside -/
theorem Ok.void (ok : Ok K Z B ρ H h) : Ok K H B (fun _ => none) H [] := ⟨ok.ex, fun _ _ e => e, (fun k o e => by simp at e), (fun _ _ _ e => by cases e), (fun _ _ e => by cases e), fun _ _ => rfl⟩
theorem Ok.voidH (ok : Ok K Z B ρ H h) : Ok K H H (fun _ => none) H [] := ⟨fun _ _ e => e, fun _ _ e => e, (fun k o e => by simp at e), (fun _ _ _ e => by cases e), (fun _ _ e => by cases e), fun _ _ => rfl⟩
/-- back from a call without cells: all that is new is frozen -/
theorem Ok.backP (ok : Ok K Z B ρ H h) {B' H' : Hp} {ρ' : Nat → Option Addr} {h' : Hq} (ok' : Ok K H B' ρ' H' h') (g : Gr H B (fun _ => none) B' ρ') :
    ∃ B2, Ok K Z B2 ρ H' h ∧ Gr Z B ρ B2 ρ ∧ (∀ v w d, RA K B' ρ' v w → view h' w = some d → Rp K B2 v d) := by
  let B2 : Hp := fun a => if H a = none then H' a else B a
  have s0 : Same H H' := ok'.zz
  have zn : ∀ a, H a = none → Z a = none := fun a e => by
    cases z : Z a with
    | none => rfl
    | some u => rw [ok.zz a u z] at e; cases e
  have bn : ∀ a, H a = none → B a = none := fun a e => by
    cases z : B a with
    | none => rfl
    | some u => rw [ok.ex a u z] at e; cases e
  have b1 : Same B B2 := fun a o e => by
    show (if H a = none then H' a else B a) = some o
    rw [if_neg (by rw [ok.ex a o e]; simp)]
    exact e
  have b2 : Same B2 H' := fun a o e => by
    have e : (if H a = none then H' a else B a) = some o := e
    split at e
    · exact e
    · exact s0 _ _ (ok.ex a o e)
  have b3 : ∀ a, H a ≠ none → B2 a = B a := fun a e => if_neg e
  have b4 : Same B' B2 := fun a o e => by
    by_cases z : B a = none
    · have hz := g.fz a z (by rw [e]; simp)
      show (if H a = none then H' a else B a) = some o
      rw [if_pos hz]
      exact ok'.ex a o e
    · cases y : B a with
      | none => exact absurd y z
      | some u =>
        have := g.bb a u y
        rw [e] at this
        cases this
        exact b1 a o y
  have gg : Gr Z B ρ B2 ρ := ⟨b1, fun _ _ e => e, fun a e e' => by
    by_cases z : H a = none
    · exact zn a z
    · rw [b3 a z] at e'; exact absurd e e'⟩
  refine ⟨B2, ⟨b2, fun a o e => s0 _ _ (ok.zz a o e), fun k c e => ?_, ok.nj, fun k a e => ?_, ok.up⟩, gg, fun v w d r e => vw_at ok' b4 (fun b hz hb u hu => ?_) _ v w d r e⟩
  · obtain ⟨a, h1, h2⟩ := ok.ce k c e
    refine ⟨a, h1, ?_⟩
    cases h2 with
    | lst e1 e2 e3 e4 => exact .lst (s0 _ _ e1) (e2.mono gg) (by rw [b3 a (by rw [e1]; simp)]; exact e3) e4
    | nd e1 e2 e3 => exact .nd (e1.to fun b _ u e => s0 _ _ e) (e2.mono gg) fun b hb => ⟨by rw [b3 b (e1.own_or.2.2.1 b hb)]; exact (e3 b hb).1, (e3 b hb).2⟩
    | dead e1 => exact .dead e1
  · have := ok.al k a e
    cases z : H a with
    | none => exact absurd z this
    | some u => rw [s0 _ _ z]; simp
  · show (if H b = none then H' b else B b) = some u
    rw [if_pos hz]
    exact hu
theorem rpl_views (ok : Ok K Z B ρ H h) {vs : List V} {ws : List A} {ds : List D} (r : RAL K B ρ vs ws) (e : mapMn (view h) ws = some ds) : RpL K H vs ds := vws_of (fun v w d rv ev => ok.see rv ev) r e
theorem allD_view {h : Hq} {ws : List A} {ds es : List D} (e : allD ws = some ds) (e2 : mapMn (view h) ws = some es) : ds = es := by
  cases allD_of e
  rw [mapMn_d _ _ (vw_d 32 h)] at e2
  exact Option.some.inj e2
theorem callP_ok {W : XK} {Q : VK} {sem : Sem1} {vs : List V} {ws : List A} {np : Nat} (ok : Ok K Z B ρ H h) (r : RAL K B ρ vs ws) (hl : ws.length = np)
    (q : Post K Z W B ρ (fun w _ B' ρ' H' => ∀ v, RA K B' ρ' v w → Q v H') (callP sem ws h)) : spQ K np sem vs H Q W := by
  refine ⟨by rw [r.length]; exact hl, ?_⟩
  unfold callP at q
  split at q
  · rename_i ds e1
    cases e0 : allD ws with
    | some ds' =>
      have := allD_view e0 e1
      subst this
      cases allD_of e0
      refine ⟨H, B, fun _ => none, [], ds'.map A.d, ok.void, ral_ds (ral_rpl r), ?_⟩
      split at q
      · rename_i w h' e2
        rw [e2]
        intro B' ρ' H' ok' g v rv
        split at q
        · rename_i d e3
          split at q
          · obtain ⟨B2, o2, g2, see⟩ := ok.backP ok' g
            exact q B2 ρ H' o2 g2 v (.d (see v w d rv e3))
          · exact q.elim
        · exact q.elim
      · rename_i x h' e2
        rw [e2]
        intro B' ρ' H' cls dd ok' g xc
        rw [e0] at q
        dsimp only [Option.isSome] at q
        rw [if_pos rfl] at q
        split at q
        · rename_i x' e3
          obtain ⟨B2, o2, g2, see⟩ := ok.backP ok' g
          refine q B2 ρ H' cls dd o2 g2 ?_
          cases xc with
          | own c => cases e3; exact .own c
          | fld c1 c2 c3 =>
            obtain ⟨d, e4, rfl⟩ := Option.map_eq_some_iff.mp e3
            exact .fld c1 c2 (.d (see _ _ _ c3 e4))
          | blt => cases e3; exact .blt
        · exact q.elim
      · exact q.elim
    | none =>
      refine ⟨H, H, fun _ => none, [], ds.map A.d, ok.voidH, ral_ds (rpl_views ok r e1), ?_⟩
      rw [e0] at q
      split at q
      · rename_i w h' e2
        rw [e2]
        intro B' ρ' H' ok' g v rv
        split at q
        · rename_i d e3
          split at q
          · rename_i hf
            have hf : d.flat = true := by simpa using hf
            have see := ok'.see rv e3
            have o2 := ok.grow ok'.zz
            exact q B ρ H' o2 Gr.refl v (.d (rp_flat see hf))
          · exact q.elim
        · exact q.elim
      · rename_i x h' e2
        exact q.elim
      · exact q.elim
  · exact q.elim
end
section
variable {X : Cx} {W : WX} {a o : Expr} {es : List Expr} {mr : E (List A)} {mo : E A} {sem : Sem1} {pos px apos : Pos} {j k : Nat} {ps : List Str}
theorem te_args {β : Type} {K : PySem.W.Frag} {σ : L2.St} {H Z B : Hp} {ρ : Nat → Option Addr} {τ : Sl} {h : Hq} {kk : List A → Hq → Option (Rs β)} {R : β → Hq → Hp → (Nat → Option Addr) → Hp → Prop} {Q : List V → Hp → Prop} (ok : Ok K Z B ρ H h) (sl : SlOk K B ρ σ τ) (q : Post K Z (fun c d H' => W c d σ H') B ρ R (bd (mr τ h) kk))
    (c : ∀ vs ws h1 B1 ρ1 H1, RAL K B1 ρ1 vs ws → Ok K Z B1 ρ1 H1 h1 → SlOk K B1 ρ1 σ τ → Gr Z B ρ B1 ρ1 → Post K Z (fun c d H' => W c d σ H') B1 ρ1 R (kk ws h1) → Q vs H1) : tAs K W mr σ H Q :=
  ⟨Z, B, ρ, τ, h, ok, sl, q.bd.imp fun ws h1 B1 ρ1 H1 ok1 g1 q1 vs r => c vs ws h1 B1 ρ1 H1 r ok1 (sl.mono g1) g1 q1⟩
/-- how many arguments: known from the text -/
def lenIs (n : Nat) (mr : E (List A)) : E (List A) := fun τ h => bd (mr τ h) fun ws h1 => if ws.length = n then some (.ok ws h1) else none
theorem rx_call {x : Str} (tk : Takes X W) (Df : Def X.prog X.w X.K X.mg X.base j x ps sem) (hr : Room k X.A) (hj : j ≤ k) (ha : RAs X W (a :: es) mr)
    (hg : Gl X x := by rfl) (hdb : (x == ("__debug__" : Str)) = false := by decide) (he : starEach (a :: es) X.env = (false, eval a X.env) :: starEach es X.env := by rfl) (hpl : (backTo pos (starEach es X.env)).any (·.1) = false := by rfl) :
    RX X W (.Call (.Name x px) (a :: es) [] pos) (mCall sem (lenIs ps.length mr)) := by
  obtain ⟨fa, fd, F, h1, h2, h3⟩ := Df.ex
  refine ⟨pe_imp (pe_callS F (hr.mono hj) hg h1 h2 h3 (fun σ => passAt tk σ) ha.pa hdb he hpl) fun σ H Q q => ?_⟩
  obtain ⟨Z, B, ρ, τ, h, ok, sl, q⟩ := q
  have q := q.bd
  unfold lenIs at q
  refine te_args ok sl q fun vs ws h1 B1 ρ1 H1 r ok1 sl1 g1 q1 => ?_
  split at q1
  · rename_i hl
    exact ⟨by rw [r.length]; exact hl, Z, B1, ρ1, h1, ws, ok1, r, q1.now ok1⟩
  · exact q1.elim
theorem rx_callP {x : Str} (tk : Takes X W) (Df : Def X.prog X.w X.K X.mg X.base j x ps sem) (hr : Room k X.A) (hj : j ≤ k) (ha : RAs X W (a :: es) mr)
    (hg : Gl X x := by rfl) (hdb : (x == ("__debug__" : Str)) = false := by decide) (he : starEach (a :: es) X.env = (false, eval a X.env) :: starEach es X.env := by rfl) (hpl : (backTo pos (starEach es X.env)).any (·.1) = false := by rfl) :
    RX X W (.Call (.Name x px) (a :: es) [] pos) (mCallP sem (lenIs ps.length mr)) := by
  obtain ⟨fa, fd, F, h1, h2, h3⟩ := Df.ex
  refine ⟨pe_imp (pe_callS F (hr.mono hj) hg h1 h2 h3 (fun σ => passAt tk σ) ha.pa hdb he hpl) fun σ H Q q => ?_⟩
  obtain ⟨Z, B, ρ, τ, h, ok, sl, q⟩ := q
  have q := q.bd
  unfold lenIs at q
  refine te_args ok sl q fun vs ws h1 B1 ρ1 H1 r ok1 sl1 g1 q1 => ?_
  split at q1
  · rename_i hl
    exact callP_ok ok1 r hl (q1.now ok1)
  · exact q1.elim
/-- of the class C, without a field m -/
def insOf (C m : Str) (a : A) (h : Hq) : Bool := match dicOf h a with
  | some (.ins C' fs, _) => decide (C' = C) && !decide (m ∈ fs)
  | _ => false
def mMeth (C m : Str) (n : Nat) (sem : Sem1) (mo : E A) (mr : E (List A)) : E A := fun τ h => bd (mo τ h) fun a h1 => if insOf C m a h1 = true then bd (mr τ h1) fun ws h2 => if ws.length + 1 = n then sem (a :: ws) h2 else none else none
def mMethP (C m : Str) (n : Nat) (sem : Sem1) (mo : E A) (mr : E (List A)) : E A := fun τ h => bd (mo τ h) fun a h1 => if insOf C m a h1 = true then bd (mr τ h1) fun ws h2 => if ws.length + 1 = n then callP sem (a :: ws) h2 else none else none
theorem lookup_none {f : Str} : ∀ {fs : List Str} {vs : List V}, f ∉ fs → (fs.zip vs).lookup f = none
  | [], _, _ => rfl
  | _ :: _, [], _ => rfl
  | g :: fs, v :: vs, h => by
    rw [List.zip_cons_cons, List.lookup_cons]
    have : (f == g) = false := by
      have : f ≠ g := fun z => h (by rw [z]; exact List.mem_cons_self ..)
      simpa using this
    rw [this]
    exact lookup_none fun z => h (List.mem_cons_of_mem _ z)
theorem insOf_ra {K : PySem.W.Frag} {Z B H : Hp} {ρ : Nat → Option Addr} {h : Hq} {C m : Str} {ca : Addr} {x : V} {a : A} (ok : Ok K Z B ρ H h) (hc : glAt K C = some ca) (r : RA K B ρ x a) (e : insOf C m a h = true) : ∃ p dx fs, x = .ref p ∧ H p = some (.ins ca dx fs) ∧ fs.lookup m = none := by
  unfold insOf at e
  split at e
  · rename_i C' fs ws e1
    rw [Bool.and_eq_true] at e
    have eC : C' = C := of_decide_eq_true e.1
    subst eC
    obtain ⟨p, vs, own, rfl, x1, r1⟩ := dicOf_ra ok r e1
    cases x1 with
    | ins i0 i1 i2 i3 =>
      rw [hc] at i0
      cases i0
      exact ⟨p, _, _, rfl, i1, lookup_none (by simpa using e.2)⟩
  · cases e
/-- o.m(..), where what is raised is wished for at the slots -/
theorem pe_methW {pl : Sem Bool} {C f : Addr} {m : Str} {fd : FuncData} {sp : Sp} {t : TA} {ta : TE} {CX : CXT} {E : L2.St → XK} (he : PE X o ta) (c : Cls X.K C) (hm : Meth X.K C m f) (F : FnOk X.prog X.w X.K X.mg X.base CX k f fd ps sp) (hr : Room k X.A) (hb : Binds X.K fd ps []) (hx : ∀ σ, PassesAt CX X σ (E σ)) (ha : PA X (a :: es) t)
    (hst : starEach (a :: es) X.env = (false, eval a X.env) :: starEach es X.env := by rfl) (hpl : (backTo pos (starEach es X.env)).any (·.1) = false := by rfl)
    (ht : eval (.Call (.Attribute o m apos) (a :: es) [] pos) X.env = (do
      let ov ← eval o X.env
      standAt apos.atName
      let (f, first) ← holding [ov] (getMethod ov m pl)
      callWith pos f first (backTo pos (starEach (a :: es) X.env)) (backToKw pos (keywordEach [] X.env))) := by rfl) :
    PE X (.Call (.Attribute o m apos) (a :: es) [] pos) (fun σ H Q => ta σ H fun x H1 => ∃ a dx fs, x = .ref a ∧ H1 a = some (.ins C dx fs) ∧ fs.lookup m = none ∧ t σ H1 fun vs H2 => sp (x :: vs) H2 Q (E σ)) := by
  refine ⟨fun pins s σ H Q I h => ?_⟩
  refine PySem.W.methodCall_KW (pl := pl) (thn (he.run pins s σ H _ I h) fun u s1 ⟨x, H1, I1, rx, a, dx, fs, ex, ea, l, q⟩ => ?_) ht
  subst ex
  obtain rfl : u = Value.ref a := rx
  refine getmeth_ok I1 ea c hm l ?_
  refine PySem.W.callWith_K (first := [.ref a]) (h₀ := X.base) I.ok.mod.kin hm.kp (thn (ha.run pos pins s1 σ H1 _ I1 q) fun us s2 ⟨vs, H2, I2, r, q2⟩ => ⟨I2.kIn, ?_⟩) hst hpl
  exact run_fnS (us := .ref a :: us) (vs := .ref a :: vs) F hr hb (hx σ) I2 (.cons rfl r) q2
theorem pe_methW0 {pl : Sem Bool} {C f : Addr} {m : Str} {fd : FuncData} {sp : Sp} {ta : TE} {CX : CXT} {E : L2.St → XK} (he : PE X o ta) (c : Cls X.K C) (hm : Meth X.K C m f) (F : FnOk X.prog X.w X.K X.mg X.base CX k f fd ps sp) (hr : Room k X.A) (hb : Binds X.K fd ps []) (hx : ∀ σ, PassesAt CX X σ (E σ))
    (ht : eval (.Call (.Attribute o m apos) [] [] pos) X.env = (do
      let ov ← eval o X.env
      standAt apos.atName
      let (f, first) ← holding [ov] (getMethod ov m pl)
      callWith pos f first (backTo pos (starEach [] X.env)) (backToKw pos (keywordEach [] X.env))) := by rfl) :
    PE X (.Call (.Attribute o m apos) [] [] pos) (fun σ H Q => ta σ H fun x H1 => ∃ a dx fs, x = .ref a ∧ H1 a = some (.ins C dx fs) ∧ fs.lookup m = none ∧ sp [x] H1 Q (E σ)) := by
  refine ⟨fun pins s σ H Q I h => ?_⟩
  refine PySem.W.methodCall_KW (pl := pl) (thn (he.run pins s σ H _ I h) fun u s1 ⟨x, H1, I1, rx, a, dx, fs, ex, ea, l, q⟩ => ?_) ht
  subst ex
  obtain rfl : u = Value.ref a := rx
  refine getmeth_ok I1 ea c hm l ?_
  exact PySem.W.callWith_K0 (first := [.ref a]) I1.kIn hm.kp (run_fnS (us := [.ref a]) (vs := [.ref a]) F hr hb (hx σ) I1 (.cons rfl .nil) q)
theorem rx_meth {C m : Str} {pl : Sem Bool} (tk : Takes X W) (Df : DefM X.prog X.w X.K X.mg X.base j C m ps sem) (hr : Room k X.A) (hj : j ≤ k) (ho : RX X W o mo) (ha : RAs X W (a :: es) mr)
    (hst : starEach (a :: es) X.env = (false, eval a X.env) :: starEach es X.env := by rfl) (hpl : (backTo pos (starEach es X.env)).any (·.1) = false := by rfl)
    (ht : eval (.Call (.Attribute o m apos) (a :: es) [] pos) X.env = (do
      let ov ← eval o X.env
      standAt apos.atName
      let (f, first) ← holding [ov] (getMethod ov m pl)
      callWith pos f first (backTo pos (starEach (a :: es) X.env)) (backToKw pos (keywordEach [] X.env))) := by rfl) : RX X W (.Call (.Attribute o m apos) (a :: es) [] pos) (mMeth C m ps.length sem mo mr) := by
  obtain ⟨ca, fa, fd, c1, c2, c3, F, hb⟩ := Df.ex
  refine ⟨pe_imp (pe_methW ho.pe c2 c3 F (hr.mono hj) hb (fun σ => passAt tk σ) ha.pa hst hpl ht) fun σ H Q q => ?_⟩
  obtain ⟨Z, B, ρ, τ, h, ok, sl, q⟩ := q
  refine te_bd ok sl q fun x w h1 B1 ρ1 H1 rx ok1 sl1 g1 q1 => ?_
  split at q1
  · rename_i hi
    obtain ⟨p, dx, fs, ex, i1, i2⟩ := insOf_ra ok1 c1 rx hi
    refine ⟨p, dx, fs, ex, i1, i2, te_args ok1 sl1 q1 fun vs ws h2 B2 ρ2 H2 r ok2 sl2 g2 q2 => ?_⟩
    split at q2
    · rename_i hl
      exact ⟨by rw [List.length_cons, r.length]; exact hl, Z, B2, ρ2, h2, w :: ws, ok2, .cons (rx.mono g2) r, q2⟩
    · exact q2.elim
  · exact q1.elim
theorem rx_meth0 {C m : Str} {pl : Sem Bool} (tk : Takes X W) (Df : DefM X.prog X.w X.K X.mg X.base j C m ps sem) (hr : Room k X.A) (hj : j ≤ k) (ho : RX X W o mo)
    (ht : eval (.Call (.Attribute o m apos) [] [] pos) X.env = (do
      let ov ← eval o X.env
      standAt apos.atName
      let (f, first) ← holding [ov] (getMethod ov m pl)
      callWith pos f first (backTo pos (starEach [] X.env)) (backToKw pos (keywordEach [] X.env))) := by rfl) : RX X W (.Call (.Attribute o m apos) [] [] pos) (mMeth C m ps.length sem mo maNil) := by
  obtain ⟨ca, fa, fd, c1, c2, c3, F, hb⟩ := Df.ex
  refine ⟨pe_imp (pe_methW0 ho.pe c2 c3 F (hr.mono hj) hb (fun σ => passAt tk σ) ht) fun σ H Q q => ?_⟩
  obtain ⟨Z, B, ρ, τ, h, ok, sl, q⟩ := q
  refine te_bd ok sl q fun x w h1 B1 ρ1 H1 rx ok1 sl1 g1 q1 => ?_
  split at q1
  · rename_i hi
    obtain ⟨p, dx, fs, ex, i1, i2⟩ := insOf_ra ok1 c1 rx hi
    refine ⟨p, dx, fs, ex, i1, i2, ?_⟩
    have q2 : Post X.K Z (fun c d H' => W c d σ H') B1 ρ1 (fun w _ B' ρ' H' => ∀ v, RA X.K B' ρ' v w → Q v H') (if ([] : List A).length + 1 = ps.length then sem (w :: []) h1 else none) := q1
    split at q2
    · rename_i hl
      exact ⟨hl, Z, B1, ρ1, h1, [w], ok1, .cons rx .nil, q2⟩
    · exact q2.elim
  · exact q1.elim
theorem rx_methP {C m : Str} {pl : Sem Bool} (tk : Takes X W) (Df : DefM X.prog X.w X.K X.mg X.base j C m ps sem) (hr : Room k X.A) (hj : j ≤ k) (ho : RX X W o mo) (ha : RAs X W (a :: es) mr)
    (hst : starEach (a :: es) X.env = (false, eval a X.env) :: starEach es X.env := by rfl) (hpl : (backTo pos (starEach es X.env)).any (·.1) = false := by rfl)
    (ht : eval (.Call (.Attribute o m apos) (a :: es) [] pos) X.env = (do
      let ov ← eval o X.env
      standAt apos.atName
      let (f, first) ← holding [ov] (getMethod ov m pl)
      callWith pos f first (backTo pos (starEach (a :: es) X.env)) (backToKw pos (keywordEach [] X.env))) := by rfl) : RX X W (.Call (.Attribute o m apos) (a :: es) [] pos) (mMethP C m ps.length sem mo mr) := by
  obtain ⟨ca, fa, fd, c1, c2, c3, F, hb⟩ := Df.ex
  refine ⟨pe_imp (pe_methW ho.pe c2 c3 F (hr.mono hj) hb (fun σ => passAt tk σ) ha.pa hst hpl ht) fun σ H Q q => ?_⟩
  obtain ⟨Z, B, ρ, τ, h, ok, sl, q⟩ := q
  refine te_bd ok sl q fun x w h1 B1 ρ1 H1 rx ok1 sl1 g1 q1 => ?_
  split at q1
  · rename_i hi
    obtain ⟨p, dx, fs, ex, i1, i2⟩ := insOf_ra ok1 c1 rx hi
    refine ⟨p, dx, fs, ex, i1, i2, te_args ok1 sl1 q1 fun vs ws h2 B2 ρ2 H2 r ok2 sl2 g2 q2 => ?_⟩
    split at q2
    · rename_i hl
      exact callP_ok ok2 (.cons (rx.mono g2) r) (by rw [List.length_cons]; exact hl) q2
    · exact q2.elim
  · exact q1.elim
theorem rx_methP0 {C m : Str} {pl : Sem Bool} (tk : Takes X W) (Df : DefM X.prog X.w X.K X.mg X.base j C m ps sem) (hr : Room k X.A) (hj : j ≤ k) (ho : RX X W o mo)
    (ht : eval (.Call (.Attribute o m apos) [] [] pos) X.env = (do
      let ov ← eval o X.env
      standAt apos.atName
      let (f, first) ← holding [ov] (getMethod ov m pl)
      callWith pos f first (backTo pos (starEach [] X.env)) (backToKw pos (keywordEach [] X.env))) := by rfl) : RX X W (.Call (.Attribute o m apos) [] [] pos) (mMethP C m ps.length sem mo maNil) := by
  obtain ⟨ca, fa, fd, c1, c2, c3, F, hb⟩ := Df.ex
  refine ⟨pe_imp (pe_methW0 ho.pe c2 c3 F (hr.mono hj) hb (fun σ => passAt tk σ) ht) fun σ H Q q => ?_⟩
  obtain ⟨Z, B, ρ, τ, h, ok, sl, q⟩ := q
  refine te_bd ok sl q fun x w h1 B1 ρ1 H1 rx ok1 sl1 g1 q1 => ?_
  split at q1
  · rename_i hi
    obtain ⟨p, dx, fs, ex, i1, i2⟩ := insOf_ra ok1 c1 rx hi
    refine ⟨p, dx, fs, ex, i1, i2, ?_⟩
    have q2 : Post X.K Z (fun c d H' => W c d σ H') B1 ρ1 (fun w _ B' ρ' H' => ∀ v, RA X.K B' ρ' v w → Q v H') (if ([] : List A).length + 1 = ps.length then callP sem (w :: []) h1 else none) := q1
    split at q2
    · rename_i hl
      exact callP_ok ok1 (.cons rx .nil) hl q2
    · exact q2.elim
  · exact q1.elim

/-! ### C(..) -/
def mMake (C : Str) (n : Nat) (sem : Sem1) (mr : E (List A)) : E A := fun τ h => bd (mr τ h) fun ws h1 => if ws.length + 1 = n then (match sem (.r h1.length :: ws) (h1 ++ [.nd (.ins C []) []]) with
  | some (.ok (.d .non) h2) => some (.ok (.r h1.length) h2)
  | _ => none) else none
/-- frozen at once: arguments data -/
def makeP (C : Str) (n : Nat) (sem : Sem1) (ws : List A) (h1 : Hq) : Option (Rs A) := if ws.length + 1 = n then (match allD ws with
  | some ds => (match sem (.r 0 :: ds.map A.d) [.nd (.ins C []) []] with
    | some (.ok (.d .non) h2) => (match view h2 (.r 0) with | some d => some (.ok (.d d) h1) | none => none)
    | _ => none)
  | none => none) else none
def mMakeP (C : Str) (n : Nat) (sem : Sem1) (mr : E (List A)) : E A := fun τ h => bd (mr τ h) fun ws h1 => makeP C n sem ws h1
theorem ok_new {K : PySem.W.Frag} {Z B H : Hp} {ρ : Nat → Option Addr} {h : Hq} {C : Str} {ca x dx : Addr} (ok : Ok K Z B ρ H h) (hc : glAt K C = some ca) (hx : H x = none) (hdx : H dx = none) (ne : dx ≠ x) :
    Ok K Z B (fun k => if k = h.length then some x else ρ k) (upd (upd H dx (.own x)) x (.ins ca dx [])) (h ++ [.nd (.ins C []) []]) ∧ Gr Z B ρ B (fun k => if k = h.length then some x else ρ k) := by
  have bn : ∀ a, H a = none → B a = none ∧ Z a = none := fun a e => by
    constructor
    · cases z : B a with
      | none => rfl
      | some u => rw [ok.ex a u z] at e; cases e
    · cases z : Z a with
      | none => rfl
      | some u => rw [ok.zz a u z] at e; cases e
  refine ok.newC hx (fun b u e => ?_) (by rw [upd_same]; simp) (.nd (vs := []) (own := [x, dx]) (.ins hc (by rw [upd_same]; rfl) (by rw [upd_ne ne, upd_same]) rfl) .nil fun b hb => ?_)
  · rw [upd_ne (ne_of_none e hx), upd_ne (ne_of_none e hdx)]; exact e
  · rcases List.mem_cons.mp hb with z | hb
    · rw [z]; exact bn x hx
    · rw [List.mem_singleton.mp hb]; exact bn dx hdx
theorem rx_make {C : Str} (tk : Takes X W) (hMk : MkC X.K X.mg C) (Df : DefM X.prog X.w X.K X.mg X.base j C "__init__" ps sem) (hr : Room k X.A) (hj : j + 1 ≤ k) (ha : RAs X W (a :: es) mr)
    (hg : Gl X C := by rfl) (hdb : (C == ("__debug__" : Str)) = false := by decide) (he : starEach (a :: es) X.env = (false, eval a X.env) :: starEach es X.env := by rfl) (hpl : (backTo pos (starEach es X.env)).any (·.1) = false := by rfl) :
    RX X W (.Call (.Name C px) (a :: es) [] pos) (mMake C ps.length sem mr) := by
  obtain ⟨ca, fa, fd, c1, c2, c3, F, hb⟩ := Df.ex
  obtain ⟨ca', fa', m1, m2, m3, m4⟩ := hMk.ex
  rw [c1] at m1
  cases m1
  have ef : fa' = fa := by
    have := c3.at_
    rw [m4] at this
    cases this
    rfl
  subst ef
  refine ⟨pe_imp (pe_make m3 F (hr.mono hj) hg m2 hb .nil passL ha.pa hdb he hpl) fun σ H Q q => ?_⟩
  obtain ⟨Z, B, ρ, τ, h, ok, sl, q⟩ := q
  refine te_args ok sl q fun vs ws h1 B1 ρ1 H1 r ok1 sl1 g1 q1 => ?_
  intro x dx hx hdx ne
  split at q1
  · rename_i hl
    obtain ⟨ok2, g2⟩ := ok_new ok1 c1 hx hdx ne
    refine ⟨by rw [List.append_nil, List.length_cons, r.length]; exact hl, Z, B1, _, _, .r h1.length :: ws, ok2, .cons (.r (if_pos rfl)) (by rw [List.append_nil]; exact r.mono g2), ?_⟩
    split at q1
    · rename_i h2 e2
      rw [e2]
      intro B' ρ' H' ok' g' v rv
      refine ⟨rp_non (ra_d rv), q1 B' ρ' H' ok' (g2.trans g') _ (.r (g'.rr _ _ (if_pos rfl)))⟩
    · exact q1.elim
  · exact q1.elim
theorem rx_make0 {C : Str} (tk : Takes X W) (hMk : MkC X.K X.mg C) (Df : DefM X.prog X.w X.K X.mg X.base j C "__init__" ps sem) (hr : Room k X.A) (hj : j + 1 ≤ k)
    (hg : Gl X C := by rfl) (hdb : (C == ("__debug__" : Str)) = false := by decide) : RX X W (.Call (.Name C px) [] [] pos) (mMake C ps.length sem maNil) := by
  obtain ⟨ca, fa, fd, c1, c2, c3, F, hb⟩ := Df.ex
  obtain ⟨ca', fa', m1, m2, m3, m4⟩ := hMk.ex
  rw [c1] at m1
  cases m1
  have ef : fa' = fa := by
    have := c3.at_
    rw [m4] at this
    cases this
    rfl
  subst ef
  refine ⟨pe_imp (pe_make0 m3 F (hr.mono hj) hg m2 hb .nil passL hdb) fun σ H Q q => ?_⟩
  obtain ⟨Z, B, ρ, τ, h, ok, sl, q⟩ := q
  intro x dx hx hdx ne
  have q1 : Post X.K Z (fun c d H' => W c d σ H') B ρ (fun w _ B' ρ' H' => ∀ v, RA X.K B' ρ' v w → Q v H') (if ([] : List A).length + 1 = ps.length then (match sem (.r h.length :: []) (h ++ [.nd (.ins C []) []]) with
    | some (.ok (.d .non) h2) => some (.ok (.r h.length) h2)
    | _ => none) else none) := q
  split at q1
  · rename_i hl
    obtain ⟨ok2, g2⟩ := ok_new ok c1 hx hdx ne
    refine ⟨hl, Z, B, _, _, [.r h.length], ok2, .cons (.r (if_pos rfl)) .nil, ?_⟩
    split at q1
    · rename_i h2 e2
      rw [e2]
      intro B' ρ' H' ok' g' v rv
      refine ⟨rp_non (ra_d rv), q1 B' ρ' H' ok' (g2.trans g') _ (.r (g'.rr _ _ (if_pos rfl)))⟩
    · exact q1.elim
  · exact q1.elim
theorem rx_makeP {C : Str} (tk : Takes X W) (hMk : MkC X.K X.mg C) (Df : DefM X.prog X.w X.K X.mg X.base j C "__init__" ps sem) (hr : Room k X.A) (hj : j + 1 ≤ k) (ha : RAs X W (a :: es) mr)
    (hg : Gl X C := by rfl) (hdb : (C == ("__debug__" : Str)) = false := by decide) (he : starEach (a :: es) X.env = (false, eval a X.env) :: starEach es X.env := by rfl) (hpl : (backTo pos (starEach es X.env)).any (·.1) = false := by rfl) :
    RX X W (.Call (.Name C px) (a :: es) [] pos) (mMakeP C ps.length sem mr) := by
  obtain ⟨ca, fa, fd, c1, c2, c3, F, hb⟩ := Df.ex
  obtain ⟨ca', fa', m1, m2, m3, m4⟩ := hMk.ex
  rw [c1] at m1
  cases m1
  have ef : fa' = fa := by
    have := c3.at_
    rw [m4] at this
    cases this
    rfl
  subst ef
  refine ⟨pe_imp (pe_make m3 F (hr.mono hj) hg m2 hb .nil passL ha.pa hdb he hpl) fun σ H Q q => ?_⟩
  obtain ⟨Z, B, ρ, τ, h, ok, sl, q⟩ := q
  refine te_args ok sl q fun vs ws h1 B1 ρ1 H1 r ok1 sl1 g1 q1 => ?_
  intro x dx hx hdx ne
  unfold makeP at q1
  split at q1
  · rename_i hl
    split at q1
    · rename_i ds e0
      cases allD_of e0
      obtain ⟨ok2, g2⟩ := ok_new ok1.void c1 hx hdx ne
      refine ⟨by rw [List.append_nil, List.length_cons, r.length]; exact hl, H1, B1, _, _, .r 0 :: ds.map A.d, ok2, .cons (.r (if_pos rfl)) (by rw [List.append_nil]; exact ral_ds (ral_rpl r)), ?_⟩
      split at q1
      · rename_i h2 e2
        have e2' : sem (.r 0 :: ds.map A.d) ([] ++ [.nd (.ins C []) []]) = some (.ok (.d .non) h2) := e2
        rw [e2']
        intro B' ρ' H' ok' g' v rv
        refine ⟨rp_non (ra_d rv), ?_⟩
        split at q1
        · rename_i d e3
          obtain ⟨B2, o2, g3, see⟩ := ok1.backP ok' (g2.trans g')
          exact q1 B2 ρ1 H' o2 g3 _ (.d (see _ _ d (.r (g'.rr _ _ (if_pos rfl))) e3))
        · exact q1.elim
      · exact q1.elim
    · exact q1.elim
  · exact q1.elim
end
end Tq

/-! Tq9: more operations: in, dict displays, get, isinstance of two, chains. -/
namespace Tq
open PySem PySem.Spec PyProof.Rows L2
/-! ### a text times a number -/
def repS (z : Str) (n : Nat) : Str := ⟨(List.replicate n z.cps).foldl (· ++ ·) #[]⟩
theorem fold_nil : ∀ (n : Nat) (a : Array Nat), List.foldl (fun x1 x2 => x1 ++ x2) a (List.replicate n #[]) = a
  | 0, _ => rfl
  | n + 1, a => by rw [List.replicate_succ, List.foldl_cons, Array.append_empty, fold_nil n]
def gRep : G2 := fun a b h => match a, b with
  | .d (.str z), .d (.int n) => if z.length * n.toNat ≤ LIM ∧ n < 2 ^ 62 ∧ -(2 ^ 62) < n then some (.ok (.d (.str (repS z n.toNat))) h) else none
  | _, _ => none
def rRepS : R2 := fun x y H Q => ∃ (z : Str) (n : Int), x = .str z ∧ y = .int n ∧ z.length * n.toNat ≤ LIM ∧ n < 2 ^ 62 ∧ -(2 ^ 62) < n ∧ Q (.str (repS z n.toNat)) H
theorem repS_len (z : Str) : ∀ n : Nat, (repS z n).length = n * z.length := by
  have go : ∀ (n : Nat) (a : Array Nat), (List.foldl (fun x1 x2 => x1 ++ x2) a (List.replicate n z.cps)).size = a.size + n * z.cps.size := by
    intro n
    induction n with
    | zero => intro a; simp
    | succ n ih =>
      intro a
      rw [List.replicate_succ, List.foldl_cons, ih, Array.size_append, Nat.succ_mul]
      omega
  intro n
  show (List.foldl (fun x1 x2 => x1 ++ x2) #[] (List.replicate n z.cps)).size = _
  rw [go]
  show 0 + n * z.cps.size = n * z.cps.size
  omega
theorem repS_ok {z : Str} (hz : PyData.strOk z = true) (n : Nat) : PyData.strOk (repS z n) = true := by
  have go : ∀ (n : Nat) (a : Array Nat), a.all (· < 0x110000) = true → (List.foldl (fun x1 x2 => x1 ++ x2) a (List.replicate n z.cps)).all (· < 0x110000) = true := by
    intro n
    induction n with
    | zero => intro a h; exact h
    | succ n ih =>
      intro a h
      rw [List.replicate_succ, List.foldl_cons]
      refine ih _ ?_
      rw [Array.all_append, h]
      exact hz
  exact go n #[] (by decide +kernel)
theorem str_eta (z : Str) : z = ⟨z.cps⟩ := rfl
section
variable {X : Cx}
theorem op_repS : OpR X (binaryOp .Mult) rRepS := by
  intro pins s σ H x y v u Q I rx ry h
  obtain ⟨z, n, rfl, rfl, hz, h1, h2, q⟩ := h
  obtain ⟨t, rfl⟩ := rx
  obtain ⟨t', rfl⟩ := ry
  rw [lim_eq] at hz
  have ns : ∀ b : Bool, ¬ n < 1 → Builtin.Str.tooLong (z.length * n.toNat) = false := fun _ _ => decide_eq_false (by omega)
  refine P.mul_str (by rw [decide_eq_false (by omega), decide_eq_false (by omega)]; rfl) (fun a b c => ?_) (fun a _ => ns true a) ?_
  · have e1 : ((z.length * n.toNat : Nat) : Int) = (z.length : Int) * n := by
      rw [Int.natCast_mul, Int.toNat_of_nonneg (by omega)]
    have h3 : (z.length : Int) * n ≤ 16777216 := by
      rw [← e1]
      have : z.length * n.toNat ≤ 16777216 := hz
      omega
    have h4 : (z.length : Int) * n ≤ 2 ^ 63 - 1 := by omega
    have h5 := (Int.le_ediv_iff_mul_le (by omega : (0 : Int) < n)).mpr h4
    omega
  · by_cases g1 : n < 1
    · rw [if_pos g1]
      have e : repS z n.toNat = Str.empty := by
        have : n.toNat = 0 := by omega
        rw [this]
        rfl
      rw [e] at q
      exact ⟨by decide, .str Str.empty, H, I.tok _, ⟨_, rfl⟩, q⟩
    · rw [if_neg g1]
      by_cases g2 : (n == 1 || z.length == 0) = true
      · rw [if_pos g2]
        have e : repS z n.toNat = z := by
          rw [Bool.or_eq_true] at g2
          rcases g2 with g | g
          · have : n = 1 := eq_of_beq g
            subst this
            show Str.mk (#[] ++ z.cps) = z
            rw [Array.empty_append]
          · have g : z.cps.size = 0 := eq_of_beq g
            have g : z.cps = #[] := Array.eq_empty_of_size_eq_zero g
            show Str.mk (List.foldl (fun x1 x2 => x1 ++ x2) #[] (List.replicate n.toNat z.cps)) = z
            rw [g, fold_nil, ← g]
        rw [e] at q
        exact ⟨.str z, H, I, ⟨_, rfl⟩, q⟩
      · rw [if_neg g2]
        refine ⟨?_, .str (repS z n.toNat), H, I.tok _, ⟨_, rfl⟩, q⟩
        show (repS z n.toNat).length ≤ sizeLine
        rw [repS_len, Nat.mul_comm]
        exact hz
end
theorem og_rep {K : PySem.W.Frag} : Op2 K rRepS gRep := by
  intro Z B ρ H h x y a b W Q ok rx ry q
  unfold gRep at q
  split at q
  · split at q
    · rename_i hc
      exact ⟨_, _, ra_str rx, ra_int ry, hc.1, hc.2.1, hc.2.2, q.now ok _ (.d (.str _))⟩
    · exact q.elim
  · exact q.elim

def gIsi2 (A T : String) : G1 := fun a h => match tyA h a with | some n => some (.ok (.d (.bl (isiN A n || isiN T n))) h) | none => none
section
variable {X : Cx} {W : WX} {a : Expr} {ma : E Tq.A} {pos : Pos}
theorem rx_isi2 {x y : Str} {A T : String} {px p1 p2 p3 : Pos} {k1 : Nat} (ha : RX X W a ma) (hmi : X.mg "isinstance" = none) (hmA : X.mg x = none) (hmT : X.mg y = none) (hv : bootBuiltins x = some (.type A) := by decide +kernel) (hw : bootBuiltins y = some (.type T) := by decide +kernel)
    (hA : A ∈ ["bool", "int", "str", "tuple", "list", "dict"] := by decide) (hT : T ∈ ["bool", "int", "str", "tuple", "list", "dict"] := by decide)
    (hgi : Gl X "isinstance" := by rfl) (hg : Gl X x := by rfl) (hg2 : Gl X y := by rfl) (hn : x ≠ "__name__" := by decide) (hn2 : y ≠ "__name__" := by decide) (hdb : (x == ("__debug__" : Str)) = false := by decide) (hdb2 : (y == ("__debug__" : Str)) = false := by decide)
    (he : starEach [a, .Tuple [.Name x p1, .Name y p2] k1 p3] X.env = (false, eval a X.env) :: starEach [.Tuple [.Name x p1, .Name y p2] k1 p3] X.env := by rfl) (he2 : starEach [.Tuple [.Name x p1, .Name y p2] k1 p3] X.env = (false, eval (.Tuple [.Name x p1, .Name y p2] k1 p3) X.env) :: starEach [] X.env := by rfl)
    (he3 : starEach [.Name x p1, .Name y p2] X.env = (false, eval (.Name x p1) X.env) :: starEach [.Name y p2] X.env := by rfl) (he4 : starEach [.Name y p2] X.env = (false, eval (.Name y p2) X.env) :: starEach [] X.env := by rfl)
    (hpl : (backTo pos (starEach [.Tuple [.Name x p1, .Name y p2] k1 p3] X.env)).any (·.1) = false := by rfl) :
    RX X W (.Call (.Name "isinstance" px) [a, .Tuple [.Name x p1, .Name y p2] k1 p3] [] pos) (mUn (gIsi2 A T) ma) := by
  let r2 : V → Hp → VK → Prop := fun v H Q => [V.ty A, V.ty T].length ≤ sizeLine ∧ ∀ q, H q = none → rIsiT X.K [v, .ref q] (upd H q (.tup [.ty A, .ty T])) Q
  refine rx_op1 (r := r2) ha ?_ fun {ta} h1 => pe_callB call_isiT hgi hmi (by decide +kernel) (pa_cons h1 (pa_cons (pe_tup (pa_cons (pe_bltn (v := .ty A) hg hmA hv rfl hn hdb) (pa_cons (pe_bltn (v := .ty T) hg2 hmT hw rfl hn2 hdb2) pa_nil he4) he3)) pa_nil he2) he) (by decide) (by decide) he hpl
  intro Z B ρ H h x a W Q ok rx q
  unfold gIsi2 at q
  split at q
  · rename_i n e
    refine ⟨show 2 ≤ 16777216 by decide, fun p hp => ?_⟩
    obtain ⟨ok2, g2⟩ := ok.newB (o := .tup [V.ty A, V.ty T]) hp
    obtain ⟨h1, h2⟩ := tyx_ra ok2 (rx.mono g2) e
    refine ⟨x, p, _, .type n, [.type A, .type T], _, rfl, upd_same, .cons (.ty A) (.cons (.ty T) .nil), h1, ?_, q _ _ _ ok2 g2 _ (.d (.bl _))⟩
    show (match PySem.W.kitOne X.K (.type n) (.type A) with
      | some true => some true
      | some false => (match PySem.W.kitOne X.K (.type n) (.type T) with | some true => some true | some false => some false | none => none)
      | none => none) = _
    rw [kit_isiN hA h2, kit_isiN hT h2]
    cases isiN A n <;> cases isiN T n <;> rfl
  · exact q.elim
end
/-! ### in -/
theorem flatV_rp {K : PySem.W.Frag} {B : Hp} {v : V} {d : D} (r : Rp K B v d) (h : d.flat = true) : flatV v = true := by
  cases r <;> first | rfl | cases h
theorem eqV_rp {K : PySem.W.Frag} {B : Hp} {v u : V} {d e : D} (r1 : Rp K B v d) (r2 : Rp K B u e) (h1 : d.flat = true) (h2 : e.flat = true) : eqV v u = D.eqv d e := by
  cases r1 <;> first | (cases h1; done) | (cases r2 <;> first | (cases h2; done) | simp [eqV, D.eqv, D.toP, PyData.eqv])
theorem all_flatV {K : PySem.W.Frag} {B : Hp} {vs : List V} {ds : List D} (r : RpL K B vs ds) (h : ds.all D.flat = true) : vs.all flatV = true := by
  induction vs generalizing ds with
  | nil => rfl
  | cons v vs ih =>
    cases r with
    | cons w wl =>
      rw [List.all_cons, Bool.and_eq_true] at h
      rw [List.all_cons, flatV_rp w h.1, ih wl h.2]
      rfl
theorem inV_rp {K : PySem.W.Frag} {B : Hp} {v : V} {d : D} {vs : List V} {ds : List D} (r1 : Rp K B v d) (h1 : d.flat = true) (r : RpL K B vs ds) (h : ds.all D.flat = true) : inV v vs = ds.any fun z => D.eqv z d := by
  unfold inV
  induction vs generalizing ds with
  | nil =>
    cases r
    rfl
  | cons u vs ih =>
    cases r with
    | cons w wl =>
      rw [List.all_cons, Bool.and_eq_true] at h
      rw [List.any_cons, List.any_cons, eqV_rp w r1 h.1 h1, ih wl h.2]
theorem any_toPs (d : D) : ∀ ds : List D, (D.toPs ds).any (fun z => PyData.eqv z d.toP) = ds.any fun z => D.eqv z d
  | [] => rfl
  | x :: r => by
    unfold D.toPs
    rw [List.any_cons, List.any_cons, any_toPs d r]
    rfl
def sign1 (x : Str) : Option Nat := match x.cps.toList with | [c] => some c | _ => none
theorem sign1_eq {x : Str} {c : Nat} (h : sign1 x = some c) : x = ⟨#[c]⟩ := by
  obtain ⟨⟨l⟩⟩ := x
  unfold sign1 at h
  match l, h with
  | [d], h => cases h; rfl
/-- x in y: a list, a tuple of flat things, one sign in a text -/
def inD (neg : Bool) (x y : D) : Option Bool := match y with
  | .lst ds => if x.shp && (D.lst ds).shp then some (if neg then !ds.any fun z => D.eqv z x else ds.any fun z => D.eqv z x) else none
  | .tup ds => if x.flat && ds.all D.flat then some (if neg then !ds.any fun z => D.eqv z x else ds.any fun z => D.eqv z x) else none
  | .kt ds => if x.flat && ds.all D.flat then some (if neg then !ds.any fun z => D.eqv z x else ds.any fun z => D.eqv z x) else none
  | .str z => (match x with
    | .str w => (match sign1 w with
      | some c => some (if neg then !decide (c ∈ z.cps.toList) else decide (c ∈ z.cps.toList))
      | none => some (if neg then !(!(Builtin.Str.occurrences z w 0 z.length 1).isEmpty) else !(Builtin.Str.occurrences z w 0 z.length 1).isEmpty))
    | _ => none)
  | _ => none
abbrev rInA (K : PySem.W.Frag) : R2 := fun x y H Q => rInD K x y H Q ∨ rIn K false x y H Q ∨ (∃ (c : Nat) (z : Str), x = .str ⟨#[c]⟩ ∧ y = .str z ∧ Q (.bl (decide (c ∈ z.cps.toList))) H) ∨ (∃ i j, x = .str i ∧ y = .str j ∧ Q (.bl (!(Builtin.Str.occurrences j i 0 j.length 1).isEmpty)) H)
abbrev rNotInA (K : PySem.W.Frag) : R2 := fun x y H Q => rNotInD K x y H Q ∨ rIn K true x y H Q ∨ (∃ (c : Nat) (z : Str), x = .str ⟨#[c]⟩ ∧ y = .str z ∧ Q (.bl (!decide (c ∈ z.cps.toList))) H) ∨ (∃ i j, x = .str i ∧ y = .str j ∧ Q (.bl (!(!(Builtin.Str.occurrences j i 0 j.length 1).isEmpty))) H)
theorem op_inA {X : Cx} (hu : X.A.units + 65 < cLine) : OpR X (compareOp .In) (rInA X.K) := (op_inD hu).or (op_in_seq.or (op_in_sign.or op_in_str))
theorem op_notInA {X : Cx} (hu : X.A.units + 65 < cLine) : OpR X (compareOp .NotIn) (rNotInA X.K) := (op_notInD hu).or (op_notIn_seq.or (op_notIn_sign.or op_notIn_str))
theorem og_in {K : PySem.W.Frag} : Op2 K (rInA K) (g2V (inD false)) := og_2v fun H x y d e k Q r1 r2 hk q => by
  unfold inD at hk
  split at hk
  · rename_i ds
    split at hk
    · rename_i hs
      rw [Bool.and_eq_true] at hs
      cases hk
      refine .inl ⟨_, _, r1.dp hs.1, (show Dp K H y (.list (D.toPs ds)) from r2.dp hs.2), hs.1, hs.2, ?_⟩
      rw [any_toPs]
      exact q
    · cases hk
  · rename_i ds
    split at hk
    · rename_i hs
      rw [Bool.and_eq_true] at hs
      cases hk
      cases r2 with
      | tup ht rl =>
        refine .inr (.inl ⟨_, _, rfl, .inr (sqt_of ht), flatV_rp r1 hs.1, all_flatV rl hs.2, ?_⟩)
        rw [inV_rp r1 hs.1 rl hs.2]
        exact q
    · cases hk
  · rename_i ds
    split at hk
    · rename_i hs
      rw [Bool.and_eq_true] at hs
      cases hk
      cases r2 with
      | kt ht rl =>
        refine .inr (.inl ⟨_, _, rfl, .inr ht, flatV_rp r1 hs.1, all_flatV rl hs.2, ?_⟩)
        rw [inV_rp r1 hs.1 rl hs.2]
        exact q
    · cases hk
  · rename_i z
    split at hk
    · rename_i w
      cases rp_str r1
      cases rp_str r2
      split at hk
      · rename_i c e
        cases hk
        cases sign1_eq e
        exact .inr (.inr (.inl ⟨c, z, rfl, rfl, q⟩))
      · cases hk
        exact .inr (.inr (.inr ⟨w, z, rfl, rfl, q⟩))
    · cases hk
  · cases hk
theorem og_notIn {K : PySem.W.Frag} : Op2 K (rNotInA K) (g2V (inD true)) := og_2v fun H x y d e k Q r1 r2 hk q => by
  unfold inD at hk
  split at hk
  · rename_i ds
    split at hk
    · rename_i hs
      rw [Bool.and_eq_true] at hs
      cases hk
      refine .inl ⟨_, _, r1.dp hs.1, (show Dp K H y (.list (D.toPs ds)) from r2.dp hs.2), hs.1, hs.2, ?_⟩
      rw [any_toPs]
      exact q
    · cases hk
  · rename_i ds
    split at hk
    · rename_i hs
      rw [Bool.and_eq_true] at hs
      cases hk
      cases r2 with
      | tup ht rl =>
        refine .inr (.inl ⟨_, _, rfl, .inr (sqt_of ht), flatV_rp r1 hs.1, all_flatV rl hs.2, ?_⟩)
        rw [inV_rp r1 hs.1 rl hs.2]
        exact q
    · cases hk
  · rename_i ds
    split at hk
    · rename_i hs
      rw [Bool.and_eq_true] at hs
      cases hk
      cases r2 with
      | kt ht rl =>
        refine .inr (.inl ⟨_, _, rfl, .inr ht, flatV_rp r1 hs.1, all_flatV rl hs.2, ?_⟩)
        rw [inV_rp r1 hs.1 rl hs.2]
        exact q
    · cases hk
  · rename_i z
    split at hk
    · rename_i w
      cases rp_str r1
      cases rp_str r2
      split at hk
      · rename_i c e
        cases hk
        cases sign1_eq e
        exact .inr (.inr (.inl ⟨c, z, rfl, rfl, q⟩))
      · cases hk
        exact .inr (.inr (.inr ⟨w, z, rfl, rfl, q⟩))
    · cases hk
  · cases hk
/-- k in d, d a dict -/
def gInK (neg : Bool) : G2 := fun kd a h => match dicOf h a with
  | some (hd, ws) => (match hGet hd ws kd with | some o => some (.ok (.d (.bl (neg != o.isSome))) h) | none => none)
  | none => none
section
variable {X : Cx} {W : WX} {a b c : Expr} {ma mb mc : E Tq.A} {pos : Pos}
theorem dinK_ok {K : PySem.W.Frag} {Z B H : Hp} {ρ : Nat → Option Addr} {h : Hq} {x y : V} {kd d : A} {neg : Bool} {Wk : XK} {Q : VK} (ok : Ok K Z B ρ H h) (ry : RA K B ρ y kd) (rx : RA K B ρ x d) (q : Post K Z Wk B ρ (fun w _ B' ρ' H' => ∀ v, RA K B' ρ' v w → Q v H') (gInK neg kd d h)) :
    ∃ p o, x = .ref p ∧ DGet H p y o ∧ Q (.bl (neg != o.isSome)) H := by
  unfold gInK at q
  split at q
  · rename_i hd ws e1
    split at q
    · rename_i o e2
      obtain ⟨p, vs, own, rfl, x1, r1⟩ := dicOf_ra ok rx e1
      obtain ⟨g1, g2⟩ := hGet_ok ok x1 r1 ry e2
      cases o with
      | none => exact ⟨p, none, rfl, g1 rfl, q.now ok _ (.d (.bl _))⟩
      | some w =>
        obtain ⟨v, g, _⟩ := g2 w rfl
        exact ⟨p, some v, rfl, g, q.now ok _ (.d (.bl _))⟩
    · exact q.elim
  · exact q.elim
theorem rx_inK (hu : X.A.units + 1 < cLine) (ha : RX X W a ma) (hb : RX X W b mb) (hm : behindInMarks .In b = false := by with_unfolding_all rfl) : RX X W (.Compare a [.In] [b] pos) (mBin (gInK false) ma mb) := ⟨pe_imp (pe_cmp (pc_din hu ha.pe hb.pe) hm) fun σ H Q q => by
  obtain ⟨Z, B, ρ, τ, h, ok, sl, q⟩ := q
  refine te_bd ok sl q fun y kd h1 B1 ρ1 H1 ry ok1 sl1 g1 q1 => te_bd ok1 sl1 q1 fun x d h2 B2 ρ2 H2 rx ok2 sl2 g2 q2 => ?_
  obtain ⟨p, o, e, g, z⟩ := dinK_ok ok2 (ry.mono g2) rx q2
  exact ⟨p, o, e, g, by simpa using z⟩⟩
theorem rx_notInK (hu : X.A.units + 1 < cLine) (ha : RX X W a ma) (hb : RX X W b mb) (hm : behindInMarks .NotIn b = false := by with_unfolding_all rfl) : RX X W (.Compare a [.NotIn] [b] pos) (mBin (gInK true) ma mb) := ⟨pe_imp (pe_cmp (pc_dnotin hu ha.pe hb.pe) hm) fun σ H Q q => by
  obtain ⟨Z, B, ρ, τ, h, ok, sl, q⟩ := q
  refine te_bd ok sl q fun y kd h1 B1 ρ1 H1 ry ok1 sl1 g1 q1 => te_bd ok1 sl1 q1 fun x d h2 B2 ρ2 H2 rx ok2 sl2 g2 q2 => ?_
  obtain ⟨p, o, e, g, z⟩ := dinK_ok ok2 (ry.mono g2) rx q2
  exact ⟨p, o, e, g, by simpa using z⟩⟩
/-- d.get(k, e) -/
def isDic (h : Hq) (a : Tq.A) : Bool := match dicOf h a with | some (.dic _, _) => true | some (.dit _, _) => true | _ => false
def mGet2 (mo mk md : E Tq.A) : E Tq.A := fun τ h => bd (mo τ h) fun a h1 => if isDic h1 a = true then bd (mk τ h1) fun kd h2 => bd (md τ h2) fun d h3 => match dicOf h3 a with
  | some (hd, ws) => (match hGet hd ws kd with | some (some w) => some (.ok w h3) | some none => some (.ok d h3) | none => none)
  | none => none else none
theorem rx_get2 {apos cpos : Pos} (hu : X.A.units + 1 < cLine) (ha : RX X W a ma) (hb : RX X W b mb) (hc : RX X W c mc) (m : M2 X a "get" apos b c cpos := by exact ⟨by rfl, by rfl, by rfl, by rfl⟩) : RX X W (.Call (.Attribute a "get" apos) [b, c] [] cpos) (mGet2 ma mb mc) := ⟨pe_imp (pe_dget2 hu ha.pe hb.pe hc.pe m) fun σ H Q q => by
  obtain ⟨Z, B, ρ, τ, h, ok, sl, q⟩ := q
  refine te_bd ok sl q fun x a h1 B1 ρ1 H1 rx ok1 sl1 g1 q1 => ?_
  split at q1
  · rename_i hd0
    have isd : ∃ p, x = .ref p ∧ IsD H1 p := by
      unfold isDic at hd0
      split at hd0
      · rename_i ks ws e
        obtain ⟨p, vs, own, rfl, x1, r1⟩ := dicOf_ra ok1 rx e
        cases x1 with
        | dic i1 i2 => exact ⟨p, rfl, .inl ⟨_, .inl i1⟩⟩
      · rename_i ks ws e
        obtain ⟨p, vs, own, rfl, x1, r1⟩ := dicOf_ra ok1 rx e
        cases x1 with
        | dit i1 i2 => exact ⟨p, rfl, .inr ⟨_, .inl i1⟩⟩
      · cases hd0
    obtain ⟨p, rfl, hp⟩ := isd
    refine ⟨p, rfl, hp, te_bd ok1 sl1 q1 fun y kd h2 B2 ρ2 H2 ry ok2 sl2 g2 q2 => te_bd ok2 sl2 q2 fun z d h3 B3 ρ3 H3 rz ok3 sl3 g3 q3 => ?_⟩
    split at q3
    · rename_i hd ws e1
      obtain ⟨p', vs, own, ep, x1, r1⟩ := dicOf_ra ok3 (rx.mono (g2.trans g3)) e1
      cases ep
      split at q3
      · rename_i w e2
        obtain ⟨v, g, rv⟩ := (hGet_ok ok3 x1 r1 (ry.mono g3) e2).2 w rfl
        exact ⟨some v, g, q3.now ok3 _ rv⟩
      · rename_i e2
        exact ⟨none, (hGet_ok ok3 x1 r1 (ry.mono g3) e2).1 rfl, q3.now ok3 _ rz⟩
      · exact q3.elim
    · exact q3.elim
  · exact q1.elim⟩
/-- a < b < c -/
theorem rx_chain {op op' : CmpOp} {r r' : R2} {g g' : G2} (ho : OpR X (compareOp op) r) (og : Op2 X.K r g) (ho' : OpR X (compareOp op') r') (og' : Op2 X.K r' g') (ha : RX X W a ma) (hb : RX X W b mb) (hc : RX X W c mc) (hm : lastMarks [op, op'] [b, c] = false := by with_unfolding_all rfl) :
    RX X W (.Compare a [op, op'] [b, c] pos) (mChain g g' ma mb mc) := ⟨pe_imp (pe_chain ho ho' ha.pe hb.pe hc.pe hm) fun σ H Q q => by
  obtain ⟨Z, B, ρ, τ, h, ok, sl, q⟩ := q
  refine te_bd ok sl q fun x a h1 B1 ρ1 H1 rx ok1 sl1 g1 q1 => te_bd ok1 sl1 q1 fun y b h2 B2 ρ2 H2 ry ok2 sl2 g2 q2 => ?_
  refine og Z B2 ρ2 H2 h2 x y a b _ _ ok2 (rx.mono g2) ry (q2.bd.imp fun k h3 B3 ρ3 H3 ok3 g3 q3 z rz => ?_)
  split at q3
  · refine ⟨true, rp_bl (ra_d rz), iteT (te_bd ok3 (sl2.mono g3) q3 fun u c h4 B4 ρ4 H4 ru ok4 sl4 g4 q4 => ?_)⟩
    exact og' Z B4 ρ4 H4 h4 y u b c _ Q ok4 (ry.mono (g3.trans g4)) ru q4
  · exact ⟨false, rp_bl (ra_d rz), iteF (q3.now ok3 _ (.d (.bl false)))⟩
  · exact q3.elim⟩
end
/-! ### dict displays -/
def mDict0 (tup : Bool) : E Tq.A := fun _ h => some (.ok (.r h.length) (h ++ [.nd (if tup then .dit [] else .dic []) []]))
section
variable {X : Cx} {W : WX} {pos : Pos}
theorem ok_newD {K : PySem.W.Frag} {Z B H : Hp} {ρ : Nat → Option Addr} {h : Hq} {p : Addr} {o : HO} {hd : Hd} {vs : List V} {ws : List A} (ok : Ok K Z B ρ H h) (hp : H p = none) (x : HdAt K (upd H p o) p hd vs [p]) (r : RAL K B ρ vs ws) :
    Ok K Z B (fun k => if k = h.length then some p else ρ k) (upd H p o) (h ++ [.nd hd ws]) ∧ Gr Z B ρ B (fun k => if k = h.length then some p else ρ k) := by
  have bn : ∀ a, H a = none → B a = none ∧ Z a = none := fun a e => by
    constructor
    · cases z : B a with
      | none => rfl
      | some u => rw [ok.ex a u z] at e; cases e
    · cases z : Z a with
      | none => rfl
      | some u => rw [ok.zz a u z] at e; cases e
  refine ok.newC hp (fun b u e => ?_) (by rw [upd_same]; simp) (.nd x r fun b hb => ?_)
  · rw [upd_ne (ne_of_none e hp)]; exact e
  · rw [List.mem_singleton.mp hb]; exact bn p hp
theorem rx_dict0 (tup : Bool) : RX X W (.Dict [] [] pos) (mDict0 tup) := by
  constructor
  cases tup with
  | true =>
    refine pe_imp pe_dnewT fun σ H Q q => ?_
    obtain ⟨Z, B, ρ, τ, h, ok, sl, q⟩ := q
    intro p hp
    obtain ⟨ok2, g2⟩ := ok_newD (o := .dT []) (hd := .dit []) (vs := []) (ws := []) ok hp (.dit upd_same rfl) .nil
    exact q _ _ _ ok2 g2 _ (.r (if_pos rfl))
  | false =>
    refine pe_imp pe_dnewK fun σ H Q q => ?_
    obtain ⟨Z, B, ρ, τ, h, ok, sl, q⟩ := q
    intro p hp
    obtain ⟨ok2, g2⟩ := ok_newD (o := .dK []) (hd := .dic []) (vs := []) (ws := []) ok hp (.dic upd_same rfl) .nil
    exact q _ _ _ ok2 g2 _ (.r (if_pos rfl))
theorem Post.besides {α : Type} {K : PySem.W.Frag} {Z B : Hp} {W : XK} {ρ : Nat → Option Addr} {R : α → Hq → Hp → (Nat → Option Addr) → Hp → Prop} {r : Option (Rs α)} {q : Addr} {o : HO} (hz : Z q = none) (p : Post K Z W B ρ R r) : Post K (upd Z q o) W B ρ R r := by
  match r, p with
  | some (.ok a h), p => exact fun B' ρ' H' ok g => p B' ρ' H' (ok.bare hz) (g.aside hz)
  | some (.ex x h), p => exact fun B' ρ' H' cls d ok g xc => p B' ρ' H' cls d (ok.bare hz) (g.aside hz) xc
theorem Ok.adoptC {K : PySem.W.Frag} {Z B H : Hp} {ρ : Nat → Option Addr} {h : Hq} {q : Addr} {ob : HO} {c : O} (ok : Ok K (upd Z q ob) B ρ H h) (hz : Z q = none) (cc : CeAt K Z B H ρ q c) :
    Ok K Z B (fun k => if k = h.length then some q else ρ k) H (h ++ [c]) ∧ Gr Z B ρ B (fun k => if k = h.length then some q else ρ k) := by
  have hq : H q = some ob := ok.zz q _ upd_same
  have ok0 := ok.bare hz
  have fresh : ∀ k a, ρ k = some a → a ≠ q := fun k a e z => by
    have hk : k < h.length := by
      apply Classical.byContradiction
      intro y
      rw [ok.up k (by omega)] at e
      cases e
    obtain ⟨c, hc⟩ : ∃ c, h[k]? = some c := ⟨_, List.getElem?_eq_getElem hk⟩
    obtain ⟨a', h1, h2⟩ := ok.ce k c hc
    rw [e] at h1
    cases h1
    have key : upd Z q ob a = none := by
      cases h2 with
      | lst _ _ _ e4 => exact e4
      | nd e1 _ e3 => exact (e3 _ e1.own_or.1).2
      | dead e4 => exact e4
    rw [z, upd_same] at key
    cases key
  have gg : Gr Z B ρ B (fun k => if k = h.length then some q else ρ k) := ⟨fun _ _ e => e, fun k a e => by
    have : k ≠ h.length := fun z => by rw [ok.up k (by omega)] at e; cases e
    show (if k = h.length then some q else ρ k) = some a
    rw [if_neg this]; exact e, fun a e e' => absurd e e'⟩
  refine ⟨⟨ok0.ex, ok0.zz, fun k c' e => ?_, fun i j a e1 e2 => ?_, fun k a e => ?_, fun k e => ?_⟩, gg⟩
  · by_cases z : k = h.length
    · subst z
      rw [List.getElem?_append_right (by omega), Nat.sub_self] at e
      cases e
      refine ⟨q, if_pos rfl, ?_⟩
      cases cc with
      | lst e1 e2 e3 e4 => exact .lst e1 (e2.mono gg) e3 e4
      | nd e1 e2 e3 => exact .nd e1 (e2.mono gg) e3
      | dead e1 => exact .dead e1
    · have hk : k < h.length := by
        have := (List.getElem?_eq_some_iff.mp e).1
        rw [List.length_append, List.length_singleton] at this
        omega
      rw [List.getElem?_append_left hk] at e
      obtain ⟨a, h1, h2⟩ := ok0.ce k c' e
      refine ⟨a, gg.rr k a h1, ?_⟩
      cases h2 with
      | lst e1 e2 e3 e4 => exact .lst e1 (e2.mono gg) e3 e4
      | nd e1 e2 e3 => exact .nd e1 (e2.mono gg) e3
      | dead e1 => exact .dead e1
  · have e1 : (if i = h.length then some q else ρ i) = some a := e1
    have e2 : (if j = h.length then some q else ρ j) = some a := e2
    split at e1 <;> split at e2
    · omega
    · cases e1; exact absurd rfl (fresh _ _ e2)
    · cases e2; exact absurd rfl (fresh _ _ e1)
    · exact ok.nj i j a e1 e2
  · have e : (if k = h.length then some q else ρ k) = some a := e
    split at e
    · cases e; rw [hq]; simp
    · exact ok.al k a e
  · rw [List.length_append, List.length_singleton] at e
    show (if k = h.length then some q else ρ k) = none
    rw [if_neg (by omega)]
    exact ok.up k (by omega)
/-- {k: v, ..}, the keys written, no two alike -/
def mPairs : List Key → List (E Tq.A) → E (List Tq.A)
  | k :: ks, m :: ms => fun τ h => bd (m τ h) fun w h1 => bd (mPairs ks ms τ h1) fun r h2 => some (.ok (w :: r) h2)
  | _, _ => fun _ h => some (.ok [] h)
def mDict (ks : List Key) (ms : List (E Tq.A)) : E Tq.A := fun τ h => bd (mPairs ks ms τ h) fun ws h1 => if ws.length = ks.length then some (.ok (.r h1.length) (h1 ++ [.nd (.dic ks) ws])) else none
inductive RPs (X : Cx) (W : WX) (pos : Pos) : List (Option Expr) → List Expr → List Key → List (E Tq.A) → List (TE × TE) → Prop
  | nil : RPs X W pos [] [] [] [] []
  | cons {k : Key} {ke ve : Expr} {kes : List (Option Expr)} {ves : List Expr} {ks : List Key} {m : E Tq.A} {ms : List (E Tq.A)} {trs : List (TE × TE)} : PE X ke (tC (kV k)) → RX X W ve m → RPs X W pos kes ves ks ms trs →
      RPs X W pos (some ke :: kes) (ve :: ves) (k :: ks) (m :: ms) ((tC (kV k), tE X.K W m) :: trs)
theorem RPs.pps {kes : List (Option Expr)} {ves : List Expr} {ks : List Key} {ms : List (E Tq.A)} {trs : List (TE × TE)} (r : RPs X W pos kes ves ks ms trs) : PPs X pos kes ves trs := by
  induction r with
  | nil => exact pps_nil
  | cons h1 h2 _ ih => exact pps_cons h1 h2.pe ih
theorem RPs.reads {kes : List (Option Expr)} {ves : List Expr} {ks : List Key} {ms : List (E Tq.A)} {trs : List (TE × TE)} (r : RPs X W pos kes ves ks ms trs) : ∀ {σ : L2.St} {H Z B : Hp} {ρ : Nat → Option Addr} {τ : Sl} {h : Hq} {Q : List (V × V) → Hp → Prop} {R : List A → Hq → Hp → (Nat → Option Addr) → Hp → Prop},
    Ok X.K Z B ρ H h → SlOk X.K B ρ σ τ → Post X.K Z (fun c d H' => W c d σ H') B ρ R (mPairs ks ms τ h) →
    (∀ vs ws h1 B1 ρ1 H1, RAL X.K B1 ρ1 vs ws → vs.length = ks.length → Ok X.K Z B1 ρ1 H1 h1 → Gr Z B ρ B1 ρ1 → R ws h1 B1 ρ1 H1 → Q ((ks.zip vs).map fun kv => (kV kv.1, kv.2)) H1) → tPairs trs σ H Q := by
  induction r with
  | nil => exact fun ok sl q k => k [] [] _ _ _ _ .nil rfl ok Gr.refl (q.now ok)
  | cons h1 h2 _ ih =>
    intro σ H Z B ρ τ h Q R ok sl q k
    refine te_bd ok sl q fun v w h1 B1 ρ1 H1 rv ok1 sl1 g1 q1 => ?_
    refine ih ok1 sl1 q1.bd fun vs ws h2 B2 ρ2 H2 rl hl ok2 g2 q2 => ?_
    have := k (v :: vs) (w :: ws) h2 B2 ρ2 H2 (.cons (rv.mono g2) rl) (by rw [List.length_cons, List.length_cons, hl]) ok2 (g1.trans g2) (q2.now ok2)
    exact this
theorem putZ_new {k : Key} {v : V} : ∀ {l : List (Key × V)}, k ∉ l.map (·.1) → putK l k v = l ++ [(k, v)] := fun {l} h => by
  unfold putK
  have : l.any (fun kv => decide (kv.1 = k)) = false := by
    rw [List.any_eq_false]
    intro x hx e
    exact h (by rw [← of_decide_eq_true e]; exact List.mem_map_of_mem hx)
  rw [this]
  rfl
theorem mergeK_new : ∀ {more kvs : List (Key × V)}, ((kvs ++ more).map (·.1)).Nodup → mergeK kvs more = kvs ++ more
  | [], kvs, _ => by show kvs = kvs ++ []; rw [List.append_nil]
  | p :: r, kvs, h => by
    have h' : ((kvs ++ [p]) ++ r).map (·.1) = (kvs ++ p :: r).map (·.1) := by simp
    have hn : p.1 ∉ kvs.map (·.1) := by
      rw [List.map_append, List.nodup_append] at h
      exact fun z => h.2.2 p.1 z p.1 (by simp) rfl
    show mergeK (putK kvs p.1 p.2) r = _
    rw [putZ_new hn, mergeK_new (by rw [h']; exact h), List.append_assoc]
    rfl
theorem rx_dict {kes : List (Option Expr)} {ves : List Expr} {ks : List Key} {ms : List (E Tq.A)} {trs : List (TE × TE)} (r : RPs X W pos kes ves ks ms trs) (hn : ks.Nodup) (hall : kes.all (·.isSome) = true := by rfl) (hl : kes.length = ves.length := by rfl) (h0 : kes ≠ [] := by exact fun z => by cases z) (h15 : kes.length ≤ 15 := by decide) (hk : ks.length ≤ 15 := by decide) :
    RX X W (.Dict kes ves pos) (mDict ks ms) := ⟨pe_imp (pe_disp r.pps hall hl h0 h15) fun σ H Q q => by
  obtain ⟨Z, B, ρ, τ, h, ok, sl, q⟩ := q
  intro p hp
  have hzp : Z p = none := by
    cases z : Z p with
    | none => rfl
    | some u => rw [ok.zz p u z] at hp; cases hp
  have hbp : B p = none := by
    cases z : B p with
    | none => rfl
    | some u => rw [ok.ex p u z] at hp; cases hp
  have keep : ∀ {B' : Hp} {ρ' : Nat → Option Addr}, Gr (upd Z p (.dK [])) B ρ B' ρ' → B' p = none := fun {B' ρ'} g => by
    cases z : B' p with
    | none => rfl
    | some u =>
      have := g.fz p hbp (by rw [z]; simp)
      rw [upd_same] at this
      cases this
  refine r.reads (ok.aside hp) sl ((q.bd).besides hzp) fun vs ws h1 B1 ρ1 H1 rl hl1 ok1 g1 q1 => ?_
  have hb1 := keep g1
  refine ⟨ok1.zz p _ upd_same, ks.zip vs, rfl, by rw [List.length_zip, hl1, Nat.min_self]; exact hk, ?_⟩
  have hmg : mergeK [] (ks.zip vs) = ks.zip vs := by
    have := mergeK_new (more := ks.zip vs) (kvs := []) (by rw [List.nil_append, map_fst_zip hl1.symm]; exact hn)
    simpa using this
  rw [hmg]
  split at q1
  · have ok2 := ok1.turn (o2 := .dK (ks.zip vs)) hb1 hzp
    obtain ⟨ok3, g3⟩ := ok2.adoptC hzp (c := .nd (.dic ks) ws) (.nd (own := [p]) (.dic upd_same hl1.symm) rl fun b hb => by rw [List.mem_singleton.mp hb]; exact ⟨hb1, hzp⟩)
    exact q1 _ _ _ ok3 g3 _ (.r (if_pos rfl))
  · exact q1.elim⟩
end
end Tq

/-! Tq10: calls that give a new list; the law's end; plain lemmas on m's. -/
namespace Tq
open PySem PySem.Spec PyProof.Rows L2
theorem Room_u1 {k : Nat} {A : Around} (r : Room k A) : A.units + 1 < cLine := by have := r.un; omega
theorem Room_u65 {k : Nat} {A : Around} (r : Room k A) : A.units + 65 < cLine := by have := r.un; omega
theorem Room_u64 {k : Nat} {A : Around} (r : Room k A) : A.units + 64 < cLine := r.units
/-! ### a call without cells that gives a new list: the list is a cell of the caller's -/
def vwA (q : Nat) : Nat → Hq → A → Option D
  | _, _, .d x => some x
  | 0, _, _ => none
  | n + 1, h, .r k => if k = q then none else match h[k]? with
    | some (.lst ws) => (mapMn (vwA q n h) ws).map .lst
    | some (.nd hd ws) => (mapMn (vwA q n h) ws).map (.nd hd)
    | _ => none
  | n + 1, h, .tup ws => (mapMn (vwA q n h) ws).map .tup
@[simp] theorem vwA_d (q n : Nat) (h : Hq) (x : D) : vwA q n h (.d x) = some x := by cases n <;> rfl
section
variable {K : PySem.W.Frag} {Z B H : Hp} {ρ : Nat → Option Addr} {h : Hq}
theorem vwA_at {P : Hp} {q : Nat} {p : Addr} (ok : Ok K Z B ρ H h) (hq : ρ q = some p) (hp : ∀ z, H p ≠ some (.own z)) (e1 : Same B P) (e2 : ∀ b, b ≠ p → Z b = none → B b = none → ∀ u, H b = some u → P b = some u) : ∀ (n : Nat) (v : V) (w : A) (d : D), RA K B ρ v w → vwA q n h w = some d → Rp K P v d
  | n, _, .d x, d, .d r, e => by rw [vwA_d] at e; cases e; exact r.mono e1
  | 0, _, .r k, d, _, e => by cases e
  | 0, _, .tup ws, d, _, e => by cases e
  | n + 1, _, .r k, d, .r (a := a) hr, e => by
    unfold vwA at e
    split at e
    · cases e
    · rename_i hk
      have na : a ≠ p := fun z => hk (ok.nj k q p (by rw [← z]; exact hr) hq)
      split at e
      · rename_i ws e3
        obtain ⟨ds, e4, rfl⟩ := Option.map_eq_some_iff.mp e
        obtain ⟨a', h1, h2⟩ := ok.ce k _ e3
        rw [hr] at h1
        cases h1
        cases h2 with
        | lst q1 q2 q3 q4 => exact .lst (e2 _ na q4 q3 _ q1) (vws_of (vwA_at ok hq hp e1 e2 n) q2 e4)
      · rename_i hd ws e3
        obtain ⟨ds, e4, rfl⟩ := Option.map_eq_some_iff.mp e
        obtain ⟨a', h1, h2⟩ := ok.ce k _ e3
        rw [hr] at h1
        cases h1
        cases h2 with
        | nd q1 q2 q3 =>
          refine .nd (q1.to fun b hb u eu => e2 b ?_ (q3 b hb).2 (q3 b hb).1 u eu) (vws_of (vwA_at ok hq hp e1 e2 n) q2 e4)
          rcases q1.own_or.2.1 b hb with z | z
          · rw [z]; exact na
          · exact fun y => hp a (by rw [← y]; exact z)
      · cases e
  | n + 1, _, .tup ws, d, .tup ht rl, e => by
    unfold vwA at e
    obtain ⟨ds, e4, rfl⟩ := Option.map_eq_some_iff.mp e
    exact .tup (e1 _ _ ht) (vws_of (vwA_at ok hq hp e1 e2 n) rl e4)
end
def callO (sem : Sem1) (ws : List A) (h1 : Hq) : Option (Rs A) := match mapMn (view h1) ws with
  | some ds => (match sem (ds.map A.d) [] with
    | some (.ok (.r k) h') => (match h'[k]? with
      | some (.lst us) => (match mapMn (vwA k 32 h') us with
        | some es => if (allD ws).isSome || es.all D.flat then some (.ok (.r h1.length) (h1 ++ [.lst (es.map A.d)])) else none
        | none => none)
      | _ => none)
    | some (.ok (.d x) h') => callP sem ws h1
    | some (.ex x h') => if (allD ws).isSome then (match x.fz h' with | some x' => some (.ex x' h1) | none => none) else none
    | _ => none)
  | none => none
def mCallO (sem : Sem1) (mr : E (List A)) : E A := fun τ h => bd (mr τ h) fun ws h1 => callO sem ws h1
section
variable {K : PySem.W.Frag} {Z B H : Hp} {ρ : Nat → Option Addr} {h : Hq}
theorem rpl_flat {B B' : Hp} : ∀ {vs : List V} {ds : List D}, RpL K B vs ds → ds.all D.flat = true → RpL K B' vs ds
  | _, _, .nil, _ => .nil
  | _, _, .cons r t, h => by
    rw [List.all_cons, Bool.and_eq_true] at h
    exact .cons (rp_flat r h.1) (rpl_flat t h.2)
/-- back, all new but p frozen, p adopted -/
theorem Ok.backO (ok : Ok K Z B ρ H h) {B0 B' H' : Hp} {ρ' : Nat → Option Addr} {h' : Hq} {k : Nat} {us : List A} {es : List D} (hB : B0 = B ∨ (B0 = H ∧ es.all D.flat = true)) (ok' : Ok K H B' ρ' H' h') (g : Gr H B0 (fun _ => none) B' ρ') (e1 : h'[k]? = some (.lst us)) (e2 : mapMn (vwA k 32 h') us = some es) :
    ∃ p B2, ρ' k = some p ∧ Ok K Z B2 (fun j => if j = h.length then some p else ρ j) H' (h ++ [.lst (es.map A.d)]) ∧ Gr Z B ρ B2 (fun j => if j = h.length then some p else ρ j) := by
  obtain ⟨p, hp, c⟩ := ok'.ce k _ e1
  refine ⟨p, ?_⟩
  cases c with
  | lst q1 q2 q3 q4 =>
    rename_i vs
    let B2 : Hp := fun a => if H a = none ∧ a ≠ p then H' a else B a
    have s0 : Same H H' := ok'.zz
    have zn : ∀ a, H a = none → Z a = none := fun a e => by
      cases z : Z a with
      | none => rfl
      | some u => rw [ok.zz a u z] at e; cases e
    have bn : ∀ a, H a = none → B a = none := fun a e => by
      cases z : B a with
      | none => rfl
      | some u => rw [ok.ex a u z] at e; cases e
    have b1 : Same B B2 := fun a o e => by
      show (if H a = none ∧ a ≠ p then H' a else B a) = some o
      rw [if_neg fun z => by rw [ok.ex a o e] at z; exact nomatch z.1]
      exact e
    have b2 : Same B2 H' := fun a o e => by
      have e : (if H a = none ∧ a ≠ p then H' a else B a) = some o := e
      split at e
      · exact e
      · exact s0 _ _ (ok.ex a o e)
    have b3 : ∀ a, H a ≠ none → B2 a = B a := fun a e => if_neg fun z => e z.1
    have bp : B2 p = none := by
      show (if H p = none ∧ p ≠ p then H' p else B p) = none
      rw [if_neg fun z => z.2 rfl]
      exact bn p q4
    have gg : Gr Z B ρ B2 ρ := ⟨b1, fun _ _ e => e, fun a e e' => by
      by_cases z : H a = none
      · exact zn a z
      · rw [b3 a z] at e'; exact absurd e e'⟩
    have ok2 : Ok K (upd Z p (.lst vs)) B2 ρ H' h := by
      refine ⟨b2, fun a o e => ?_, fun j c e => ?_, ok.nj, fun j a e => ?_, ok.up⟩
      · by_cases z : a = p
        · subst z; rw [upd_same] at e; rw [q1]; exact e
        · rw [upd_ne z] at e; exact s0 _ _ (ok.zz a o e)
      · obtain ⟨a, h1, h2⟩ := ok.ce j c e
        refine ⟨a, h1, ?_⟩
        have ne : ∀ {b : Addr}, H b ≠ none → b ≠ p := fun hb z => hb (by rw [z]; exact q4)
        cases h2 with
        | lst e1 e2 e3 e4 => exact .lst (s0 _ _ e1) (e2.mono gg) (by rw [b3 a (by rw [e1]; simp)]; exact e3) (by rw [upd_ne (ne (by rw [e1]; simp))]; exact e4)
        | nd e1 e2 e3 => exact .nd (e1.to fun b _ u e => s0 _ _ e) (e2.mono gg) fun b hb => ⟨by rw [b3 b (e1.own_or.2.2.1 b hb)]; exact (e3 b hb).1, by rw [upd_ne (ne (e1.own_or.2.2.1 b hb))]; exact (e3 b hb).2⟩
        | dead e1 => exact .dead (by rw [upd_ne (ne (ok.al j a h1))]; exact e1)
      · have := ok.al j a e
        cases z : H a with
        | none => exact absurd z this
        | some u => rw [s0 _ _ z]; simp
    have els : RpL K B2 vs es := by
      rcases hB with rfl | ⟨rfl, hf⟩
      · have b4 : Same B' B2 := fun a o e => by
          by_cases z : B0 a = none
          · have hz := g.fz a z (by rw [e]; simp)
            show (if H a = none ∧ a ≠ p then H' a else B0 a) = some o
            rw [if_pos ⟨hz, fun y => by rw [y, q3] at e; cases e⟩]
            exact ok'.ex a o e
          · cases y : B0 a with
            | none => exact absurd y z
            | some u =>
              have := g.bb a u y
              rw [e] at this
              cases this
              exact b1 a o y
        refine vws_of (fun v w d r e => vwA_at ok' hp (fun z y => by rw [q1] at y; cases y) b4 (fun b hb hz hb' u hu => ?_) 32 v w d r e) q2 e2
        show (if H b = none ∧ b ≠ p then H' b else B0 b) = some u
        rw [if_pos ⟨hz, hb⟩]
        exact hu
      · have all : RpL K H' vs es := vws_of (fun v w d r e => vwA_at ok' hp (fun z y => by rw [q1] at y; cases y) ok'.ex (fun b _ _ _ u hu => hu) 32 v w d r e) q2 e2
        exact rpl_flat all hf
    obtain ⟨ok3, g3⟩ := ok2.adoptC (zn p q4) (c := .lst (es.map A.d)) (.lst q1 (ral_ds els) bp (zn p q4))
    exact ⟨B2, hp, ok3, gg.trans g3⟩
theorem callO_ok {W : XK} {Q : VK} {sem : Sem1} {vs : List V} {ws : List A} {np : Nat} (ok : Ok K Z B ρ H h) (r : RAL K B ρ vs ws) (hl : ws.length = np)
    (q : Post K Z W B ρ (fun w _ B' ρ' H' => ∀ v, RA K B' ρ' v w → Q v H') (callO sem ws h)) : spQ K np sem vs H Q W := by
  unfold callO at q
  split at q
  · rename_i ds e1
    split at q
    · rename_i k h' e2
      split at q
      · rename_i us e3
        split at q
        · rename_i es e4
          split at q
          · rename_i hc
            refine ⟨by rw [r.length]; exact hl, ?_⟩
            cases e0 : allD ws with
            | some ds' =>
              have := allD_view e0 e1
              subst this
              cases allD_of e0
              refine ⟨H, B, fun _ => none, [], ds'.map A.d, ok.void, ral_ds (ral_rpl r), ?_⟩
              rw [e2]
              intro B' ρ' H' ok' g v rv
              obtain ⟨p, B2, hp, o2, g2⟩ := ok.backO (.inl rfl) ok' g e3 e4
              cases rv with
              | r hr =>
                rw [hp] at hr
                cases hr
                exact q B2 _ H' o2 g2 _ (.r (if_pos rfl))
            | none =>
              rw [e0] at hc
              have hf : es.all D.flat = true := by simpa using hc
              refine ⟨H, H, fun _ => none, [], ds.map A.d, ok.voidH, ral_ds (rpl_views ok r e1), ?_⟩
              rw [e2]
              intro B' ρ' H' ok' g v rv
              obtain ⟨p, B2, hp, o2, g2⟩ := ok.backO (.inr ⟨rfl, hf⟩) ok' g e3 e4
              cases rv with
              | r hr =>
                rw [hp] at hr
                cases hr
                exact q B2 _ H' o2 g2 _ (.r (if_pos rfl))
          · exact q.elim
        · exact q.elim
      · exact q.elim
    · exact callP_ok ok r hl q
    · rename_i x h' e2
      refine callP_ok ok r hl ?_
      unfold callP
      rw [e1]
      dsimp only
      rw [e2]
      exact q
    · exact q.elim
  · exact q.elim
end
section
variable {X : Cx} {W : WX} {a o : Expr} {es : List Expr} {mr : E (List A)} {mo : E A} {sem : Sem1} {pos px apos : Pos} {j k : Nat} {ps : List Str}
theorem rx_callO {x : Str} (tk : Takes X W) (Df : Def X.prog X.w X.K X.mg X.base j x ps sem) (hr : Room k X.A) (hj : j ≤ k) (ha : RAs X W (a :: es) mr)
    (hg : Gl X x := by rfl) (hdb : (x == ("__debug__" : Str)) = false := by decide) (he : starEach (a :: es) X.env = (false, eval a X.env) :: starEach es X.env := by rfl) (hpl : (backTo pos (starEach es X.env)).any (·.1) = false := by rfl) :
    RX X W (.Call (.Name x px) (a :: es) [] pos) (mCallO sem (lenIs ps.length mr)) := by
  obtain ⟨fa, fd, F, h1, h2, h3⟩ := Df.ex
  refine ⟨pe_imp (pe_callS F (hr.mono hj) hg h1 h2 h3 (fun σ => passAt tk σ) ha.pa hdb he hpl) fun σ H Q q => ?_⟩
  obtain ⟨Z, B, ρ, τ, h, ok, sl, q⟩ := q
  have q := q.bd
  unfold lenIs at q
  refine te_args ok sl q fun vs ws h1 B1 ρ1 H1 r ok1 sl1 g1 q1 => ?_
  split at q1
  · rename_i hl
    exact callO_ok ok1 r hl (q1.now ok1)
  · exact q1.elim
end
/-! ### the law's end -/
theorem sp_law {K : PySem.W.Frag} {sem : Sem1} {a : Addr} {ns : List Int} {H : Hp} (hS : SqL K H a (ns.map V.int)) (h : ∃ h', sem [.d (.scr ns)] [] = some (.ok (.d (.bl true)) h')) : spQ K 1 sem [.ref a] H (fun v _ => v = .bl true) E0 := by
  obtain ⟨h', e⟩ := h
  refine ⟨rfl, NZ, H, fun _ => none, [], [.d (.scr ns)], ⟨fun _ _ e => e, (fun _ _ e => by cases e), (fun k o e => by simp at e), (fun _ _ _ e => by cases e), (fun _ _ e => by cases e), fun _ _ => rfl⟩, .cons (.d (.scr hS)) .nil, ?_⟩
  rw [e]
  exact fun B' ρ' H' ok g v rv => rp_bl (ra_d rv)
end Tq

/-! TrO: the order of data (truths, ints, texts, tuples of these to any depth): what the first pair that differs says. -/
namespace TrO
open PySem PySem.SeqAt
open PySem.AutoSeq1 (wpAny_loadPart')
open PySem.MeetsSeq PySem.MeetsSeq2 PySem.MeetsSeq3
def szO (op : CmpOp) (m n : Nat) : Bool := match op with
  | .Lt => decide (m < n) | .LtE => decide (m ≤ n) | .Gt => decide (m > n) | _ => decide (m ≥ n)
def LexV (op : CmpOp) (A : Around) (s : Shared) (r : Bool) : List Value → List Value → Prop
  | x :: xs, y :: ys => (EqAt A s x y true ∧ LexV op A s r xs ys) ∨ (EqAt A s x y false ∧ Ob.RcOp op A s x y r)
  | xs, ys => szO op xs.length ys.length = r
theorem szO_add (op : CmpOp) (i m n : Nat) : szO op (i + m) (i + n) = szO op m n := by
  unfold szO
  split <;> (rw [decide_eq_decide]; omega)
theorem tupLex_lt (l b : Addr) (I J : Array Value) (n m : Nat) (dd ee : Option Addr) (sl tl : Array (Option Value)) :
    Meets (Builtin.«tuple.__lt__» ⟨[.ref l, .ref b], []⟩)
      (fun A R s => s.heap.get? l = some { cls := .type "tuple", dict := dd, data := .seq I n, slots := sl } ∧ s.heap.get? b = some { cls := .type "tuple", dict := ee, data := .seq J m, slots := tl } ∧
        ∃ r, LexV .Lt A.in1 s r I.toList J.toList ∧ R (.ok (.ret (.bool r))) s) :=
  .of_wp fun prog w A R s h => by
    obtain ⟨hp, gl, dn, tk, os⟩ := s
    obtain ⟨hl, hb, r, hx, hR⟩ := h
    have sub2 := AutoSeq1.sub_tuple_tuple
    wp_walk using wpAny_loadPart' hl, wpAny_loadPart' hb, wpAny_forIn_list _ (fun rest c s' => c.1 = none ∧ s' = ⟨hp, gl, dn, tk, os⟩ ∧ ∃ xs ys k, rest = xs.zip ys ∧ LexV .Lt A.in1 ⟨hp, gl, dn, tk, os⟩ r xs ys ∧ I.size = k + xs.length ∧ J.size = k + ys.length) _
    case turn =>
      rintro ⟨p, q⟩ rest c s' ⟨hc, rfl, xs, ys, k, hz, hx, e1, e2⟩
      cases xs with
      | nil => cases hz
      | cons x xs =>
        cases ys with
        | nil => cases hz
        | cons y ys =>
          rw [List.zip_cons_cons] at hz
          injection hz with hpq hrest
          cases hpq
          rcases hx with ⟨he, hx⟩ | ⟨he, hr⟩
          · refine wpAny_bind (he prog w _ _ ?_)
            wp_walk
            exact ⟨rfl, rfl, xs, ys, k + 1, hrest, hx, by rw [e1, List.length_cons]; omega, by rw [e2, List.length_cons]; omega⟩
          · refine wpAny_bind (he prog w _ _ ?_)
            have hri := hr prog w
            wp_walk using hri
            exact ⟨_, rfl, by simpa using hR⟩
    case fin =>
      rintro ⟨c1, c2⟩ s' ⟨hc, rfl, xs, ys, k, hz, hx, e1, e2⟩
      simp only at hc
      subst hc
      have hx2 : szO .Lt xs.length ys.length = r := by
        cases xs with
        | nil => cases ys <;> exact hx
        | cons x xs =>
          cases ys with
          | nil => exact hx
          | cons y ys => cases hz
      rw [← szO_add _ k, ← e1, ← e2] at hx2
      subst hx2
      wp_walk
      exact ⟨_, rfl, by simpa [Builtin.Tuple.tupleCompareSizes, szO] using hR⟩
    case h =>
      exact ⟨rfl, rfl, I.toList, J.toList, 0, rfl, hx, by simp, by simp⟩
theorem tup_lt {A : Around} {s : Shared} {l b : Addr} {I J : Array Value} {r : Bool} (hl : s.heap.IsTuple l I) (hb : s.heap.IsTuple b J) (hu : A.units < cLine) (hx : LexV .Lt A.in1 s r I.toList J.toList) :
    Ob.RcOp .Lt A s (.ref l) (.ref b) r := fun prog w E Q hq => by
  obtain ⟨⟨c1, d1, x1, s1⟩, g1, k1, n1, z1⟩ := id hl
  obtain ⟨⟨c2, d2, x2, s2⟩, g2, k2, n2, z2⟩ := id hb
  simp only at k1 z1 k2 z2
  subst k1 z1 k2 z2
  exact richCompare_meets_room (op := .Lt) ⟨_, g1, rfl⟩ ⟨_, g2, rfl⟩ F.slot_tuple_lt F.entry_tuple_lt (F.args_tuple_lt_2 _ _) (tupLex_lt l b I J n1 n2 d1 d2 s1 s2)
    ⟨g1, g2, r, hx, ⟨(fun z => nomatch z), hq⟩⟩ hu
theorem tupLex_le (l b : Addr) (I J : Array Value) (n m : Nat) (dd ee : Option Addr) (sl tl : Array (Option Value)) :
    Meets (Builtin.«tuple.__le__» ⟨[.ref l, .ref b], []⟩)
      (fun A R s => s.heap.get? l = some { cls := .type "tuple", dict := dd, data := .seq I n, slots := sl } ∧ s.heap.get? b = some { cls := .type "tuple", dict := ee, data := .seq J m, slots := tl } ∧
        ∃ r, LexV .LtE A.in1 s r I.toList J.toList ∧ R (.ok (.ret (.bool r))) s) :=
  .of_wp fun prog w A R s h => by
    obtain ⟨hp, gl, dn, tk, os⟩ := s
    obtain ⟨hl, hb, r, hx, hR⟩ := h
    have sub2 := AutoSeq1.sub_tuple_tuple
    wp_walk using wpAny_loadPart' hl, wpAny_loadPart' hb, wpAny_forIn_list _ (fun rest c s' => c.1 = none ∧ s' = ⟨hp, gl, dn, tk, os⟩ ∧ ∃ xs ys k, rest = xs.zip ys ∧ LexV .LtE A.in1 ⟨hp, gl, dn, tk, os⟩ r xs ys ∧ I.size = k + xs.length ∧ J.size = k + ys.length) _
    case turn =>
      rintro ⟨p, q⟩ rest c s' ⟨hc, rfl, xs, ys, k, hz, hx, e1, e2⟩
      cases xs with
      | nil => cases hz
      | cons x xs =>
        cases ys with
        | nil => cases hz
        | cons y ys =>
          rw [List.zip_cons_cons] at hz
          injection hz with hpq hrest
          cases hpq
          rcases hx with ⟨he, hx⟩ | ⟨he, hr⟩
          · refine wpAny_bind (he prog w _ _ ?_)
            wp_walk
            exact ⟨rfl, rfl, xs, ys, k + 1, hrest, hx, by rw [e1, List.length_cons]; omega, by rw [e2, List.length_cons]; omega⟩
          · refine wpAny_bind (he prog w _ _ ?_)
            have hri := hr prog w
            wp_walk using hri
            exact ⟨_, rfl, by simpa using hR⟩
    case fin =>
      rintro ⟨c1, c2⟩ s' ⟨hc, rfl, xs, ys, k, hz, hx, e1, e2⟩
      simp only at hc
      subst hc
      have hx2 : szO .LtE xs.length ys.length = r := by
        cases xs with
        | nil => cases ys <;> exact hx
        | cons x xs =>
          cases ys with
          | nil => exact hx
          | cons y ys => cases hz
      rw [← szO_add _ k, ← e1, ← e2] at hx2
      subst hx2
      wp_walk
      exact ⟨_, rfl, by simpa [Builtin.Tuple.tupleCompareSizes, szO] using hR⟩
    case h =>
      exact ⟨rfl, rfl, I.toList, J.toList, 0, rfl, hx, by simp, by simp⟩
theorem tup_le {A : Around} {s : Shared} {l b : Addr} {I J : Array Value} {r : Bool} (hl : s.heap.IsTuple l I) (hb : s.heap.IsTuple b J) (hu : A.units < cLine) (hx : LexV .LtE A.in1 s r I.toList J.toList) :
    Ob.RcOp .LtE A s (.ref l) (.ref b) r := fun prog w E Q hq => by
  obtain ⟨⟨c1, d1, x1, s1⟩, g1, k1, n1, z1⟩ := id hl
  obtain ⟨⟨c2, d2, x2, s2⟩, g2, k2, n2, z2⟩ := id hb
  simp only at k1 z1 k2 z2
  subst k1 z1 k2 z2
  exact richCompare_meets_room (op := .LtE) ⟨_, g1, rfl⟩ ⟨_, g2, rfl⟩ F.slot_tuple_le F.entry_tuple_le (F.args_tuple_le_2 _ _) (tupLex_le l b I J n1 n2 d1 d2 s1 s2)
    ⟨g1, g2, r, hx, ⟨(fun z => nomatch z), hq⟩⟩ hu
theorem tupLex_gt (l b : Addr) (I J : Array Value) (n m : Nat) (dd ee : Option Addr) (sl tl : Array (Option Value)) :
    Meets (Builtin.«tuple.__gt__» ⟨[.ref l, .ref b], []⟩)
      (fun A R s => s.heap.get? l = some { cls := .type "tuple", dict := dd, data := .seq I n, slots := sl } ∧ s.heap.get? b = some { cls := .type "tuple", dict := ee, data := .seq J m, slots := tl } ∧
        ∃ r, LexV .Gt A.in1 s r I.toList J.toList ∧ R (.ok (.ret (.bool r))) s) :=
  .of_wp fun prog w A R s h => by
    obtain ⟨hp, gl, dn, tk, os⟩ := s
    obtain ⟨hl, hb, r, hx, hR⟩ := h
    have sub2 := AutoSeq1.sub_tuple_tuple
    wp_walk using wpAny_loadPart' hl, wpAny_loadPart' hb, wpAny_forIn_list _ (fun rest c s' => c.1 = none ∧ s' = ⟨hp, gl, dn, tk, os⟩ ∧ ∃ xs ys k, rest = xs.zip ys ∧ LexV .Gt A.in1 ⟨hp, gl, dn, tk, os⟩ r xs ys ∧ I.size = k + xs.length ∧ J.size = k + ys.length) _
    case turn =>
      rintro ⟨p, q⟩ rest c s' ⟨hc, rfl, xs, ys, k, hz, hx, e1, e2⟩
      cases xs with
      | nil => cases hz
      | cons x xs =>
        cases ys with
        | nil => cases hz
        | cons y ys =>
          rw [List.zip_cons_cons] at hz
          injection hz with hpq hrest
          cases hpq
          rcases hx with ⟨he, hx⟩ | ⟨he, hr⟩
          · refine wpAny_bind (he prog w _ _ ?_)
            wp_walk
            exact ⟨rfl, rfl, xs, ys, k + 1, hrest, hx, by rw [e1, List.length_cons]; omega, by rw [e2, List.length_cons]; omega⟩
          · refine wpAny_bind (he prog w _ _ ?_)
            have hri := hr prog w
            wp_walk using hri
            exact ⟨_, rfl, by simpa using hR⟩
    case fin =>
      rintro ⟨c1, c2⟩ s' ⟨hc, rfl, xs, ys, k, hz, hx, e1, e2⟩
      simp only at hc
      subst hc
      have hx2 : szO .Gt xs.length ys.length = r := by
        cases xs with
        | nil => cases ys <;> exact hx
        | cons x xs =>
          cases ys with
          | nil => exact hx
          | cons y ys => cases hz
      rw [← szO_add _ k, ← e1, ← e2] at hx2
      subst hx2
      wp_walk
      exact ⟨_, rfl, by simpa [Builtin.Tuple.tupleCompareSizes, szO] using hR⟩
    case h =>
      exact ⟨rfl, rfl, I.toList, J.toList, 0, rfl, hx, by simp, by simp⟩
theorem tup_gt {A : Around} {s : Shared} {l b : Addr} {I J : Array Value} {r : Bool} (hl : s.heap.IsTuple l I) (hb : s.heap.IsTuple b J) (hu : A.units < cLine) (hx : LexV .Gt A.in1 s r I.toList J.toList) :
    Ob.RcOp .Gt A s (.ref l) (.ref b) r := fun prog w E Q hq => by
  obtain ⟨⟨c1, d1, x1, s1⟩, g1, k1, n1, z1⟩ := id hl
  obtain ⟨⟨c2, d2, x2, s2⟩, g2, k2, n2, z2⟩ := id hb
  simp only at k1 z1 k2 z2
  subst k1 z1 k2 z2
  exact richCompare_meets_room (op := .Gt) ⟨_, g1, rfl⟩ ⟨_, g2, rfl⟩ F.slot_tuple_gt F.entry_tuple_gt (F.args_tuple_gt_2 _ _) (tupLex_gt l b I J n1 n2 d1 d2 s1 s2)
    ⟨g1, g2, r, hx, ⟨(fun z => nomatch z), hq⟩⟩ hu
theorem tupLex_ge (l b : Addr) (I J : Array Value) (n m : Nat) (dd ee : Option Addr) (sl tl : Array (Option Value)) :
    Meets (Builtin.«tuple.__ge__» ⟨[.ref l, .ref b], []⟩)
      (fun A R s => s.heap.get? l = some { cls := .type "tuple", dict := dd, data := .seq I n, slots := sl } ∧ s.heap.get? b = some { cls := .type "tuple", dict := ee, data := .seq J m, slots := tl } ∧
        ∃ r, LexV .GtE A.in1 s r I.toList J.toList ∧ R (.ok (.ret (.bool r))) s) :=
  .of_wp fun prog w A R s h => by
    obtain ⟨hp, gl, dn, tk, os⟩ := s
    obtain ⟨hl, hb, r, hx, hR⟩ := h
    have sub2 := AutoSeq1.sub_tuple_tuple
    wp_walk using wpAny_loadPart' hl, wpAny_loadPart' hb, wpAny_forIn_list _ (fun rest c s' => c.1 = none ∧ s' = ⟨hp, gl, dn, tk, os⟩ ∧ ∃ xs ys k, rest = xs.zip ys ∧ LexV .GtE A.in1 ⟨hp, gl, dn, tk, os⟩ r xs ys ∧ I.size = k + xs.length ∧ J.size = k + ys.length) _
    case turn =>
      rintro ⟨p, q⟩ rest c s' ⟨hc, rfl, xs, ys, k, hz, hx, e1, e2⟩
      cases xs with
      | nil => cases hz
      | cons x xs =>
        cases ys with
        | nil => cases hz
        | cons y ys =>
          rw [List.zip_cons_cons] at hz
          injection hz with hpq hrest
          cases hpq
          rcases hx with ⟨he, hx⟩ | ⟨he, hr⟩
          · refine wpAny_bind (he prog w _ _ ?_)
            wp_walk
            exact ⟨rfl, rfl, xs, ys, k + 1, hrest, hx, by rw [e1, List.length_cons]; omega, by rw [e2, List.length_cons]; omega⟩
          · refine wpAny_bind (he prog w _ _ ?_)
            have hri := hr prog w
            wp_walk using hri
            exact ⟨_, rfl, by simpa using hR⟩
    case fin =>
      rintro ⟨c1, c2⟩ s' ⟨hc, rfl, xs, ys, k, hz, hx, e1, e2⟩
      simp only at hc
      subst hc
      have hx2 : szO .GtE xs.length ys.length = r := by
        cases xs with
        | nil => cases ys <;> exact hx
        | cons x xs =>
          cases ys with
          | nil => exact hx
          | cons y ys => cases hz
      rw [← szO_add _ k, ← e1, ← e2] at hx2
      subst hx2
      wp_walk
      exact ⟨_, rfl, by simpa [Builtin.Tuple.tupleCompareSizes, szO] using hR⟩
    case h =>
      exact ⟨rfl, rfl, I.toList, J.toList, 0, rfl, hx, by simp, by simp⟩
theorem tup_ge {A : Around} {s : Shared} {l b : Addr} {I J : Array Value} {r : Bool} (hl : s.heap.IsTuple l I) (hb : s.heap.IsTuple b J) (hu : A.units < cLine) (hx : LexV .GtE A.in1 s r I.toList J.toList) :
    Ob.RcOp .GtE A s (.ref l) (.ref b) r := fun prog w E Q hq => by
  obtain ⟨⟨c1, d1, x1, s1⟩, g1, k1, n1, z1⟩ := id hl
  obtain ⟨⟨c2, d2, x2, s2⟩, g2, k2, n2, z2⟩ := id hb
  simp only at k1 z1 k2 z2
  subst k1 z1 k2 z2
  exact richCompare_meets_room (op := .GtE) ⟨_, g1, rfl⟩ ⟨_, g2, rfl⟩ F.slot_tuple_ge F.entry_tuple_ge (F.args_tuple_ge_2 _ _) (tupLex_ge l b I J n1 n2 d1 d2 s1 s2)
    ⟨g1, g2, r, hx, ⟨(fun z => nomatch z), hq⟩⟩ hu
end TrO

namespace TrO
open PySem PySem.SeqAt PyProof.Rows
def b2 (b : Bool) : Int := if b then 1 else 0
def cmpI (op : CmpOp) (i j : Int) : Bool := match op with
  | .Lt => decide (i < j) | .LtE => decide (i ≤ j) | .Gt => decide (j < i) | _ => decide (j ≤ i)
def cmpS (op : CmpOp) (x y : Str) : Bool := match op with
  | .Lt => decide (x.cps.toList < y.cps.toList) | .LtE => !decide (y.cps.toList < x.cps.toList) | .Gt => decide (y.cps.toList < x.cps.toList) | _ => !decide (x.cps.toList < y.cps.toList)
mutual
def ordP (op : CmpOp) : PyData → PyData → Option Bool
  | .bool x, .bool y => some (cmpI op (b2 x) (b2 y))
  | .int i, .int j => some (cmpI op i j)
  | .str x, .str y => some (cmpS op x y)
  | .tuple xs, .tuple ys => ordPs op xs ys
  | _, _ => none
def ordPs (op : CmpOp) : List PyData → List PyData → Option Bool
  | x :: xs, y :: ys => if PyData.eqv x y = true then ordPs op xs ys else ordP op x y
  | [], ys => some (szO op 0 ys.length)
  | x :: xs, [] => some (szO op (xs.length + 1) 0)
end
def Four (op : CmpOp) : Prop := op = .Lt ∨ op = .LtE ∨ op = .Gt ∨ op = .GtE
theorem rc_bool {op : CmpOp} (h : Four op) {A : Around} {s : Shared} (x y : Bool) : Ob.RcOp op A s (.bool x) (.bool y) (cmpI op (b2 x) (b2 y)) := by
  intro prog w E Q hq
  rcases h with rfl | rfl | rfl | rfl
  · exact lt_bool hq
  · exact le_bool hq
  · exact gt_bool hq
  · exact ge_bool hq
theorem rc_int {op : CmpOp} (h : Four op) {A : Around} {s : Shared} (x y : Int) (t u : Tok) : Ob.RcOp op A s (.int x t) (.int y u) (cmpI op x y) := by
  rcases h with rfl | rfl | rfl | rfl
  · exact Ob.RcOp.lt_int x y t u
  · exact Ob.RcOp.le_int x y t u
  · exact Ob.RcOp.gt_int x y t u
  · exact Ob.RcOp.ge_int x y t u
theorem rc_str {op : CmpOp} (h : Four op) {A : Around} {s : Shared} (x y : Str) (t u : Tok) : Ob.RcOp op A s (.str x t) (.str y u) (cmpS op x y) := by
  intro prog w E Q hq
  rcases h with rfl | rfl | rfl | rfl
  · exact PyProof.Rows.lt_str hq
  · exact P.le_str hq
  · exact P.gt_str hq
  · exact P.ge_str hq
theorem rc_tup {op : CmpOp} (h : Four op) {A : Around} {s : Shared} {l b : Addr} {I J : Array Value} {r : Bool} (hl : s.heap.IsTuple l I) (hb : s.heap.IsTuple b J) (hu : A.units < cLine) (hx : LexV op A.in1 s r I.toList J.toList) :
    Ob.RcOp op A s (.ref l) (.ref b) r := by
  rcases h with rfl | rfl | rfl | rfl
  · exact tup_lt hl hb hu hx
  · exact tup_le hl hb hu hx
  · exact tup_gt hl hb hu hx
  · exact tup_ge hl hb hu hx
mutual
theorem rc_ord {op : CmpOp} (h4 : Four op) : ∀ (da db : PyData) (A : Around) (s : Shared) (a b : Value) (as bs : List Addr) (r : Bool), Reads s.heap a da as → Reads s.heap b db bs → da.canLay0 = true → db.canLay0 = true → ordP op da db = some r →
    A.units + min da.depth db.depth < cLine → Ob.RcOp op A s a b r
  | .none, db, _, _, _, _, _, _, _, _, _, _, _, h, _ => by cases db <;> cases h
  | .dict _, db, _, _, _, _, _, _, _, _, _, _, _, h, _ => by cases db <;> cases h
  | .list _, db, _, _, _, _, _, _, _, _, _, _, _, h, _ => by cases db <;> cases h
  | .bool x, db, A, s, a, b, as, bs, r, ra, rb, _, _, h, _ => by
    cases db with
    | bool y =>
      cases h
      cases ra
      cases rb
      exact rc_bool h4 x y
    | _ => cases h
  | .int x, db, A, s, a, b, as, bs, r, ra, rb, _, _, h, _ => by
    cases db with
    | int y =>
      cases h
      cases ra
      cases rb
      exact rc_int h4 x y _ _
    | _ => cases h
  | .str x, db, A, s, a, b, as, bs, r, ra, rb, _, _, h, _ => by
    cases db with
    | str y =>
      cases h
      cases ra
      cases rb
      exact rc_str h4 x y _ _
    | _ => cases h
  | .tuple xs, db, A, s, a, b, as, bs, r, ra, rb, la, lb, h, hu => by
    cases db with
    | tuple ys =>
      have h : ordPs op xs ys = some r := h
      cases ra with
      | @tuple l o vs n _ as₁ h1 h2 h3 r1 =>
        cases rb with
        | @tuple l' o' vs' n' _ bs₁ k1 k2 k3 r2 =>
          have hu : A.units + min (PyData.depthAll xs + 1) (PyData.depthAll ys + 1) < cLine := hu
          refine rc_tup h4 ⟨_, h1, h2, _, h3⟩ ⟨_, k1, k2, _, k3⟩ (by omega) ?_
          exact rc_ords h4 xs ys A.in1 s _ _ _ _ r r1 r2 la lb h (by show A.units + 1 + _ < _; omega)
    | _ => cases h
theorem rc_ords {op : CmpOp} (h4 : Four op) : ∀ (xs ys : List PyData) (A : Around) (s : Shared) (vs ws : List Value) (as bs : List Addr) (r : Bool), ReadsAll s.heap vs xs as → ReadsAll s.heap ws ys bs → PyData.canLayAll0 xs = true → PyData.canLayAll0 ys = true → ordPs op xs ys = some r →
    A.units + min (PyData.depthAll xs) (PyData.depthAll ys) < cLine → LexV op A s r vs ws
  | [], ys, A, s, vs, ws, as, bs, r, ra, rb, _, _, h, _ => by
    cases ra
    have h : some (szO op 0 ys.length) = some r := by cases ys <;> exact h
    have hl := ReadsAll.length _ _ _ rb
    cases h
    cases ws with
    | nil => show szO op 0 0 = szO op 0 ys.length; rw [← hl]; rfl
    | cons w ws => show szO op 0 (w :: ws).length = szO op 0 ys.length; rw [← hl]
  | x :: xs, [], A, s, vs, ws, as, bs, r, ra, rb, _, _, h, _ => by
    cases rb
    cases ra with
    | cons h1 h2 =>
      have h : some (szO op (xs.length + 1) 0) = some r := h
      have hl := ReadsAll.length _ _ _ h2
      cases h
      show szO op (_ + 1) 0 = szO op (xs.length + 1) 0
      rw [hl]
  | x :: xs, y :: ys, A, s, vs, ws, as, bs, r, ra, rb, la, lb, h, hu => by
    cases ra with
    | cons r1 ra =>
      cases rb with
      | cons r2 rb =>
        have la : (x.canLay0 && PyData.canLayAll0 xs) = true := la
        have lb : (y.canLay0 && PyData.canLayAll0 ys) = true := lb
        have hu : A.units + min (max x.depth (PyData.depthAll xs)) (max y.depth (PyData.depthAll ys)) < cLine := hu
        rw [Bool.and_eq_true] at la lb
        have he := eqAt_reads x y A s _ _ _ _ r1 r2 la.1 lb.1 (by omega)
        have h : (if PyData.eqv x y = true then ordPs op xs ys else ordP op x y) = some r := h
        by_cases e : PyData.eqv x y = true
        · rw [if_pos e] at h
          rw [e] at he
          exact .inl ⟨he, rc_ords h4 xs ys A s _ _ _ _ r ra rb la.2 lb.2 h (by omega)⟩
        · rw [if_neg e] at h
          rw [Bool.not_eq_true] at e
          rw [e] at he
          exact .inr ⟨he, rc_ord h4 x y A s _ _ _ _ r r1 r2 la.1 lb.1 h (by omega)⟩
end
end TrO
namespace Tq
open PySem PySem.Spec PyProof.Rows L2
def ordD (op : CmpOp) (x y : D) : Option Bool := if x.shp && y.shp then TrO.ordP op x.toP y.toP else none
abbrev gOrdO (op : CmpOp) : G2 := g2V (ordD op)
def rOrd (K : PySem.W.Frag) (op : CmpOp) : R2 := fun x y H Q => ∃ da db r, Dp K H x da ∧ Dp K H y db ∧ SeqAt.shaped da = true ∧ SeqAt.shaped db = true ∧ TrO.ordP op da db = some r ∧ Q (.bl r) H
theorem op_ord {X : Cx} {op : CmpOp} (hu : X.A.units + 64 < cLine) (h4 : TrO.Four op) : OpR X (compareOp op) (rOrd X.K op) := by
  intro pins s σ H x y v u Q I rx ry h
  obtain ⟨da, db, r, ha, hb, sa, sb, e, q⟩ := h
  obtain ⟨as, r1⟩ := Dp.reads I da x v ha rx
  obtain ⟨bs, r2⟩ := Dp.reads I db y u hb ry
  have z := TrO.rc_ord h4 da db X.A s v u as bs r r1 r2 (SeqAt.canLay_of_shaped sa) (SeqAt.canLay_of_shaped sb) e (SeqAt.room_of_shaped sa hu)
  have z2 : wpAny (model X.prog X.w) X.A (richCompare op v u) (EP X pins σ Q) X.xe s := z X.prog X.w X.xe (EP X pins σ Q) ⟨.bl _, H, I, rfl, q⟩
  rcases h4 with rfl | rfl | rfl | rfl <;> exact z2
theorem og_ordO {K : PySem.W.Frag} {op : CmpOp} : Op2 K (rOrd K op) (gOrdO op) := og_2v fun H x y d e k Q rx ry hk q => by
  unfold ordD at hk
  split at hk
  · rename_i hs
    rw [Bool.and_eq_true] at hs
    exact ⟨_, _, k, rx.dp hs.1, ry.dp hs.2, hs.1, hs.2, hk, q⟩
  · cases hk
theorem op_ltO {X : Cx} (hu : X.A.units + 64 < cLine) : OpR X (compareOp .Lt) (rOrd X.K .Lt) := op_ord hu (.inl rfl)
theorem op_leO {X : Cx} (hu : X.A.units + 64 < cLine) : OpR X (compareOp .LtE) (rOrd X.K .LtE) := op_ord hu (.inr (.inl rfl))
theorem op_gtO {X : Cx} (hu : X.A.units + 64 < cLine) : OpR X (compareOp .Gt) (rOrd X.K .Gt) := op_ord hu (.inr (.inr (.inl rfl)))
theorem op_geO {X : Cx} (hu : X.A.units + 64 < cLine) : OpR X (compareOp .GtE) (rOrd X.K .GtE) := op_ord hu (.inr (.inr (.inr rfl)))
end Tq

/-! Tq11: reckoning with m's, in plain Lean. -/
namespace Tq
open PySem PySem.Spec PyProof.Rows L2
/-! ### loops -/
section
variable {g : A → Sl → Hq → Option Sl} {mb : MS} {ws : List A}
theorem forL_inv (I : Nat → Sl → Hq → Prop) {τ : Sl} {h : Hq} (h0 : I 0 τ h) (hs : ∀ n w τ h, ws[n]? = some w → I n τ h → ∃ τ1 τ2 h2, g w τ h = some τ1 ∧ (mb τ1 h = some (.nx τ2 h2) ∨ mb τ1 h = some (.ct τ2 h2)) ∧ I (n + 1) τ2 h2) (hl : ws.length ≤ LIM) :
    ∃ τ' h', forM (nxL ws) g mb FU 0 τ h = some (.nx τ' h') ∧ I ws.length τ' h' := by
  have go : ∀ (k n f : Nat) (τ : Sl) (h : Hq), ws.length - n = k → n ≤ ws.length → k < f → I n τ h → ∃ τ' h', forM (nxL ws) g mb f n τ h = some (.nx τ' h') ∧ I ws.length τ' h' := by
    intro k
    induction k with
    | zero =>
      intro n f τ h e hn hf hi
      have : n = ws.length := by omega
      subst this
      obtain ⟨f, rfl⟩ : ∃ f', f = f' + 1 := ⟨f - 1, by omega⟩
      refine ⟨τ, h, ?_, hi⟩
      unfold forM nxL
      rw [List.getElem?_eq_none (Nat.le_refl _)]
    | succ k ih =>
      intro n f τ h e hn hf hi
      have hlt : n < ws.length := by omega
      obtain ⟨f, rfl⟩ : ∃ f', f = f' + 1 := ⟨f - 1, by omega⟩
      have hw : ws[n]? = some ws[n] := List.getElem?_eq_getElem hlt
      obtain ⟨τ1, τ2, h2, e1, e2, i2⟩ := hs n _ τ h hw hi
      obtain ⟨τ', h', e3, i3⟩ := ih (n + 1) f τ2 h2 (by omega) (by omega) (by omega) i2
      refine ⟨τ', h', ?_, i3⟩
      unfold forM
      show (match nxL ws n h with | _ => _) = _
      unfold nxL
      rw [hw]
      dsimp only
      rw [e1]
      dsimp only
      rcases e2 with e2 | e2 <;> (rw [e2]; exact e3)
  exact go ws.length 0 FU τ h (by omega) (Nat.zero_le _) (by show ws.length < 16777217; have : ws.length ≤ 16777216 := hl; omega) h0
/-- over a cell that stays as it is -/
theorem forC_inv {k : Nat} (I : Nat → Sl → Hq → Prop) {τ : Sl} {h : Hq} (hk : ∀ n τ h, I n τ h → h[k]? = some (.lst ws)) (h0 : I 0 τ h) (hs : ∀ n w τ h, ws[n]? = some w → I n τ h → ∃ τ1 τ2 h2, g w τ h = some τ1 ∧ (mb τ1 h = some (.nx τ2 h2) ∨ mb τ1 h = some (.ct τ2 h2)) ∧ I (n + 1) τ2 h2) (hl : ws.length ≤ LIM) :
    ∃ τ' h', forM (nxC k) g mb FU 0 τ h = some (.nx τ' h') ∧ I ws.length τ' h' := by
  have go : ∀ (j n f : Nat) (τ : Sl) (h : Hq), ws.length - n = j → n ≤ ws.length → j < f → I n τ h → ∃ τ' h', forM (nxC k) g mb f n τ h = some (.nx τ' h') ∧ I ws.length τ' h' := by
    intro j
    induction j with
    | zero =>
      intro n f τ h e hn hf hi
      have : n = ws.length := by omega
      subst this
      obtain ⟨f, rfl⟩ : ∃ f', f = f' + 1 := ⟨f - 1, by omega⟩
      refine ⟨τ, h, ?_, hi⟩
      unfold forM nxC
      rw [hk _ _ _ hi]
      dsimp only
      rw [List.getElem?_eq_none (Nat.le_refl _)]
    | succ j ih =>
      intro n f τ h e hn hf hi
      have hlt : n < ws.length := by omega
      obtain ⟨f, rfl⟩ : ∃ f', f = f' + 1 := ⟨f - 1, by omega⟩
      have hw : ws[n]? = some ws[n] := List.getElem?_eq_getElem hlt
      obtain ⟨τ1, τ2, h2, e1, e2, i2⟩ := hs n _ τ h hw hi
      obtain ⟨τ', h', e3, i3⟩ := ih (n + 1) f τ2 h2 (by omega) (by omega) (by omega) i2
      refine ⟨τ', h', ?_, i3⟩
      unfold forM
      show (match nxC k n h with | _ => _) = _
      unfold nxC
      rw [hk _ _ _ hi]
      dsimp only
      rw [hw]
      dsimp only
      rw [e1]
      dsimp only
      rcases e2 with e2 | e2 <;> (rw [e2]; exact e3)
  exact go ws.length 0 FU τ h (by omega) (Nat.zero_le _) (by show ws.length < 16777217; have : ws.length ≤ 16777216 := hl; omega) h0
/-- a comprehension that leaves the cells alone -/
theorem compL_map {me : E A} {τw : Sl} {h : Hq} (f : A → A) (hs : ∀ w ∈ ws, ∃ τ1, g w τw h = some τ1 ∧ me τ1 h = some (.ok (f w) h)) (hl : ws.length ≤ LIM) : compM (nxL ws) g mYes me τw FU 0 h = some (ws.map f, h) := by
  have go : ∀ (k n fu : Nat), ws.length - n = k → n ≤ ws.length → k < fu → compM (nxL ws) g mYes me τw fu n h = some ((ws.drop n).map f, h) := by
    intro k
    induction k with
    | zero =>
      intro n fu e hn hf
      have : n = ws.length := by omega
      subst this
      obtain ⟨fu, rfl⟩ : ∃ f', fu = f' + 1 := ⟨fu - 1, by omega⟩
      unfold compM nxL
      rw [List.getElem?_eq_none (Nat.le_refl _), List.drop_length]
      rfl
    | succ k ih =>
      intro n fu e hn hf
      have hlt : n < ws.length := by omega
      obtain ⟨fu, rfl⟩ : ∃ f', fu = f' + 1 := ⟨fu - 1, by omega⟩
      have hw : ws[n]? = some ws[n] := List.getElem?_eq_getElem hlt
      obtain ⟨τ1, e1, e2⟩ := hs _ (List.getElem_mem hlt)
      unfold compM
      show (match nxL ws n h with | _ => _) = _
      unfold nxL
      rw [hw]
      dsimp only
      rw [e1]
      dsimp only [mYes]
      rw [e2]
      dsimp only
      have := ih (n + 1) fu (by omega) (by omega) (by omega)
      rw [show compM (fun i _ => some ws[i]?) g mYes me τw fu (n + 1) h = compM (nxL ws) g mYes me τw fu (n + 1) h from rfl] at *
      rw [this]
      dsimp only
      rw [List.drop_eq_getElem_cons hlt, List.map_cons]
  have := go ws.length 0 FU (by omega) (Nat.zero_le _) (by show ws.length < 16777217; have : ws.length ≤ 16777216 := hl; omega)
  rwa [List.drop_zero] at this
/-- a comprehension whose items come with a property, while I holds of the cells -/
theorem compL_inv {mt : E Bool} {me : E A} {τw : Sl} {h : Hq} (I : Nat → Hq → List A → Prop) (h0 : I 0 h []) (hs : ∀ n w h as, ws[n]? = some w → I n h as → ∃ τ1, g w τw h = some τ1 ∧ ((∃ h1 h2 a, mt τ1 h = some (.ok true h1) ∧ me τ1 h1 = some (.ok a h2) ∧ I (n + 1) h2 (as ++ [a])) ∨ ∃ h1, mt τ1 h = some (.ok false h1) ∧ I (n + 1) h1 as)) (hl : ws.length ≤ LIM) :
    ∃ as h', compM (nxL ws) g mt me τw FU 0 h = some (as, h') ∧ I ws.length h' as := by
  have go : ∀ (k n fu : Nat) (h : Hq) (as : List A), ws.length - n = k → n ≤ ws.length → k < fu → I n h as → ∃ bs h', compM (nxL ws) g mt me τw fu n h = some (bs, h') ∧ I ws.length h' (as ++ bs) := by
    intro k
    induction k with
    | zero =>
      intro n fu h as e hn hf hi
      have : n = ws.length := by omega
      subst this
      obtain ⟨fu, rfl⟩ : ∃ f', fu = f' + 1 := ⟨fu - 1, by omega⟩
      refine ⟨[], h, ?_, by simpa using hi⟩
      unfold compM nxL
      rw [List.getElem?_eq_none (Nat.le_refl _)]
    | succ k ih =>
      intro n fu h as e hn hf hi
      have hlt : n < ws.length := by omega
      obtain ⟨fu, rfl⟩ : ∃ f', fu = f' + 1 := ⟨fu - 1, by omega⟩
      have hw : ws[n]? = some ws[n] := List.getElem?_eq_getElem hlt
      obtain ⟨τ1, e1, r⟩ := hs n _ h as hw hi
      have un : nxL ws n h = some (some ws[n]) := by unfold nxL; rw [hw]
      rcases r with ⟨h1, h2, a, e2, e3, i2⟩ | ⟨h1, e2, i2⟩
      · obtain ⟨bs, h', e4, i3⟩ := ih (n + 1) fu h2 _ (by omega) (by omega) (by omega) i2
        refine ⟨a :: bs, h', ?_, by simpa using i3⟩
        unfold compM
        rw [un]
        dsimp only
        rw [e1]
        dsimp only
        rw [e2]
        dsimp only
        rw [e3]
        dsimp only
        rw [e4]
      · obtain ⟨bs, h', e4, i3⟩ := ih (n + 1) fu h1 _ (by omega) (by omega) (by omega) i2
        refine ⟨bs, h', ?_, i3⟩
        unfold compM
        rw [un]
        dsimp only
        rw [e1]
        dsimp only
        rw [e2]
        exact e4
  obtain ⟨bs, h', e, i⟩ := go ws.length 0 FU h [] (by omega) (Nat.zero_le _) (by show ws.length < 16777217; have : ws.length ≤ 16777216 := hl; omega) h0
  exact ⟨bs, h', e, by simpa using i⟩
end
/-! ### steps -/
theorem seq_nx {m1 m2 : MS} {τ τ1 : Sl} {h h1 : Hq} (e : m1 τ h = some (.nx τ1 h1)) : mSeq m1 m2 τ h = m2 τ1 h1 := by
  unfold mSeq
  rw [e]
theorem seq_rt {m1 m2 : MS} {τ : Sl} {w : A} {h h1 : Hq} (e : m1 τ h = some (.rt w h1)) : mSeq m1 m2 τ h = some (.rt w h1) := by
  unfold mSeq
  rw [e]
theorem runB_rt {np n : Nat} {m : MS} {ws : List A} {w : A} {h h1 : Hq} (hl : ws.length = np) (e : m (startT n ws) h = some (.rt w h1)) : runB np n m ws h = some (.ok w h1) := by
  unfold runB
  rw [if_pos hl, e]
theorem runB_nx {np n : Nat} {m : MS} {ws : List A} {τ : Sl} {h h1 : Hq} (hl : ws.length = np) (e : m (startT n ws) h = some (.nx τ h1)) : runB np n m ws h = some (.ok (.d .non) h1) := by
  unfold runB
  rw [if_pos hl, e]
theorem mFor_of {mi : E Nxt} {g : A → Sl → Hq → Option Sl} {mb : MS} {τ : Sl} {h h1 : Hq} {nx : Nxt} (e : mi τ h = some (.ok nx h1)) : mFor mi g mb τ h = forM nx g mb FU 0 τ h1 := by
  unfold mFor
  rw [e]
  rfl
theorem mRange1_of {m : E A} {τ : Sl} {h h1 : Hq} {j : Int} (e : m τ h = some (.ok (.d (.int j)) h1)) (h0 : -4611686018427387904 ≤ j) (h2 : j < 4611686018427387904) : mRange1 m τ h = some (.ok (nxL (rangeA 0 j.toNat)) h1) := by
  unfold mRange1
  rw [e]
  show (if _ then _ else _) = _
  rw [if_pos ⟨h0, h2⟩]
theorem rangeA_len (lo : Int) (n : Nat) : (rangeA lo n).length = n := by unfold rangeA; rw [List.length_map, List.length_range]
theorem rangeA_get {lo : Int} {n i : Nat} {w : A} (h : (rangeA lo n)[i]? = some w) : i < n ∧ w = .d (.int (lo + (i : Nat))) := by
  have hi : i < n := by
    rw [← rangeA_len lo n]
    exact (List.getElem?_eq_some_iff.mp h).1
  unfold rangeA at h
  rw [List.getElem?_map, List.getElem?_range hi] at h
  cases h
  exact ⟨hi, rfl⟩
theorem rangeA_mem {lo : Int} {n : Nat} {w : A} (h : w ∈ rangeA lo n) : ∃ i : Nat, i < n ∧ w = .d (.int (lo + (i : Nat))) := by
  unfold rangeA at h
  obtain ⟨i, h1, h2⟩ := List.mem_map.mp h
  exact ⟨i, List.mem_range.mp h1, h2.symm⟩
theorem rangeA_map {lo : Int} {n : Nat} (f : A → A) : (rangeA lo n).map f = (List.range n).map fun i => f (.d (.int (lo + (i : Nat)))) := by
  unfold rangeA
  rw [List.map_map]
  rfl
/-! ### single m's -/
theorem append_of {τ : Sl} {h : Hq} {k : Nat} {ws : List A} {w : A} {mo mv : E A} (h1 : mo τ h = some (.ok (.r k) h)) (e : h[k]? = some (.lst ws)) (h2 : mv τ h = some (.ok w h)) (hl : ws.length < LIM) : mDrop (mM1 tokL gApp mo mv) τ h = some (.nx τ (h.set k (.lst (ws ++ [w])))) := by
  have t : tokL (.r k) h = true := by
    unfold tokL lstOf
    dsimp only
    rw [e]
    rfl
  have ga : gApp (.r k) w h = some (.ok (.d .non) (h.set k (.lst (ws ++ [w])))) := by
    unfold gApp
    dsimp only
    rw [e]
    dsimp only
    rw [if_pos hl]
  unfold mDrop mM1
  rw [h1, bd_ok, if_pos t, h2, bd_ok, ga, sb_ok]
theorem set_of {τ : Sl} {h h1 : Hq} {i : Nat} {w : A} {m : E A} (e : m τ h = some (.ok w h1)) : mSet i m τ h = some (.nx (τ.set i (some w)) h1) := by
  unfold mSet
  rw [e, sb_ok]
theorem drop_of {τ : Sl} {h h1 : Hq} {w : A} {m : E A} (e : m τ h = some (.ok w h1)) : mDrop m τ h = some (.nx τ h1) := by
  unfold mDrop
  rw [e, sb_ok]
theorem ret_of {τ : Sl} {h h1 : Hq} {w : A} {m : E A} (e : m τ h = some (.ok w h1)) : mRet m τ h = some (.rt w h1) := by
  unfold mRet
  rw [e, sb_ok]
theorem if_tt {t : E Bool} {m1 m2 : MS} {τ : Sl} {h h1 : Hq} (e : t τ h = some (.ok true h1)) : mIf t m1 m2 τ h = m1 τ h1 := by
  unfold mIf
  rw [e, sb_ok]
theorem if_ff {t : E Bool} {m1 m2 : MS} {τ : Sl} {h h1 : Hq} (e : t τ h = some (.ok false h1)) : mIf t m1 m2 τ h = m2 τ h1 := by
  unfold mIf
  rw [e, sb_ok]
theorem bin_of {g : G2} {ma mb : E A} {τ : Sl} {h h1 h2 : Hq} {a b : A} (e1 : ma τ h = some (.ok a h1)) (e2 : mb τ h1 = some (.ok b h2)) : mBin g ma mb τ h = g a b h2 := by
  unfold mBin
  rw [e1, bd_ok, e2, bd_ok]
theorem un_of {g : G1} {ma : E A} {τ : Sl} {h h1 : Hq} {a : A} (e1 : ma τ h = some (.ok a h1)) : mUn g ma τ h = g a h1 := by
  unfold mUn
  rw [e1, bd_ok]
theorem tb_of {m : E A} {τ : Sl} {h h1 : Hq} {k : Bool} (e : m τ h = some (.ok (.d (.bl k)) h1)) : mTB m τ h = some (.ok k h1) := by
  unfold mTB
  rw [e, bd_ok]
theorem var_of {τ : Sl} {h : Hq} {i : Nat} {w : A} (e : τ[i]? = some (some w)) : mVar i τ h = some (.ok w h) := by
  unfold mVar
  rw [e]
theorem cons_of {ma : E A} {mr : E (List A)} {τ : Sl} {h h1 h2 : Hq} {a : A} {r : List A} (e1 : ma τ h = some (.ok a h1)) (e2 : mr τ h1 = some (.ok r h2)) : maCons ma mr τ h = some (.ok (a :: r) h2) := by
  unfold maCons
  rw [e1, bd_ok, e2, bd_ok]
theorem meth_of {C m : Str} {n : Nat} {sem : Sem1} {mo : E A} {mr : E (List A)} {τ : Sl} {h h1 h2 : Hq} {a : A} {ws : List A} (e1 : mo τ h = some (.ok a h1)) (hi : insOf C m a h1 = true) (e2 : mr τ h1 = some (.ok ws h2)) (hl : ws.length + 1 = n) : mMeth C m n sem mo mr τ h = sem (a :: ws) h2 := by
  unfold mMeth
  rw [e1, bd_ok, if_pos hi, e2, bd_ok, if_pos hl]
theorem len_of {n : Nat} {mr : E (List A)} {τ : Sl} {h h1 : Hq} {ws : List A} (e : mr τ h = some (.ok ws h1)) (hl : ws.length = n) : lenIs n mr τ h = some (.ok ws h1) := by
  unfold lenIs
  rw [e, bd_ok, if_pos hl]
theorem call_of {sem : Sem1} {mr : E (List A)} {τ : Sl} {h h1 : Hq} {ws : List A} (e : mr τ h = some (.ok ws h1)) : mCall sem mr τ h = sem ws h1 := by
  unfold mCall
  rw [e, bd_ok]
theorem callP_of {sem : Sem1} {mr : E (List A)} {τ : Sl} {h h1 h' : Hq} {ds : List D} {w : A} {d : D} (e : mr τ h = some (.ok (ds.map A.d) h1)) (e2 : sem (ds.map A.d) [] = some (.ok w h')) (e3 : view h' w = some d) : mCallP sem mr τ h = some (.ok (.d d) h1) := by
  unfold mCallP
  rw [e, bd_ok]
  unfold callP
  rw [mapMn_d _ _ (vw_d 32 h1)]
  dsimp only
  rw [e2]
  dsimp only
  rw [e3, allD_map]
  rfl
theorem view_lst {h : Hq} {k : Nat} {ds : List D} (e : h[k]? = some (.lst (ds.map A.d))) : view h (.r k) = some (.lst ds) := vw_cell (n := 31) e
theorem set_same {h : Hq} {k : Nat} {o : O} (e : h[k]? = some o) : h.set k o = h := by
  obtain ⟨hk, rfl⟩ := List.getElem?_eq_some_iff.mp e
  exact List.set_getElem_self hk
/-! ### data that is compared -/
def D.fok : D → Bool
  | .str z => PyData.strOk z
  | .non => true | .bl _ => true | .int _ => true
  | _ => false
theorem lay_fok : ∀ {d : D}, d.fok = true → d.toP.canLay0 = true ∧ d.toP.depth = 0
  | .non, _ => ⟨rfl, rfl⟩
  | .bl _, _ => ⟨rfl, rfl⟩
  | .int _, _ => ⟨rfl, rfl⟩
  | .str _, h => ⟨h, rfl⟩
theorem lays_fok : ∀ {ds : List D}, ds.all D.fok = true → PyData.canLayAll0 (D.toPs ds) = true ∧ PyData.depthAll (D.toPs ds) = 0
  | [], _ => ⟨rfl, rfl⟩
  | d :: r, h => by
    rw [List.all_cons, Bool.and_eq_true] at h
    obtain ⟨h1, h2⟩ := lay_fok h.1
    obtain ⟨h3, h4⟩ := lays_fok h.2
    constructor
    · show (d.toP.canLay0 && PyData.canLayAll0 (D.toPs r)) = true
      rw [h1, h3]
      rfl
    · show max d.toP.depth (PyData.depthAll (D.toPs r)) = 0
      rw [h2, h4]
      rfl
theorem shp_fok {d : D} (h : d.fok = true) : d.shp = true := by
  obtain ⟨h1, h2⟩ := lay_fok h
  show (d.toP.canLay0 && decide (d.toP.depth ≤ 64)) = true
  rw [h1, h2]
  rfl
theorem shp_lst {ds : List D} (h : ds.all D.fok = true) : (D.lst ds).shp = true := by
  obtain ⟨h1, h2⟩ := lays_fok h
  show (PyData.canLayAll0 (D.toPs ds) && decide (PyData.depthAll (D.toPs ds) + 1 ≤ 64)) = true
  rw [h1, h2]
  rfl
theorem shp_tup {ds : List D} (h : ds.all D.fok = true) : (D.tup ds).shp = true := shp_lst (ds := ds) h
theorem eqv_str (a b : Str) : D.eqv (.str a) (.str b) = decide (a = b) := by
  rw [show D.eqv (.str a) (.str b) = (a == b) from rfl, Bool.eq_iff_iff]
  simp
theorem eqv_int (a b : Int) : D.eqv (.int a) (.int b) = decide (a = b) := rfl
theorem eqv_refl {d : D} (h : d.shp = true) : D.eqv d d = true := by
  exact SeqAt.eqv_refl _ (SeqAt.canLay_of_shaped h)
theorem eqD_same {n : Bool} {x : D} (h : x.shp = true) : eqD n x x = some (!n) := by
  unfold eqD
  rw [h, eqv_refl h]
  cases n <;> rfl
@[simp] theorem eqD_int (n : Bool) (i j : Int) : eqD n (.int i) (.int j) = some (if n then !decide (i = j) else decide (i = j)) := by
  rw [← show (i == j) = decide (i = j) from rfl]
  rfl
theorem log2_lt {a k : Nat} (h : a < 2 ^ k) (hk : 0 < k) : a.log2 < k := by
  by_cases z : a = 0
  · subst z; simpa using hk
  · exact (Nat.log2_lt z).mpr h
theorem mulOk_of {i j : Int} {a b : Nat} (h1 : i.natAbs < 2 ^ a) (h2 : j.natAbs < 2 ^ b) (ha : 0 < a) (hb : 0 < b) (h : a + b ≤ 134000000) : mulOk i j = true := by
  unfold mulOk
  have := log2_lt h1 ha
  have := log2_lt h2 hb
  exact decide_eq_true (by omega)
theorem divOk_of {i j : Int} {b : Nat} (h0 : 0 < j) (h2 : j.natAbs < 2 ^ b) (hb : 0 < b) (h : b ≤ 9000) : divOk i j = true := by
  unfold divOk
  have := log2_lt h2 hb
  rw [decide_eq_true h0, Bool.true_and]
  exact decide_eq_true (by omega)
theorem atI_in {α : Type} {xs : List α} {i : Int} (h0 : 0 ≤ i) (h1 : i.toNat < xs.length) : atI xs i = some xs[i.toNat] := by
  unfold atI ixN
  rw [if_pos h0, if_pos (by omega)]
  exact List.getElem?_eq_getElem h1
end Tq

/-! Tq12: raise C('text') of an own class without __init__; try .. except C: of one clause, no name. -/
namespace Tq
open PySem PySem.Spec PyProof.Rows L2

structure ExC (K : PySem.W.Frag) (mg : Str → Option Value) (C : Str) : Prop where
  ex : ∃ (c : Addr) (bmB : List Value) (B newId initId : String), ExcBaseFacts B newId initId bmB ∧ PySem.W.excIn K c bmB newId = true ∧ mg C = some (.ref c) ∧ glAt K C = some c ∧ PySem.W.keepIn K (.ref c) = true ∧ PySem.W.subIn K (.ref c) (.type "BaseException") = some true ∧ PySem.W.typeIn K (.ref c) = some (.type "type")
def mRaise (C : Str) : MS := fun τ h => some (.ex (.own C) τ h)
theorem rs_raise {X : Cx} {W : WX} {C m : Str} {j : Nat} {p p2 pos pos' : Pos} (tk : Takes X W) (e : ExC X.K X.mg C) (hc : X.calm = true := by rfl) (hg : Gl X C := by rfl) (hdb : (C == ("__debug__" : Str)) = false := by decide) :
    RS X W (.Raise (some (.Call (.Name C p) [.Constant (.str m) j p2] [] pos)) none pos') (mRaise C) := by
  obtain ⟨c, bmB, B, nI, iI, F, q, g1, g2, kp, s1, s2⟩ := e.ex
  refine ⟨ps_imp (L2.ps_raise hc tk (L2.pmk_own F q g1 kp (L2.raises_own s1 s2) hg hdb)) fun D σ H hq => ?_⟩
  obtain ⟨Z, B', ρ, τ, h, ok, sl, q2⟩ := hq
  exact q2 σ B' ρ H _ _ ok sl Gr.refl (.own g2)

/-! ### try -/
inductive Xn where
  | own (C : Str) | blt (T : String)
deriving DecidableEq
def Xc.nm : Xc → Xn
  | .own C => .own C
  | .fld C _ _ => .own C
  | .blt T => .blt T
def xLook : List (Xn × Bool) → Xn → Option Bool
  | [], _ => none
  | (y, b) :: r, x => if y = x then some b else xLook r x
def XnV (K : PySem.W.Frag) : Xn → Value → Prop
  | .own D, cls => ∃ d, glAt K D = some d ∧ cls = .ref d
  | .blt T, cls => cls = .type T
def XAll (K : PySem.W.Frag) (c : Value) (T : List (Xn × Bool)) : Prop := ∀ x b, xLook T x = some b → ∀ cls, XnV K x cls → PySem.W.exmOne K cls c = some b
theorem xall_nil {K : PySem.W.Frag} {c : Value} : XAll K c [] := fun _ _ e => by cases e
theorem xall_own {K : PySem.W.Frag} {c : Value} {T : List (Xn × Bool)} {D : Str} {d : Addr} {b : Bool} (h : glAt K D = some d) (e : PySem.W.exmOne K (.ref d) c = some b) (r : XAll K c T) : XAll K c ((.own D, b) :: T) := fun x b' hx cls hv => by
  unfold xLook at hx
  split at hx
  · rename_i z
    subst z
    cases hx
    obtain ⟨d', h', rfl⟩ := hv
    rw [h] at h'
    cases h'
    exact e
  · exact r x b' hx cls hv
theorem xall_blt {K : PySem.W.Frag} {c : Value} {T : List (Xn × Bool)} {N : String} {b : Bool} (e : PySem.W.exmOne K (.type N) c = some b) (r : XAll K c T) : XAll K c ((.blt N, b) :: T) := fun x b' hx cls hv => by
  unfold xLook at hx
  split at hx
  · rename_i z
    subst z
    cases hx
    cases hv
    exact e
  · exact r x b' hx cls hv
/-- of own classes: by subIn -/
theorem exm_own {K : PySem.W.Frag} {S D : Addr} {b : Bool} (h1 : PySem.W.subIn K (.ref S) (.type "BaseException") = some true) (h2 : PySem.W.isClsIn K S = true) (h3 : PySem.W.typeIn K (.ref S) = some (.type "type")) (h4 : PySem.W.subIn K (.ref D) (.ref S) = some b) :
    PySem.W.exmOne K (.ref D) (.ref S) = some b := by
  have e1 : (PySem.W.subIn K (.ref S) (.type "BaseException") == some true) = true := by rw [h1] <;> rfl
  have e2 : ((PySem.W.clsIn K S).isSome && PySem.W.typeIn K (.ref S) == some (.type "type")) = true := by
    have h2' : (PySem.W.clsIn K S).isSome = true := h2
    rw [h2', h3] <;> rfl
  show (if (PySem.W.subIn K (.ref S) (.type "BaseException") == some true) = true then (if ((PySem.W.clsIn K S).isSome && PySem.W.typeIn K (.ref S) == some (.type "type")) = true then PySem.W.subIn K (.ref D) (.ref S) else none) else none) = some b
  rw [if_pos e1, if_pos e2]
  exact h4
structure XTok (K : PySem.W.Frag) (mg : Str → Option Value) (C : Str) (T : List (Xn × Bool)) : Prop where
  ex : ∃ c : Value, (mg C = some c ∨ (mg C = none ∧ bootBuiltins C = some c ∧ C ≠ "__name__")) ∧ XAll K c T
def mTry (T : List (Xn × Bool)) (mb ms : MS) : MS := fun τ h => match mb τ h with
  | some (.ex x τ1 h1) => (match xLook T x.nm with
    | some true => (match ms τ1 h1 with | some (.ex _ _ _) => none | r => r)
    | some false => some (.ex x τ1 h1)
    | none => none)
  | r => r
theorem xc_nm {K : PySem.W.Frag} {B : Hp} {ρ : Nat → Option Addr} {H : Hp} {x : Xc} {cls : Value} {d : Option Addr} (h : XcAt K B ρ H x cls d) : XnV K x.nm cls := by
  cases h with
  | own h => exact ⟨_, h, rfl⟩
  | fld h _ _ => exact ⟨_, h, rfl⟩
  | blt => rfl
theorem rs_try {X : Cx} {W : WX} {C : Str} {T : List (Xn × Bool)} {body suite : List Stmt} {b₀ : Stmt} {mb ms : MS} {np pos pos' : Pos} (tk : Takes X W) (t : XTok X.K X.mg C T)
    (hb : ∀ (W' : WX) (pn : List (Addr × Obj)) (xe : Value → Shared → Prop), Takes (X.tr pn xe) W' → PassesOwn (model X.prog X.w) X.A X.env xe → RSs (X.tr pn xe) W' body mb)
    (hsu : ∀ (a : Addr) (pn : List (Addr × Obj)), RSs (X.suite a pn) W0 (b₀ :: suite) ms)
    (hs : X.stack = X.env :: X.outer := by rfl) (hf : X.env.frame = some X.env.locals := by rfl) (hg : Gl X C := by rfl) (hdb : (C == ("__debug__" : Str)) = false := by decide) :
    RS X W (.Try body [.ExceptHandler (some (.Name C np)) none (b₀ :: suite) pos'] [] [] pos) (mTry T mb ms) := by
  obtain ⟨c, hc, ha⟩ := t.ex
  refine ⟨ps_imp (L2.ps_try_only (tb := fun W' => tS X.K W' mb) (ts := fun _ _ _ => tS X.K W0 ms) hs hf ⟨hg, hdb, hc⟩ tk (fun W' pn xe tk' hp => (hb W' pn xe tk' hp).ps) (fun a oe cls d pn _ _ => (hsu a _).ps)) fun D σ H q => ?_⟩
  obtain ⟨Z, B, ρ, τ, h, ok, sl, q⟩ := q
  refine ⟨Z, B, ρ, τ, h, ok, sl, ?_⟩
  unfold mTry at q
  revert q
  cases mb τ h with
  | none => exact fun q => q
  | some r =>
    cases r with
    | nx τ1 h1 => exact fun q => q
    | bk τ1 h1 => exact fun q => q
    | ct τ1 h1 => exact fun q => q
    | rt w h1 => exact fun q => q
    | ex x τ1 h1 =>
      intro q σ' B' ρ' H' cls d ok' sl' g xc
      dsimp only at q
      cases e : xLook T x.nm with
      | none => rw [e] at q; exact q.elim
      | some b =>
        rw [e] at q
        refine ⟨b, ha _ _ e _ (xc_nm xc), fun eb a na => ?_, fun eb => ?_⟩
        · subst eb
          dsimp only at q
          refine ⟨Z, B', ρ', τ1, h1, ok', sl', ?_⟩
          revert q
          cases ms τ1 h1 with
          | none => exact fun q => q.elim
          | some r =>
            cases r with
            | nx _ _ => exact fun q => q.from g
            | bk _ _ => exact fun q => q.from g
            | ct _ _ => exact fun q => q.from g
            | rt _ _ => exact fun q => q.from g
            | ex _ _ _ => exact fun q => q.elim
        · subst eb
          exact q σ' B' ρ' H' cls d ok' sl' g xc
end Tq

/-! Tq13: plain lemmas: lists of ints, loops step by step, ints, picks. -/
namespace Tq
open PySem PySem.Spec PyProof.Rows L2
abbrev LD (xs : List Int) : D := .lst (xs.map D.int)
def LI (xs : List Int) : List A := (xs.map D.int).map A.d
theorem LI_len (xs : List Int) : (LI xs).length = xs.length := by unfold LI; rw [List.length_map, List.length_map]
theorem LI_app (xs ys : List Int) : LI (xs ++ ys) = LI xs ++ LI ys := by unfold LI; rw [List.map_append, List.map_append]
theorem LI_cut (xs : List Int) (lo hi : Option Int) : LI (cut xs lo hi) = cut (LI xs) lo hi := by unfold LI; rw [map_cut, map_cut]
theorem LI_set (xs : List Int) (n : Nat) (z : Int) : (LI xs).set n (.d (.int z)) = LI (xs.set n z) := by unfold LI; rw [List.map_set, List.map_set]
theorem LI_get (xs : List Int) (n : Nat) : (LI xs)[n]? = (xs[n]?).map fun z => A.d (.int z) := by
  unfold LI
  rw [List.getElem?_map, List.getElem?_map, Option.map_map]
  rfl
theorem cut_len {α : Type} (xs : List α) (lo hi : Option Int) : (cut xs lo hi).length ≤ xs.length := by
  unfold cut
  rw [List.length_take, List.length_drop]
  omega
theorem sIx_nat (len dflt n : Nat) : HT.sIx len dflt (some (n : Int)) = min n len := by
  unfold HT.sIx
  simp only []
  split <;> omega
theorem cut_take {α : Type} (xs : List α) (n : Nat) : cut xs none (some (n : Int)) = xs.take n := by
  unfold cut
  rw [sIx_nat, show HT.sIx xs.length 0 none = 0 from rfl, List.drop_zero, Nat.sub_zero, List.take_eq_take_iff]
  omega
theorem cut_drop {α : Type} (xs : List α) (n : Nat) : cut xs (some (n : Int)) none = xs.drop n := by
  unfold cut
  rw [sIx_nat, show HT.sIx xs.length xs.length none = xs.length from rfl]
  by_cases h : n ≤ xs.length
  · rw [Nat.min_eq_left h, List.take_of_length_le (by rw [List.length_drop]; omega)]
  · rw [Nat.min_eq_right (by omega), List.drop_of_length_le (Nat.le_refl _), List.drop_of_length_le (by omega), List.take_nil]
theorem cut_mid {α : Type} (xs : List α) (a b : Nat) : cut xs (some (a : Int)) (some (b : Int)) = (xs.drop a).take (b - a) := by
  unfold cut
  rw [sIx_nat, sIx_nat]
  by_cases h : a ≤ xs.length
  · rw [Nat.min_eq_left h, List.take_eq_take_iff, List.length_drop]
    omega
  · rw [show min a xs.length = xs.length from Nat.min_eq_right (by omega), List.drop_of_length_le (Nat.le_refl _), List.drop_of_length_le (by omega), List.take_nil, List.take_nil]
theorem mkL_d {ds : List D} {h : Hq} (hl : ds.length ≤ LIM) : mkL false (ds.map A.d) h = some (.ok (.d (.lst ds)) h) := by
  unfold mkL
  rw [if_pos (by rw [List.length_map]; exact hl), allD_map]
  rfl
theorem mkL_i {xs : List Int} {h : Hq} (hl : xs.length ≤ LIM) : mkL false (LI xs) h = some (.ok (.d (LD xs)) h) := mkL_d (by rw [List.length_map]; exact hl)
theorem mkL_c {ws : List A} {h : Hq} (hl : ws.length ≤ LIM) : mkL true ws h = some (.ok (.r h.length) (h ++ [.lst ws])) := by
  unfold mkL
  rw [if_pos hl]
  rfl
theorem cell_app (h : Hq) (o : O) : (h ++ [o])[h.length]? = some o := by
  rw [List.getElem?_append_right (Nat.le_refl _), Nat.sub_self]
  rfl
theorem app_keep {h : Hq} {os : List O} {k : Nat} {o : O} (e : h[k]? = some o) : (h ++ os)[k]? = some o := by
  rw [List.getElem?_append_left (List.getElem?_eq_some_iff.mp e).1]
  exact e
theorem lt_of_get {h : Hq} {k : Nat} {o : O} (e : h[k]? = some o) : k < h.length := (List.getElem?_eq_some_iff.mp e).1
theorem gAdd_ll (o : Bool) (xs ys : List Int) (h : Hq) : gAdd o (.d (LD xs)) (.d (LD ys)) h = mkL o (LI (xs ++ ys)) h := by
  rw [LI_app]
  rfl
theorem gLen_d (xs : List Int) (h : Hq) : gLen (.d (LD xs)) h = some (.ok (.d (.int (xs.length : Nat))) h) := by
  show some (Rs.ok (A.d (D.int ((((xs.map D.int).map A.d).length : Nat) : Int))) h) = _
  rw [List.length_map, List.length_map]
theorem gLen_c {h : Hq} {k : Nat} {ws : List A} (e : h[k]? = some (.lst ws)) : gLen (.r k) h = some (.ok (.d (.int (ws.length : Nat))) h) := by
  unfold gLen lenA
  simp only [tupOf, lstOf, e]
theorem gSl_d (o : Bool) (xs : List Int) (lo hi : Option Int) (h : Hq) : gSl o (.d (LD xs)) lo hi h = mkL o (LI (cut xs lo hi)) h := by
  rw [LI_cut]
  rfl
theorem gSl_c {o : Bool} {h : Hq} {k : Nat} {xs : List Int} (e : h[k]? = some (.lst (LI xs))) (lo hi : Option Int) : gSl o (.r k) lo hi h = mkL o (LI (cut xs lo hi)) h := by
  simp only [gSl, tupOf, lstOf, e]
  rw [LI_cut]
theorem atI_nat {α : Type} {xs : List α} {n : Nat} {x : α} (e : xs[n]? = some x) : atI xs (n : Int) = some x := by
  have hn : n < xs.length := (List.getElem?_eq_some_iff.mp e).1
  rw [atI_in (Int.natCast_nonneg n) (by rw [Int.toNat_natCast]; exact hn)]
  have := (List.getElem?_eq_some_iff.mp e).2
  simp only [Int.toNat_natCast]
  rw [this]
theorem gGet_d {xs : List Int} {n : Nat} {z : Int} (h : Hq) (e : xs[n]? = some z) : gGet (.d (LD xs)) (.d (.int (n : Nat))) h = some (.ok (.d (.int z)) h) := by
  have e1 : atI ((xs.map D.int).map A.d) (n : Int) = some (A.d (.int z)) := atI_nat (by rw [show (xs.map D.int).map A.d = LI xs from rfl, LI_get, e]; rfl)
  show (match atI ((xs.map D.int).map A.d) (n : Int) with | some w => some (Rs.ok w h) | none => none) = _
  rw [e1]
theorem gGet_c {h : Hq} {k n : Nat} {ws : List A} {w : A} (e : h[k]? = some (.lst ws)) (e1 : ws[n]? = some w) : gGet (.r k) (.d (.int (n : Nat))) h = some (.ok w h) := by
  unfold gGet dicOf
  simp only [e]
  unfold gIx
  simp only [tupOf, lstOf, e]
  rw [atI_nat e1]
  rfl
theorem gMul_ok {i j : Int} (h : Hq) (e : mulOk i j = true) : gMul (.d (.int i)) (.d (.int j)) h = some (.ok (.d (.int (i * j))) h) := by
  show (if mulOk i j = true then _ else _) = _
  rw [if_pos e]
theorem gDiv_ok {i j : Int} (h : Hq) (e : divOk i j = true) : gDiv (.d (.int i)) (.d (.int j)) h = some (.ok (.d (.int (i / j))) h) := by
  show (if divOk i j = true then _ else _) = _
  rw [if_pos e]
theorem gMod_ok {i j : Int} (h : Hq) (e : 0 < j) : gMod (.d (.int i)) (.d (.int j)) h = some (.ok (.d (.int (i % j))) h) := by
  show (if modOk i j = true then _ else _) = _
  rw [if_pos (by unfold modOk; exact decide_eq_true e)]
theorem gAdd_int (o : Bool) (i j : Int) (h : Hq) : gAdd o (.d (.int i)) (.d (.int j)) h = some (.ok (.d (.int (i + j))) h) := rfl
theorem gSub_int (i j : Int) (h : Hq) : gSub (.d (.int i)) (.d (.int j)) h = some (.ok (.d (.int (i - j))) h) := rfl
theorem gLe_int (i j : Int) (h : Hq) : gLe (.d (.int i)) (.d (.int j)) h = some (.ok (.d (.bl (decide (i ≤ j)))) h) := rfl
theorem gLt_int (i j : Int) (h : Hq) : gLt (.d (.int i)) (.d (.int j)) h = some (.ok (.d (.bl (decide (i < j)))) h) := rfl
theorem gGe_int (i j : Int) (h : Hq) : gGe (.d (.int i)) (.d (.int j)) h = some (.ok (.d (.bl (decide (j ≤ i)))) h) := rfl
theorem gGt_int (i j : Int) (h : Hq) : gGt (.d (.int i)) (.d (.int j)) h = some (.ok (.d (.bl (decide (j < i)))) h) := rfl
theorem mul_small {i j : Int} (h1 : i.natAbs < 2 ^ 64) (h2 : j.natAbs < 2 ^ 64) : mulOk i j = true := mulOk_of h1 h2 (by decide) (by decide) (by decide)
theorem bits_log {z : Int} (h : Builtin.Int.intBits z ≤ 1048576) : z.natAbs.log2 ≤ 1048576 := by
  unfold Builtin.Int.intBits at h
  split at h
  · rename_i e
    have e : z = 0 := by
      first
        | exact e
        | simpa using e
    subst e
    decide
  · omega
section
variable {τ : Sl} {h h1 : Hq} {i j : Int} {a b : E A}
theorem add_of {o : Bool} (e1 : a τ h = some (.ok (.d (.int i)) h)) (e2 : b τ h = some (.ok (.d (.int j)) h)) : mBin (gAdd o) a b τ h = some (.ok (.d (.int (i + j))) h) := by rw [bin_of e1 e2]; rfl
theorem sub_of (e1 : a τ h = some (.ok (.d (.int i)) h)) (e2 : b τ h = some (.ok (.d (.int j)) h)) : mBin gSub a b τ h = some (.ok (.d (.int (i - j))) h) := by rw [bin_of e1 e2]; rfl
theorem mod_of (e1 : a τ h = some (.ok (.d (.int i)) h)) (e2 : b τ h = some (.ok (.d (.int j)) h)) (e : 0 < j) : mBin gMod a b τ h = some (.ok (.d (.int (i % j))) h) := by rw [bin_of e1 e2]; exact gMod_ok _ e
theorem div_of (e1 : a τ h = some (.ok (.d (.int i)) h)) (e2 : b τ h = some (.ok (.d (.int j)) h)) (e : divOk i j = true) : mBin gDiv a b τ h = some (.ok (.d (.int (i / j))) h) := by rw [bin_of e1 e2]; exact gDiv_ok _ e
theorem mul_of (e1 : a τ h = some (.ok (.d (.int i)) h)) (e2 : b τ h = some (.ok (.d (.int j)) h)) (e : mulOk i j = true) : mBin gMul a b τ h = some (.ok (.d (.int (i * j))) h) := by rw [bin_of e1 e2]; exact gMul_ok _ e
theorem lt_of (e1 : a τ h = some (.ok (.d (.int i)) h)) (e2 : b τ h = some (.ok (.d (.int j)) h)) : mTB (mBin gLt a b) τ h = some (.ok (decide (i < j)) h) := tb_of (by rw [bin_of e1 e2]; rfl)
theorem le_of (e1 : a τ h = some (.ok (.d (.int i)) h)) (e2 : b τ h = some (.ok (.d (.int j)) h)) : mTB (mBin gLe a b) τ h = some (.ok (decide (i ≤ j)) h) := tb_of (by rw [bin_of e1 e2]; rfl)
theorem gt_of (e1 : a τ h = some (.ok (.d (.int i)) h)) (e2 : b τ h = some (.ok (.d (.int j)) h)) : mTB (mBin gGt a b) τ h = some (.ok (decide (j < i)) h) := tb_of (by rw [bin_of e1 e2]; rfl)
theorem ge_of (e1 : a τ h = some (.ok (.d (.int i)) h)) (e2 : b τ h = some (.ok (.d (.int j)) h)) : mTB (mBin gGe a b) τ h = some (.ok (decide (j ≤ i)) h) := tb_of (by rw [bin_of e1 e2]; rfl)
theorem eqi_of (e1 : a τ h = some (.ok (.d (.int i)) h)) (e2 : b τ h = some (.ok (.d (.int j)) h)) : mBin (gEq false) a b τ h = some (.ok (.d (.bl (decide (i = j)))) h) := by
  rw [bin_of e1 e2]
  unfold gEq g2V view
  rw [vw_d, vw_d]
  dsimp only
  rw [eqD_int, if_neg (by simp)]
theorem nei_of (e1 : a τ h = some (.ok (.d (.int i)) h)) (e2 : b τ h = some (.ok (.d (.int j)) h)) : mBin (gEq true) a b τ h = some (.ok (.d (.bl (!decide (i = j)))) h) := by
  rw [bin_of e1 e2]
  unfold gEq g2V view
  rw [vw_d, vw_d]
  dsimp only
  rw [eqD_int, if_pos rfl]
/-- a comparison by the data of both sides -/
theorem eqv_of {n r : Bool} {x y : A} {d e : D} {h2 : Hq} (e1 : a τ h = some (.ok x h1)) (e2 : b τ h1 = some (.ok y h2)) (v1 : view h2 x = some d) (v2 : view h2 y = some e) (q : eqD n d e = some r) : mBin (gEq n) a b τ h = some (.ok (.d (.bl r)) h2) := by
  rw [bin_of e1 e2]
  unfold gEq g2V
  rw [v1, v2]
  dsimp only
  rw [q]
theorem mul1_of {m : Nat} {i j : Int} (h1 : i.natAbs < 2 ^ 64) (h2 : j.natAbs < 2 ^ 64) : mulOk i j = true := mul_small h1 h2
theorem dm_of {j : Nat} {i a b : Int} (e : τ[j]? = some (some (.d (.int i)))) (ha : divOk i a = true) (hb : 0 < b) : mBin gMod (mBin gDiv (mVar j) (mC (.int a))) (mC (.int b)) τ h = some (.ok (.d (.int (i / a % b))) h) := mod_of (div_of (var_of e) rfl ha) rfl hb
theorem tru_bl {m : E A} {b : Bool} (e : m τ h = some (.ok (.d (.bl b)) h1)) : mNotT (mTru m) τ h = some (.ok (!b) h1) := by
  unfold mNotT mTru
  rw [e, bd_ok]
  rfl
theorem and_ff {a b : E Bool} (k : Bool) (e1 : a τ h = some (.ok k h)) (e2 : b τ h = some (.ok false h1)) : ∃ h2, mAndT a b τ h = some (.ok false h2) ∧ (h2 = h ∨ h2 = h1) := by
  unfold mAndT
  rw [e1, bd_ok]
  cases k with
  | true => exact ⟨h1, e2, .inr rfl⟩
  | false => exact ⟨h, rfl, .inl rfl⟩
theorem and_of {a b : E Bool} {k l : Bool} (e1 : a τ h = some (.ok k h)) (e2 : b τ h = some (.ok l h)) : mAndT a b τ h = some (.ok (k && l) h) := by
  unfold mAndT
  rw [e1, bd_ok]
  cases k with
  | true => exact e2
  | false => rfl
theorem or_of {a b : E Bool} {k l : Bool} (e1 : a τ h = some (.ok k h)) (e2 : b τ h = some (.ok l h)) : mOrT a b τ h = some (.ok (k || l) h) := by
  unfold mOrT
  rw [e1, bd_ok]
  cases k with
  | true => rfl
  | false => exact e2
theorem orff_of {a b : E Bool} {l : Bool} {h2 : Hq} (e1 : a τ h = some (.ok false h1)) (e2 : b τ h1 = some (.ok l h2)) : mOrT a b τ h = some (.ok l h2) := by
  unfold mOrT
  rw [e1, bd_ok]
  exact e2
end
theorem lc_of {o : Bool} {mi : E Nxt} {g : A → Sl → Hq → Option Sl} {me : E A} {vs : List Nat} {τ : Sl} {h h1 : Hq} {ws : List A} (f : A → A) (e : mi τ h = some (.ok (nxL ws) h1)) (hs : ∀ w ∈ ws, ∃ τ1, g w (wipeT τ vs) h1 = some τ1 ∧ me τ1 h1 = some (.ok (f w) h1)) (hl : ws.length ≤ LIM) : mLC o mi g mYes me vs τ h = mkL o (ws.map f) h1 := by
  unfold mLC
  rw [e, bd_ok]
  rw [compL_map f hs hl]
  dsimp only
  rw [if_pos (by rw [List.length_map]; exact hl)]
/-! ### loops, a turn at a time -/
theorem while_tt {t : E Bool} {mb : MS} {n : Nat} {τ τ2 : Sl} {h h1 h2 : Hq} (e : t τ h = some (.ok true h1)) (e2 : mb τ h1 = some (.nx τ2 h2)) : mWhile t mb (n + 1) τ h = mWhile t mb n τ2 h2 := by
  unfold mWhile
  rw [e, sb_ok]
  dsimp only
  rw [e2]
  cases n <;> rfl
theorem while_bk {t : E Bool} {mb : MS} {n : Nat} {τ τ2 : Sl} {h h1 h2 : Hq} (e : t τ h = some (.ok true h1)) (e2 : mb τ h1 = some (.bk τ2 h2)) : mWhile t mb (n + 1) τ h = some (.nx τ2 h2) := by
  unfold mWhile
  rw [e, sb_ok]
  dsimp only
  rw [e2]
theorem while_ff {t : E Bool} {mb : MS} {n : Nat} {τ : Sl} {h h1 : Hq} (e : t τ h = some (.ok false h1)) : mWhile t mb (n + 1) τ h = some (.nx τ h1) := by
  unfold mWhile
  rw [e, sb_ok]
theorem for_step {nx : Nxt} {g : A → Sl → Hq → Option Sl} {mb : MS} {f i : Nat} {w : A} {τ τ1 τ2 : Sl} {h h2 : Hq} (e : nx i h = some (some w)) (e1 : g w τ h = some τ1) (e2 : mb τ1 h = some (.nx τ2 h2)) : forM nx g mb (f + 1) i τ h = forM nx g mb f (i + 1) τ2 h2 := by
  unfold forM
  rw [e]
  dsimp only
  rw [e1]
  dsimp only
  rw [e2]
  cases f <;> rfl
theorem for_rt {nx : Nxt} {g : A → Sl → Hq → Option Sl} {mb : MS} {f i : Nat} {w u : A} {τ τ1 : Sl} {h h2 : Hq} (e : nx i h = some (some w)) (e1 : g w τ h = some τ1) (e2 : mb τ1 h = some (.rt u h2)) : forM nx g mb (f + 1) i τ h = some (.rt u h2) := by
  unfold forM
  rw [e]
  dsimp only
  rw [e1]
  dsimp only
  rw [e2]
theorem for_ex {nx : Nxt} {g : A → Sl → Hq → Option Sl} {mb : MS} {f i : Nat} {w : A} {x : Xc} {τ τ1 τ2 : Sl} {h h2 : Hq} (e : nx i h = some (some w)) (e1 : g w τ h = some τ1) (e2 : mb τ1 h = some (.ex x τ2 h2)) : forM nx g mb (f + 1) i τ h = some (.ex x τ2 h2) := by
  unfold forM
  rw [e]
  dsimp only
  rw [e1]
  dsimp only
  rw [e2]
theorem seq_bk {m1 m2 : MS} {τ τ1 : Sl} {h h1 : Hq} (e : m1 τ h = some (.bk τ1 h1)) : mSeq m1 m2 τ h = some (.bk τ1 h1) := by
  unfold mSeq
  rw [e]
theorem seq_ex {m1 m2 : MS} {x : Xc} {τ τ1 : Sl} {h h1 : Hq} (e : m1 τ h = some (.ex x τ1 h1)) : mSeq m1 m2 τ h = some (.ex x τ1 h1) := by
  unfold mSeq
  rw [e]
theorem seq_assoc {a b c : MS} {τ : Sl} {h : Hq} : mSeq (mSeq a b) c τ h = mSeq a (mSeq b c) τ h := by
  unfold mSeq
  cases a τ h with
  | none => rfl
  | some r => cases r <;> rfl
theorem setex_of {τ : Sl} {h h1 : Hq} {i : Nat} {x : Xc} {m : E A} (e : m τ h = some (.ex x h1)) : mSet i m τ h = some (.ex x τ h1) := by
  unfold mSet
  rw [e, sb_ex]
theorem runB_ex {np n : Nat} {m : MS} {ws : List A} {x : Xc} {τ : Sl} {h h1 : Hq} (hl : ws.length = np) (e : m (startT n ws) h = some (.ex x τ h1)) : runB np n m ws h = some (.ex x h1) := by
  unfold runB
  rw [if_pos hl, e]
/-! ### lists of ints compared -/
theorem LI_fok (xs : List Int) : (xs.map D.int).all D.fok = true := by
  rw [List.all_map]
  exact List.all_eq_true.mpr fun _ _ => rfl
theorem eqvAll_ints : ∀ (xs ys : List Int), PyData.eqvAll (D.toPs (xs.map D.int)) (D.toPs (ys.map D.int)) = decide (xs = ys)
  | [], [] => rfl
  | [], _ :: _ => rfl
  | _ :: _, [] => rfl
  | x :: xs, y :: ys => by
    show (PyData.eqv (D.int x).toP (D.int y).toP && PyData.eqvAll (D.toPs (xs.map D.int)) (D.toPs (ys.map D.int))) = _
    rw [eqvAll_ints xs ys, show PyData.eqv (D.int x).toP (D.int y).toP = decide (x = y) from rfl, Bool.eq_iff_iff]
    simp
theorem eqv_LD (xs ys : List Int) : D.eqv (LD xs) (LD ys) = decide (xs = ys) := eqvAll_ints xs ys
theorem shp_LD (xs : List Int) : (LD xs).shp = true := shp_lst (LI_fok xs)
theorem eqD_LD (n : Bool) (xs ys : List Int) : eqD n (LD xs) (LD ys) = some (if n then !decide (xs = ys) else decide (xs = ys)) := by
  unfold eqD
  rw [shp_LD, shp_LD, eqv_LD]
  rfl
theorem view_LI {h : Hq} {k : Nat} {xs : List Int} (e : h[k]? = some (.lst (LI xs))) : view h (.r k) = some (LD xs) := view_lst e
theorem pick2 (a b i : Int) (h : Hq) (h0 : 0 ≤ i) (h3 : i < 2) : ∃ v, gGet (.d (.lst [.int a, .int b])) (.d (.int i)) h = some (.ok (.d (.int v)) h) ∧ (v = a ∨ v = b) := by
  rcases (by omega : i = 0 ∨ i = 1) with e | e
  · exact ⟨a, by rw [e]; rfl, .inl rfl⟩
  · exact ⟨b, by rw [e]; rfl, .inr rfl⟩
theorem lays_ints : ∀ (ns : List Int), PyData.canLayAll0 (ns.map PyData.int) = true ∧ PyData.depthAll (ns.map PyData.int) = 0
  | [] => ⟨rfl, rfl⟩
  | n :: r => by
    obtain ⟨h1, h2⟩ := lays_ints r
    constructor
    · show ((PyData.int n).canLay0 && PyData.canLayAll0 (r.map PyData.int)) = true
      rw [h1]
      rfl
    · show max (PyData.int n).depth (PyData.depthAll (r.map PyData.int)) = 0
      rw [h2]
      rfl
theorem shp_scr (ns : List Int) : (D.scr ns).shp = true := by
  obtain ⟨h1, h2⟩ := lays_ints ns
  show (PyData.canLayAll0 (ns.map PyData.int) && decide (PyData.depthAll (ns.map PyData.int) + 1 ≤ 64)) = true
  rw [h1, h2]
  rfl
/-! ### a list of lists of ints -/
abbrev LLD (rs : List (List Int)) : D := .lst (rs.map LD)
theorem lays_LD (xs : List Int) : (LD xs).toP.canLay0 = true ∧ (LD xs).toP.depth ≤ 1 := by
  obtain ⟨h1, h2⟩ := lays_fok (LI_fok xs)
  constructor
  · show PyData.canLayAll0 (D.toPs (xs.map D.int)) = true
    exact h1
  · show PyData.depthAll (D.toPs (xs.map D.int)) + 1 ≤ 1
    rw [h2]
    exact Nat.le_refl _
theorem lays_LLs : ∀ (rs : List (List Int)), PyData.canLayAll0 (D.toPs (rs.map LD)) = true ∧ PyData.depthAll (D.toPs (rs.map LD)) ≤ 1
  | [] => ⟨rfl, Nat.zero_le _⟩
  | r :: rs => by
    obtain ⟨h1, h2⟩ := lays_LD r
    obtain ⟨h3, h4⟩ := lays_LLs rs
    constructor
    · show ((LD r).toP.canLay0 && PyData.canLayAll0 (D.toPs (rs.map LD))) = true
      rw [h1, h3]
      rfl
    · show max (LD r).toP.depth (PyData.depthAll (D.toPs (rs.map LD))) ≤ 1
      exact Nat.max_le.mpr ⟨h2, h4⟩
/-- a pair of a list of lists and an int -/
theorem shp_told (rs : List (List Int)) (n : Int) : (D.tup [LLD rs, .int n]).shp = true := by
  obtain ⟨h1, h2⟩ := lays_LLs rs
  have hd : (D.tup [LLD rs, .int n]).toP.depth ≤ 64 := by
    show max (PyData.depthAll (D.toPs (rs.map LD)) + 1) (max 0 0) + 1 ≤ 64
    omega
  show ((PyData.canLayAll0 (D.toPs (rs.map LD)) && (PyData.canLayAll0 (D.toPs [.int n]))) && decide ((D.tup [LLD rs, .int n]).toP.depth ≤ 64)) = true
  rw [h1, decide_eq_true hd]
  rfl
end Tq

set_option maxHeartbeats 1000000
/-! TqS: sorted(xs, key=f) over Inv, f an own def: the sorts' machine of KE/SortKeyed, told over HandS. -/
namespace L2
open PySem PySem.Spec PySem.W PyProof.Rows

abbrev emptyL (e : Nat) : Obj := seqObj "list" #[] e
section
variable {X : Cx} {pins : List (Addr × Obj)} {σ : St} {H : Hp} {s : Shared} {D kS : Addr} {e1 : Nat}
/-- a pinned list becomes a tracked one -/
theorem Inv.adopt {n : Nat} {its : List Value} {ys : List V} {t' : Nat} (I : Inv X ((D, seqObj "list" #[] n) :: pins) σ H s) (h0 : X.s_0.heap.objs.size ≤ D) (hc : ∀ x c, X.env.cells.lookup x = some c → c ≠ D) (hp : ∀ p ∈ X.pn ++ pins, p.1 ≠ D)
    (hv : Vals ys its) (hz : ys.length ≤ sizeLine) : Inv X pins σ (upd H D (.lst ys)) { s with heap := s.heap.update D (Obj.mapSeq fun _ => its.toArray), toks := t' } := by
  obtain ⟨eD, nD, neL, nfs, _⟩ := I.pin (D, seqObj "list" #[] n) (List.mem_append_right _ (List.mem_cons_self ..))
  have eD : s.heap.get? D = some (seqObj "list" #[] n) := eD
  have nD : H D = none := nD
  have k : ∀ b o, b ≠ D → s.heap.get? b = some o → (s.heap.update D (Obj.mapSeq fun _ => its.toArray)).get? b = some o := fun b o hb e => (Heap.get?_update_other s.heap _ (Ne.symm hb)).trans e
  have I0 : Inv X pins σ H s := I.pins_of fun p hp' => I.pin p (List.mem_append_right _ (List.mem_cons_of_mem _ hp'))
  have nit : ∀ b u, H b = some u → b ≠ D := fun b u e z => by rw [z, nD] at e; cases e
  have eD2 := get?_update_seq eD (fun _ => its.toArray)
  refine I0.step (g' := s.gens) (d' := s.drawn) (ch := [D]) (fun b hb => ?_) (fun b o _ _ hc e _ => k b o (fun z => hc (by simp [z])) e) (fun b o _ _ hc e _ => ⟨o.slots, k b o (fun z => hc (by simp [z])) e⟩)
    (fun b o hc _ n => by rw [upd_ne fun z => hc (by simp [z])]; exact n) (fun b o hc e => ⟨o, k b o (fun z => hc (by simp [z])) e⟩) (fun b xs e => by rw [upd_ne (nit b _ e)]; exact e) (fun b o u e => by rw [upd_ne (nit b _ e)]; exact e) (fun b ps e => ⟨#[], by rw [upd_ne (nit b _ e), e]; simp⟩) (fun m hm => ?_) (fun b u e => ?_) I0.bare
  · have e : b = D := by simpa using hb
    subst e
    exact ⟨.inr h0, neL, hc, hp⟩
  · obtain ⟨o, es, ep, ho, r⟩ := hm
    exact ⟨o, es, ep, k _ o (Ne.symm neL) ho, r⟩
  · by_cases hb : b = D
    · subst hb
      rw [upd_same] at e
      cases e
      exact ⟨hz, its, _, hv, eD2⟩
    · rw [upd_ne hb] at e
      refine (I0.hok b u e).stay (fun c v hc q => k c v ?_ q) (fun c q => by rw [upd_ne (nit c _ q)]; exact q) fun c xs q => by rw [upd_ne (nit c _ q)]; exact q
      rcases hc with z | z
      · rw [z]; exact hb
      · exact nit c _ z
end
/-- list.sort's end -/
theorem sk_tail {X : Cx} {A : Around} {E : Value → Shared → Prop} {P : PySem.Fin → Shared → Prop} {pins : List (Addr × Obj)} {σ : St} {H : Hp} {s : Shared} {D kS : Addr} {e1 : Nat} {st : SortSt} {out : List Value} {ys ks : List V}
    (I : Inv X ((D, seqObj "list" #[] e1) :: pins) σ H s) (h0 : X.s_0.heap.objs.size ≤ D) (hc : ∀ x c, X.env.cells.lookup x = some c → c ≠ D) (hp : ∀ p ∈ X.pn ++ pins, p.1 ≠ D) (hk : H kS = some (.lst ks))
    (hv : Vals ys out) (hz : ys.length ≤ sizeLine) (hfl : failedOf st = none) (ho : (arrOf st).map (·.2) = out.toArray)
    (h : ∀ s', Inv X pins σ (upd (upd H kS (.lst [])) D (.lst ys)) s' → P (.done (.ret .none)) s') : wpAny (model X.prog X.w) A (ksk_tail D false e1 (.ref kS) st) P E s := by
  obtain ⟨z, its, n, r, hl, e⟩ := I.lstM hk
  unfold ksk_tail
  try dsimp only
  rw [ho]
  refine wpAny_bind (listUpdate_at e rfl ?_ (by rw [List.size_toArray, ← hl]; exact z) (Nat.zero_le _))
  have I1 := I.lset (f := fun _ => (#[] : Array Value)) (its' := []) (ys := []) (t' := s.toks) hk e rfl .nil (Nat.zero_le _)
  obtain ⟨eD, _⟩ := I1.pin (D, seqObj "list" #[] e1) (List.mem_append_right _ (List.mem_cons_self ..))
  refine wpAny_bind (wpAny_letGo ?_)
  refine wpAny_bind (seqEpoch_at eD rfl ?_)
  refine wpAny_bind (listUpdate_at eD rfl ?_ (Nat.zero_le _) (by rw [if_neg (by decide), List.size_toArray, ← hv.length]; omega))
  rw [hfl]
  simp only [bne_self_eq_false, Bool.false_eq_true, if_false]
  exact wpAny_pure (h _ (I1.adopt (t' := s.toks) h0 hc hp hv hz))
theorem sk_end {X : Cx} {A : Around} {E : Value → Shared → Prop} {P : PySem.Fin → Shared → Prop} {pins : List (Addr × Obj)} {σ : St} {H : Hp} {s : Shared} {D kS : Addr} {e1 : Nat} {ys ks : List V} {κ : PyProof.Rows.KeyKind} {keys : Array Value} {vs : List Value}
    (I : Inv X ((D, seqObj "list" #[] e1) :: pins) σ H s) (h0 : X.s_0.heap.objs.size ≤ D) (hc : ∀ x c, X.env.cells.lookup x = some c → c ≠ D) (hp : ∀ p ∈ X.pn ++ pins, p.1 ≠ D) (hk : H kS = some (.lst ks))
    (S : SortsAt X.prog X.w A s κ keys.toList) (hsz : keys.size = vs.length) (hZ : vs.length ≤ sizeLine) (hv : Vals ys (sortVals κ false keys.toList vs))
    (h : ∀ s', Inv X pins σ (upd (upd H kS (.lst [])) D (.lst ys)) s' → P (.done (.ret .none)) s') : wpAny (model X.prog X.w) A (ksk_end D false vs.toArray e1 (.ref kS) keys) P E s := by
  obtain ⟨kd, h1, h2⟩ := S.kind
  have hkl : keys.toList.length = vs.length := by
    rw [Array.length_toList]
    exact hsz
  have hK : PyProof.Rows.KeysOf κ (keys.zip vs.toArray) := keysOf_zip S.keys
  have hol : (sortVals κ false keys.toList vs).length = vs.length := sortVals_length false hkl
  have hyl : ys.length ≤ sizeLine := by rw [hv.length, hol]; exact hZ
  have hss : (keys.zip vs.toArray).size = vs.length := by rw [Array.size_zip, hsz, List.size_toArray, Nat.min_self]
  have fin : ∀ st' : SortSt, (arrOf st').Perm (keys.zip vs.toArray) → SortedToK κ (arrOf st') (keys.zip vs.toArray).size → Stable κ (arrOf st') (keys.zip vs.toArray) → (arrOf st').map (·.2) = (sortVals κ false keys.toList vs).toArray := by
    intro st' hp hs ht
    have e := sort_out (rev := false) (keys := keys) (items := vs.toArray) (xs := arrOf st') (κ := κ) hK hp hs ht
    have e' := congrArg List.toArray e
    rw [Array.toArray_toList] at e'
    exact e'
  unfold ksk_end
  try dsimp only
  rw [if_neg (by decide)]
  by_cases hl2 : vs.toArray.size < 2
  · rw [if_pos hl2, if_pos hl2]
    refine wpAny_bind (wpAny_pure ?_)
    rw [StateT.run_pure]
    refine wpAny_bind (wpAny_pure ?_)
    try dsimp only
    refine sk_tail (st := SortSt.mk' general' (keys.zip vs.toArray) #[] 7 none) I h0 hc hp hk hv hyl rfl (fin _ (Array.Perm.refl _) ?_ (Stable.refl _)) h
    intro i j hij hj
    rw [hss] at hj
    rw [List.size_toArray] at hl2
    have : i = j := by omega
    subst this
    exact KeyOrd.kle_refl _
  · rw [if_neg hl2, if_neg hl2]
    rw [List.size_toArray] at hl2
    refine wpAny_bind (h2 (by omega) _ ?_)
    refine wpAny_bind (wpAny_mono (PyProof.Rows.H.wpS_sortRunsSt (κ := κ) (kd := kd) (a₀ := keys.zip vs.toArray)
      (st := SortSt.mk' kd (keys.zip vs.toArray) #[] 7 none)
      (Q := fun _ st' => failedOf st' = none ∧ (arrOf st').map (·.2) = (sortVals κ false keys.toList vs).toArray)
      h1 hK ⟨Array.Perm.refl _, rfl, rfl⟩ rfl (Stable.refl _) (by rw [hss]; omega) fun st' a1 a2 a3 a4 => ⟨a2, fin st' a1 a3 a4⟩) ?_ fun _ _ e => e)
    rintro ⟨⟨⟩, st'⟩ s' ⟨rfl, hf, ho⟩
    try dsimp only at ho ⊢
    exact sk_tail I h0 hc hp hk hv hyl hf ho h
theorem vals_get : ∀ {xs : List V} {us : List Value}, Vals xs us → ∀ {i : Nat} {u : Value}, us[i]? = some u → ∃ v, xs[i]? = some v ∧ RelV v u
  | _, _, .nil, i, u, h => by simp at h
  | _, _, .cons r t, 0, u, h => by cases h; exact ⟨_, rfl, r⟩
  | _, _, .cons r t, i + 1, u, h => vals_get t (by simpa using h)
theorem each_reads {X : Cx} {pins : List (Addr × Obj)} {σ : St} {H : Hp} {s : Shared} (I : Inv X pins σ H s) : ∀ {ks : List V} {us : List Value} {kz : List PyData}, Vals ks us → EachIs (fun v d => Dp X.K H v d) ks kz → EachIs (fun v k => ∃ as, Reads s.heap v k as) us kz
  | _, _, _, .nil, .nil => .nil
  | _, _, _, .cons r t, .cons h hs => .cons (Dp.reads I _ _ _ h r) (each_reads I t hs)
/-- R of the items by their values -/
theorem each_rel : ∀ {xs : List V} {us : List Value} {kz : List PyData}, Vals xs us → kz.length = xs.length → EachIs (fun u (b : V × PyData) => RelV b.1 u) us (xs.zip kz)
  | _, _, _, .nil, _ => by
    rw [List.zip_nil_left]
    exact .nil
  | _, _, [], .cons r t, h => by simp at h
  | _, _, k :: kz, .cons r t, h => .cons r (each_rel t (by simpa using h))
theorem vals_of_each : ∀ {us : List Value} {bs : List (V × PyData)}, EachIs (fun u (b : V × PyData) => RelV b.1 u) us bs → Vals (bs.map (·.1)) us
  | _, _, .nil => .nil
  | _, _, .cons h t => .cons h (vals_of_each t)
def byKey (xs : List V) (kz : List PyData) : List V := ((xs.zip kz).mergeSort (dataLe false Prod.snd)).map (·.1)
/-- the keys are asked, then the sort -/
theorem sk_rest {X : Cx} {A : Around} {E : Value → Shared → Prop} {P : PySem.Fin → Shared → Prop} {pins : List (Addr × Obj)} {σ : St} {H : Hp} {s : Shared} {D kS : Addr} {e1 : Nat} {xs : List V} {vs : List Value} {kz : List PyData} {f : Value} (J : Nat → Hp → List V → Prop)
    (I : Inv X ((D, seqObj "list" #[] e1) :: pins) σ H s) (h0 : X.s_0.heap.objs.size ≤ D) (hc : ∀ x c, X.env.cells.lookup x = some c → c ≠ D) (hp : ∀ p ∈ X.pn ++ pins, p.1 ≠ D) (hk : H kS = some (.lst []))
    (hxv : Vals xs vs) (hlen : kz.length = xs.length) (hZ : vs.length ≤ sizeLine) (hal : AllAlike kz) (hsk : Sortable kz) (hu : ∀ d, d ∈ kz → A.units + d.depth < cLine) (j0 : J 0 H [])
    (turn : ∀ (i : Nat) (v : V) (u : Value) (H1 : Hp) (ks : List V) (s1 : Shared), xs[i]? = some v → RelV v u → ks.length = i → H1 kS = some (.lst ks) → J i H1 ks → Inv X ((D, seqObj "list" #[] e1) :: pins) σ H1 s1 →
      wpAny (model X.prog X.w) A (call f [u]) (fun r s2 => ∃ y H2, Inv X ((D, seqObj "list" #[] e1) :: pins) σ H2 s2 ∧ RelV y r ∧ H2 kS = some (.lst ks) ∧ J (i + 1) (upd H2 kS (.lst (ks ++ [y]))) (ks ++ [y])) (fun _ _ => False) s1)
    (keys : ∀ H1 ks, J xs.length H1 ks → EachIs (fun v d => Dp X.K H1 v d) ks kz)
    (h : ∀ s' H1 ks, J xs.length H1 ks → H1 D = none → H1 kS = some (.lst ks) → Inv X pins σ (upd (upd H1 kS (.lst [])) D (.lst (byKey xs kz))) s' → P (.done (.ret .none)) s') :
    wpAny (model X.prog X.w) A (ksk_rest D f false vs.toArray e1 (.ref kS)) P E s := by
  have hxl := hxv.length
  unfold ksk_rest
  refine wpAny_bind (wpAny_rule ?_)
  first
    | rw [List.forIn_toArray]
    | (rw [← Array.forIn_toList]; simp only [List.toList_toArray])
    | rw [← Array.forIn_toList]
  refine wpAny_bind (ksk_fold (fun i s' => ∃ H1 ks, ks.length = i ∧ H1 kS = some (.lst ks) ∧ J i H1 ks ∧ Inv X ((D, seqObj "list" #[] e1) :: pins) σ H1 s') vs 0 s
    ⟨H, [], rfl, hk, j0, I⟩ ?step ?done)
  case step =>
    rintro j x s' hx ⟨H1, ks, hl, hk1, j1, I1⟩
    simp only [Nat.zero_add] at hl j1 ⊢
    obtain ⟨v, hv, rv⟩ := vals_get hxv hx
    refine wpAny_bind (wpAny_attempt (wpAny_mono (turn j v x H1 ks s' hv rv hl hk1 j1 I1) (fun r s2 he => ?_) fun _ _ hF => hF.elim))
    obtain ⟨y, H2, I2, ry, hk2, j2⟩ := he
    try dsimp only
    obtain ⟨z, its, n, r2, hl2, e2⟩ := I2.lstM hk2
    have hj : j < vs.length := (List.getElem?_eq_some_iff.mp hx).1
    refine wpAny_bind (listUpdate_at e2 rfl ?_ (by rw [List.size_toArray]; omega) (by rw [Array.size_push, List.size_toArray]; omega))
    refine wpAny_pure ⟨rfl, _, ks ++ [y], by rw [List.length_append, hl]; rfl, upd_same .., j2, I2.lset (f := fun a => a.push r) (its' := its ++ [r]) (t' := s2.toks) hk2 e2 (by simp) (r2.append (.cons ry .nil)) (by rw [List.length_append, List.length_singleton]; omega)⟩
  case done =>
    rintro s' ⟨H1, ks, hl, hk1, j1, I1⟩
    simp only [Nat.zero_add] at hl j1
    rw [← hxl] at j1 hl
    obtain ⟨z, its, n, r1, hl1, ee⟩ := I1.lstM hk1
    have hk' := each_reads I1 r1 (keys H1 ks j1)
    try dsimp only
    refine wpAny_bind (listItems_at ee rfl ?_)
    have S := SortsAt.data (prog := X.prog) (w := X.w) (A := A) (s := s') (vs := its) hk' hal hsk hu
    refine sk_end (κ := dataKind s'.heap kz) (ys := byKey xs kz) I1 h0 hc hp hk1 (by simpa using S) (by rw [List.size_toArray]; omega) hZ ?_ fun s2 I2 => h s2 H1 ks j1 (I1.pin (D, seqObj "list" #[] e1) (List.mem_append_right _ (List.mem_cons_self ..))).2.1 hk1 I2
    have ko : KeyedOut false ((xs.zip kz).map Prod.snd) vs (sortVals (dataKind s'.heap kz) false its.toArray.toList vs) := by
      rw [List.map_snd_zip (by omega)]
      exact ⟨s'.heap, its, hal, by simp, hk'⟩
    exact vals_of_each (keyedOut_each Prod.snd ko (each_rel hxv hlen))
/-- sorted(xs, key=f) -/
theorem sk_sorted {X : Cx} {E : Value → Shared → Prop} {Q : VK} {pins : List (Addr × Obj)} {σ : St} {H : Hp} {s : Shared} {xs : List V} {kz : List PyData} {l f : Addr} (J : Addr → Nat → Hp → List V → Prop)
    (I : Inv X pins σ H s) (hs : SqL X.K H l xs) (hlen : kz.length = xs.length) (hal : AllAlike kz) (hsk : Sortable kz) (hu : ∀ d, d ∈ kz → X.A.units + 2 + d.depth < cLine) (j0 : ∀ kS, H kS = none → J kS 0 (upd H kS (.lst [])) [])
    (turn : ∀ (kS : Addr) (i : Nat) (v : V) (u : Value) (H1 : Hp) (ks : List V) (s1 : Shared) (pins' : List (Addr × Obj)), xs[i]? = some v → RelV v u → ks.length = i → H1 kS = some (.lst ks) → J kS i H1 ks → Inv X pins' σ H1 s1 →
      wpAny (model X.prog X.w) X.A.in1.in1 (call (.ref f) [u]) (fun r s2 => ∃ y H2, Inv X pins' σ H2 s2 ∧ RelV y r ∧ H2 kS = some (.lst ks) ∧ J kS (i + 1) (upd H2 kS (.lst (ks ++ [y]))) (ks ++ [y])) (fun _ _ => False) s1)
    (keys : ∀ kS H1 ks, J kS xs.length H1 ks → EachIs (fun v d => Dp X.K H1 v d) ks kz)
    (q : ∀ kS D H1 ks, J kS xs.length H1 ks → H1 D = none → H1 kS = some (.lst ks) → Q (.ref D) (upd (upd H1 kS (.lst [])) D (.lst (byKey xs kz)))) :
    wpAny (model X.prog X.w) X.A (call (.builtin "sorted") [.ref l] [(Str.ofString "key", .ref f)]) (EP X pins σ Q) E s := by
  obtain ⟨its, rv, hl, hz⟩ := I.list hs
  have hZ : its.length ≤ sizeLine := by rw [← rv.length]; exact hz
  refine sorted_of_sort hl.isList hZ (ksk_s1 _ _) (fun _ => ksk_l1 _ _) fun E' => ?_
  rw [ksk_t1]
  have I1 : Inv X pins σ H { s with heap := copyHeap s.heap its } := I.kept (t' := s.toks) fun _ _ => copyHeap_old
  have ho := copyHeap_at s.heap its
  have nD : H (s.heap.objs.size + 1) = none := I.hok.fresh (Nat.le_succ _)
  have nL : s.heap.objs.size + 1 ≠ X.env.locals := Nat.ne_of_gt (Nat.lt_succ_of_lt I.lt)
  have nfs : s.heap.objs.size + 1 ∉ X.fs := I.nofs (Nat.le_succ _)
  have h0 : X.s_0.heap.objs.size ≤ s.heap.objs.size + 1 := Nat.le_trans I.sz (Nat.le_succ _)
  have hc : ∀ x c, X.env.cells.lookup x = some c → c ≠ s.heap.objs.size + 1 := fun x c e => by
    obtain ⟨v, o, ho, _⟩ := I.cell x c e
    exact Nat.ne_of_lt (Nat.lt_succ_of_lt (Heap.lt_size ho))
  have hp : ∀ p ∈ X.pn ++ pins, p.1 ≠ s.heap.objs.size + 1 := fun p hp => Nat.ne_of_lt (Nat.lt_succ_of_lt (Heap.lt_size (I.pin p hp).1))
  generalize hD : s.heap.objs.size + 1 = D at ho nD nL nfs h0 hc hp
  unfold ksk_tree
  refine wpAny_bind (listItems_at ho rfl ?_)
  refine wpAny_bind (listUpdate_at ho rfl ?_ (by rw [List.size_toArray]; exact hZ) (Nat.zero_le _))
  obtain ⟨e1, ho1⟩ : ∃ e1, ((copyHeap s.heap its).update D (Obj.mapSeq fun _ => (#[] : Array Value))).get? D = some (seqObj "list" #[] e1) := ⟨_, get?_update_seq ho fun _ => #[]⟩
  have I2 : Inv X pins σ H { s with heap := (copyHeap s.heap its).update D (Obj.mapSeq fun _ => (#[] : Array Value)) } := I1.turned (t' := s.toks) (fun b o hb e => (Heap.get?_update_other _ _ (Ne.symm hb)).trans e) nD nL (.inr h0) hc hp
  refine wpAny_bind (seqEpoch_at ho1 rfl ?_)
  refine wpAny_bind (wpAny_newTuple ?_ (by show its.length ≤ _; exact hZ))
  refine wpAny_bind (wpAny_newList ?_ (Nat.zero_le _))
  refine wpAny_holding ?_
  generalize hh2 : (copyHeap s.heap its).update D (Obj.mapSeq fun _ => (#[] : Array Value)) = h2 at ho1 I2
  have I3 : Inv X pins σ H { s with heap := h2.push { cls := .type "tuple", data := .seq its.toArray } } := I2.kept (t' := s.toks) fun _ _ e => Heap.get?_push_of_some _ e
  have ho3 : (h2.push { cls := .type "tuple", data := .seq its.toArray }).get? D = some (seqObj "list" #[] e1) := Heap.get?_push_of_some _ ho1
  have I4 : Inv X ((D, seqObj "list" #[] e1) :: pins) σ H { s with heap := h2.push { cls := .type "tuple", data := .seq its.toArray } } := I3.pins_of fun p hp' => by
    rcases List.mem_cons.mp hp' with rfl | hp'
    · exact ⟨ho3, nD, nL, nfs, fun v => by intro z; cases z⟩
    · exact I3.pin p (List.mem_append_right _ hp')
  have nk := I4.fresh
  have I5 := I4.lnew (its := []) (ys := []) (t' := s.toks) .nil (Nat.zero_le _)
  refine sk_rest (E := E') (J ((h2.push { cls := .type "tuple", data := .seq its.toArray }).objs.size)) I5 h0 hc hp (upd_same ..) rv hlen hZ hal hsk (fun d hd => hu d hd) (j0 _ nk) (fun i v u H1 ks s1 a1 a2 a3 a4 a5 a6 => turn _ i v u H1 ks s1 _ a1 a2 a3 a4 a5 a6) (keys _) fun s' H1 ks j1 d1 k1 I6 => ⟨rfl, .ref _, _, I6, ?_, q _ _ H1 ks j1 d1 k1⟩
  rfl
end L2

set_option maxHeartbeats 1000000
/-! Tq14: sorted(xs, key=f): xs data, f an own def whose keys are tuples of ints. -/
namespace Tq
open PySem PySem.Spec PyProof.Rows L2

section
variable {K : PySem.W.Frag} {Z B H : Hp} {ρ : Nat → Option Addr} {h : Hq}
/-- backP, and what stood is not touched -/
theorem Ok.backP2 (ok : Ok K Z B ρ H h) {B' H' : Hp} {ρ' : Nat → Option Addr} {h' : Hq} (ok' : Ok K H B' ρ' H' h') (g : Gr H B (fun _ => none) B' ρ') :
    ∃ B2, Ok K Z B2 ρ H' h ∧ Gr Z B ρ B2 ρ ∧ (∀ v w d, RA K B' ρ' v w → view h' w = some d → Rp K B2 v d) ∧ ∀ a, H a ≠ none → B2 a = B a := by
  let B2 : Hp := fun a => if H a = none then H' a else B a
  have s0 : Same H H' := ok'.zz
  have zn : ∀ a, H a = none → Z a = none := fun a e => by
    cases z : Z a with
    | none => rfl
    | some u => rw [ok.zz a u z] at e; cases e
  have bn : ∀ a, H a = none → B a = none := fun a e => by
    cases z : B a with
    | none => rfl
    | some u => rw [ok.ex a u z] at e; cases e
  have b1 : Same B B2 := fun a o e => by
    show (if H a = none then H' a else B a) = some o
    rw [if_neg (by rw [ok.ex a o e]; simp)]
    exact e
  have b2 : Same B2 H' := fun a o e => by
    have e : (if H a = none then H' a else B a) = some o := e
    split at e
    · exact e
    · exact s0 _ _ (ok.ex a o e)
  have b3 : ∀ a, H a ≠ none → B2 a = B a := fun a e => if_neg e
  have b4 : Same B' B2 := fun a o e => by
    by_cases z : B a = none
    · have hz := g.fz a z (by rw [e]; simp)
      show (if H a = none then H' a else B a) = some o
      rw [if_pos hz]
      exact ok'.ex a o e
    · cases y : B a with
      | none => exact absurd y z
      | some u =>
        have := g.bb a u y
        rw [e] at this
        cases this
        exact b1 a o y
  have gg : Gr Z B ρ B2 ρ := ⟨b1, fun _ _ e => e, fun a e e' => by
    by_cases z : H a = none
    · exact zn a z
    · rw [b3 a z] at e'; exact absurd e e'⟩
  refine ⟨B2, ⟨b2, fun a o e => s0 _ _ (ok.zz a o e), fun k c e => ?_, ok.nj, fun k a e => ?_, ok.up⟩, gg, fun v w d r e => vw_at ok' b4 (fun b hz hb u hu => ?_) _ v w d r e, b3⟩
  · obtain ⟨a, h1, h2⟩ := ok.ce k c e
    refine ⟨a, h1, ?_⟩
    cases h2 with
    | lst e1 e2 e3 e4 => exact .lst (s0 _ _ e1) (e2.mono gg) (by rw [b3 a (by rw [e1]; simp)]; exact e3) e4
    | nd e1 e2 e3 => exact .nd (e1.to fun b _ u e => s0 _ _ e) (e2.mono gg) fun b hb => ⟨by rw [b3 b (e1.own_or.2.2.1 b hb)]; exact (e3 b hb).1, (e3 b hb).2⟩
    | dead e1 => exact .dead e1
  · have := ok.al k a e
    cases z : H a with
    | none => exact absurd z this
    | some u => rw [s0 _ _ z]; simp
  · show (if H b = none then H' b else B b) = some u
    rw [if_pos hz]
    exact hu
/-- an object that is nobody's is left out -/
theorem Ok.less {q : Addr} {xs : List V} (ok : Ok K Z B ρ H h) (hq : H q = some (.lst xs)) (hB : B q = none) (hZ : Z q = none) (hr : ∀ k, ρ k ≠ some q) : Ok K Z B ρ (fun a => if a = q then none else H a) h := by
  have ne : ∀ {P : Hp} {a : Addr} {o : HO}, P q = none → P a = some o → a ≠ q := fun hp e z => by rw [z, hp] at e; cases e
  refine ⟨fun a o e => by rw [if_neg (ne hB e)]; exact ok.ex a o e, fun a o e => by rw [if_neg (ne hZ e)]; exact ok.zz a o e, fun k c e => ?_, ok.nj, fun k a e => ?_, ok.up⟩
  · obtain ⟨a, h1, h2⟩ := ok.ce k c e
    have na : a ≠ q := fun z => hr k (by rw [h1, z])
    refine ⟨a, h1, ?_⟩
    cases h2 with
    | lst e1 e2 e3 e4 => exact .lst (by rw [if_neg na]; exact e1) e2 e3 e4
    | nd e1 e2 e3 =>
      refine .nd (e1.to fun b hb u eb => ?_) e2 e3
      have nb : b ≠ q := fun z => by
        rcases e1.own_or.2.1 b hb with y | y
        · exact na (y.symm.trans z)
        · rw [z, hq] at y; cases y
      rw [if_neg nb]
      exact eb
    | dead e1 => exact .dead e1
  · have na : a ≠ q := fun z => hr k (by rw [e, z])
    rw [if_neg na]
    exact ok.al k a e
end
/-! ### keys -/
def intD : D → Option Int
  | .int i => some i
  | _ => none
/-- a tuple of ints, at least one -/
def keyI : D → Option (Int × List Int)
  | .tup (.int i :: r) => (mapMn intD r).map fun js => (i, js)
  | _ => none
def encI (b : Int × List Int) : PyData := .tuple ((b.1 :: b.2).map PyData.int)
theorem intD_of {ds : List D} {js : List Int} (e : mapMn intD ds = some js) : ds = js.map D.int := by
  induction ds generalizing js with
  | nil => cases e; rfl
  | cons d r ih =>
    unfold mapMn at e
    cases d with
    | int i =>
      dsimp only [intD] at e
      split at e
      · rename_i bs e2
        cases e
        rw [List.map_cons, ih e2]
      · cases e
    | _ => cases e
theorem keyI_of {d : D} {b : Int × List Int} (e : keyI d = some b) : d = .tup ((b.1 :: b.2).map D.int) := by
  unfold keyI at e
  split at e
  · rename_i i r
    obtain ⟨js, e2, rfl⟩ := Option.map_eq_some_iff.mp e
    rw [intD_of e2]
    rfl
  · cases e
theorem toPs_ints : ∀ (js : List Int), D.toPs (js.map D.int) = js.map PyData.int
  | [] => rfl
  | j :: r => congrArg (PyData.int j :: ·) (toPs_ints r)
theorem keyI_toP {d : D} {b : Int × List Int} (e : keyI d = some b) : d.toP = encI b := by
  rw [keyI_of e]
  show PyData.tuple (D.toPs ((b.1 :: b.2).map D.int)) = _
  rw [toPs_ints]
  rfl
theorem keyI_shp {d : D} {b : Int × List Int} (e : keyI d = some b) : d.shp = true := by
  rw [keyI_of e]
  exact shp_tup (by rw [List.all_map]; exact List.all_eq_true.mpr fun _ _ => rfl)
theorem enc_alike (b b' : Int × List Int) : PySem.W.alike (encI b) (encI b') = true := PySem.W.alike_ints _ _
theorem enc_depth (b : Int × List Int) : (encI b).depth ≤ 1 := by
  show PyData.depthAll ((b.1 :: b.2).map PyData.int) + 1 ≤ 1
  rw [PySem.W.depth_ints]
  exact Nat.le_refl _
/-- the key of an item -/
def keyOf (sem : Sem1) (e : D) : Option (Int × List Int) := match sem [.d e] [] with
  | some (.ok u h') => (match view h' u with | some k => keyI k | none => none)
  | _ => none
def byKeyA {α : Type} (ws : List α) (kz : List (Int × List Int)) : List α := ((ws.zip (kz.map encI)).mergeSort (PySem.W.dataLe false Prod.snd)).map (·.1)
def gSortK (o : Bool) (sem : Sem1) : G1 := fun a h => match lstOf h a with
  | some ws => (match allD ws with
    | some es => (match mapMn (keyOf sem) es with
      | some kz => mkL o (byKeyA ws kz) h
      | none => none)
    | none => none)
  | none => none
section
variable {K : PySem.W.Frag} {B : Hp} {ρ : Nat → Option Addr}
theorem ral_len {vs : List V} {ws : List A} (r : RAL K B ρ vs ws) : vs.length = ws.length := r.length
theorem ral_zip : ∀ {vs : List V} {ws : List A}, RAL K B ρ vs ws → ∀ p ∈ vs.zip ws, RA K B ρ p.1 p.2
  | _, _, .nil, _, h => by simp at h
  | _, _, .cons r t, p, h => by
    rw [List.zip_cons_cons] at h
    rcases List.mem_cons.mp h with rfl | h
    · exact r
    · exact ral_zip t p h
theorem ral_unzip : ∀ {l : List ((V × A) × PyData)}, (∀ p ∈ l, RA K B ρ p.1.1 p.1.2) → RAL K B ρ (l.map (·.1.1)) (l.map (·.1.2))
  | [], _ => .nil
  | p :: r, h => .cons (h p (List.mem_cons_self ..)) (ral_unzip fun q hq => h q (List.mem_cons_of_mem _ hq))
theorem zip3 : ∀ (vs : List V) (ws : List A) (ps : List PyData), vs.length = ws.length → vs.zip ps = ((vs.zip ws).zip ps).map (fun p => (p.1.1, p.2)) ∧ ws.zip ps = ((vs.zip ws).zip ps).map (fun p => (p.1.2, p.2))
  | [], [], _, _ => ⟨rfl, rfl⟩
  | [], _ :: _, _, h => by simp at h
  | _ :: _, [], _, h => by simp at h
  | _ :: _, _ :: _, [], _ => ⟨rfl, rfl⟩
  | v :: vs, w :: ws, p :: ps, h => by
    obtain ⟨h1, h2⟩ := zip3 vs ws ps (by simpa using h)
    constructor
    · rw [List.zip_cons_cons, List.zip_cons_cons, List.zip_cons_cons, List.map_cons, ← h1]
    · rw [List.zip_cons_cons, List.zip_cons_cons, List.zip_cons_cons, List.map_cons, ← h2]
theorem ral_byKey {vs : List V} {ws : List A} {kz : List (Int × List Int)} (r : RAL K B ρ vs ws) : RAL K B ρ (L2.byKey vs (kz.map encI)) (byKeyA ws kz) := by
  obtain ⟨e1, e2⟩ := zip3 vs ws (kz.map encI) r.length
  generalize hl : (vs.zip ws).zip (kz.map encI) = l at e1 e2
  have m1 : (l.mergeSort (PySem.W.dataLe false Prod.snd)).map (fun p => (p.1.1, p.2)) = (l.map fun p => (p.1.1, p.2)).mergeSort (PySem.W.dataLe false Prod.snd) := List.map_mergeSort fun _ _ _ _ => rfl
  have m2 : (l.mergeSort (PySem.W.dataLe false Prod.snd)).map (fun p => (p.1.2, p.2)) = (l.map fun p => (p.1.2, p.2)).mergeSort (PySem.W.dataLe false Prod.snd) := List.map_mergeSort fun _ _ _ _ => rfl
  unfold L2.byKey byKeyA
  rw [e1, e2, ← m1, ← m2, List.map_map, List.map_map]
  refine ral_unzip fun p hp => ?_
  have hp : p ∈ l := List.mem_mergeSort.mp hp
  rw [← hl] at hp
  exact ral_zip r p.1 (List.of_mem_zip hp).1
theorem rpl_get : ∀ {vs : List V} {ds : List D}, RpL K B vs ds → ∀ {i : Nat} {v : V}, vs[i]? = some v → ∃ d, ds[i]? = some d ∧ Rp K B v d
  | _, _, .nil, i, v, h => by simp at h
  | _, _, .cons r t, 0, v, h => by cases h; exact ⟨_, rfl, r⟩
  | _, _, .cons r t, i + 1, v, h => rpl_get t (by simpa using h)
theorem rpl_mono {B' : Hp} (e : Same B B') : ∀ {vs : List V} {ds : List D}, RpL K B vs ds → RpL K B' vs ds
  | _, _, .nil => .nil
  | _, _, .cons r t => .cons (r.mono e) (rpl_mono e t)
theorem rpl_snoc {v : V} {d : D} (r2 : Rp K B v d) : ∀ {vs : List V} {ds : List D}, RpL K B vs ds → RpL K B (vs ++ [v]) (ds ++ [d])
  | _, _, .nil => .cons r2 .nil
  | _, _, .cons r t => .cons r (rpl_snoc r2 t)
end
theorem mapMn_get {α β : Type} {f : α → Option β} : ∀ {as : List α} {bs : List β}, mapMn f as = some bs → as.length = bs.length ∧ ∀ (i : Nat) (a : α), as[i]? = some a → ∃ b, bs[i]? = some b ∧ f a = some b
  | [], bs, e => by
    cases e
    exact ⟨rfl, fun i a h => by simp at h⟩
  | a :: r, bs, e => by
    unfold mapMn at e
    split at e
    · rename_i b e1
      split at e
      · rename_i bs' e2
        cases e
        obtain ⟨h1, h2⟩ := mapMn_get e2
        refine ⟨by simp [h1], fun i x hx => ?_⟩
        cases i with
        | zero => cases hx; exact ⟨b, rfl, e1⟩
        | succ i => exact h2 i x (by simpa using hx)
      · cases e
    · cases e
theorem each_keys {K : PySem.W.Frag} {B H : Hp} (e : Same B H) : ∀ {ks : List V} {kz : List (Int × List Int)}, RpL K B ks (kz.map fun b => .tup ((b.1 :: b.2).map D.int)) → PySem.W.EachIs (fun v d => Dp K H v d) ks (kz.map encI)
  | _, [], .nil => .nil
  | _, b :: kz, .cons r t => by
    refine .cons ?_ (each_keys e t)
    have := (r.mono e).dp (show SeqAt.shaped _ = true from shp_tup (by rw [List.all_map]; exact List.all_eq_true.mpr fun _ _ => rfl))
    rwa [show (D.tup ((b.1 :: b.2).map D.int)).toP = encI b from by
      show PyData.tuple (D.toPs ((b.1 :: b.2).map D.int)) = _
      rw [toPs_ints]
      rfl] at this
/-- a call within two built-ins; nothing is let out -/
theorem run_in2 {X : Cx} {k : Nat} {f : Addr} {fd : FuncData} {ps : List Str} {sp : Sp} {pins : List (Addr × Obj)} {σ : L2.St} {H : Hp} {s : Shared} {Q : VK} {us : List Value} {vs : List V} (F : FnOk X.prog X.w X.K X.mg X.base (L2.CX X.prog X.w) k f fd ps sp) (hr : Room (k + 2) X.A) (hb : Binds X.K fd ps [])
    (I : Inv X pins σ H s) (r : Vals vs us) (h : sp vs H Q E0) : wpAny (model X.prog X.w) X.A.in1.in1 (call (.ref f) us) (EP X pins σ Q) (fun _ _ => False) s := by
  have hl : us.length = ps.length := by rw [← r.length]; exact F.len _ _ _ _ h
  have hb2 := hb s us I.kIn (by rw [List.append_nil]; exact hl)
  rw [List.append_nil] at hb2
  refine wpAny_call (codeAny_mono (F.run X.A.in1.in1 X.stack s H ⟨us, []⟩ us vs Q E0 hr.in1.in1 I.env0.in1.in1 hb2 r h) fun r s' hq => ?_)
  cases r with
  | error e =>
    obtain ⟨_, _, _, _, _, _, _, _, _, _, _, _, hE⟩ := hq
    exact hE
  | ok fl =>
    cases fl with
    | ret u => exact I.after hq
    | next => exact False.elim hq
    | brk => exact False.elim hq
    | cont => exact False.elim hq
def dI (b : Int × List Int) : D := .tup ((b.1 :: b.2).map D.int)
def rSK (K : PySem.W.Frag) (f : Addr) (o : Bool) (sem : Sem1) : List V → List V → Hp → VK → Prop := fun vs zs H Q => zs = [.ref f] ∧ ∃ (x : V) (a : A) (Z B : Hp) (ρ : Nat → Option Addr) (h : Hq) (Wx : XK), vs = [x] ∧ Ok K Z B ρ H h ∧ RA K B ρ x a ∧ Post K Z Wx B ρ (fun w _ B' ρ' H' => ∀ v, RA K B' ρ' v w → Q v H') (gSortK o sem a h)
theorem cr_sortK {X : Cx} {k : Nat} {f : Addr} {fd : FuncData} {pn : Str} {o : Bool} {sem : Sem1} (F : FnOk X.prog X.w X.K X.mg X.base (L2.CX X.prog X.w) k f fd [pn] (spQ X.K 1 sem)) (hr : Room (k + 2) X.A) (hb : Binds X.K fd [pn] []) : CallRK X (.builtin "sorted") [Str.ofString "key"] (rSK X.K f o sem) := by
  intro pins s σ H xs zs us ws Q I r rz hh
  obtain ⟨rfl, x, a, Z, B, ρ, h, Wx, rfl, ok, ra, q⟩ := hh
  unfold gSortK at q
  split at q
  · rename_i wl e1
    split at q
    · rename_i es e2
      split at q
      · rename_i kz e3
        obtain ⟨p, vs, rfl, hp, rl⟩ := lstOf_ra ok ra e1
        cases allD_of e2
        rw [Vals.ref1 r, Vals.ref1 rz]
        have rp : RpL X.K B vs es := ral_rpl rl
        obtain ⟨ml, mg⟩ := mapMn_get e3
        have hvl : vs.length = es.length := by rw [rl.length, List.length_map]
        let J : Addr → Nat → Hp → List V → Prop := fun kS i H1 ks => ∃ Hg B1, Ok X.K Z B1 ρ Hg h ∧ Gr Z B ρ B1 ρ ∧ Hg kS = none ∧ H1 = upd Hg kS (.lst ks) ∧ RpL X.K B1 ks ((kz.take i).map dI)
        have none_of : ∀ {Hg B1 : Hp} {c : Addr}, Ok X.K Z B1 ρ Hg h → Hg c = none → B1 c = none ∧ Z c = none ∧ ∀ k, ρ k ≠ some c := fun {Hg B1 c} og e => by
          refine ⟨?_, ?_, fun k z => og.al k c z e⟩
          · cases z : B1 c with
            | none => rfl
            | some u => rw [og.ex c u z] at e; cases e
          · cases z : Z c with
            | none => rfl
            | some u => rw [og.zz c u z] at e; cases e
        have grow : ∀ {Hg B1 : Hp} {c : Addr} {ob : HO}, Ok X.K Z B1 ρ Hg h → Hg c = none → Ok X.K Z B1 ρ (upd Hg c ob) h := fun {Hg B1 c ob} og e => og.grow fun b u eb => by
          rw [upd_ne fun z => by rw [z, e] at eb; cases eb]
          exact eb
        refine sk_sorted (xs := vs) (kz := kz.map encI) J I (SqL.of hp) (by rw [List.length_map, ← ml]; exact hvl.symm) (PySem.W.AllAlike.of enc_alike) (PySem.W.Sortable.tuples fun b => ⟨_, _, rfl⟩) (fun d hd => ?_) (fun kS nk => ⟨H, B, ok, Gr.refl, nk, rfl, .nil⟩) (fun kS i v u H1 ks s1 pins' hx rv hl hk j1 I1 => ?_) (fun kS H1 ks j1 => ?_) (fun kS D H1 ks j1 hD hk => ?_)
        · obtain ⟨b, _, rfl⟩ := List.mem_map.mp hd
          have := enc_depth b
          have := hr.un
          omega
        · obtain ⟨Hg, B1, og, g, nk, rfl, rk⟩ := j1
          obtain ⟨e, he, re⟩ := rpl_get rp hx
          obtain ⟨b, hb1, hk1⟩ := mg i e he
          obtain ⟨nB, nZ, nR⟩ := none_of og nk
          have okh : Ok X.K Z B1 ρ (upd Hg kS (.lst ks)) h := grow og nk
          unfold keyOf at hk1
          split at hk1
          · rename_i w h' es1
            split at hk1
            · rename_i kk es2
              refine wpAny_mono (run_in2 (Q := fun y H2 => ∃ B2, Ok X.K Z B2 ρ H2 h ∧ Gr Z B1 ρ B2 ρ ∧ Rp X.K B2 y kk ∧ B2 kS = none ∧ H2 kS = some (.lst ks)) F hr hb I1 (.cons rv .nil) ⟨rfl, _, B1, fun _ => none, [], [.d e], okh.void, .cons (.d (re.mono g.bb)) .nil, ?_⟩) (fun r s2 hq => ?_) fun _ _ z => z
              · rw [es1]
                intro B' ρ' H' ok' g' y ry
                obtain ⟨B2, o2, g2, see, b3⟩ := okh.backP2 ok' g'
                exact ⟨B2, o2, g2, see y w kk ry es2, (b3 kS (by rw [upd_same]; simp)).trans nB, ok'.zz _ _ (upd_same ..)⟩
              · obtain ⟨y, H2, I2, ry, B2, o2, g2, rk2, nB2, hk2⟩ := hq
                refine ⟨y, H2, I2, ry, hk2, fun a => if a = kS then none else H2 a, B2, o2.less hk2 nB2 nZ nR, g.trans g2, if_pos rfl, ?_, ?_⟩
                · funext c
                  by_cases z : c = kS
                  · rw [z, upd_same, upd_same]
                  · rw [upd_ne z, upd_ne z, if_neg z]
                · have et : (kz.take (i + 1)).map dI = (kz.take i).map dI ++ [dI b] := by
                    rw [List.take_add_one, hb1, List.map_append]
                    rfl
                  rw [et]
                  refine rpl_snoc ?_ (rpl_mono g2.bb rk)
                  rw [keyI_of hk1] at rk2
                  exact rk2
            · cases hk1
          · cases hk1
        · obtain ⟨Hg, B1, og, g, nk, rfl, rk⟩ := j1
          rw [List.take_of_length_le (by omega)] at rk
          exact each_keys (grow og nk).ex rk
        · obtain ⟨Hg, B1, og, g, nk, rfl, rk⟩ := j1
          have eu : upd (upd Hg kS (.lst ks)) kS (.lst []) = upd Hg kS (.lst []) := by
            funext c
            by_cases z : c = kS
            · rw [z, upd_same, upd_same]
            · rw [upd_ne z, upd_ne z, upd_ne z]
          have nd : D ≠ kS := fun z => by rw [z, upd_same] at hD; cases hD
          rw [eu]
          exact mkL_ok (grow og nk) (ral_byKey (rl.mono g)) (q.from g) (by rw [upd_ne nd]; rw [upd_ne nd] at hD; exact hD)
      · exact q.elim
    · exact q.elim
  · exact q.elim
theorem rx_sortK {X : Cx} {W : WX} {a : Expr} {ma : E A} {j k : Nat} {x pn : Str} {sem : Sem1} {p0 px kp pos : Pos} (o : Bool) (Df : Def X.prog X.w X.K X.mg X.base j x [pn] sem) (hr : Room k X.A) (hj : j + 2 ≤ k) (ha : RX X W a ma) (hm : X.mg "sorted" = none)
    (hgs : Gl X "sorted" := by rfl) (hg : Gl X x := by rfl) (hdb : (x == ("__debug__" : Str)) = false := by decide)
    (he1 : starEach [a] X.env = (false, eval a X.env) :: starEach [] X.env := by rfl) (he : backTo pos (starEach [a] X.env) = (false, eval a X.env) :: backTo pos (starEach [] X.env) := by rfl) (hpl : (backTo pos (starEach [a] X.env)).any (·.1) = false := by rfl)
    (hall : (backToKw pos (keywordEach [⟨some "key", .Name x px, kp⟩] X.env)).all (·.1.isSome) = true := by rfl) (hnone : (backToKw pos (keywordEach [⟨some "key", .Name x px, kp⟩] X.env)).any (·.1.isNone) = false := by rfl) (hks : (backToKw pos (keywordEach [⟨some "key", .Name x px, kp⟩] X.env)).filterMap (·.1) = [Str.ofString "key"] := by rfl) :
    RX X W (.Call (.Name "sorted" p0) [a] [⟨some "key", .Name x px, kp⟩] pos) (mUn (gSortK o sem) ma) := by
  obtain ⟨fa, fd, F, h1, h2, h3⟩ := Df.ex
  refine ⟨pe_imp (pe_callBK (cr_sortK (o := o) F (hr.mono hj) h3) hgs hm (by decide +kernel) (pa_cons ha.pe pa_nil he1) (pk_cons (pe_glob (v := .ref fa) hg h1 rfl hdb) pk_nil) (by decide) (by decide) he hpl hall hnone hks) fun σ H Q q => ?_⟩
  obtain ⟨Z, B, ρ, τ, h, ok, sl, q⟩ := q
  exact te_bd ok sl q fun v w h1 B1 ρ1 H1 rv ok1 sl1 g1 q1 => ⟨rfl, v, w, Z, B1, ρ1, h1, _, rfl, ok1, rv, q1⟩
end Tq

set_option maxHeartbeats 1000000
/-! Tq15: sum of ints (lists, tuples); a < b < c as a test. -/
namespace L2
open PySem PySem.Spec PyProof.Rows
section
variable {prog : Program} {w : World} {A : Around} {E : Value → Shared → Prop} {s : Shared}
theorem sum_tupG {a : Addr} {xs : Array (Int × Tok)} {Q : Value → Shared → Prop} (hh : A.handled = none) (hT : s.heap.IsTuple a (intItems xs))
    (h : ∀ h' tk t', (∀ b o, s.heap.get? b = some o → h'.get? b = some o) → Q (.int (preSum (numAt xs) xs.size) t') { s with heap := h', toks := tk }) :
    wpAny (model prog w) A (call (.builtin "sum") [.ref a]) Q E s := by
  have ha : a < s.heap.objs.size := by
    obtain ⟨o, e, _⟩ := hT
    exact Heap.lt_size e
  refine call_sum_walkG (wpAny_pyIter_tuple hT ?_)
  refine ⟨_, [_, a], [_], _, _, _, numAt xs, rfl, Walks.tuple (A := A.in1) hh _ a (Nat.ne_of_lt ha) (intItems xs), ⟨⟨_, Heap.get?_push_size _ rfl, rfl, rfl⟩, hT.push _⟩, fun c hc => ?_, (fun _ _ => intItems_at), fun h' tk t' hk => ?_⟩
  · show c < (s.heap.push _).objs.size
    rw [Heap.size_push]
    rcases List.mem_cons.mp hc with rfl | hc
    · exact Nat.lt_succ_self _
    · rcases List.mem_cons.mp hc with rfl | hc
      · exact Nat.lt_succ_of_lt ha
      · cases hc
  · have hold : ∀ c o, s.heap.get? c = some o → h'.get? c = some o := fun c o e => by
      refine hk c o (fun hm => ?_) (Heap.get?_push_of_some _ e)
      rcases List.mem_cons.mp hm with e1 | hm
      · have := Heap.lt_size e; rw [e1] at this; exact Nat.lt_irrefl _ this
      · cases hm
    have := h h' tk t' hold
    simpa [intItems] using this
theorem sum_tup_raw {a : Addr} {its : List Value} {ns : List Int} {Q : Value → Shared → Prop} (hh : A.handled = none) (hl : s.heap.IsTuple a its.toArray) (hi : IntsAre its ns)
    (h : ∀ h' tk t', (∀ b o, s.heap.get? b = some o → h'.get? b = some o) → Q (.int ns.sum t') { s with heap := h', toks := tk }) : wpAny (model prog w) A (call (.builtin "sum") [.ref a]) Q E s := by
  obtain ⟨xs, e⟩ := hi.allInts.items
  have hn : numsOf (intItems xs).toList = ns := by rw [← e]; exact hi.numsOf
  rw [nums_intItems] at hn
  rw [e] at hl
  refine sum_tupG hh hl fun h' tk t' hk => ?_
  have := h h' tk t' hk
  rw [preSum_eq, List.take_of_length_le (by simp), hn]; exact this
end
def rSumT (K : PySem.W.Frag) : List V → Hp → VK → Prop := fun vs H Q => ∃ (a : Addr) (ns : List Int), vs = [V.ref a] ∧ SqT K H a (ns.map V.int) ∧ Q (.int ns.sum) H
theorem cr_sumT {X : Cx} (hc : X.calm = true) : CallR X (.builtin "sum") (rSumT X.K) := by
  intro pins s σ H vs us Q I r h
  obtain ⟨a, ns, rfl, hs, q⟩ := h
  obtain ⟨its, rv, hl, _⟩ := I.tuple hs
  rw [Vals.ref1 r]
  exact sum_tup_raw (I.ok.hd hc) hl rv.ints fun h' tk t' hk => ⟨.int _, H, I.kept hk, ⟨_, rfl⟩, q⟩
end L2
theorem L2.cr_sumLT {X : L2.Cx} (hc : X.calm = true) : L2.CallR X (.builtin "sum") (fun vs H Q => L2.rSum X.K vs H Q ∨ L2.rSumT X.K vs H Q) := by
  intro pins s σ H vs us Q I r h
  rcases h with h | h
  · exact L2.cr_sum hc pins s σ H vs us Q I r h
  · exact L2.cr_sumT hc pins s σ H vs us Q I r h
namespace Tq
open PySem PySem.Spec PyProof.Rows L2
def intA : A → Option Int
  | .d (.int i) => some i
  | _ => none
def gSum : G1 := fun a h => match tupOf a with
  | some ws => (match mapMn intA ws with | some ns => some (.ok (.d (.int ns.sum)) h) | none => none)
  | none => (match lstOf h a with
    | some ws => (match mapMn intA ws with | some ns => some (.ok (.d (.int ns.sum)) h) | none => none)
    | none => none)
theorem intsA_of {K : PySem.W.Frag} {B : Hp} {ρ : Nat → Option Addr} : ∀ {vs : List V} {ws : List A} {ns : List Int}, RAL K B ρ vs ws → mapMn intA ws = some ns → vs = ns.map V.int
  | _, _, ns, .nil, e => by cases e; rfl
  | _, _, ns, .cons (w := w) r t, e => by
    unfold mapMn at e
    cases w with
    | d x =>
      cases x with
      | int i =>
        dsimp only [intA] at e
        split at e
        · rename_i bs e2
          cases e
          rw [rp_int (ra_d r), intsA_of t e2]
          rfl
        · cases e
      | _ => cases e
    | _ => cases e
theorem og_sum {K : PySem.W.Frag} : Op1 K (fun x H Q => rSum K [x] H Q ∨ rSumT K [x] H Q) gSum := by
  intro Z B ρ H h x a W Q ok rx q
  unfold gSum at q
  split at q
  · rename_i ws e1
    split at q
    · rename_i ns e2
      obtain ⟨p, vs, rfl, h1, r1⟩ := tupOf_ra rx e1
      have := intsA_of r1 e2
      subst this
      exact .inr ⟨p, ns, rfl, sqt_of (ok.ex _ _ h1), q.now ok _ (.d (.int _))⟩
    · exact q.elim
  · split at q
    · rename_i ws e1
      split at q
      · rename_i ns e2
        obtain ⟨p, vs, rfl, h1, r1⟩ := lstOf_ra ok rx e1
        have := intsA_of r1 e2
        subst this
        exact .inl ⟨p, ns, rfl, SqL.of h1, q.now ok _ (.d (.int _))⟩
      · exact q.elim
    · exact q.elim
theorem rx_sum {X : Cx} {W : WX} {a : Expr} {ma : E A} {px pos : Pos} (hc : X.calm = true) (ha : RX X W a ma) (hm : X.mg "sum" = none) (hg : Gl X "sum" := by rfl) (he : starEach [a] X.env = (false, eval a X.env) :: starEach [] X.env := by rfl) :
    RX X W (.Call (.Name "sum" px) [a] [] pos) (mUn gSum ma) := rx_b1 (cr_sumLT hc) og_sum ha hm (by decide +kernel) hg (by decide) (by decide) he
theorem tb_imp {K : PySem.W.Frag} {W : WX} {m : E A} {σ : L2.St} {H : Hp} {Q : Bool → Hp → Prop} (q : tT K W (mTB m) σ H Q) : tE K W m σ H (fun x H' => ∃ k, x = .bl k ∧ Q k H') := by
  obtain ⟨Z, B, ρ, τ, h, ok, sl, q⟩ := q
  refine ⟨Z, B, ρ, τ, h, ok, sl, q.bd.imp fun w h1 B1 ρ1 H1 ok1 g1 q1 v rv => ?_⟩
  split at q1
  · exact ⟨_, rp_bl (ra_d rv), q1.now ok1⟩
  · exact q1.elim
theorem chain_imp {K : PySem.W.Frag} {W : WX} {σ : L2.St} {H : Hp} {Q : VK} {r r' : R2} {g g' : G2} {ma mb mc : E A} (og : Op2 K r g) (og' : Op2 K r' g') (q : tE K W (mChain g g' ma mb mc) σ H Q) : tChain r r' (tE K W ma) (tE K W mb) (tE K W mc) σ H Q := by
  obtain ⟨Z, B, ρ, τ, h, ok, sl, q⟩ := q
  refine te_bd ok sl q fun x a h1 B1 ρ1 H1 rx ok1 sl1 g1 q1 => te_bd ok1 sl1 q1 fun y b h2 B2 ρ2 H2 ry ok2 sl2 g2 q2 => ?_
  refine og Z B2 ρ2 H2 h2 x y a b _ _ ok2 (rx.mono g2) ry (q2.bd.imp fun k h3 B3 ρ3 H3 ok3 g3 q3 z rz => ?_)
  split at q3
  · refine ⟨true, rp_bl (ra_d rz), iteT (te_bd ok3 (sl2.mono g3) q3 fun u c h4 B4 ρ4 H4 ru ok4 sl4 g4 q4 => ?_)⟩
    exact og' Z B4 ρ4 H4 h4 y u b c _ Q ok4 (ry.mono (g3.trans g4)) ru q4
  · exact ⟨false, rp_bl (ra_d rz), iteF (q3.now ok3 _ (.d (.bl false)))⟩
  · exact q3.elim
/-- a < b < c as a test -/
theorem rt_chain {X : Cx} {W : WX} {a b c : Expr} {ma mb mc : E A} {pos : Pos} {op op' : CmpOp} {r r' : R2} {g g' : G2} (ho : OpR X (compareOp op) r) (og : Op2 X.K r g) (ho' : OpR X (compareOp op') r') (og' : Op2 X.K r' g') (ha : RX X W a ma) (hb : RX X W b mb) (hc : RX X W c mc) (hm : lastMarks [op, op'] [b, c] = false := by with_unfolding_all rfl) :
    RT X W (.Compare a [op, op'] [b, c] pos) (mTB (mChain g g' ma mb mc)) := ⟨pt_imp (pt_chain ho ho' ha.pe hb.pe hc.pe hm) fun σ H Q q => chain_imp og og' (tb_imp q)⟩
end Tq

set_option maxHeartbeats 1000000
/-! Tq16: a cell of data is frozen: the slot holds the data from here on, the cell is dead. -/
namespace Tq
open PySem PySem.Spec PyProof.Rows L2
section
variable {K : PySem.W.Frag} {Z B H : Hp} {ρ : Nat → Option Addr} {h : Hq}
/-- the objects of a cell are handed to B -/
theorem Ok.fz {k : Nat} {a : Addr} {own : List Addr} (ok : Ok K Z B ρ H h) (hk : k < h.length) (ea : ρ k = some a) (h0 : ∀ b ∈ own, B b = none ∧ Z b = none) (h1 : a ∈ own) (h2 : ∀ b ∈ own, b = a ∨ H b = some (.own a)) (h3 : ∀ b ∈ own, H b ≠ none) (h4 : ∀ z, H a ≠ some (.own z)) :
    Ok K Z (fun b => if b ∈ own then H b else B b) ρ H (h.set k .dead) ∧ Gr Z B ρ (fun b => if b ∈ own then H b else B b) ρ := by
  have gg : Gr Z B ρ (fun b => if b ∈ own then H b else B b) ρ := ⟨fun b u e => by
    show (if b ∈ own then H b else B b) = some u
    split
    · rename_i hb
      rw [(h0 b hb).1] at e
      cases e
    · exact e, fun _ _ e => e, fun b e e' => by
    have e' : (if b ∈ own then H b else B b) ≠ none := e'
    split at e'
    · rename_i hb
      exact (h0 b hb).2
    · exact absurd e e'⟩
  refine ⟨⟨fun b u e => ?_, ok.zz, fun j c e => ?_, ok.nj, ok.al, fun j e => ok.up j (by rw [List.length_set] at e; exact e)⟩, gg⟩
  · have e : (if b ∈ own then H b else B b) = some u := e
    split at e
    · exact e
    · exact ok.ex b u e
  · by_cases hj : j = k
    · subst hj
      rw [List.getElem?_set_self hk] at e
      cases e
      exact ⟨a, ea, .dead (h0 a h1).2⟩
    · rw [List.getElem?_set_ne (Ne.symm hj)] at e
      obtain ⟨b, e1, e2⟩ := ok.ce j c e
      have nab : b ≠ a := fun z => hj (ok.nj j k a (by rw [e1, z]) ea)
      refine ⟨b, e1, ?_⟩
      cases e2 with
      | lst x1 x2 x3 x4 =>
        refine .lst x1 (x2.mono gg) ?_ x4
        show (if b ∈ own then H b else B b) = none
        rw [if_neg fun hb => by
          rcases h2 b hb with y | y
          · exact nab y
          · rw [x1] at y; cases y]
        exact x3
      | nd x1 x2 x3 =>
        refine .nd x1 (x2.mono gg) fun c hc => ⟨?_, (x3 c hc).2⟩
        show (if c ∈ own then H c else B c) = none
        rw [if_neg fun hb => by
          rcases h2 c hb with y | y
          · rcases x1.own_or.2.1 c hc with w | w
            · exact nab (w.symm.trans y)
            · rw [y] at w; exact h4 _ w
          · rcases x1.own_or.2.1 c hc with w | w
            · rw [w] at y; exact x1.own_or.2.2.2.2 _ y
            · rw [w] at y
              cases y
              exact nab rfl]
        exact (x3 c hc).1
      | dead x1 => exact .dead x1
end
/-- the data of a cell, one deep -/
def fzO : O → Option D
  | .lst ws => (allD ws).map .lst
  | .nd hd ws => (allD ws).map (.nd hd)
  | .dead => none
def mFz (i : Nat) : MS := fun τ h => match τ[i]? with
  | some (some (.r k)) => (match h[k]? with
    | some c => (match fzO c with
      | some d => some (.nx (τ.set i (some (.d d))) (h.set k .dead))
      | none => none)
    | none => none)
  | _ => some (.nx τ h)
theorem SlOk.ghost {K : PySem.W.Frag} {B : Hp} {ρ : Nat → Option Addr} {σ : L2.St} {τ : Sl} {i : Nat} {v : V} {w : A} (s : SlOk K B ρ σ τ) (e : σ[i]? = some (some v)) (r : RA K B ρ v w) : SlOk K B ρ σ (τ.set i (some w)) := by
  refine ⟨by rw [List.length_set]; exact s.ln, fun j u h => ?_⟩
  by_cases z : j = i
  · subst z
    rw [List.getElem?_set_self (by rw [← s.ln]; exact (List.getElem?_eq_some_iff.mp e).1)] at h
    cases h
    exact ⟨v, e, r⟩
  · rw [List.getElem?_set_ne (Ne.symm z)] at h
    exact s.at_ j u h
theorem rss_fz {X : Cx} {W : WX} {st : List Stmt} {m : MS} (i : Nat) (hm : RSs X W st m) : RSs X W st (mSeq (mFz i) m) := ⟨pss_imp hm.ps fun De σ H q => by
  obtain ⟨Z, B, ρ, τ, h, ok, sl, q⟩ := q
  unfold mSeq mFz at q
  cases ei : τ[i]? with
  | none =>
    rw [ei] at q
    exact ⟨Z, B, ρ, _, _, ok, sl, q⟩
  | some y =>
    rw [ei] at q
    cases y with
    | none => exact ⟨Z, B, ρ, _, _, ok, sl, q⟩
    | some w =>
      cases w with
      | d _ => exact ⟨Z, B, ρ, _, _, ok, sl, q⟩
      | tup _ => exact ⟨Z, B, ρ, _, _, ok, sl, q⟩
      | r k =>
        dsimp only at q
        cases ec : h[k]? with
        | none => rw [ec] at q; exact q.elim
        | some c =>
          rw [ec] at q
          dsimp only at q
          cases ed : fzO c with
          | none => rw [ed] at q; exact q.elim
          | some d =>
            rw [ed] at q
            dsimp only at q
            obtain ⟨a, ea, x⟩ := ok.ce k c ec
            have hk := (List.getElem?_eq_some_iff.mp ec).1
            obtain ⟨v, ev, rv⟩ := sl.at_ i _ ei
            cases rv with
            | r er =>
              rw [ea] at er
              cases er
              cases x with
              | lst x1 x2 x3 x4 =>
                obtain ⟨ds, e2, rfl⟩ := Option.map_eq_some_iff.mp (show (allD _).map Tq.D.lst = some d from ed)
                cases allD_of e2
                obtain ⟨ok2, gg⟩ := ok.fz (own := [a]) hk ea (fun b hb => by rw [List.mem_singleton.mp hb]; exact ⟨x3, x4⟩) (List.mem_singleton.mpr rfl) (fun b hb => .inl (List.mem_singleton.mp hb)) (fun b hb => by rw [List.mem_singleton.mp hb, x1]; simp) (fun z => by rw [x1]; simp)
                refine ⟨Z, _, ρ, _, _, ok2, (sl.mono gg).ghost ev (.d (.lst (vs := _) ?_ ((ral_rpl x2).mono gg.bb))), q.from gg⟩
                show (if a ∈ [a] then H a else B a) = _
                rw [if_pos (List.mem_singleton.mpr rfl)]
                exact x1
              | nd x1 x2 x3 =>
                obtain ⟨ds, e2, rfl⟩ := Option.map_eq_some_iff.mp (show (allD _).map (Tq.D.nd _) = some d from ed)
                cases allD_of e2
                obtain ⟨ok2, gg⟩ := ok.fz hk ea x3 x1.own_or.1 x1.own_or.2.1 x1.own_or.2.2.1 x1.own_or.2.2.2.2
                refine ⟨Z, _, ρ, _, _, ok2, (sl.mono gg).ghost ev (.d (.nd (x1.to fun b hb u e => ?_) ((ral_rpl x2).mono gg.bb))), q.from gg⟩
                show (if b ∈ _ then H b else B b) = _
                rw [if_pos hb]
                exact e
              | dead _ => cases ed⟩
end Tq

/-! Tq17: m's, evaluated step by step (the words x_, g_, s_ of the local rules). -/
namespace Tq
open PySem PySem.Spec PyProof.Rows L2
/-! ### lists that are written out -/
theorem set_z {α : Type} {x w : α} {r : List α} : (x :: r).set 0 w = w :: r := rfl
theorem set_s {α : Type} {x w : α} {r r' : List α} {n : Nat} (e : r.set n w = r') : (x :: r).set (n + 1) w = x :: r' := by rw [List.set_cons_succ, e]
theorem get_z {α : Type} {x : α} {r : List α} : (x :: r)[0]? = some x := rfl
theorem get_s {α : Type} {x y : α} {r : List α} {n : Nat} (e : r[n]? = some y) : (x :: r)[n + 1]? = some y := by rw [List.getElem?_cons_succ, e]
theorem app_z {α : Type} {w : α} : ([] : List α) ++ [w] = [w] := rfl
theorem app_s {α : Type} {x w : α} {r r' : List α} (e : r ++ [w] = r') : (x :: r) ++ [w] = x :: r' := by rw [List.cons_append, e]
theorem fput_nil {f : Str} {w : A} : fPut f w [] [] = ([f], [w]) := rfl
theorem fput_hit {f : Str} {w u : A} {fs : List Str} {ws : List A} : fPut f w (f :: fs) (u :: ws) = (f :: fs, w :: ws) := by
  unfold fPut
  rw [if_pos rfl]
theorem fput_miss {f g : Str} {w u : A} {fs fs' : List Str} {ws ws' : List A} (n : decide (g = f) = false) (e : fPut f w fs ws = (fs', ws')) : fPut f w (g :: fs) (u :: ws) = (g :: fs', u :: ws') := by
  unfold fPut
  rw [if_neg (of_decide_eq_false n), e]
theorem fget_hit {f : Str} {u : A} {fs : List Str} {ws : List A} : fGet f (f :: fs) (u :: ws) = some u := by
  unfold fGet
  rw [if_pos rfl]
theorem fget_miss {f g : Str} {w u : A} {fs : List Str} {ws : List A} (n : decide (g = f) = false) (e : fGet f fs ws = some w) : fGet f (g :: fs) (u :: ws) = some w := by
  unfold fGet
  rw [if_neg (of_decide_eq_false n), e]
def fGetD (f : Str) : List Str → List D → Option D
  | g :: fs, w :: ws => if g = f then some w else fGetD f fs ws
  | _, _ => none
theorem fGetD_ok {f : Str} : ∀ {fs : List Str} {xs : List D} {d : D}, fGetD f fs xs = some d → fGet f fs (xs.map A.d) = some (.d d)
  | [], _, _, e => by cases e
  | _ :: _, [], _, e => by cases e
  | g :: fs, x :: xs, d, e => by
    unfold fGetD at e
    rw [List.map_cons]
    unfold fGet
    split at e
    · rename_i z
      rw [if_pos z]
      cases e
      rfl
    · rename_i z
      rw [if_neg z]
      exact fGetD_ok e
theorem fgetd_hit {f : Str} {u : D} {fs : List Str} {ws : List D} : fGetD f (f :: fs) (u :: ws) = some u := by
  unfold fGetD
  rw [if_pos rfl]
theorem fgetd_miss {f g : Str} {w u : D} {fs : List Str} {ws : List D} (n : decide (g = f) = false) (e : fGetD f fs ws = some w) : fGetD f (g :: fs) (u :: ws) = some w := by
  unfold fGetD
  rw [if_neg (of_decide_eq_false n), e]
inductive StartL : Nat → List A → Sl → Prop
  | z : StartL 0 [] []
  | n {n : Nat} {τ : Sl} : StartL n [] τ → StartL (n + 1) [] (none :: τ)
  | s {n : Nat} {w : A} {ws : List A} {τ : Sl} : StartL n ws τ → StartL (n + 1) (w :: ws) (some w :: τ)
theorem StartL.eq {n : Nat} {ws : List A} {τ : Sl} (h : StartL n ws τ) : startT n ws = τ := by
  induction h with
  | z => rfl
  | n _ ih =>
    unfold startT at ih ⊢
    rw [List.map_nil, List.nil_append, List.length_nil, Nat.sub_zero] at ih ⊢
    rw [List.replicate_succ, ih]
  | s _ ih =>
    unfold startT at ih ⊢
    rw [List.map_cons, List.cons_append, List.length_cons, Nat.add_sub_add_right, ih]
theorem x_run {np n : Nat} {m : MS} {ws : List A} {τ : Sl} {w : A} {h h1 : Hq} (hl : ws.length = np) (s : StartL n ws τ) (e : m τ h = some (.rt w h1)) : runB np n m ws h = some (.ok w h1) := runB_rt hl (by rw [s.eq]; exact e)
theorem x_runN {np n : Nat} {m : MS} {ws : List A} {τ τ1 : Sl} {h h1 : Hq} (hl : ws.length = np) (s : StartL n ws τ) (e : m τ h = some (.nx τ1 h1)) : runB np n m ws h = some (.ok (.d .non) h1) := runB_nx hl (by rw [s.eq]; exact e)
theorem x_runNe {np n : Nat} {m : MS} {ws : List A} {τ : Sl} {h h1 : Hq} (hl : ws.length = np) (s : StartL n ws τ) (e : ∃ τ1, m τ h = some (.nx τ1 h1)) : runB np n m ws h = some (.ok (.d .non) h1) := by
  obtain ⟨τ1, e⟩ := e
  exact x_runN hl s e
theorem x_runX {np n : Nat} {m : MS} {ws : List A} {x : Xc} {τ τ1 : Sl} {h h1 : Hq} (hl : ws.length = np) (s : StartL n ws τ) (e : m τ h = some (.ex x τ1 h1)) : runB np n m ws h = some (.ex x h1) := runB_ex hl (by rw [s.eq]; exact e)
section
variable {τ τ1 : Sl} {h h1 h2 h3 h4 : Hq} {a b c w : A} {ws ws' us : List A} {ds : List D} {d : D} {m ma mb mc mo mi mv : E A} {mr : E (List A)} {t ta tb : E Bool} {i n k np : Nat} {r : Option (Rs A)} {g g1 g2 : G2} {j l : Bool}
/-! ### expressions -/
theorem x_C : mC d τ h = some (.ok (.d d) h) := rfl
theorem x_Var (e : τ[i]? = some (some w)) : mVar i τ h = some (.ok w h) := var_of e
theorem x_Bin (e1 : ma τ h = some (.ok a h1)) (e2 : mb τ h1 = some (.ok b h2)) (e3 : g a b h2 = r) : mBin g ma mb τ h = r := by rw [bin_of e1 e2, e3]
theorem x_Un {g : G1} (e1 : ma τ h = some (.ok a h1)) (e3 : g a h1 = r) : mUn g ma τ h = r := by rw [un_of e1, e3]
theorem x_nil : maNil τ h = some (.ok [] h) := rfl
theorem x_cons (e1 : ma τ h = some (.ok a h1)) (e2 : mr τ h1 = some (.ok ws h2)) : maCons ma mr τ h = some (.ok (a :: ws) h2) := cons_of e1 e2
theorem x_len (e : mr τ h = some (.ok ws h1)) (hl : ws.length = n) : lenIs n mr τ h = some (.ok ws h1) := len_of e hl
theorem x_Tup (e : mr τ h = some (.ok ws h1)) (e2 : mkT ws h1 = r) : mTup mr τ h = r := by unfold mTup; rw [e, bd_ok, e2]
theorem x_Lst {o : Bool} (e : mr τ h = some (.ok ws h1)) (e2 : mkL o ws h1 = r) : mLst o mr τ h = r := by unfold mLst; rw [e, bd_ok, e2]
theorem all_nil : allD [] = some [] := rfl
theorem all_cons (e : allD ws = some ds) : allD (.d d :: ws) = some (d :: ds) := by
  unfold allD at e ⊢
  unfold mapMn
  rw [e]
  rfl
theorem allD_mapf {α : Type} (f : α → D) (xs : List α) : allD (xs.map fun x => A.d (f x)) = some (xs.map f) := by
  have := allD_map (xs.map f)
  rwa [List.map_map] at this
theorem x_mkT (e : allD ws = some ds) (hl : ds.length ≤ LIM) : mkT ws h = some (.ok (.d (.tup ds)) h) := by
  cases allD_of e
  unfold mkT
  rw [if_pos (by rw [List.length_map]; exact hl), allD_map]
theorem x_mkL (e : allD ws = some ds) (hl : ds.length ≤ LIM) : mkL false ws h = some (.ok (.d (.lst ds)) h) := by
  cases allD_of e
  exact mkL_d hl
theorem x_mkTc (e : allD ws = none) (hl : ws.length ≤ LIM) : mkT ws h = some (.ok (.tup ws) h) := by
  unfold mkT
  rw [if_pos hl, e]
theorem x_mkC (hl : ws.length ≤ LIM) : mkL true ws h = some (.ok (.r h.length) (h ++ [.lst ws])) := mkL_c hl
theorem x_mkC0 (hl : ws.length ≤ LIM) : mkL true ws [] = some (.ok (.r 0) [.lst ws]) := mkL_c hl
theorem x_mkC1 {o0 : O} (hl : ws.length ≤ LIM) : mkL true ws [o0] = some (.ok (.r 1) [o0, .lst ws]) := mkL_c hl
theorem x_mkC2 {o0 o1 : O} (hl : ws.length ≤ LIM) : mkL true ws [o0, o1] = some (.ok (.r 2) [o0, o1, .lst ws]) := mkL_c hl
theorem x_mkC3 {o0 o1 o2 : O} (hl : ws.length ≤ LIM) : mkL true ws [o0, o1, o2] = some (.ok (.r 3) [o0, o1, o2, .lst ws]) := mkL_c hl
theorem x_mkC4 {o0 o1 o2 o3 : O} (hl : ws.length ≤ LIM) : mkL true ws [o0, o1, o2, o3] = some (.ok (.r 4) [o0, o1, o2, o3, .lst ws]) := mkL_c hl
theorem x_mkC5 {o0 o1 o2 o3 o4 : O} (hl : ws.length ≤ LIM) : mkL true ws [o0, o1, o2, o3, o4] = some (.ok (.r 5) [o0, o1, o2, o3, o4, .lst ws]) := mkL_c hl
theorem x_mkC6 {o0 o1 o2 o3 o4 o5 : O} (hl : ws.length ≤ LIM) : mkL true ws [o0, o1, o2, o3, o4, o5] = some (.ok (.r 6) [o0, o1, o2, o3, o4, o5, .lst ws]) := mkL_c hl
theorem x_TB (e : m τ h = some (.ok (.d (.bl j)) h1)) : mTB m τ h = some (.ok j h1) := tb_of e
theorem x_Tru (e : m τ h = some (.ok a h1)) (q : truA h1 a = some j) : mTru m τ h = some (.ok j h1) := by unfold mTru; rw [e, bd_ok, q]
theorem x_NotT (e : t τ h = some (.ok j h1)) : mNotT t τ h = some (.ok (!j) h1) := by unfold mNotT; rw [e, bd_ok]
theorem x_AndT (e1 : ta τ h = some (.ok j h)) (e2 : j = true → tb τ h = some (.ok l h)) : mAndT ta tb τ h = some (.ok (j && l) h) := by
  unfold mAndT
  rw [e1, bd_ok]
  cases j with
  | true => exact e2 rfl
  | false => rfl
theorem x_OrT (e1 : ta τ h = some (.ok j h)) (e2 : j = false → tb τ h = some (.ok l h)) : mOrT ta tb τ h = some (.ok (j || l) h) := by
  unfold mOrT
  rw [e1, bd_ok]
  cases j with
  | false => exact e2 rfl
  | true => rfl
theorem x_AndT1 (e1 : ta τ h = some (.ok true h1)) (e2 : tb τ h1 = some (.ok l h2)) : mAndT ta tb τ h = some (.ok l h2) := by unfold mAndT; rw [e1, bd_ok]; exact e2
theorem x_AndT0 (e1 : ta τ h = some (.ok false h1)) : mAndT ta tb τ h = some (.ok false h1) := by unfold mAndT; rw [e1, bd_ok]
theorem x_OrT0 (e1 : ta τ h = some (.ok false h1)) (e2 : tb τ h1 = some (.ok l h2)) : mOrT ta tb τ h = some (.ok l h2) := by unfold mOrT; rw [e1, bd_ok]; exact e2
theorem x_OrT1 (e1 : ta τ h = some (.ok true h1)) : mOrT ta tb τ h = some (.ok true h1) := by unfold mOrT; rw [e1, bd_ok]
theorem x_AndS {R : Option (Rs Bool)} (e1 : ta τ h = some (.ok j h1)) (q : (j = false ∧ some (.ok false h1) = R) ∨ (j = true ∧ tb τ h1 = R)) : mAndT ta tb τ h = R := by
  unfold mAndT
  rw [e1, bd_ok]
  rcases q with ⟨rfl, q⟩ | ⟨rfl, q⟩
  · exact q
  · exact q
theorem x_OrS {R : Option (Rs Bool)} (e1 : ta τ h = some (.ok j h1)) (q : (j = true ∧ some (.ok true h1) = R) ∨ (j = false ∧ tb τ h1 = R)) : mOrT ta tb τ h = R := by
  unfold mOrT
  rw [e1, bd_ok]
  rcases q with ⟨rfl, q⟩ | ⟨rfl, q⟩
  · exact q
  · exact q
theorem x_AndVS (e1 : ma τ h = some (.ok (.d (.bl j)) h1)) (q : (j = false ∧ some (.ok (.d (.bl false)) h1) = r) ∨ (j = true ∧ mb τ h1 = r)) : mAndV ma mb τ h = r := by
  unfold mAndV
  rw [e1, bd_ok]
  rcases q with ⟨rfl, q⟩ | ⟨rfl, q⟩
  · exact q
  · exact q
theorem x_OrVS (e1 : ma τ h = some (.ok (.d (.bl j)) h1)) (q : (j = true ∧ some (.ok (.d (.bl true)) h1) = r) ∨ (j = false ∧ mb τ h1 = r)) : mOrV ma mb τ h = r := by
  unfold mOrV
  rw [e1, bd_ok]
  rcases q with ⟨rfl, q⟩ | ⟨rfl, q⟩
  · exact q
  · exact q
theorem tru_b : truA h (.d (.bl j)) = some j := rfl
theorem tru_i {z : Int} : truA h (.d (.int z)) = some (z != 0) := rfl
theorem tru_n : truA h (.d .non) = some false := rfl
theorem tru_l {ds : List D} : truA h (.d (.lst ds)) = some (!ds.isEmpty) := rfl
theorem tru_t {ds : List D} : truA h (.d (.tup ds)) = some (!ds.isEmpty) := rfl
theorem tru_r (e : h[k]? = some (.lst ws)) : truA h (.r k) = some (!ws.isEmpty) := by unfold truA; dsimp only; rw [e]
theorem x_NotV (e : m τ h = some (.ok (.d (.bl j)) h1)) : mNotV m τ h = some (.ok (.d (.bl (!j))) h1) := by unfold mNotV; rw [e, bd_ok]
theorem x_AndV (e1 : ma τ h = some (.ok (.d (.bl j)) h)) (e2 : j = true → mb τ h = some (.ok (.d (.bl l)) h)) : mAndV ma mb τ h = some (.ok (.d (.bl (j && l))) h) := by
  unfold mAndV
  rw [e1, bd_ok]
  cases j with
  | true => exact e2 rfl
  | false => rfl
theorem x_OrV (e1 : ma τ h = some (.ok (.d (.bl j)) h)) (e2 : j = false → mb τ h = some (.ok (.d (.bl l)) h)) : mOrV ma mb τ h = some (.ok (.d (.bl (j || l))) h) := by
  unfold mOrV
  rw [e1, bd_ok]
  cases j with
  | false => exact e2 rfl
  | true => rfl
theorem x_AndV1 (e1 : ma τ h = some (.ok (.d (.bl true)) h1)) (e2 : mb τ h1 = r) : mAndV ma mb τ h = r := by unfold mAndV; rw [e1, bd_ok]; exact e2
theorem x_AndV0 (e1 : ma τ h = some (.ok (.d (.bl false)) h1)) : mAndV ma mb τ h = some (.ok (.d (.bl false)) h1) := by unfold mAndV; rw [e1, bd_ok]
theorem x_IfEt (e1 : t τ h = some (.ok j h1)) (e2 : j = true) (e3 : ma τ h1 = r) : mIfE t ma mb τ h = r := by subst e2; unfold mIfE; rw [e1, bd_ok]; exact e3
theorem x_IfEf (e1 : t τ h = some (.ok j h1)) (e2 : j = false) (e3 : mb τ h1 = r) : mIfE t ma mb τ h = r := by subst e2; unfold mIfE; rw [e1, bd_ok]; exact e3
theorem x_Chain (e1 : ma τ h = some (.ok a h)) (e2 : mb τ h = some (.ok b h)) (e3 : g1 a b h = some (.ok (.d (.bl j)) h)) (e4 : j = true → mc τ h = some (.ok c h)) (e5 : j = true → g2 b c h = some (.ok (.d (.bl l)) h)) : mChain g1 g2 ma mb mc τ h = some (.ok (.d (.bl (j && l))) h) := by
  unfold mChain
  rw [e1, bd_ok, e2, bd_ok, e3, bd_ok]
  cases j with
  | true =>
    dsimp only
    rw [e4 rfl, bd_ok]
    exact e5 rfl
  | false => rfl
theorem x_Sl {o : Bool} {ml mh : E (Option Int)} {lo hi : Option Int} (e1 : ma τ h = some (.ok a h1)) (e2 : ml τ h1 = some (.ok lo h2)) (e3 : mh τ h2 = some (.ok hi h3)) (e4 : gSl o a lo hi h3 = r) : mSl o ma ml mh τ h = r := by
  unfold mSl
  rw [e1, bd_ok, e2, bd_ok, e3, bd_ok, e4]
theorem x_moN : moN τ h = some (.ok none h) := rfl
theorem x_moS {z : Int} (e : m τ h = some (.ok (.d (.int z)) h1)) : moS m τ h = some (.ok (some z) h1) := by unfold moS; rw [e]; rfl
theorem x_M1 {tok : A → Hq → Bool} (e1 : ma τ h = some (.ok a h1)) (q : tok a h1 = true) (e2 : mb τ h1 = some (.ok b h2)) (e3 : g a b h2 = r) : mM1 tok g ma mb τ h = r := by
  unfold mM1
  rw [e1, bd_ok, if_pos q, e2, bd_ok, e3]
theorem x_M0 {tok : A → Hq → Bool} {g : G1} (e1 : ma τ h = some (.ok a h1)) (q : tok a h1 = true) (e3 : g a h1 = r) : mM0 tok g ma τ h = r := by
  unfold mM0
  rw [e1, bd_ok, if_pos q, e3]
theorem tokL_r (e : h[k]? = some (.lst ws)) : tokL (.r k) h = true := by unfold tokL lstOf; dsimp only; rw [e]; rfl
theorem tokS_s {z : Str} : tokS (.d (.str z)) h = true := rfl
/-! ### calls -/
theorem vws_all (e : allD ws = some ds) : mapMn (view h) ws = some ds := by
  cases allD_of e
  exact mapMn_d _ _ (vw_d 32 h)
theorem x_CallP {sem : Sem1} {h' : Hq} (e : mr τ h = some (.ok ws h1)) (q : allD ws = some ds) (s : sem ws [] = some (.ok w h')) (v : view h' w = some d) : mCallP sem mr τ h = some (.ok (.d d) h1) := by
  cases allD_of q
  exact callP_of e s v
/-- with cells that are seen as data -/
theorem x_CallPv {sem : Sem1} {h' : Hq} (e : mr τ h = some (.ok ws h1)) (q : mapMn (view h1) ws = some ds) (u : ds.map A.d = us) (s : sem us [] = some (.ok w h')) (v : view h' w = some d) (f : d.flat = true) : mCallP sem mr τ h = some (.ok (.d d) h1) := by
  unfold mCallP
  rw [e, bd_ok]
  unfold callP
  rw [q]
  dsimp only
  rw [u, s]
  dsimp only
  rw [v]
  dsimp only
  rw [if_pos (by rw [f, Bool.or_true])]
theorem x_CallPx {sem : Sem1} {h' : Hq} {C : Str} (e : mr τ h = some (.ok ws h1)) (q : allD ws = some ds) (s : sem ws [] = some (.ex (.own C) h')) : mCallP sem mr τ h = some (.ex (.own C) h1) := by
  cases allD_of q
  unfold mCallP
  rw [e, bd_ok]
  unfold callP
  rw [mapMn_d _ _ (vw_d 32 h1)]
  dsimp only
  rw [s]
  dsimp only
  rw [allD_map]
  rfl
theorem x_Call {sem : Sem1} (e : mr τ h = some (.ok ws h1)) (s : sem ws h1 = r) : mCall sem mr τ h = r := by rw [call_of e, s]
theorem x_MethP {C f : Str} {sem : Sem1} {o : D} {h' : Hq} (e1 : mo τ h = some (.ok (.d o) h1)) (hi : insOf C f (.d o) h1 = true) (e2 : mr τ h1 = some (.ok ws h2)) (hl : ws.length + 1 = n) (q : allD ws = some ds) (s : sem (.d o :: ws) [] = some (.ok w h')) (v : view h' w = some d) : mMethP C f n sem mo mr τ h = some (.ok (.d d) h2) := by
  unfold mMethP
  rw [e1, bd_ok, if_pos hi, e2, bd_ok, if_pos hl]
  have := callP_of (mr := fun _ _ => some (.ok (.d o :: ws) h2)) (τ := τ) (h := h) (h1 := h2) (sem := sem) (ds := o :: ds) (w := w) (d := d) (h' := h') (by rw [List.map_cons, ← allD_of q]) (by rw [List.map_cons, ← allD_of q]; exact s) v
  exact this
/-- the object a cell that is seen as data -/
theorem x_MethPv {C f : Str} {sem : Sem1} {h' : Hq} (e1 : mo τ h = some (.ok a h1)) (hi : insOf C f a h1 = true) (e2 : mr τ h1 = some (.ok ws h2)) (hl : ws.length + 1 = n) (q : mapMn (view h2) (a :: ws) = some ds) (u : ds.map A.d = us) (s : sem us [] = some (.ok w h')) (v : view h' w = some d) (fl : d.flat = true) : mMethP C f n sem mo mr τ h = some (.ok (.d d) h2) := by
  unfold mMethP
  rw [e1, bd_ok, if_pos hi, e2, bd_ok, if_pos hl]
  unfold callP
  rw [q]
  dsimp only
  rw [u, s]
  dsimp only
  rw [v]
  dsimp only
  rw [if_pos (by rw [fl, Bool.or_true])]
theorem x_Meth {C f : Str} {sem : Sem1} (e1 : mo τ h = some (.ok a h1)) (hi : insOf C f a h1 = true) (e2 : mr τ h1 = some (.ok ws h2)) (hl : ws.length + 1 = n) (s : sem (a :: ws) h2 = r) : mMeth C f n sem mo mr τ h = r := by rw [meth_of e1 hi e2 hl, s]
theorem ins_d {C f : Str} {fs : List Str} {xs : List D} (e : decide (f ∈ fs) = false) : insOf C f (.d (.nd (.ins C fs) xs)) h = true := by
  unfold insOf dicOf
  dsimp only
  rw [decide_eq_true rfl, e]
  rfl
theorem ins_r {C f : Str} {fs : List Str} (c : h[k]? = some (.nd (.ins C fs) ws)) (e : decide (f ∈ fs) = false) : insOf C f (.r k) h = true := by
  unfold insOf dicOf
  dsimp only
  rw [c]
  dsimp only
  rw [decide_eq_true rfl, e]
  rfl
theorem x_Make {C : Str} {sem : Sem1} (e : mr τ h = some (.ok ws h1)) (hl : ws.length + 1 = n) (hk : h1.length = k) (s : sem (.r k :: ws) (h1 ++ [.nd (.ins C []) []]) = some (.ok (.d .non) h2)) : mMake C n sem mr τ h = some (.ok (.r k) h2) := by
  subst hk
  unfold mMake
  rw [e, bd_ok, if_pos hl, s]
theorem x_MakeP {C : Str} {sem : Sem1} (e : mr τ h = some (.ok ws h1)) (hl : ws.length + 1 = n) (q : allD ws = some ds) (s : sem (.r 0 :: ws) [.nd (.ins C []) []] = some (.ok (.d .non) h2)) (v : view h2 (.r 0) = some d) : mMakeP C n sem mr τ h = some (.ok (.d d) h1) := by
  unfold mMakeP
  rw [e, bd_ok]
  unfold makeP
  rw [if_pos hl, q]
  dsimp only
  rw [← allD_of q, s]
  dsimp only
  rw [v]
theorem x_Get2 {kd : A} {hd : Hd} {u : A} (e1 : mo τ h = some (.ok a h1)) (q1 : isDic h1 a = true) (e2 : ma τ h1 = some (.ok kd h2)) (e3 : mb τ h2 = some (.ok b h3)) (q2 : dicOf h3 a = some (hd, ws)) (q3 : hGet hd ws kd = some (some u)) : mGet2 mo ma mb τ h = some (.ok u h3) := by
  unfold mGet2
  rw [e1, bd_ok, if_pos q1, e2, bd_ok, e3, bd_ok, q2]
  dsimp only
  rw [q3]
theorem x_Get2n {kd : A} {hd : Hd} (e1 : mo τ h = some (.ok a h1)) (q1 : isDic h1 a = true) (e2 : ma τ h1 = some (.ok kd h2)) (e3 : mb τ h2 = some (.ok b h3)) (q2 : dicOf h3 a = some (hd, ws)) (q3 : hGet hd ws kd = some none) : mGet2 mo ma mb τ h = some (.ok b h3) := by
  unfold mGet2
  rw [e1, bd_ok, if_pos q1, e2, bd_ok, e3, bd_ok, q2]
  dsimp only
  rw [q3]
/-! ### what is seen -/
theorem view_d {x : D} : view h (.d x) = some x := vw_d 32 h x
theorem view_l (e : h[k]? = some (.lst ws)) (q : allD ws = some ds) : view h (.r k) = some (.lst ds) := by
  cases allD_of q
  exact view_lst e
theorem view_n {hd : Hd} (e : h[k]? = some (.nd hd ws)) (q : allD ws = some ds) : view h (.r k) = some (.nd hd ds) := by
  cases allD_of q
  show vw 32 h (.r k) = _
  unfold vw
  rw [e]
  dsimp only
  rw [mapMn_d _ _ (vw_d 31 h)]
  rfl
theorem views_nil {f : A → Option D} : mapMn f [] = some [] := rfl
theorem views_cons {f : A → Option D} (e : f a = some d) (q : mapMn f ws = some ds) : mapMn f (a :: ws) = some (d :: ds) := by
  unfold mapMn
  rw [e, q]
/-! ### statements -/
variable {m1 m2 : MS} {R : Option So}
theorem s_Seq (e : m1 τ h = some (.nx τ1 h1)) (e2 : m2 τ1 h1 = R) : mSeq m1 m2 τ h = R := by rw [seq_nx e, e2]
def contG (r : So) (m2 : MS) : Option So := match r with | .nx τ h => m2 τ h | r => some r
theorem s_SeqG {q : So} (e : m1 τ h = some q) (e2 : contG q m2 = R) : mSeq m1 m2 τ h = R := by
  unfold mSeq
  rw [e, ← e2]
  cases q <;> rfl
theorem cont_nx (e : m2 τ h = R) : contG (.nx τ h) m2 = R := e
theorem cont_rt : contG (.rt w h) m2 = some (.rt w h) := rfl
theorem cont_bk : contG (.bk τ h) m2 = some (.bk τ h) := rfl
theorem cont_ct : contG (.ct τ h) m2 = some (.ct τ h) := rfl
theorem cont_ex {x : Xc} : contG (.ex x τ h) m2 = some (.ex x τ h) := rfl
theorem s_If (e : t τ h = some (.ok j h1)) (q : j = true ∧ m1 τ h1 = R ∨ j = false ∧ m2 τ h1 = R) : mIf t m1 m2 τ h = R := by
  rcases q with ⟨rfl, q⟩ | ⟨rfl, q⟩
  · rw [if_tt e, q]
  · rw [if_ff e, q]
theorem s_SeqR (e : m1 τ h = some (.rt w h1)) : mSeq m1 m2 τ h = some (.rt w h1) := seq_rt e
theorem s_Set (e : m τ h = some (.ok w h1)) (s : τ.set i (some w) = τ1) : mSet i m τ h = some (.nx τ1 h1) := by rw [set_of e, s]
theorem s_Drop (e : m τ h = some (.ok w h1)) : mDrop m τ h = some (.nx τ h1) := drop_of e
theorem s_Ret (e : m τ h = some (.ok w h1)) : mRet m τ h = some (.rt w h1) := ret_of e
theorem s_RetN : mRetN τ h = some (.rt (.d .non) h) := rfl
theorem s_Nx : mNx τ h = some (.nx τ h) := rfl
theorem s_Bk : mBk τ h = some (.bk τ h) := rfl
theorem s_Ct : mCt τ h = some (.ct τ h) := rfl
theorem s_IfT (e : t τ h = some (.ok j h1)) (q : j = true) (e2 : m1 τ h1 = R) : mIf t m1 m2 τ h = R := by subst q; rw [if_tt e, e2]
theorem s_IfF (e : t τ h = some (.ok j h1)) (q : j = false) (e2 : m2 τ h1 = R) : mIf t m1 m2 τ h = R := by subst q; rw [if_ff e, e2]
theorem s_Asg {gg : A → Sl → Hq → Option Sl} (e : m τ h = some (.ok w h1)) (q : gg w τ h1 = some τ1) : mAsg gg m τ h = some (.nx τ1 h1) := by unfold mAsg; rw [e, sb_ok, q]
theorem mg_Name (s : τ.set i (some w) = τ1) : mgName i w τ h = some τ1 := by rw [← s]; rfl
theorem mg_Tup {gs : List A → Sl → Hq → Option Sl} (e : tupOf w = some ws) (hl : ws.length = n) (q : gs ws τ h = some τ1) : mgTup n gs w τ h = some τ1 := by
  unfold mgTup
  rw [e]
  dsimp only
  rw [if_pos hl, q]
theorem mg_T2 {gs : List A → Sl → Hq → Option Sl} {x y : D} (q : gs [.d x, .d y] τ h = some τ1) : mgTup 2 gs (.d (.tup [x, y])) τ h = some τ1 := mg_Tup rfl rfl q
theorem mg_T3 {gs : List A → Sl → Hq → Option Sl} {x y z : D} (q : gs [.d x, .d y, .d z] τ h = some τ1) : mgTup 3 gs (.d (.tup [x, y, z])) τ h = some τ1 := mg_Tup rfl rfl q
theorem mg_T4 {gs : List A → Sl → Hq → Option Sl} {x y z u : D} (q : gs [.d x, .d y, .d z, .d u] τ h = some τ1) : mgTup 4 gs (.d (.tup [x, y, z, u])) τ h = some τ1 := mg_Tup rfl rfl q
theorem mg_T5 {gs : List A → Sl → Hq → Option Sl} {x y z u v : D} (q : gs [.d x, .d y, .d z, .d u, .d v] τ h = some τ1) : mgTup 5 gs (.d (.tup [x, y, z, u, v])) τ h = some τ1 := mg_Tup rfl rfl q
theorem mg_L2 {gs : List A → Sl → Hq → Option Sl} {x y : D} (q : gs [.d x, .d y] τ h = some τ1) : mgTup 2 gs (.d (.lst [x, y])) τ h = some τ1 := by
  unfold mgTup
  exact (if_pos rfl).trans q
theorem mg_C {gs : List A → Sl → Hq → Option Sl} (e : h[k]? = some (.lst ws)) (hl : ws.length = n) (q : gs ws τ h = some τ1) : mgTup n gs (.r k) τ h = some τ1 := by
  unfold mgTup
  simp only [tupOf, lstOf, e]
  rw [if_pos hl, q]
theorem mg_Cons {gg : A → Sl → Hq → Option Sl} {gs : List A → Sl → Hq → Option Sl} {τ2 : Sl} (e : gg w τ h = some τ1) (q : gs ws τ1 h = some τ2) : mgCons gg gs (w :: ws) τ h = some τ2 := by
  unfold mgCons
  dsimp only
  rw [e]
  exact q
theorem mg_Nil : mgNil [] τ h = some τ := rfl
theorem s_Aug (e0 : τ[i]? = some (some a)) (e : m τ h = some (.ok b h1)) (q : g a b h1 = some (.ok w h2)) (s : τ.set i (some w) = τ1) : mAug i g m τ h = some (.nx τ1 h2) := by
  unfold mAug
  rw [e0]
  dsimp only
  rw [e, sb_ok, q, sb_ok, s]
theorem s_SetI {z : Int} (e1 : mv τ h = some (.ok w h1)) (e2 : mo τ h1 = some (.ok (.r k) h2)) (e3 : mi τ h2 = some (.ok (.d (.int z)) h3)) (e : h3[k]? = some (.lst ws)) (ix : ixN ws.length z = some n) (s : h3.set k (.lst (ws.set n w)) = h4) : mSetI true mo mi mv τ h = some (.nx τ h4) := by
  unfold mSetI
  rw [e1, sb_ok, e2, sb_ok, e3, sb_ok]
  rw [if_pos (by unfold isLst; dsimp only; rw [e])]
  unfold putA
  dsimp only
  rw [e]
  dsimp only
  rw [ix]
  dsimp only
  rw [s]
theorem s_AugI {z : Int} {u w' : A} (e1 : mo τ h = some (.ok (.r k) h1)) (e2 : mi τ h1 = some (.ok (.d (.int z)) h2)) (e : h2[k]? = some (.lst ws)) (ix : ixN ws.length z = some n) (eu : ws[n]? = some u) (e3 : mv τ h2 = some (.ok w h3)) (q : g u w h3 = some (.ok w' h3)) (ek : h3[k]? = some (.lst ws)) (s : h3.set k (.lst (ws.set n w')) = h4) : mAugI true g mo mi mv τ h = some (.nx τ h4) := by
  unfold mAugI
  rw [e1, sb_ok, e2, sb_ok]
  rw [if_pos rfl, if_pos (by unfold isLst; dsimp only; rw [e])]
  have : gIx (.r k) (.d (.int z)) h2 = some (.ok u h2) := by
    unfold gIx atI
    simp only [tupOf, lstOf, e, ix, Option.bind_some, eu]
  rw [this, sb_ok, e3, sb_ok, q, sb_ok]
  rw [if_pos (by unfold isLst; dsimp only; rw [ek])]
  unfold putA
  dsimp only
  rw [ek]
  dsimp only
  rw [ix]
  dsimp only
  rw [s]
theorem s_SetF {T : FTab} {f C : Str} {fs fs' : List Str} (e1 : mv τ h = some (.ok w h1)) (e2 : mo τ h1 = some (.ok (.r k) h2)) (e : h2[k]? = some (.nd (.ins C fs) ws)) (hf : fOk T C f = true) (hl : fs.length < 1000) (p : fPut f w fs ws = (fs', ws')) (s : h2.set k (.nd (.ins C fs') ws') = h3) : mSetF T f mo mv τ h = some (.nx τ h3) := by
  unfold mSetF
  rw [e1, sb_ok, e2, sb_ok]
  dsimp only
  rw [e]
  dsimp only
  rw [if_pos ⟨hf, hl⟩, p, s]
theorem s_AugF {T : FTab} {f C : Str} {fs fs' : List Str} {u w' : A} (e1 : mo τ h = some (.ok (.r k) h1)) (e : h1[k]? = some (.nd (.ins C fs) ws)) (hf : fOk T C f = true) (q0 : fGet f fs ws = some u) (e2 : mv τ h1 = some (.ok w h2)) (q : g u w h2 = some (.ok w' h3)) (ek : h3[k]? = some (.nd (.ins C fs) ws)) (hl : fs.length < 1000) (p : fPut f w' fs ws = (fs', ws')) (s : h3.set k (.nd (.ins C fs') ws') = h4) : mAugF T f g mo mv τ h = some (.nx τ h4) := by
  unfold mAugF
  rw [e1, sb_ok]
  have : gFld T f (.r k) h1 = some (.ok u h1) := by
    unfold gFld dicOf
    dsimp only
    rw [e]
    dsimp only
    rw [if_pos hf, q0]
  rw [this, sb_ok, e2, sb_ok, q, sb_ok]
  dsimp only
  rw [e, ek]
  dsimp only
  rw [if_pos ⟨rfl, hf, hl⟩, p, s]
theorem s_Fz {c : O} (e : τ[i]? = some (some (.r k))) (e1 : h[k]? = some c) (q : fzO c = some d) (s : τ.set i (some (.d d)) = τ1) (s2 : h.set k .dead = h2) : mFz i τ h = some (.nx τ1 h2) := by
  unfold mFz
  rw [e]
  dsimp only
  rw [e1]
  dsimp only
  rw [q]
  dsimp only
  rw [s, s2]
theorem s_For {mi : E Nxt} {gg : A → Sl → Hq → Option Sl} {mb : MS} {nx : Nxt} (e : mi τ h = some (.ok nx h1)) (q : forM nx gg mb FU 0 τ h1 = R) : mFor mi gg mb τ h = R := by rw [mFor_of e, q]
/-! ### operators -/
variable {x y z : Int}
theorem g_add {o : Bool} : gAdd o (.d (.int x)) (.d (.int y)) h = some (.ok (.d (.int (x + y))) h) := rfl
theorem g_iadd : gIAdd (.d (.int x)) (.d (.int y)) h = some (.ok (.d (.int (x + y))) h) := rfl
theorem g_sub : gSub (.d (.int x)) (.d (.int y)) h = some (.ok (.d (.int (x - y))) h) := rfl
theorem g_mul (e : mulOk x y = true) : gMul (.d (.int x)) (.d (.int y)) h = some (.ok (.d (.int (x * y))) h) := gMul_ok h e
theorem g_div (e : divOk x y = true) : gDiv (.d (.int x)) (.d (.int y)) h = some (.ok (.d (.int (x / y))) h) := gDiv_ok h e
theorem g_mod (e : 0 < y) : gMod (.d (.int x)) (.d (.int y)) h = some (.ok (.d (.int (x % y))) h) := gMod_ok h e
theorem g_neg : gNeg (.d (.int x)) h = some (.ok (.d (.int (-x))) h) := rfl
theorem g_lt : gLt (.d (.int x)) (.d (.int y)) h = some (.ok (.d (.bl (decide (x < y)))) h) := rfl
theorem g_le : gLe (.d (.int x)) (.d (.int y)) h = some (.ok (.d (.bl (decide (x ≤ y)))) h) := rfl
theorem g_gt : gGt (.d (.int x)) (.d (.int y)) h = some (.ok (.d (.bl (decide (y < x)))) h) := rfl
theorem g_ge : gGe (.d (.int x)) (.d (.int y)) h = some (.ok (.d (.bl (decide (y ≤ x)))) h) := rfl
theorem g_olt : gOrdO .Lt (.d (.int x)) (.d (.int y)) h = some (.ok (.d (.bl (decide (x < y)))) h) := rfl
theorem g_ole : gOrdO .LtE (.d (.int x)) (.d (.int y)) h = some (.ok (.d (.bl (decide (x ≤ y)))) h) := rfl
theorem g_ogt : gOrdO .Gt (.d (.int x)) (.d (.int y)) h = some (.ok (.d (.bl (decide (y < x)))) h) := rfl
theorem g_oge : gOrdO .GtE (.d (.int x)) (.d (.int y)) h = some (.ok (.d (.bl (decide (y ≤ x)))) h) := rfl
theorem g_eqi : gEq false (.d (.int x)) (.d (.int y)) h = some (.ok (.d (.bl (decide (x = y)))) h) := by
  unfold gEq g2V view
  rw [vw_d, vw_d]
  dsimp only
  rw [eqD_int, if_neg (by simp)]
theorem g_nei : gEq true (.d (.int x)) (.d (.int y)) h = some (.ok (.d (.bl (!decide (x = y)))) h) := by
  unfold gEq g2V view
  rw [vw_d, vw_d]
  dsimp only
  rw [eqD_int, if_pos rfl]
theorem g_eqv {q : Bool} {e f : D} {n : Bool} (v1 : view h a = some e) (v2 : view h b = some f) (s : eqD n e f = some q) : gEq n a b h = some (.ok (.d (.bl q)) h) := by
  unfold gEq g2V
  rw [v1, v2]
  dsimp only
  rw [s]
theorem eqD_bl {n p q : Bool} : eqD n (.bl p) (.bl q) = some (if n then !(p == q) else p == q) := by cases n <;> cases p <;> cases q <;> rfl
theorem eqD_str {n : Bool} {p q : Str} (hp : PyData.strOk p = true) (hq : PyData.strOk q = true) : eqD n (.str p) (.str q) = some (if n then !decide (p = q) else decide (p = q)) := by
  unfold eqD
  rw [show (D.str p).shp = true from shp_fok hp, show (D.str q).shp = true from shp_fok hq, eqv_str]
  rfl
theorem g_isnn {n : Bool} : gIs n (.d .non) (.d .non) h = some (.ok (.d (.bl (!n))) h) := by cases n <;> rfl
theorem g_isnn0 : gIs false (.d .non) (.d .non) h = some (.ok (.d (.bl true)) h) := rfl
theorem g_isnn1 : gIs true (.d .non) (.d .non) h = some (.ok (.d (.bl false)) h) := rfl
theorem g_isn (n : Bool) (e : a.isNon = false) : gIs n a (.d .non) h = some (.ok (.d (.bl n)) h) := by
  unfold gIs
  dsimp only
  rw [e]
  cases n <;> rfl
theorem g_isb {n p q : Bool} : gIs n (.d (.bl p)) (.d (.bl q)) h = some (.ok (.d (.bl (n != (p == q)))) h) := rfl
theorem g_int : gInt (.d (.int x)) h = some (.ok (.d (.int x)) h) := rfl
theorem g_intb {p : Bool} : gInt (.d (.bl p)) h = some (.ok (.d (.int (if p then 1 else 0))) h) := rfl
theorem g_abs : gAbs (.d (.int x)) h = some (.ok (.d (.int (if x < 0 then -x else x))) h) := rfl
theorem g_max : gMax2 (.d (.int x)) (.d (.int y)) h = some (.ok (.d (.int (if y > x then y else x))) h) := rfl
theorem g_min : gMin2 (.d (.int x)) (.d (.int y)) h = some (.ok (.d (.int (if y < x then y else x))) h) := rfl
theorem g_lenl {α : Type} {f : α → D} {xs : List α} : gLen (.d (.lst (xs.map f))) h = some (.ok (.d (.int (xs.length : Nat))) h) := by
  show some (Rs.ok (A.d (D.int ((((xs.map f).map A.d).length : Nat) : Int))) h) = _
  rw [List.length_map, List.length_map]
theorem g_lent {α : Type} {f : α → D} {xs : List α} : gLen (.d (.tup (xs.map f))) h = some (.ok (.d (.int (xs.length : Nat))) h) := by
  show some (Rs.ok (A.d (D.int ((((xs.map f).map A.d).length : Nat) : Int))) h) = _
  rw [List.length_map, List.length_map]
theorem g_lenld : gLen (.d (.lst ds)) h = some (.ok (.d (.int (ds.length : Nat))) h) := by
  show some (Rs.ok (A.d (D.int (((ds.map A.d).length : Nat) : Int))) h) = _
  rw [List.length_map]
theorem g_lentd : gLen (.d (.tup ds)) h = some (.ok (.d (.int (ds.length : Nat))) h) := by
  show some (Rs.ok (A.d (D.int (((ds.map A.d).length : Nat) : Int))) h) = _
  rw [List.length_map]
theorem g_lens {ns : List Int} : gLen (.d (.scr ns)) h = some (.ok (.d (.int (ns.length : Nat))) h) := rfl
theorem g_lenc (e : h[k]? = some (.lst ws)) : gLen (.r k) h = some (.ok (.d (.int (ws.length : Nat))) h) := gLen_c e
theorem ix_nat {l i : Nat} (hi : i < l) : ixN l (i : Int) = some i := by
  unfold ixN
  rw [if_pos (by omega), if_pos (by omega)]
  simp
theorem ix_int {l : Nat} {z : Int} (h0 : 0 ≤ z) (h1 : z.toNat < l) : ixN l z = some z.toNat := by
  unfold ixN
  rw [if_pos h0, if_pos (by omega)]
theorem ix_last {l : Nat} (hl : 0 < l) : ixN l (-1) = some (l - 1) := by
  unfold ixN
  rw [if_neg (by omega)]
  rw [if_pos (by omega)]
  congr 1
  omega
theorem atI_ix {α : Type} {xs : List α} {z : Int} {u : α} (e : ixN xs.length z = some n) (e2 : xs[n]? = some u) : atI xs z = some u := by
  unfold atI
  rw [e]
  exact e2
theorem gGet_of (hd : dicOf h a = none) : gGet a b h = gIx a b h := by
  unfold gGet
  rw [hd]
  rfl
/-- of a list of data -/
theorem g_getl {α : Type} {f : α → D} {xs : List α} {u : α} (e : ixN xs.length z = some n) (e2 : xs[n]? = some u) : gGet (.d (.lst (xs.map f))) (.d (.int z)) h = some (.ok (.d (f u)) h) := by
  show (match atI ((xs.map f).map A.d) z with | some w => some (Rs.ok w h) | none => none) = _
  rw [atI_ix (n := n) (u := A.d (f u)) (by rw [List.length_map, List.length_map]; exact e) (by rw [List.getElem?_map, List.getElem?_map, e2]; rfl)]
theorem g_gett {α : Type} {f : α → D} {xs : List α} {u : α} (e : ixN xs.length z = some n) (e2 : xs[n]? = some u) : gGet (.d (.tup (xs.map f))) (.d (.int z)) h = some (.ok (.d (f u)) h) := by
  show (match atI ((xs.map f).map A.d) z with | some w => some (Rs.ok w h) | none => none) = _
  rw [atI_ix (n := n) (u := A.d (f u)) (by rw [List.length_map, List.length_map]; exact e) (by rw [List.getElem?_map, List.getElem?_map, e2]; rfl)]
theorem g_getld (e : ixN ds.length z = some n) (e2 : ds[n]? = some d) : gGet (.d (.lst ds)) (.d (.int z)) h = some (.ok (.d d) h) := by
  show (match atI (ds.map A.d) z with | some w => some (Rs.ok w h) | none => none) = _
  rw [atI_ix (n := n) (u := A.d d) (by rw [List.length_map]; exact e) (by rw [List.getElem?_map, e2]; rfl)]
theorem g_gettd (e : ixN ds.length z = some n) (e2 : ds[n]? = some d) : gGet (.d (.tup ds)) (.d (.int z)) h = some (.ok (.d d) h) := by
  show (match atI (ds.map A.d) z with | some w => some (Rs.ok w h) | none => none) = _
  rw [atI_ix (n := n) (u := A.d d) (by rw [List.length_map]; exact e) (by rw [List.getElem?_map, e2]; rfl)]
theorem g_getc {u : A} (c : h[k]? = some (.lst ws)) (e : ixN ws.length z = some n) (e2 : ws[n]? = some u) : gGet (.r k) (.d (.int z)) h = some (.ok u h) := by
  unfold gGet dicOf
  simp only [c]
  unfold gIx
  simp only [tupOf, lstOf, c]
  rw [atI_ix e e2]
  rfl
theorem g_gets {ns : List Int} {u : Int} (e : ixN ns.length z = some n) (e2 : ns[n]? = some u) : gGet (.d (.scr ns)) (.d (.int z)) h = some (.ok (.d (.int u)) h) := by
  show (match atI ns z with | some n => some (Rs.ok (A.d (.int n)) h) | none => none) = _
  rw [atI_ix e e2]
theorem g_gettc {u : A} (e : ixN ws.length z = some n) (e2 : ws[n]? = some u) : gGet (.tup ws) (.d (.int z)) h = some (.ok u h) := by
  show (match atI ws z with | some w => some (Rs.ok w h) | none => none) = _
  rw [atI_ix e e2]
theorem g_fldd {T : FTab} {f C : Str} {fs : List Str} {xs : List D} (hf : fOk T C f = true) (e : fGetD f fs xs = some d) : gFld T f (.d (.nd (.ins C fs) xs)) h = some (.ok (.d d) h) := by
  unfold gFld dicOf
  dsimp only
  rw [if_pos hf, fGetD_ok e]
theorem g_fld {T : FTab} {f C : Str} {fs : List Str} {xs : List D} (hf : fOk T C f = true) (e : fGet f fs (xs.map A.d) = some w) : gFld T f (.d (.nd (.ins C fs) xs)) h = some (.ok w h) := by
  unfold gFld dicOf
  dsimp only
  rw [if_pos hf, e]
theorem g_fldc {T : FTab} {f C : Str} {fs : List Str} (c : h[k]? = some (.nd (.ins C fs) ws)) (hf : fOk T C f = true) (e : fGet f fs ws = some w) : gFld T f (.r k) h = some (.ok w h) := by
  unfold gFld dicOf
  dsimp only
  rw [c]
  dsimp only
  rw [if_pos hf, e]
theorem g_tupl (hl : ds.length ≤ LIM) : gTupOf (.d (.lst ds)) h = some (.ok (.d (.tup ds)) h) := by
  show mkT (ds.map A.d) h = _
  exact x_mkT (allD_map ds) hl
theorem g_tupt (hl : ds.length ≤ LIM) : gTupOf (.d (.tup ds)) h = some (.ok (.d (.tup ds)) h) := by
  show mkT (ds.map A.d) h = _
  exact x_mkT (allD_map ds) hl
theorem g_tupc (e : h[k]? = some (.lst ws)) (q : allD ws = some ds) (hl : ds.length ≤ LIM) : gTupOf (.r k) h = some (.ok (.d (.tup ds)) h) := by
  unfold gTupOf
  simp only [tupOf, lstOf, e]
  exact x_mkT q hl
theorem g_lstl {o : Bool} (e : mkL o (ds.map A.d) h = r) : gLstOf o (.d (.lst ds)) h = r := by rw [← e]; rfl
theorem g_lstt {o : Bool} (e : mkL o (ds.map A.d) h = r) : gLstOf o (.d (.tup ds)) h = r := by rw [← e]; rfl
theorem g_lstc {o : Bool} (c : h[k]? = some (.lst ws)) (e : mkL o ws h = r) : gLstOf o (.r k) h = r := by
  unfold gLstOf
  simp only [tupOf, lstOf, c]
  exact e
theorem g_app (e : h[k]? = some (.lst ws)) (hl : ws.length < LIM) (s : h.set k (.lst (ws ++ [w])) = h1) : gApp (.r k) w h = some (.ok (.d .non) h1) := by
  unfold gApp
  dsimp only
  rw [e]
  dsimp only
  rw [if_pos hl, s]
theorem g_ext (e : h[k]? = some (.lst ws)) (e2 : lstOf h w = some us) (hl : ws.length + us.length ≤ LIM) (s : h.set k (.lst (ws ++ us)) = h1) : gExt (.r k) w h = some (.ok (.d .non) h1) := by
  unfold gExt
  dsimp only
  rw [e]
  dsimp only
  rw [e2]
  dsimp only
  rw [if_pos hl, s]
theorem g_pop {u : A} (e : h[k]? = some (.lst ws)) (e2 : ws[ws.length - 1]? = some u) (s : h.set k (.lst ws.dropLast) = h1) : gPop (.r k) h = some (.ok u h1) := by
  unfold gPop
  dsimp only
  rw [e]
  dsimp only
  rw [e2]
  dsimp only
  rw [s]
theorem g_cat {o : Bool} {xs ys : List D} (e : mkL o ((xs ++ ys).map A.d) h = r) : gAdd o (.d (.lst xs)) (.d (.lst ys)) h = r := by
  rw [← e, List.map_append]
  rfl
theorem g_catt {o : Bool} {xs ys : List D} (hl : (xs ++ ys).length ≤ LIM) : gAdd o (.d (.tup xs)) (.d (.tup ys)) h = some (.ok (.d (.tup (xs ++ ys))) h) := by
  show mkT (xs.map A.d ++ ys.map A.d) h = _
  rw [← List.map_append]
  exact x_mkT (allD_map _) hl
theorem g_cats {o : Bool} {p q : Str} (hl : p.length + q.length ≤ LIM) : gAdd o (.d (.str p)) (.d (.str q)) h = some (.ok (.d (.str (p ++ q))) h) := by
  show (if _ then _ else _) = _
  rw [if_pos hl]
theorem g_sll {lo hi : Option Int} (hl : ds.length ≤ LIM) : gSl false (.d (.lst ds)) lo hi h = some (.ok (.d (.lst (cut ds lo hi))) h) := by
  show mkL false (cut (ds.map A.d) lo hi) h = _
  rw [map_cut]
  exact mkL_d (Nat.le_trans (cut_len _ _ _) hl)
theorem g_slt {o : Bool} {lo hi : Option Int} (hl : ds.length ≤ LIM) : gSl o (.d (.tup ds)) lo hi h = some (.ok (.d (.tup (cut ds lo hi))) h) := by
  show mkT (cut (ds.map A.d) lo hi) h = _
  rw [map_cut]
  exact x_mkT (allD_map _) (Nat.le_trans (cut_len _ _ _) hl)
theorem g_isi {T N : String} (e : tyA h a = some N) : gIsi T a h = some (.ok (.d (.bl (isiN T N))) h) := by unfold gIsi; rw [e]
theorem g_isi2 {T U N : String} (e : tyA h a = some N) : gIsi2 T U a h = some (.ok (.d (.bl (isiN T N || isiN U N))) h) := by unfold gIsi2; rw [e]
/-! ### what is walked -/
theorem x_It {xs : List D} (e : m τ h = some (.ok (.d (.lst xs)) h1)) : mItems m τ h = some (.ok (nxL (xs.map A.d)) h1) := by unfold mItems; rw [e]; rfl
theorem x_ItT {xs : List D} (e : m τ h = some (.ok (.d (.tup xs)) h1)) : mItems m τ h = some (.ok (nxL (xs.map A.d)) h1) := by unfold mItems; rw [e]; rfl
theorem x_ItC (e : m τ h = some (.ok (.r k) h1)) (c : h1[k]? = some (.lst ws)) : mItems m τ h = some (.ok (nxC k) h1) := by
  unfold mItems
  rw [e, bd_ok]
  dsimp only
  rw [c]
def iD (n : Nat) : A := .d (.int (n : Nat))
theorem range0 (n : Nat) : rangeA 0 n = (List.range n).map iD := by
  unfold rangeA iD
  refine List.map_congr_left fun i _ => ?_
  rw [Int.zero_add]
theorem x_Rg {q : Nat} (e : m τ h = some (.ok (.d (.int (q : Nat))) h1)) (hq : q ≤ LIM) : mRange1 m τ h = some (.ok (nxL ((List.range q).map iD)) h1) := by
  rw [mRange1_of e (by omega) (by have : LIM = 16777216 := rfl; omega), Int.toNat_natCast, range0]
theorem range_get {q j : Nat} {w : A} (e : ((List.range q).map iD)[j]? = some w) : j < q ∧ w = .d (.int (j : Nat)) := by
  rw [List.getElem?_map] at e
  rcases Nat.lt_or_ge j q with z | z
  · rw [List.getElem?_range z] at e
    cases e
    exact ⟨z, rfl⟩
  · rw [List.getElem?_eq_none (by rw [List.length_range]; exact z)] at e
    cases e
theorem range_len {q : Nat} : ((List.range q).map iD).length = q := by rw [List.length_map, List.length_range]
theorem map_get {α : Type} {f : α → A} {xs : List α} {j : Nat} {w : A} (e : (xs.map f)[j]? = some w) : ∃ x, xs[j]? = some x ∧ w = f x := by
  rw [List.getElem?_map] at e
  cases q : xs[j]? with
  | none => rw [q] at e; cases e
  | some x => rw [q] at e; cases e; exact ⟨x, rfl, rfl⟩
theorem map_get2 {α : Type} {f : α → D} {xs : List α} {j : Nat} {w : A} (e : ((xs.map f).map A.d)[j]? = some w) : ∃ x, xs[j]? = some x ∧ w = .d (f x) := by
  rw [List.map_map] at e
  exact map_get e
end
/-! ### comprehensions, item by item -/
theorem lc_filter {α : Type} {o : Bool} {mi : E Nxt} {gg : A → Sl → Hq → Option Sl} {mt : E Bool} {me : E A} {vs : List Nat} {τ : Sl} {h h1 : Hq} {xs : List α} (ι : α → A) (p : α → Bool) (f : α → A) (e : mi τ h = some (.ok (nxL (xs.map ι)) h1)) (hl : xs.length ≤ LIM)
    (hs : ∀ (n : Nat) (x : α), xs[n]? = some x → ∃ τ1, gg (ι x) (wipeT τ vs) h1 = some τ1 ∧ mt τ1 h1 = some (.ok (p x) h1) ∧ (p x = true → me τ1 h1 = some (.ok (f x) h1))) : mLC o mi gg mt me vs τ h = mkL o ((xs.filter p).map f) h1 := by
  unfold mLC
  rw [e, bd_ok]
  obtain ⟨as, h', e2, rfl, rfl⟩ := compL_inv (g := gg) (mt := mt) (me := me) (τw := wipeT τ vs) (h := h1) (ws := xs.map ι) (fun n h as => h = h1 ∧ as = ((xs.take n).filter p).map f) ⟨rfl, rfl⟩ (fun n w h as hw i => by
    obtain ⟨rfl, rfl⟩ := i
    obtain ⟨x, ex, rfl⟩ := map_get hw
    obtain ⟨τ1, e1, e2, e3⟩ := hs n x ex
    refine ⟨τ1, e1, ?_⟩
    rw [List.take_add_one, ex]
    cases hp : p x with
    | true => exact .inl ⟨h, h, f x, by rw [e2, hp], e3 hp, rfl, by simp [List.filter_append, hp]⟩
    | false => exact .inr ⟨h, by rw [e2, hp], rfl, by simp [List.filter_append, hp]⟩) (by rw [List.length_map]; exact hl)
  rw [e2]
  dsimp only
  have h2 := List.length_filter_le p xs
  rw [List.take_of_length_le (by rw [List.length_map]; exact Nat.le_refl _), if_pos (by rw [List.length_map]; omega)]
theorem lc_map {α : Type} {o : Bool} {mi : E Nxt} {gg : A → Sl → Hq → Option Sl} {me : E A} {vs : List Nat} {τ : Sl} {h h1 : Hq} {xs : List α} (ι : α → A) (f : α → A) (e : mi τ h = some (.ok (nxL (xs.map ι)) h1)) (hl : xs.length ≤ LIM)
    (hs : ∀ (n : Nat) (x : α), xs[n]? = some x → ∃ τ1, gg (ι x) (wipeT τ vs) h1 = some τ1 ∧ me τ1 h1 = some (.ok (f x) h1)) : mLC o mi gg mYes me vs τ h = mkL o (xs.map f) h1 := by
  rw [lc_filter ι (fun _ => true) f e hl (fun n x ex => by
    obtain ⟨τ1, e1, e2⟩ := hs n x ex
    exact ⟨τ1, e1, rfl, fun _ => e2⟩), show xs.filter (fun _ => true) = xs from List.filter_eq_self.mpr fun _ _ => rfl]
/-- over a cell that stays -/
theorem lc_filterC {α : Type} {o : Bool} {mi : E Nxt} {gg : A → Sl → Hq → Option Sl} {mt : E Bool} {me : E A} {vs : List Nat} {τ : Sl} {h h1 : Hq} {k : Nat} {xs : List α} (ι : α → A) (p : α → Bool) (f : α → A) (e : mi τ h = some (.ok (nxC k) h1)) (c : h1[k]? = some (.lst (xs.map ι))) (hl : xs.length ≤ LIM)
    (hs : ∀ (n : Nat) (x : α), xs[n]? = some x → ∃ τ1, gg (ι x) (wipeT τ vs) h1 = some τ1 ∧ mt τ1 h1 = some (.ok (p x) h1) ∧ (p x = true → me τ1 h1 = some (.ok (f x) h1))) : mLC o mi gg mt me vs τ h = mkL o ((xs.filter p).map f) h1 := by
  unfold mLC
  rw [e, bd_ok]
  have go : ∀ (j n fu : Nat), xs.length - n = j → n ≤ xs.length → j < fu → compM (nxC k) gg mt me (wipeT τ vs) fu n h1 = some (((xs.drop n).filter p).map f, h1) := by
    intro j
    induction j with
    | zero =>
      intro n fu e hn hf
      have : n = xs.length := by omega
      subst this
      obtain ⟨fu, rfl⟩ : ∃ f', fu = f' + 1 := ⟨fu - 1, by omega⟩
      unfold compM
      rw [show nxC k xs.length h1 = some none from by unfold nxC; rw [c]; dsimp only; rw [List.getElem?_eq_none (by rw [List.length_map]; exact Nat.le_refl _)]]
      dsimp only
      rw [List.drop_of_length_le (Nat.le_refl _)]
      rfl
    | succ j ih =>
      intro n fu e hn hf
      have hlt : n < xs.length := by omega
      obtain ⟨fu, rfl⟩ : ∃ f', fu = f' + 1 := ⟨fu - 1, by omega⟩
      obtain ⟨τ1, e1, e2, e3⟩ := hs n _ (List.getElem?_eq_getElem hlt)
      unfold compM
      rw [show nxC k n h1 = some (some (ι xs[n])) from by unfold nxC; rw [c]; dsimp only; rw [List.getElem?_map, List.getElem?_eq_getElem hlt]; rfl]
      dsimp only
      rw [e1]
      dsimp only
      rw [e2, List.drop_eq_getElem_cons hlt]
      cases hp : p xs[n] with
      | true =>
        dsimp only
        rw [e3 hp]
        dsimp only
        rw [ih (n + 1) fu (by omega) (by omega) (by omega)]
        dsimp only
        rw [List.filter_cons_of_pos hp, List.map_cons]
      | false =>
        dsimp only
        rw [ih (n + 1) fu (by omega) (by omega) (by omega), List.filter_cons_of_neg (by rw [hp]; simp)]
  have := go xs.length 0 FU (by omega) (Nat.zero_le _) (by show xs.length < 16777217; have : xs.length ≤ 16777216 := hl; omega)
  rw [this]
  dsimp only
  have h2 := List.length_filter_le p xs
  rw [List.drop_zero, if_pos (by rw [List.length_map]; omega)]
theorem lc_mapC {α : Type} {o : Bool} {mi : E Nxt} {gg : A → Sl → Hq → Option Sl} {me : E A} {vs : List Nat} {τ : Sl} {h h1 : Hq} {k : Nat} {xs : List α} (ι : α → A) (f : α → A) (e : mi τ h = some (.ok (nxC k) h1)) (c : h1[k]? = some (.lst (xs.map ι))) (hl : xs.length ≤ LIM)
    (hs : ∀ (n : Nat) (x : α), xs[n]? = some x → ∃ τ1, gg (ι x) (wipeT τ vs) h1 = some τ1 ∧ me τ1 h1 = some (.ok (f x) h1)) : mLC o mi gg mYes me vs τ h = mkL o (xs.map f) h1 := by
  rw [lc_filterC ι (fun _ => true) f e c hl (fun n x ex => by
    obtain ⟨τ1, e1, e2⟩ := hs n x ex
    exact ⟨τ1, e1, rfl, fun _ => e2⟩), show xs.filter (fun _ => true) = xs from List.filter_eq_self.mpr fun _ _ => rfl]
/-- every item a new cell -/
theorem lc_new {α : Type} {o : Bool} {mi : E Nxt} {gg : A → Sl → Hq → Option Sl} {me : E A} {vs : List Nat} {τ : Sl} {h h1 : Hq} {xs : List α} (ι : α → A) (c : α → O) (e : mi τ h = some (.ok (nxL (xs.map ι)) h1)) (hl : xs.length ≤ LIM)
    (hs : ∀ (n : Nat) (x : α) (h : Hq), xs[n]? = some x → ∃ τ1, gg (ι x) (wipeT τ vs) h = some τ1 ∧ me τ1 h = some (.ok (.r h.length) (h ++ [c x]))) : mLC o mi gg mYes me vs τ h = mkL o ((List.range xs.length).map fun i => .r (h1.length + i)) (h1 ++ xs.map c) := by
  unfold mLC
  rw [e, bd_ok]
  obtain ⟨as, h', e2, rfl, rfl⟩ := compL_inv (g := gg) (mt := mYes) (me := me) (τw := wipeT τ vs) (h := h1) (ws := xs.map ι) (fun n h as => h = h1 ++ (xs.take n).map c ∧ as = (List.range (min n xs.length)).map fun i => A.r (h1.length + i)) ⟨by simp, by simp⟩ (fun n w h as hw i => by
    obtain ⟨rfl, rfl⟩ := i
    obtain ⟨x, ex, rfl⟩ := map_get hw
    obtain ⟨τ1, e1, e2⟩ := hs n x (h1 ++ (xs.take n).map c) ex
    have hn := (List.getElem?_eq_some_iff.mp ex).1
    refine ⟨τ1, e1, .inl ⟨_, _, _, rfl, e2, ?_, ?_⟩⟩
    · rw [List.take_add_one, ex]
      simp
    · rw [Nat.min_eq_left (Nat.le_of_lt hn), Nat.min_eq_left hn, List.range_succ, List.map_append, List.length_append, List.length_map, List.length_take, Nat.min_eq_left (Nat.le_of_lt hn)]
      rfl) (by rw [List.length_map]; exact hl)
  rw [e2]
  dsimp only
  rw [if_pos (by rw [List.length_map, List.length_range]; omega), List.length_map, List.take_of_length_le (Nat.le_refl _), Nat.min_self]
/-! ### a loop that looks for what fails -/
theorem for_all {α : Type} {gg : A → Sl → Hq → Option Sl} {mb : MS} {τ : Sl} {h : Hq} {xs : List α} {r : A} (ι : α → A) (p : α → Bool) (I : Sl → Prop) (i0 : I τ) (hl : xs.length ≤ LIM)
    (hs : ∀ (n : Nat) (x : α) (τ : Sl), xs[n]? = some x → I τ → (xs.take n).all p = true → ∃ τ1, gg (ι x) τ h = some τ1 ∧ ((p x = true ∧ ∃ τ2, I τ2 ∧ (mb τ1 h = some (.nx τ2 h) ∨ mb τ1 h = some (.ct τ2 h))) ∨ (p x = false ∧ mb τ1 h = some (.rt r h)))) :
    (xs.all p = true ∧ ∃ τ', I τ' ∧ forM (nxL (xs.map ι)) gg mb FU 0 τ h = some (.nx τ' h)) ∨ (xs.all p = false ∧ forM (nxL (xs.map ι)) gg mb FU 0 τ h = some (.rt r h)) := by
  have go : ∀ (k n f : Nat) (τ : Sl), xs.length - n = k → n ≤ xs.length → k < f → I τ → (xs.take n).all p = true →
      ((xs.drop n).all p = true ∧ ∃ τ', I τ' ∧ forM (nxL (xs.map ι)) gg mb f n τ h = some (.nx τ' h)) ∨ ((xs.drop n).all p = false ∧ forM (nxL (xs.map ι)) gg mb f n τ h = some (.rt r h)) := by
    intro k
    induction k with
    | zero =>
      intro n f τ e hn hf i ht
      have : n = xs.length := by omega
      subst this
      obtain ⟨f, rfl⟩ : ∃ f', f = f' + 1 := ⟨f - 1, by omega⟩
      refine .inl ⟨by rw [List.drop_length]; rfl, τ, i, ?_⟩
      unfold forM nxL
      rw [List.getElem?_eq_none (by rw [List.length_map]; exact Nat.le_refl _)]
    | succ k ih =>
      intro n f τ e hn hf i ht
      have hlt : n < xs.length := by omega
      obtain ⟨f, rfl⟩ : ∃ f', f = f' + 1 := ⟨f - 1, by omega⟩
      have hx : xs[n]? = some xs[n] := List.getElem?_eq_getElem hlt
      have un : nxL (xs.map ι) n h = some (some (ι xs[n])) := by unfold nxL; rw [List.getElem?_map, hx]; rfl
      obtain ⟨τ1, e1, q⟩ := hs n _ τ hx i ht
      rcases q with ⟨hp, τ2, i2, e2⟩ | ⟨hp, e2⟩
      · have ht2 : (xs.take (n + 1)).all p = true := by rw [List.take_add_one, hx, List.all_append, ht]; simp [hp]
        have := ih (n + 1) f τ2 (by omega) (by omega) (by omega) i2 ht2
        have st : forM (nxL (xs.map ι)) gg mb (f + 1) n τ h = forM (nxL (xs.map ι)) gg mb f (n + 1) τ2 h := by
          conv => lhs; unfold forM
          rw [un]
          dsimp only
          rw [e1]
          dsimp only
          rcases e2 with e2 | e2 <;> (rw [e2])
        rw [st, List.drop_eq_getElem_cons hlt, List.all_cons, hp, Bool.true_and]
        exact this
      · refine .inr ⟨by rw [List.drop_eq_getElem_cons hlt, List.all_cons, hp, Bool.false_and], ?_⟩
        unfold forM
        rw [un]
        dsimp only
        rw [e1]
        dsimp only
        rw [e2]
  have := go xs.length 0 FU τ (by omega) (Nat.zero_le _) (by show xs.length < 16777217; have : xs.length ≤ 16777216 := hl; omega) i0 rfl
  rwa [List.drop_zero] at this
/-- a loop that goes to its end -/
theorem for_inv {α : Type} {gg : A → Sl → Hq → Option Sl} {mb : MS} {τ : Sl} {h : Hq} {xs : List α} (ι : α → A) (I : Nat → Sl → Hq → Prop) (i0 : I 0 τ h) (hl : xs.length ≤ LIM)
    (hs : ∀ (n : Nat) (x : α) (τ : Sl) (h : Hq), xs[n]? = some x → I n τ h → ∃ τ1, gg (ι x) τ h = some τ1 ∧ ∃ τ2 h2, I (n + 1) τ2 h2 ∧ (mb τ1 h = some (.nx τ2 h2) ∨ mb τ1 h = some (.ct τ2 h2))) :
    ∃ τ' h', I xs.length τ' h' ∧ forM (nxL (xs.map ι)) gg mb FU 0 τ h = some (.nx τ' h') := by
  obtain ⟨τ', h', e, i⟩ := forL_inv (g := gg) (mb := mb) (ws := xs.map ι) I i0 (fun n w τ h hw i => by
    obtain ⟨x, ex, rfl⟩ := map_get hw
    obtain ⟨τ1, e1, τ2, h2, i2, e2⟩ := hs n x τ h ex i
    exact ⟨τ1, τ2, h2, e1, e2, i2⟩) (by rw [List.length_map]; exact hl)
  rw [List.length_map] at i
  exact ⟨τ', h', i, e⟩
theorem rangeget {q n x : Nat} (e : (List.range q)[n]? = some x) : n < q ∧ x = n := by
  rcases Nat.lt_or_ge n q with z | z
  · rw [List.getElem?_range z] at e
    exact ⟨z, (Option.some.inj e).symm⟩
  · rw [List.getElem?_eq_none (by rw [List.length_range]; exact z)] at e
    cases e
end Tq

/-! Tq18: new cells forgotten behind a call; comprehensions of two fors; C(..) with defaults left out. -/
namespace Tq
open PySem PySem.Spec PyProof.Rows L2
/-! ### cells forgotten -/
mutual
def A.blw (n : Nat) : A → Bool
  | .d _ => true
  | .r k => decide (k < n)
  | .tup ws => blwL n ws
def blwL (n : Nat) : List A → Bool
  | [] => true
  | w :: r => A.blw n w && blwL n r
end
def O.blw (n : Nat) : O → Bool
  | .lst ws => blwL n ws | .nd _ ws => blwL n ws | .dead => true
def Cl (n : Nat) (h : Hq) : Bool := h.all (O.blw n)
theorem blwL_d {α : Type} {n : Nat} (f : α → D) : ∀ (xs : List α), blwL n (xs.map fun x => A.d (f x)) = true
  | [] => rfl
  | x :: r => by
    show (A.blw n (.d (f x)) && blwL n (r.map fun x => A.d (f x))) = true
    rw [blwL_d f r]
    rfl
theorem blwL_ds {n : Nat} : ∀ (xs : List D), blwL n (xs.map A.d) = true
  | [] => rfl
  | x :: r => by
    show (A.blw n (.d x) && blwL n (r.map A.d)) = true
    rw [blwL_ds r]
    rfl
theorem blwL_mem {n : Nat} : ∀ {ws : List A}, (∀ w ∈ ws, w.blw n = true) → blwL n ws = true
  | [], _ => rfl
  | w :: r, h => by
    show (A.blw n w && blwL n r) = true
    rw [h w (List.mem_cons_self ..), blwL_mem fun u hu => h u (List.mem_cons_of_mem _ hu)]
    rfl
abbrev cutr (n : Nat) (ρ : Nat → Option Addr) : Nat → Option Addr := fun k => if k < n then ρ k else none
section
variable {K : PySem.W.Frag} {Z B H : Hp} {ρ : Nat → Option Addr} {h : Hq} {n : Nat}
mutual
theorem RA.cutr : ∀ {v : V} {w : A}, RA K B ρ v w → w.blw n = true → RA K B (Tq.cutr n ρ) v w
  | _, _, .d r, _ => .d r
  | _, _, .r (k := k) e, c => by
    have c : k < n := of_decide_eq_true c
    exact .r (by show (if k < n then ρ k else none) = _; rw [if_pos c]; exact e)
  | _, _, .tup e r, c => .tup e (RAL.cutr r c)
theorem RAL.cutr : ∀ {vs : List V} {ws : List A}, RAL K B ρ vs ws → blwL n ws = true → RAL K B (Tq.cutr n ρ) vs ws
  | _, _, .nil, _ => .nil
  | _, _, .cons (w := w) (ws := ws) r t, c => by
    have c : (A.blw n w && blwL n ws) = true := c
    rw [Bool.and_eq_true] at c
    exact .cons (RA.cutr r c.1) (RAL.cutr t c.2)
end
theorem cutr_some {k : Nat} {a : Addr} (e : cutr n ρ k = some a) : k < n ∧ ρ k = some a := by
  have e : (if k < n then ρ k else none) = some a := e
  split at e
  · exact ⟨by assumption, e⟩
  · cases e
theorem Ok.cut (ok : Ok K Z B ρ H h) (c : Cl n (h.take n) = true) : Ok K Z B (cutr n ρ) H (h.take n) := by
  refine ⟨ok.ex, ok.zz, fun k o e => ?_, fun i j a e1 e2 => ok.nj i j a (cutr_some e1).2 (cutr_some e2).2, fun k a e => ok.al k a (cutr_some e).2, fun k e => ?_⟩
  · have hb : o.blw n = true := List.all_eq_true.mp c o (List.mem_of_getElem? e)
    rw [List.getElem?_take] at e
    split at e
    · rename_i hk
      obtain ⟨a, e1, e2⟩ := ok.ce k o e
      refine ⟨a, by show (if k < n then ρ k else none) = _; rw [if_pos hk]; exact e1, ?_⟩
      cases e2 with
      | lst x1 x2 x3 x4 => exact .lst x1 (x2.cutr hb) x3 x4
      | nd x1 x2 x3 => exact .nd x1 (x2.cutr hb) x3
      | dead x1 => exact .dead x1
    · cases e
  · show (if k < n then ρ k else none) = none
    split
    · rename_i hk
      rw [List.length_take] at e
      exact ok.up k (by omega)
    · rfl
end
/-- an answer that is data: the cells that are new are forgotten -/
def mGc (m : E A) : E A := fun τ h => match m τ h with
  | some (.ok (.d d) h2) => if Cl h.length (h2.take h.length) = true then some (.ok (.d d) (h2.take h.length)) else none
  | some (.ok _ _) => none
  | r => r
theorem rx_gc {X : Cx} {W : WX} {e : Expr} {m : E A} (r : RX X W e m) : RX X W e (mGc m) := ⟨pe_imp r.pe fun σ H Q q => by
  obtain ⟨Z, B, ρ, τ, h, ok, sl, q⟩ := q
  refine ⟨Z, B, ρ, τ, h, ok, sl, ?_⟩
  unfold mGc at q
  revert q
  cases m τ h with
  | none => exact fun q => q
  | some r =>
    cases r with
    | ex x h2 => exact fun q => q
    | ok w h2 =>
      cases w with
      | r _ => exact fun q => q.elim
      | tup _ => exact fun q => q.elim
      | d d =>
        intro q B' ρ' H' ok' g v rv
        dsimp only at q
        split at q
        · rename_i c
          exact q B' (cutr h.length ρ') H' (ok'.cut c) ⟨g.bb, fun k a e => by
            have hk : k < h.length := by
              apply Classical.byContradiction
              intro y
              rw [ok.up k (by omega)] at e
              cases e
            show (if k < h.length then ρ' k else none) = some a
            rw [if_pos hk]
            exact g.rr k a e, g.fz⟩ v (.d (ra_d rv))
        · exact q.elim⟩
theorem x_Gc {m : E A} {τ : Sl} {h g : Hq} {d : D} (e : m τ h = some (.ok (.d d) (h ++ g))) (c : Cl h.length h = true) : mGc m τ h = some (.ok (.d d) h) := by
  unfold mGc
  rw [e]
  dsimp only
  rw [List.take_left' rfl, if_pos c]
theorem x_Gc0 {m : E A} {τ : Sl} {h : Hq} {d : D} (e : m τ h = some (.ok (.d d) h)) (c : Cl h.length h = true) : mGc m τ h = some (.ok (.d d) h) := x_Gc (g := []) (by rw [List.append_nil]; exact e) c
/-! ### [e for a in xs for b in ys] -/
def compM2 (nx : Nxt) (g : A → Sl → Hq → Option Sl) (mt : E Bool) (mi1 : E Nxt) (g1 : A → Sl → Hq → Option Sl) (mt1 : E Bool) (me : E A) (τw : Sl) (vs1 : List Nat) : Nat → Nat → Hq → Option (List A × Hq)
  | 0, _, _ => none
  | f + 1, i, h => match nx i h with
    | some none => some ([], h)
    | some (some w) => (match g w τw h with
      | some τ1 => (match mt τ1 h with
        | some (.ok true h1) => (match mi1 τ1 h1 with
          | some (.ok nx1 h2) => (match compM nx1 g1 mt1 me (wipeT τ1 vs1) FU 0 h2 with
            | some (r, h3) => (match compM2 nx g mt mi1 g1 mt1 me τw vs1 f (i + 1) h3 with | some (r2, h4) => some (r ++ r2, h4) | none => none)
            | none => none)
          | _ => none)
        | some (.ok false h1) => compM2 nx g mt mi1 g1 mt1 me τw vs1 f (i + 1) h1
        | _ => none)
      | none => none)
    | none => none
def mLC2 (o : Bool) (mi : E Nxt) (g : A → Sl → Hq → Option Sl) (mt : E Bool) (mi1 : E Nxt) (g1 : A → Sl → Hq → Option Sl) (mt1 : E Bool) (me : E A) (vs vs1 : List Nat) : E A := fun τ h => bd (mi τ h) fun nx h1 => match compM2 nx g mt mi1 g1 mt1 me (wipeT τ vs) vs1 FU 0 h1 with
  | some (ws, h2) => if ws.length ≤ LIM then mkL o ws h2 else none
  | none => none
abbrev tGx (X : Cx) (vs : List Nat) (g : A → Sl → Hq → Option Sl) : TG := fun v σ H Q => ∃ Z B ρ w τ τ' h, Ok X.K Z B ρ H h ∧ SlOk X.K B ρ σ τ ∧ RA X.K B ρ v w ∧ g w τ h = some τ' ∧ ∀ σ', SlOk X.K B ρ σ' τ' → Apart vs σ σ' → Q σ' H
abbrev tIx (X : Cx) (m : E Nxt) : TI := fun σ H R => ∃ Z B ρ τ h, Ok X.K Z B ρ H h ∧ SlOk X.K B ρ σ τ ∧ Post X.K Z (fun c d H' => W0 c d σ H') B ρ (fun nx _ B' ρ' H' => ∀ J, Walk X.K B' ρ' J nx → R J H') (m τ h)
theorem lc2_reads {X : Cx} {vs vs1 : List Nat} {g g1 : A → Sl → Hq → Option Sl} {mt mt1 : E Bool} {mi1 : E Nxt} {me : E A} {o : Bool}
    {σ : L2.St} {Z B1 H1 : Hp} {ρ1 : Nat → Option Addr} {h1 h2 : Hq} {τ : Sl} {nx : Nxt} {J : It} {ws : List A} {Q : VK} {W : XK} (ok1 : Ok X.K Z B1 ρ1 H1 h1) (sl1 : SlOk X.K B1 ρ1 σ τ) (wk : Walk X.K B1 ρ1 J nx)
    (e : compM2 nx g mt mi1 g1 mt1 me (wipeT τ vs) vs1 FU 0 h1 = some (ws, h2)) (hl : ws.length ≤ LIM) (k : Post X.K Z W B1 ρ1 (fun w _ B' ρ' H' => ∀ v, RA X.K B' ρ' v w → Q v H') (mkL o ws h2)) :
    ∀ D, H1 D = none → ∃ Wv : Nat → Nat → Hp → Prop, (∃ m, Wv 0 m (upd H1 D (.lst []))) ∧ ∀ i m H, Wv i m H →
  (J.stop i H ∧ Q (.ref D) H) ∨ (J.go i H ∧ ∃ Nx : Hp → Prop, (∀ H', Nx H' → ∃ m', m' < m ∧ Wv (i + 1) m' H') ∧ ∀ x H', J.yld i H x H' → tGx X vs g x (L2.wipe σ vs) H' fun σ2 H2 => L2.wipe σ2 vs = L2.wipe σ vs ∧ tT X.K W0 mt σ2 H2 fun b H3 =>
    if b = true then tIx X mi1 σ2 H3 fun J1 H4 => ∃ W1 : Nat → Nat → Hp → Prop, (∃ m, W1 0 m H4) ∧ ∀ j k H, W1 j k H →
      (J1.stop j H ∧ Nx H) ∨ (J1.go j H ∧ ∃ Nx1 : Hp → Prop, (∀ H', Nx1 H' → ∃ k', k' < k ∧ W1 (j + 1) k' H') ∧ ∀ x H', J1.yld j H x H' → tGx X vs1 g1 x (L2.wipe σ2 vs1) H' fun σ3 H5 => L2.wipe σ3 vs1 = L2.wipe σ2 vs1 ∧ tT X.K W0 mt1 σ3 H5 fun b H6 =>
        if b = true then tE X.K W0 me σ3 H6 fun y H7 => ∃ acc, H7 D = some (.lst acc) ∧ acc.length < sizeLine ∧ Nx1 (upd H7 D (.lst (acc ++ [y]))) else Nx1 H6)
    else Nx H3) := by
  intro D hD
  have hzD : Z D = none := by
    cases z : Z D with
    | none => rfl
    | some u => rw [ok1.zz D u z] at hD; cases hD
  have hbD : B1 D = none := by
    cases z : B1 D with
    | none => rfl
    | some u => rw [ok1.ex D u z] at hD; cases hD
  refine ⟨fun i m H' => ∃ B' ρ' h' acc as rest, Ok X.K (upd Z D (.lst acc)) B' ρ' H' h' ∧ Gr Z B1 ρ1 B' ρ' ∧ B' D = none ∧ RAL X.K B' ρ' acc as ∧
      compM2 nx g mt mi1 g1 mt1 me (wipeT τ vs) vs1 m i h' = some (rest, h2) ∧ ws = as ++ rest,
    ⟨FU, B1, ρ1, h1, [], [], ws, ok1.aside hD, Gr.refl, hbD, .nil, e, rfl⟩, ?_⟩
  rintro i m H2 ⟨B2, ρ2, h', acc, as, rest, ok2, g2, hb2, ra, ec, ew⟩
  cases m with
  | zero => cases ec
  | succ m =>
    obtain ⟨stop, go⟩ := wk _ B2 ρ2 H2 h' i ok2 g2.wk
    unfold compM2 at ec
    split at ec
    · rename_i e1
      cases ec
      rw [List.append_nil] at ew
      subst ew
      exact .inl ⟨stop e1, ok2.adopt hb2 hzD ra (k.from g2)⟩
    · rename_i w e1
      obtain ⟨k1, k2⟩ := go w e1
      refine .inr ⟨k1, fun H' => ∃ B' ρ' h' acc as rest, Ok X.K (upd Z D (.lst acc)) B' ρ' H' h' ∧ Gr Z B1 ρ1 B' ρ' ∧ B' D = none ∧ RAL X.K B' ρ' acc as ∧
        compM2 nx g mt mi1 g1 mt1 me (wipeT τ vs) vs1 m (i + 1) h' = some (rest, h2) ∧ ws = as ++ rest, fun H' q => ⟨m, Nat.lt_succ_self m, q⟩, fun x H3 y => ?_⟩
      obtain ⟨B3, rx, ok3, g3⟩ := k2 x H3 y
      have keep : ∀ {B' : Hp} {ρ' : Nat → Option Addr} {Ba : Hp} {ρa : Nat → Option Addr} {acc : List V}, Ba D = none → Gr (upd Z D (.lst acc)) Ba ρa B' ρ' → B' D = none := fun {B' ρ' Ba ρa acc} hn g => by
        cases z : B' D with
        | none => rfl
        | some u =>
          have := g.fz D hn (by rw [z]; simp)
          rw [upd_same] at this
          cases this
      have hb3 := keep hb2 g3
      have g13 := g2.trans (g3.aside hzD)
      split at ec
      · rename_i τ3 e3
        refine ⟨_, B3, ρ2, w, wipeT τ vs, τ3, h', ok3, (sl1.mono g13).wipe vs, rx, e3, fun σ4 sl4 a4 => ⟨(wipe_apart a4).trans (wipe_wipe σ vs), ⟨_, B3, ρ2, τ3, h', ok3, sl4, ?_⟩⟩⟩
        split at ec
        · rename_i h5 e5
          rw [e5]
          intro B5 ρ5 H5 ok5 g5
          refine iteT ⟨_, B5, ρ5, τ3, h5, ok5, sl4.mono g5, ?_⟩
          have hb5 := keep hb3 g5
          have g15 := g13.trans (g5.aside hzD)
          split at ec
          · rename_i nx1 h6 e6
            rw [e6]
            intro B6 ρ6 H6 ok6 g6 J1 wk1
            have hb6 := keep hb5 g6
            have g16 := g15.trans (g6.aside hzD)
            have sl6 := (sl4.mono g5).mono g6
            split at ec
            · rename_i r1 h7 e7
              split at ec
              · rename_i r2 h8 e8
                cases ec
                refine ⟨fun j k H' => ∃ B' ρ' h' acc as rest, Ok X.K (upd Z D (.lst acc)) B' ρ' H' h' ∧ Gr Z B6 ρ6 B' ρ' ∧ B' D = none ∧ RAL X.K B' ρ' acc as ∧
                    compM nx1 g1 mt1 me (wipeT τ3 vs1) k j h' = some (rest, h7) ∧ ws = as ++ (rest ++ r2),
                  ⟨FU, B6, ρ6, h6, acc, as, r1, ok6, Gr.refl, hb6, ra.mono ((g3.aside hzD).trans ((g5.aside hzD).trans (g6.aside hzD))), e7, ew⟩, ?_⟩
                rintro j kk H9 ⟨B9, ρ9, h9, acc9, as9, rest9, ok9, g9, hb9, ra9, ec9, ew9⟩
                cases kk with
                | zero => cases ec9
                | succ kk =>
                  obtain ⟨stop1, go1⟩ := wk1 _ B9 ρ9 H9 h9 j ok9 g9.wk
                  unfold compM at ec9
                  split at ec9
                  · rename_i f1
                    cases ec9
                    exact .inl ⟨stop1 f1, B9, ρ9, _, acc9, as9, r2, ok9, g16.trans g9, hb9, ra9, e8, by rw [ew9]; rfl⟩
                  · rename_i w1 f1
                    obtain ⟨l1, l2⟩ := go1 w1 f1
                    refine .inr ⟨l1, fun H' => ∃ B' ρ' h' acc as rest, Ok X.K (upd Z D (.lst acc)) B' ρ' H' h' ∧ Gr Z B6 ρ6 B' ρ' ∧ B' D = none ∧ RAL X.K B' ρ' acc as ∧
                      compM nx1 g1 mt1 me (wipeT τ3 vs1) kk (j + 1) h' = some (rest, h7) ∧ ws = as ++ (rest ++ r2), fun H' q => ⟨kk, Nat.lt_succ_self kk, q⟩, fun x1 H10 y1 => ?_⟩
                    obtain ⟨B10, rx1, ok10, g10⟩ := l2 x1 H10 y1
                    have hb10 := keep hb9 g10
                    have g610 := g9.trans (g10.aside hzD)
                    split at ec9
                    · rename_i τ5 f3
                      refine ⟨_, B10, ρ9, w1, wipeT τ3 vs1, τ5, h9, ok10, (sl6.mono g610).wipe vs1, rx1, f3, fun σ5 sl5 a5 => ⟨(wipe_apart a5).trans (wipe_wipe σ4 vs1), ⟨_, B10, ρ9, τ5, h9, ok10, sl5, ?_⟩⟩⟩
                      split at ec9
                      · rename_i h11 f5
                        rw [f5]
                        intro B11 ρ11 H11 ok11 g11
                        refine iteT ⟨_, B11, ρ11, τ5, h11, ok11, sl5.mono g11, ?_⟩
                        have hb11 := keep hb10 g11
                        split at ec9
                        · rename_i a h12 f6
                          rw [f6]
                          intro B12 ρ12 H12 ok12 g12 v rv
                          have hb12 := keep hb11 g12
                          split at ec9
                          · rename_i r h13 f7
                            cases ec9
                            have g1012 := (g11.trans g12).aside hzD
                            refine ⟨acc9, ok12.zz D _ upd_same, ?_, B12, ρ12, h12, acc9 ++ [v], as9 ++ [a], r, ok12.turn hb12 hzD, g610.trans g1012, hb12, (ra9.mono ((g10.aside hzD).trans g1012)).append (.cons rv .nil), f7, by rw [ew9, List.append_assoc]; rfl⟩
                            rw [ra9.length, ← lim_eq]
                            rw [ew9, List.length_append, List.length_append, List.length_cons] at hl
                            omega
                          · cases ec9
                        · cases ec9
                      · rename_i h11 f5
                        rw [f5]
                        intro B11 ρ11 H11 ok11 g11
                        exact iteF ⟨B11, ρ11, h11, acc9, as9, rest9, ok11, g610.trans (g11.aside hzD), keep hb10 g11, ra9.mono ((g10.aside hzD).trans (g11.aside hzD)), ec9, ew9⟩
                      · cases ec9
                    · cases ec9
                  · cases ec9
              · cases ec
            · cases ec
          · cases ec
        · rename_i h5 e5
          rw [e5]
          intro B5 ρ5 H5 ok5 g5
          exact iteF ⟨B5, ρ5, h5, acc, as, rest, ok5, g13.trans (g5.aside hzD), keep hb3 g5, ra.mono ((g3.aside hzD).trans (g5.aside hzD)), ec, ew⟩
        · cases ec
      · cases ec
    · cases ec
section
variable {X : Cx} {W : WX} {tg iter tg1 iter1 elt : Expr} {ifs ifs1 : List Expr} {scope : Scope} {mi mi1 : E Nxt} {g g1 : A → Sl → Hq → Option Sl} {mt mt1 : E Bool} {me : E A} {pos : Pos}
theorem rx_lc2 (o : Bool) (hc : X.calm = true) (hN : X.N.Nodup) (own : List (Str × Nat)) (vs1 : List Nat) (hv : ∀ i ∈ vs1, i ∈ own.map (·.2)) (hi : RI X W tg iter mi)
    (hg : ∀ (s : Shared) (H : Hp) (C : Addr) (cl : List (Str × Addr)) (fp : List Addr), RG (X.blk s H scope (compEnvC scope cl C X.env) fp) (own.map (·.2)) tg g) (ht : ∀ (s : Shared) (H : Hp) (C : Addr) (cl : List (Str × Addr)) (fp : List Addr), RTs (X.blk s H scope (compEnvC scope cl C X.env) fp) W0 ifs mt)
    (hi1 : ∀ (s : Shared) (H : Hp) (C : Addr) (cl : List (Str × Addr)) (fp : List Addr), RI (X.blk s H scope (compEnvC scope cl C X.env) fp) W0 tg1 iter1 mi1)
    (hg1 : ∀ (s : Shared) (H : Hp) (C : Addr) (cl : List (Str × Addr)) (fp : List Addr), RG (X.blk s H scope (compEnvC scope cl C X.env) fp) vs1 tg1 g1) (ht1 : ∀ (s : Shared) (H : Hp) (C : Addr) (cl : List (Str × Addr)) (fp : List Addr), RTs (X.blk s H scope (compEnvC scope cl C X.env) fp) W0 ifs1 mt1)
    (he : ∀ (s : Shared) (H : Hp) (C : Addr) (cl : List (Str × Addr)) (fp : List Addr), RX (X.blk s H scope (compEnvC scope cl C X.env) fp) W0 elt me) (ok : BlkOk X.N X.env.scope scope own)
    (hs : ∀ x, foldedSetIterable iter X.env x = pure x := by intro _; rfl) (hs1 : ∀ env x, foldedSetIterable iter1 env x = pure x := by intro _ _; rfl) : RX X W (.ListComp elt [⟨tg, iter, ifs, 0⟩, ⟨tg1, iter1, ifs1, 0⟩] scope pos) (mLC2 o mi g mt mi1 g1 mt1 me (own.map (·.2)) vs1) := ⟨pe_imp (pe_lc2 hc hN hi.pi ok hv (g := tGx X (own.map (·.2)) g) (tt := tT X.K W0 mt) (wi1 := tIx X mi1) (g1 := tGx X vs1 g1) (tt1 := tT X.K W0 mt1) (te := tE X.K W0 me)
    (fun s H C cl fp => (hg s H C cl fp).pg) (fun s H C cl fp => (ht s H C cl fp).pt) (fun s H C cl fp => (hi1 s H C cl fp).pi) (fun s H C cl fp => (hg1 s H C cl fp).pg) (fun s H C cl fp => (ht1 s H C cl fp).pt) (fun s H C cl fp => (he s H C cl fp).pe) hs hs1) fun σ H Q q => by
  obtain ⟨Z, B, ρ, τ, h, okk, sl, q⟩ := q
  unfold mLC2 at q
  refine ⟨Z, B, ρ, τ, h, okk, sl, q.bd.imp fun nx h1 B1 ρ1 H1 ok1 g1 q1 J wk => ?_⟩
  split at q1
  · rename_i ws h2 e1
    split at q1
    · rename_i hl
      exact lc2_reads (X := X) ok1 (sl.mono g1) wk e1 hl q1
    · exact q1.elim
  · exact q1.elim⟩
theorem rs_setLc2 (o : Bool) {i : Nat} {y : Str} {py spos : Pos} (hc : X.calm = true) (hN : X.N.Nodup) (own : List (Str × Nat)) (vs1 : List Nat) (hv : ∀ i ∈ vs1, i ∈ own.map (·.2)) (hi : RI X W tg iter mi)
    (hg : ∀ (s : Shared) (H : Hp) (C : Addr) (cl : List (Str × Addr)) (fp : List Addr), RG (X.blk s H scope (compEnvC scope cl C X.env) fp) (own.map (·.2)) tg g) (ht : ∀ (s : Shared) (H : Hp) (C : Addr) (cl : List (Str × Addr)) (fp : List Addr), RTs (X.blk s H scope (compEnvC scope cl C X.env) fp) W0 ifs mt)
    (hi1 : ∀ (s : Shared) (H : Hp) (C : Addr) (cl : List (Str × Addr)) (fp : List Addr), RI (X.blk s H scope (compEnvC scope cl C X.env) fp) W0 tg1 iter1 mi1)
    (hg1 : ∀ (s : Shared) (H : Hp) (C : Addr) (cl : List (Str × Addr)) (fp : List Addr), RG (X.blk s H scope (compEnvC scope cl C X.env) fp) vs1 tg1 g1) (ht1 : ∀ (s : Shared) (H : Hp) (C : Addr) (cl : List (Str × Addr)) (fp : List Addr), RTs (X.blk s H scope (compEnvC scope cl C X.env) fp) W0 ifs1 mt1)
    (he : ∀ (s : Shared) (H : Hp) (C : Addr) (cl : List (Str × Addr)) (fp : List Addr), RX (X.blk s H scope (compEnvC scope cl C X.env) fp) W0 elt me) (ok : BlkOk X.N X.env.scope scope own)
    (hsw : swapsWith (.ListComp elt [⟨tg, iter, ifs, 0⟩, ⟨tg1, iter1, ifs1, 0⟩] scope pos) (some (.Name y py)) spos.line X.env = pure true) (hy : X.N[i]? = some y := by rfl) (hyl : X.env.scope.names.lookup y = some .local := by rfl)
    (hs : ∀ x, foldedSetIterable iter X.env x = pure x := by intro _; rfl) (hs1 : ∀ env x, foldedSetIterable iter1 env x = pure x := by intro _ _; rfl) : RS X W (.Assign [.Name y py] (.ListComp elt [⟨tg, iter, ifs, 0⟩, ⟨tg1, iter1, ifs1, 0⟩] scope pos) spos) (mSet i (mLC2 o mi g mt mi1 g1 mt1 me (own.map (·.2)) vs1)) := ⟨ps_imp (ps_setLc2 hc hN hy hyl hsw hi.pi ok hv (g := tGx X (own.map (·.2)) g) (tt := tT X.K W0 mt) (wi1 := tIx X mi1) (g1 := tGx X vs1 g1) (tt1 := tT X.K W0 mt1) (te := tE X.K W0 me)
    (fun s H C cl fp => (hg s H C cl fp).pg) (fun s H C cl fp => (ht s H C cl fp).pt) (fun s H C cl fp => (hi1 s H C cl fp).pi) (fun s H C cl fp => (hg1 s H C cl fp).pg) (fun s H C cl fp => (ht1 s H C cl fp).pt) (fun s H C cl fp => (he s H C cl fp).pe) hs hs1) fun D σ H q => by
  obtain ⟨Z, B, ρ, τ, h, okk, sl, q⟩ := q
  have q2 := q.sb sl
  unfold mLC2 at q2
  refine ⟨Z, B, ρ, τ, h, okk, sl, q2.bd.imp fun nx h1 B1 ρ1 H1 ok1 g1 q1 J wk => ?_⟩
  split at q1
  · rename_i ws h2 e1
    split at q1
    · rename_i hl
      refine lc2_reads (X := X) (Q := fun x H1 => gName i x σ H1 D.nx) ok1 (sl.mono g1) wk e1 hl (q1.imp fun w h3 B3 ρ3 H3 ok3 g3 q3 v rv => ?_)
      exact q3.nx1 ok3 (((sl.mono g1).mono g3).put rv)
    · exact q1.elim
  · exact q1.elim⟩
end
theorem comp_map {α : Type} {gg : A → Sl → Hq → Option Sl} {me : E A} {τw : Sl} {h : Hq} {xs : List α} (ι : α → A) (f : α → A) (hl : xs.length ≤ LIM)
    (hs : ∀ (n : Nat) (x : α), xs[n]? = some x → ∃ τ1, gg (ι x) τw h = some τ1 ∧ me τ1 h = some (.ok (f x) h)) : compM (nxL (xs.map ι)) gg mYes me τw FU 0 h = some (xs.map f, h) := by
  obtain ⟨as, h', e2, rfl, rfl⟩ := compL_inv (g := gg) (mt := mYes) (me := me) (τw := τw) (h := h) (ws := xs.map ι) (fun n h' as => h' = h ∧ as = (xs.take n).map f) ⟨rfl, rfl⟩ (fun n w h' as hw i => by
    obtain ⟨rfl, rfl⟩ := i
    obtain ⟨x, ex, rfl⟩ := map_get hw
    obtain ⟨τ1, e1, e2⟩ := hs n x ex
    refine ⟨τ1, e1, .inl ⟨_, _, f x, rfl, e2, rfl, ?_⟩⟩
    rw [List.take_add_one, ex]
    simp) (by rw [List.length_map]; exact hl)
  rw [e2, List.take_of_length_le (by rw [List.length_map]; exact Nat.le_refl _)]
theorem lc2_map {α β : Type} {o : Bool} {mi mi1 : E Nxt} {gg g1 : A → Sl → Hq → Option Sl} {me : E A} {vs vs1 : List Nat} {τ : Sl} {h h1 : Hq} {xs : List α} (ι : α → A) (ys : α → List β) (κ : β → A) (f : α → β → A) (e : mi τ h = some (.ok (nxL (xs.map ι)) h1)) (hl : xs.length ≤ LIM)
    (hl2 : (xs.flatMap fun x => (ys x).map (f x)).length ≤ LIM)
    (hs : ∀ (n : Nat) (x : α), xs[n]? = some x → (ys x).length ≤ LIM ∧ ∃ τ1, gg (ι x) (wipeT τ vs) h1 = some τ1 ∧ mi1 τ1 h1 = some (.ok (nxL ((ys x).map κ)) h1) ∧ ∀ (j : Nat) (y : β), (ys x)[j]? = some y → ∃ τ2, g1 (κ y) (wipeT τ1 vs1) h1 = some τ2 ∧ me τ2 h1 = some (.ok (f x y) h1)) :
    mLC2 o mi gg mYes mi1 g1 mYes me vs vs1 τ h = mkL o (xs.flatMap fun x => (ys x).map (f x)) h1 := by
  unfold mLC2
  rw [e, bd_ok]
  have go : ∀ (j n fu : Nat), xs.length - n = j → n ≤ xs.length → j < fu → compM2 (nxL (xs.map ι)) gg mYes mi1 g1 mYes me (wipeT τ vs) vs1 fu n h1 = some ((xs.drop n).flatMap fun x => (ys x).map (f x), h1) := by
    intro j
    induction j with
    | zero =>
      intro n fu e hn hf
      have : n = xs.length := by omega
      subst this
      obtain ⟨fu, rfl⟩ : ∃ f', fu = f' + 1 := ⟨fu - 1, by omega⟩
      unfold compM2
      rw [show nxL (xs.map ι) xs.length h1 = some none from by unfold nxL; rw [List.getElem?_eq_none (by rw [List.length_map]; exact Nat.le_refl _)]]
      dsimp only
      rw [List.drop_of_length_le (Nat.le_refl _)]
      rfl
    | succ j ih =>
      intro n fu e hn hf
      have hlt : n < xs.length := by omega
      obtain ⟨fu, rfl⟩ : ∃ f', fu = f' + 1 := ⟨fu - 1, by omega⟩
      obtain ⟨hy, τ1, e1, e2, e3⟩ := hs n _ (List.getElem?_eq_getElem hlt)
      unfold compM2
      rw [show nxL (xs.map ι) n h1 = some (some (ι xs[n])) from by unfold nxL; rw [List.getElem?_map, List.getElem?_eq_getElem hlt]; rfl]
      dsimp only
      rw [e1]
      dsimp only [mYes]
      rw [e2]
      dsimp only
      have := comp_map (gg := g1) (me := me) (τw := wipeT τ1 vs1) (h := h1) κ (f xs[n]) hy e3
      rw [this]
      dsimp only
      rw [ih (n + 1) fu (by omega) (by omega) (by omega)]
      dsimp only
      rw [List.drop_eq_getElem_cons hlt, List.flatMap_cons]
  have := go xs.length 0 FU (by omega) (Nat.zero_le _) (by show xs.length < 16777217; have : xs.length ≤ 16777216 := hl; omega)
  rw [this]
  dsimp only
  rw [List.drop_zero, if_pos hl2]
/-! ### sorted by a key, in plain Lean -/
def keyLe {α : Type} (kz : α → Int × List Int) (p q : α) : Bool := decide ((kz p).1 :: (kz p).2 ≤ (kz q).1 :: (kz q).2)
theorem g_sortK {α : Type} {o : Bool} {sem : Sem1} {h : Hq} {xs : List α} (f : α → D) (kz : α → Int × List Int) (hk : ∀ x ∈ xs, keyOf sem (f x) = some (kz x)) : gSortK o sem (.d (.lst (xs.map f))) h = mkL o (((xs.mergeSort (keyLe kz)).map f).map A.d) h := by
  have hm : ∀ (ys : List α), (∀ x ∈ ys, keyOf sem (f x) = some (kz x)) → mapMn (keyOf sem) (ys.map f) = some (ys.map kz) := by
    intro ys
    induction ys with
    | nil => exact fun _ => rfl
    | cons y r ih =>
      intro hy
      rw [List.map_cons]
      unfold mapMn
      rw [hy y (List.mem_cons_self ..), ih fun x hx => hy x (List.mem_cons_of_mem _ hx)]
      rfl
  have eb : byKeyA ((xs.map f).map A.d) (xs.map kz) = ((xs.mergeSort (keyLe kz)).map f).map A.d := by
    unfold byKeyA
    rw [List.map_map, List.map_map, List.zip_map', ← List.map_mergeSort (r := keyLe kz) (fun p _ q _ => by
      show _ = (!PySem.W.dataLt (encI (kz q)) (encI (kz p)))
      unfold encI keyLe
      rw [PySem.W.dataLt_tuple]
      show _ = (!PySem.W.rowLt (((kz q).1 :: (kz q).2).map PyData.int) (((kz p).1 :: (kz p).2).map PyData.int))
      rw [PySem.W.dataLt_ints]
      by_cases z : (kz q).1 :: (kz q).2 < (kz p).1 :: (kz p).2
      · have z' : ¬ (kz p).1 :: (kz p).2 ≤ (kz q).1 :: (kz q).2 := fun r => List.not_lt.mpr r z
        simp [z, z']
      · have z' : (kz p).1 :: (kz p).2 ≤ (kz q).1 :: (kz q).2 := List.not_lt.mp z
        simp [z, z']), List.map_map, List.map_map]
    rfl
  show (match allD ((xs.map f).map A.d) with | some es => (match mapMn (keyOf sem) es with | some kz' => mkL o (byKeyA ((xs.map f).map A.d) kz') h | none => none) | none => none) = _
  rw [allD_map]
  dsimp only
  rw [hm xs hk]
  dsimp only
  rw [eb]
/-! ### C(..), the last parameters by their defaults -/
def mDfl (dD : List D) (mr : E (List A)) : E (List A) := fun τ h => bd (mr τ h) fun ws h1 => some (.ok (ws ++ dD.map A.d) h1)
theorem x_Dfl {dD : List D} {mr : E (List A)} {τ : Sl} {h h1 : Hq} {ws us : List A} (e : mr τ h = some (.ok ws h1)) (q : ws ++ dD.map A.d = us) : mDfl dD mr τ h = some (.ok us h1) := by
  unfold mDfl
  rw [e, bd_ok, q]
structure SrcMD (K : PySem.W.Frag) (C m : Str) (st : Stmt) (ps : List Str) (qual : Str) (dD : List D) : Prop where
  ex : ∃ (ca fa : Addr) (fd : FuncData) (dvs : List V) (ds : List Value), glAt K C = some ca ∧ Cls K ca ∧ Meth K ca m fa ∧ FunD K m qual (defArgs st) (defBody st) (defScope st) dvs [] fa fd ∧ Binds K fd ps [] ∧ Vals dvs ds ∧ Binds K fd ps ds ∧ ∀ B, RpL K B dvs dD
structure DefMD (P : Program) (w : World) (K : PySem.W.Frag) (mg : Str → Option Value) (base : Heap) (k : Nat) (C m : Str) (ps : List Str) (dD : List D) (sem : Sem1) : Prop where
  ex : ∃ (ca fa : Addr) (fd : FuncData) (dvs : List V) (ds : List Value), glAt K C = some ca ∧ Cls K ca ∧ Meth K ca m fa ∧ FnOk P w K mg base (L2.CX P w) k fa fd ps (spQ K ps.length sem) ∧ Binds K fd ps [] ∧ Vals dvs ds ∧ Binds K fd ps ds ∧ ∀ B, RpL K B dvs dD
section
variable {Pr : Program} {w : World} {K : PySem.W.Frag} {mg : Str → Option Value} {base : Heap}
theorem DefMD.toM {k : Nat} {C m : Str} {ps : List Str} {dD : List D} {sem : Sem1} (D : DefMD Pr w K mg base k C m ps dD sem) : DefM Pr w K mg base k C m ps sem := by
  obtain ⟨ca, fa, fd, _, _, h1, h2, h3, h4, h5, _⟩ := D.ex
  exact ⟨ca, fa, fd, h1, h2, h3, h4, h5⟩
theorem fn_trD {x qual : Str} {st : Stmt} {fa : Addr} {fd : FuncData} {N ps : List Str} {k : Nat} {sem : Sem1} {dvs : List V} (m : MS) (F : FunD K x qual (defArgs st) (defBody st) (defScope st) dvs [] fa fd) (Sc : FnScope N ps (defScope st)) (hsem : ∀ ws h r, sem ws h = some r → runB ps.length N.length m ws h = some r)
    (hb : ∀ (cdv : Value) (A : Around) (outer : List Env) (s : Shared) (H : Hp) (Ex : XK), Room k (A.deeper (envOfC qual (defScope st) s.heap.objs.size fa cdv)) →
      Takes (cxOf (L2.CX Pr w) Pr w K mg base N qual (defScope st) fa cdv A outer s H Ex) (fun c d _ H' => Ex c d H') →
      PassesOwn (model Pr w) (cxOf (L2.CX Pr w) Pr w K mg base N qual (defScope st) fa cdv A outer s H Ex).A (cxOf (L2.CX Pr w) Pr w K mg base N qual (defScope st) fa cdv A outer s H Ex).env (cxOf (L2.CX Pr w) Pr w K mg base N qual (defScope st) fa cdv A outer s H Ex).xe →
      RSs (cxOf (L2.CX Pr w) Pr w K mg base N qual (defScope st) fa cdv A outer s H Ex) (fun c d _ H' => Ex c d H') (defBody st) m) : FnOk Pr w K mg base (L2.CX Pr w) (k + 1) fa fd ps (spQ K ps.length sem) := by
  refine F.ok Sc (fun vs H Q Ex h => h.1) (fun cdv A outer s H vs Q Ex hr h => ?_)
  obtain ⟨hl, Z, B, ρ, h0, ws, ok, r, q⟩ := h
  refine ⟨_, (hb cdv A outer s H Ex hr (takes_of rfl rfl rfl rfl) (passes_of rfl)).ps, Z, B, ρ, startT N.length ws, h0, ok, slok_start _ r, ?_⟩
  have q2 : Post K Z Ex B ρ (fun w _ B' ρ' H' => ∀ v, RA K B' ρ' v w → Q v H') (runB ps.length N.length m ws h0) := by
    cases e : sem ws h0 with
    | none => rw [e] at q; exact q.elim
    | some r => rw [e] at q; rw [hsem ws h0 r e]; exact q
  exact runB_post q2
theorem defMD_tr {C mn qual : Str} {st : Stmt} {N ps : List Str} {k : Nat} {sem : Sem1} {dD : List D} (S : SrcMD K C mn st ps qual dD) (Sc : FnScope N ps (defScope st)) (m : MS)
    (hb : ∀ (fa : Addr) (cdv : Value) (A : Around) (outer : List Env) (s : Shared) (H : Hp) (Ex : XK), Room k (A.deeper (envOfC qual (defScope st) s.heap.objs.size fa cdv)) →
      Takes (cxOf (L2.CX Pr w) Pr w K mg base N qual (defScope st) fa cdv A outer s H Ex) (fun c d _ H' => Ex c d H') →
      PassesOwn (model Pr w) (cxOf (L2.CX Pr w) Pr w K mg base N qual (defScope st) fa cdv A outer s H Ex).A (cxOf (L2.CX Pr w) Pr w K mg base N qual (defScope st) fa cdv A outer s H Ex).env (cxOf (L2.CX Pr w) Pr w K mg base N qual (defScope st) fa cdv A outer s H Ex).xe →
      RSs (cxOf (L2.CX Pr w) Pr w K mg base N qual (defScope st) fa cdv A outer s H Ex) (fun c d _ H' => Ex c d H') (defBody st) m)
    (hsem : ∀ ws h r, sem ws h = some r → runB ps.length N.length m ws h = some r := by exact fun _ _ _ h => h) : DefMD Pr w K mg base (k + 1) C mn ps dD sem := by
  obtain ⟨ca, fa, fd, dvs, ds, h1, h2, h3, F, h5, h6, h7, h8⟩ := S.ex
  exact ⟨ca, fa, fd, dvs, ds, h1, h2, h3, fn_trD m F Sc hsem (fun cdv A outer s H Ex hr => hb fa cdv A outer s H Ex hr), h5, h6, h7, h8⟩
/-- one default that is () -/
theorem srcMD_1 {C mn qual : Str} {st : Stmt} {ps : List Str} {ca fa T U : Addr} {oc : Value} {od : Option Addr} {kV doc pm : Value} {an : Option Addr} {cdv ct : Value} {osl : Array (Option Value)} {oT oU : Obj} {nT nU : Nat}
    (h1 : glAt K C = some ca) (h2 : Cls K ca) (h3 : Meth K ca mn fa) (lf : K.lookup fa = some ⟨oc, od, .func (PySem.W.fnOf mn qual (defArgs st) (defBody st) (defScope st) (.ref T) kV doc pm an cdv ct), osl⟩) (hc : PySem.W.codeIn K cdv qual = true) (hk : PySem.W.keepIn K (.ref fa) = true)
    (lT : K.lookup T = some oT) (dT : oT.data = .seq #[.ref U] nT) (lU : K.lookup U = some oU) (cU : oU.cls = .type "tuple") (dU : oU.data = .seq #[] nU)
    (hb0 : ∀ (T : Addr) (kV doc pm : Value) (an : Option Addr) (cdv ct : Value) (us its : List Value), us.length = ps.length → its.length = 1 → ∃ k, bindArgs (PySem.W.fnOf mn qual (defArgs st) (defBody st) (defScope st) (.ref T) kV doc pm an cdv ct) ⟨us, []⟩ = seqItems? (.ref T) >>= k ∧ k (some its.toArray) = pure (ps.zip (us ++ its.drop 1)))
    (hb1 : ∀ (T : Addr) (kV doc pm : Value) (an : Option Addr) (cdv ct : Value) (us its : List Value), us.length = ps.length - 1 → its.length = 1 → ∃ k, bindArgs (PySem.W.fnOf mn qual (defArgs st) (defBody st) (defScope st) (.ref T) kV doc pm an cdv ct) ⟨us, []⟩ = seqItems? (.ref T) >>= k ∧ k (some its.toArray) = pure (ps.zip (us ++ its.drop 0)))
    (hp : 1 ≤ ps.length) : SrcMD K C mn st ps qual [.kt []] := by
  have F : FunD K mn qual (defArgs st) (defBody st) (defScope st) [.ref U] [] fa _ := ⟨⟨oc, od, .ref T, kV, doc, pm, an, cdv, ct, osl, rfl, lf, hc, .inr ⟨by simp, T, oT, [.ref U], nT, rfl, lT, dT, .cons rfl .nil⟩, .inl rfl⟩, hk⟩
  obtain ⟨d0, v0, b0⟩ := F.binds1 (ps := ps) ps.length 1 (by simp) (by simp) hb0
  obtain ⟨d1, v1, b1⟩ := F.binds1 (ps := ps) (ps.length - 1) 0 (by simp) (by simp; omega) hb1
  have : d0 = [] := by cases v0; rfl
  subst this
  exact ⟨ca, fa, _, _, d1, h1, h2, h3, F, b0, v1, b1, fun B => .cons (.kt (.inr ⟨oU, #[], nU, lU, cU, dU, Nat.zero_le _, .nil⟩) .nil) .nil⟩
end
section
variable {X : Cx} {W : WX} {a : Expr} {es : List Expr} {mr : E (List A)} {sem : Sem1} {pos px : Pos} {j k : Nat} {ps : List Str} {dD : List D}
theorem rx_makeD {C : Str} (tk : Takes X W) (hMk : MkC X.K X.mg C) (Df : DefMD X.prog X.w X.K X.mg X.base j C "__init__" ps dD sem) (hr : Room k X.A) (hj : j + 1 ≤ k) (ha : RAs X W (a :: es) mr)
    (hg : Gl X C := by rfl) (hdb : (C == ("__debug__" : Str)) = false := by decide) (he : starEach (a :: es) X.env = (false, eval a X.env) :: starEach es X.env := by rfl) (hpl : (backTo pos (starEach es X.env)).any (·.1) = false := by rfl) :
    RX X W (.Call (.Name C px) (a :: es) [] pos) (mMake C ps.length sem (mDfl dD mr)) := by
  obtain ⟨ca, fa, fd, dvs, dus, c1, c2, c3, F, _, hv, hb, hd⟩ := Df.ex
  obtain ⟨ca', fa', m1, m2, m3, m4⟩ := hMk.ex
  rw [c1] at m1
  cases m1
  have ef : fa' = fa := by
    have := c3.at_
    rw [m4] at this
    cases this
    rfl
  subst ef
  refine ⟨pe_imp (pe_make m3 F (hr.mono hj) hg m2 hb hv passL ha.pa hdb he hpl) fun σ H Q q => ?_⟩
  obtain ⟨Z, B, ρ, τ, h, ok, sl, q⟩ := q
  have q := q.bd
  unfold mDfl at q
  refine te_args ok sl q fun vs ws h1 B1 ρ1 H1 r ok1 sl1 g1 q1 => ?_
  intro x dx hx hdx ne
  have q1 := q1.now ok1
  have r2 : RAL X.K B1 ρ1 (vs ++ dvs) (ws ++ dD.map A.d) := r.append (ral_ds (hd B1))
  split at q1
  · rename_i hl
    obtain ⟨ok2, g2⟩ := ok_new ok1 c1 hx hdx ne
    refine ⟨by rw [List.length_cons, r2.length]; exact hl, Z, B1, _, _, .r h1.length :: (ws ++ dD.map A.d), ok2, .cons (.r (if_pos rfl)) (r2.mono g2), ?_⟩
    split at q1
    · rename_i h2 e2
      rw [e2]
      intro B' ρ' H' ok' g' v rv
      refine ⟨rp_non (ra_d rv), q1 B' ρ' H' ok' (g2.trans g') _ (.r (g'.rr _ _ (if_pos rfl)))⟩
    · exact q1.elim
  · exact q1.elim
theorem rx_makePD {C : Str} (tk : Takes X W) (hMk : MkC X.K X.mg C) (Df : DefMD X.prog X.w X.K X.mg X.base j C "__init__" ps dD sem) (hr : Room k X.A) (hj : j + 1 ≤ k) (ha : RAs X W (a :: es) mr)
    (hg : Gl X C := by rfl) (hdb : (C == ("__debug__" : Str)) = false := by decide) (he : starEach (a :: es) X.env = (false, eval a X.env) :: starEach es X.env := by rfl) (hpl : (backTo pos (starEach es X.env)).any (·.1) = false := by rfl) :
    RX X W (.Call (.Name C px) (a :: es) [] pos) (mMakeP C ps.length sem (mDfl dD mr)) := by
  obtain ⟨ca, fa, fd, dvs, dus, c1, c2, c3, F, _, hv, hb, hd⟩ := Df.ex
  obtain ⟨ca', fa', m1, m2, m3, m4⟩ := hMk.ex
  rw [c1] at m1
  cases m1
  have ef : fa' = fa := by
    have := c3.at_
    rw [m4] at this
    cases this
    rfl
  subst ef
  refine ⟨pe_imp (pe_make m3 F (hr.mono hj) hg m2 hb hv passL ha.pa hdb he hpl) fun σ H Q q => ?_⟩
  obtain ⟨Z, B, ρ, τ, h, ok, sl, q⟩ := q
  have q := q.bd
  unfold mDfl at q
  refine te_args ok sl q fun vs ws h1 B1 ρ1 H1 r ok1 sl1 g1 q1 => ?_
  intro x dx hx hdx ne
  have q1 := q1.now ok1
  have r2 : RAL X.K B1 ρ1 (vs ++ dvs) (ws ++ dD.map A.d) := r.append (ral_ds (hd B1))
  generalize hws : ws ++ dD.map A.d = ws2 at q1 r2
  generalize hvs : vs ++ dvs = vs2 at r2
  unfold makeP at q1
  split at q1
  · rename_i hl
    split at q1
    · rename_i ds e0
      cases allD_of e0
      obtain ⟨ok2, g2⟩ := ok_new ok1.void c1 hx hdx ne
      refine ⟨by rw [List.length_cons, r2.length]; exact hl, H1, B1, _, _, .r 0 :: ds.map A.d, ok2, .cons (.r (if_pos rfl)) (ral_ds (ral_rpl r2)), ?_⟩
      split at q1
      · rename_i h2 e2
        have e2' : sem (.r 0 :: ds.map A.d) ([] ++ [.nd (.ins C []) []]) = some (.ok (.d .non) h2) := e2
        rw [e2']
        intro B' ρ' H' ok' g' v rv
        refine ⟨rp_non (ra_d rv), ?_⟩
        split at q1
        · rename_i d e3
          obtain ⟨B2, o2, g3, see⟩ := ok1.backP ok' (g2.trans g')
          exact q1 B2 ρ1 H' o2 g3 _ (.d (see _ _ d (.r (g'.rr _ _ (if_pos rfl))) e3))
        · exact q1.elim
      · exact q1.elim
    · exact q1.elim
  · exact q1.elim
end
/-! ### a heap behind another one -/
section
variable {h0 t t' : Hq} {o o' : O} {k j : Nat} {ws : List A}
theorem hp_getz (hk : h0.length = k) : (h0 ++ (o :: t))[k]? = some o := by
  subst hk
  rw [List.getElem?_append_right (Nat.le_refl _), Nat.sub_self]
  rfl
theorem hp_get (hk : h0.length = k) (e : t[j]? = some o) : (h0 ++ t)[k + j]? = some o := by
  subst hk
  rw [List.getElem?_append_right (by omega), show h0.length + j - h0.length = j by omega, e]
theorem hp_setz (hk : h0.length = k) : (h0 ++ (o :: t)).set k o' = h0 ++ (o' :: t) := by
  subst hk
  rw [List.set_append_right _ _ (Nat.le_refl _), Nat.sub_self]
  rfl
theorem hp_set (hk : h0.length = k) (e : t.set j o = t') : (h0 ++ t).set (k + j) o = h0 ++ t' := by
  subst hk
  rw [List.set_append_right _ _ (by omega), show h0.length + j - h0.length = j by omega, e]
theorem x_mkH (hk : h0.length = k) (hl : ws.length ≤ LIM) (n : t.length = j) : mkL true ws (h0 ++ t) = some (.ok (.r (k + j)) (h0 ++ (t ++ [.lst ws]))) := by
  rw [x_mkC hl, List.length_append, hk, n, List.append_assoc]
theorem x_mkH1 {o0 : O} (hk : h0.length = k) (hl : ws.length ≤ LIM) : mkL true ws (h0 ++ [o0]) = some (.ok (.r (k + 1)) (h0 ++ [o0, .lst ws])) := x_mkH (t := [o0]) hk hl rfl
theorem x_mkH2 {o0 o1 : O} (hk : h0.length = k) (hl : ws.length ≤ LIM) : mkL true ws (h0 ++ [o0, o1]) = some (.ok (.r (k + 2)) (h0 ++ [o0, o1, .lst ws])) := x_mkH (t := [o0, o1]) hk hl rfl
theorem x_mkH3 {o0 o1 o2 : O} (hk : h0.length = k) (hl : ws.length ≤ LIM) : mkL true ws (h0 ++ [o0, o1, o2]) = some (.ok (.r (k + 3)) (h0 ++ [o0, o1, o2, .lst ws])) := x_mkH (t := [o0, o1, o2]) hk hl rfl
theorem x_mkH4 {o0 o1 o2 o3 : O} (hk : h0.length = k) (hl : ws.length ≤ LIM) : mkL true ws (h0 ++ [o0, o1, o2, o3]) = some (.ok (.r (k + 4)) (h0 ++ [o0, o1, o2, o3, .lst ws])) := x_mkH (t := [o0, o1, o2, o3]) hk hl rfl
theorem x_mkH5 {o0 o1 o2 o3 o4 : O} (hk : h0.length = k) (hl : ws.length ≤ LIM) : mkL true ws (h0 ++ [o0, o1, o2, o3, o4]) = some (.ok (.r (k + 5)) (h0 ++ [o0, o1, o2, o3, o4, .lst ws])) := x_mkH (t := [o0, o1, o2, o3, o4]) hk hl rfl
theorem x_mkH6 {o0 o1 o2 o3 o4 o5 : O} (hk : h0.length = k) (hl : ws.length ≤ LIM) : mkL true ws (h0 ++ [o0, o1, o2, o3, o4, o5]) = some (.ok (.r (k + 6)) (h0 ++ [o0, o1, o2, o3, o4, o5, .lst ws])) := x_mkH (t := [o0, o1, o2, o3, o4, o5]) hk hl rfl
theorem x_mkH7 {o0 o1 o2 o3 o4 o5 o6 : O} (hk : h0.length = k) (hl : ws.length ≤ LIM) : mkL true ws (h0 ++ [o0, o1, o2, o3, o4, o5, o6]) = some (.ok (.r (k + 7)) (h0 ++ [o0, o1, o2, o3, o4, o5, o6, .lst ws])) := x_mkH (t := [o0, o1, o2, o3, o4, o5, o6]) hk hl rfl
theorem x_mkH8 {o0 o1 o2 o3 o4 o5 o6 o7 : O} (hk : h0.length = k) (hl : ws.length ≤ LIM) : mkL true ws (h0 ++ [o0, o1, o2, o3, o4, o5, o6, o7]) = some (.ok (.r (k + 8)) (h0 ++ [o0, o1, o2, o3, o4, o5, o6, o7, .lst ws])) := x_mkH (t := [o0, o1, o2, o3, o4, o5, o6, o7]) hk hl rfl
end
end Tq

/-! TqT: sorted(xs) without a key, xs data: ints, texts, tuples whose firsts are ints, texts or tuples; the order must be that of flat keys (asked for each pair). -/
namespace Tq
open PySem PySem.Spec PyProof.Rows L2
mutual
def flatP : PyData → List Int
  | .bool b => [TrO.b2 b]
  | .int i => [i]
  | .str x => x.cps.toList.map (fun n => Int.ofNat n) ++ [-1]
  | .tuple xs => flatPs xs
  | _ => []
def flatPs : List PyData → List Int
  | [] => []
  | x :: xs => flatP x ++ flatPs xs
end
def kindP : PyData → Nat
  | .int _ => 1
  | .str _ => 2
  | .tuple (.tuple _ :: _) => 3
  | .tuple (.int _ :: _) => 4
  | .tuple (.str _ :: _) => 5
  | _ => 0
def sortP (ps : List PyData) : Bool := (match ps with | [] => true | p :: _ => kindP p != 0 && ps.all fun q => kindP q == kindP p) && ps.all fun p => SeqAt.shaped p && ps.all fun q => TrO.ordP .Lt p q == some (decide (flatP p < flatP q))
def flatLe (e e' : D) : Bool := decide (flatP e.toP ≤ flatP e'.toP)
def gSortD (o : Bool) : G1 := fun a h => match lstOf h a with
  | some ws => (match allD ws with
    | some es => if sortP (es.map D.toP) then mkL o ((es.mergeSort flatLe).map A.d) h else none
    | none => none)
  | none => none
/-! ### the order of Lean's lists of ints -/
theorem il_trans {a b c : List Int} (h1 : a ≤ b) (h2 : b ≤ c) : a ≤ c := List.le_trans h1 h2
theorem il_total (a b : List Int) : a ≤ b ∨ b ≤ a := List.le_total a b
section
variable {prog : Program} {w : World} {A : Around} {E : Value → Shared → Prop} {s : Shared} {b fin : Bool} {Q : Bool → Shared → Prop}
theorem lexKat {r : Bool} : ∀ {vs ws : List Value} {i : Nat}, TrO.LexV .Lt A s r vs ws → (b = false ∨ i ≠ 0) → fin = decide (vs.length < ws.length) → Q r s → PySem.W.KatLex prog w A b fin Q (vs.zip ws) i s
  | [], ws, i, h, _, hf, hq => by
    have h : TrO.szO .Lt 0 ws.length = r := by cases ws <;> exact h
    rw [List.zip_nil_left]
    refine PySem.W.kat_nil ?_
    rw [hf]
    have e : decide (([] : List Value).length < ws.length) = r := h
    rw [e]
    exact hq
  | x :: xs, [], i, h, _, hf, hq => by
    have h : TrO.szO .Lt (xs.length + 1) 0 = r := h
    rw [List.zip_nil_right]
    refine PySem.W.kat_nil ?_
    rw [hf]
    have e : decide ((x :: xs).length < ([] : List Value).length) = r := h
    rw [e]
    exact hq
  | x :: xs, y :: ys, i, h, hb, hf, hq => by
    rw [List.zip_cons_cons]
    have hf' : fin = decide (xs.length < ys.length) := by
      rw [hf]
      simp only [List.length_cons, Nat.add_lt_add_iff_right]
    rcases h with ⟨he, hl⟩ | ⟨he, hr⟩
    · exact PySem.W.kat_cons (he prog w _ _ (PySem.W.kat_yes (lexKat hl (.inr (Nat.succ_ne_zero i)) hf' hq)))
    · refine PySem.W.kat_cons (he prog w _ _ (PySem.W.kat_no ?_))
      have e : (b && i == 0) = false := by
        rcases hb with e | e
        · rw [e]; rfl
        · rw [Bool.and_eq_false_iff]; right; exact beq_false_of_ne e
      rw [e, oneLt'_eq]
      simp only [Bool.false_eq_true, if_false]
      exact wpAny_bind (hr prog w _ _ (wpAny_truthy_bool hq))
/-- the sort's kind -/
def kdP (k : Nat) : SortKind := if k = 1 ∨ k = 2 then oneType' else tuples' (!(k == 3))
theorem readsT {h : Heap} {v : Value} {xs : List PyData} {as : List Addr} (r : Reads h v (.tuple xs) as) : ∃ l o I n as', v = .ref l ∧ h.get? l = some o ∧ o.cls = .type "tuple" ∧ o.data = .seq I n ∧ ReadsAll h I.toList xs as' := by
  cases r with
  | tuple h1 h2 h3 h4 => exact ⟨_, _, _, _, _, rfl, h1, h2, h3, h4⟩
/-- two values compared as keys -/
theorem key_lt {p q : PyData} {v u : Value} {as bs : List Addr} {r : Bool} (rp : Reads s.heap v p as) (rq : Reads s.heap u q bs) (hk : kindP p ≠ 0) (hkk : kindP q = kindP p) (hp : SeqAt.shaped p = true) (hq : SeqAt.shaped q = true) (hu : A.units + 66 < cLine) (ho : TrO.ordP .Lt p q = some r) (hQ : Q r s) :
    wpAny (model prog w) A (keyLt' (kdP (kindP p)) v u) Q E s := by
  have lp := SeqAt.canLay_of_shaped hp
  have lq := SeqAt.canLay_of_shaped hq
  have dp := SeqAt.depth_of_shaped hp
  have dq := SeqAt.depth_of_shaped hq
  have tups : ∀ (b : Bool) (x y : PyData) (xs ys : List PyData), p = .tuple (x :: xs) → q = .tuple (y :: ys) → kdP (kindP p) = tuples' b →
      (b = true → ∀ (v' u' : Value) (as' bs' : List Addr) (r' : Bool), Reads s.heap v' x as' → Reads s.heap u' y bs' → TrO.ordP .Lt x y = some r' → Q r' s → wpAny (model prog w) A (oneLt' true v' u') Q (fun _ _ => False) s) → wpAny (model prog w) A (keyLt' (kdP (kindP p)) v u) Q E s := by
    intro b x y xs ys ep eq ekd h1
    rw [ekd]
    subst ep eq
    obtain ⟨l, o, I, n, as', rfl, g1, g2, g3, g4⟩ := readsT rp
    obtain ⟨l', o', J, n', bs', rfl, k1, k2, k3, k4⟩ := readsT rq
    refine PySem.W.kat_lt g1 g3 k1 k3 ?_
    have lp' : (x.canLay0 && PyData.canLayAll0 xs) = true := lp
    have lq' : (y.canLay0 && PyData.canLayAll0 ys) = true := lq
    rw [Bool.and_eq_true] at lp' lq'
    have dp' : max x.depth (PyData.depthAll xs) + 1 ≤ 64 := dp
    have dq' : max y.depth (PyData.depthAll ys) + 1 ≤ 64 := dq
    generalize hI : I.toList = il at g4
    generalize hJ : J.toList = jl at k4
    have sI : I.size = il.length := by rw [← hI, Array.length_toList]
    have sJ : J.size = jl.length := by rw [← hJ, Array.length_toList]
    rw [sI, sJ]
    cases g4 with
    | cons r1 ra =>
      cases k4 with
      | cons r2 rb =>
        rw [List.zip_cons_cons]
        have he := SeqAt.eqAt_reads x y A s _ _ _ _ r1 r2 lp'.1 lq'.1 (by omega)
        have ho : (if PyData.eqv x y = true then TrO.ordPs .Lt xs ys else TrO.ordP .Lt x y) = some r := ho
        by_cases e : PyData.eqv x y = true
        · rw [if_pos e] at ho
          rw [e] at he
          refine PySem.W.kat_cons (he prog w _ _ (PySem.W.kat_yes (lexKat (TrO.rc_ords (.inl rfl) xs ys A s _ _ _ _ r ra rb lp'.2 lq'.2 ho (by omega)) (.inr (Nat.succ_ne_zero 0)) ?_ hQ)))
          simp only [List.length_cons, Nat.add_lt_add_iff_right]
        · rw [if_neg e] at ho
          rw [Bool.not_eq_true] at e
          rw [e] at he
          refine PySem.W.kat_cons (he prog w _ _ (PySem.W.kat_no ?_))
          cases b with
          | true => exact h1 rfl _ _ _ _ _ r1 r2 ho hQ
          | false =>
            show wpAny (model prog w) A (oneLt' false _ _) Q _ s
            rw [oneLt'_eq]
            simp only [Bool.false_eq_true, if_false]
            exact wpAny_bind (TrO.rc_ord (.inl rfl) x y A s _ _ _ _ r r1 r2 lp'.1 lq'.1 ho (by omega) prog w _ _ (wpAny_truthy_bool hQ))
  have hInt : ∀ {E : Value → Shared → Prop} (i j : Int) (v' u' : Value) (as' bs' : List Addr) (r' : Bool), Reads s.heap v' (.int i) as' → Reads s.heap u' (.int j) bs' → TrO.ordP .Lt (.int i) (.int j) = some r' → Q r' s → wpAny (model prog w) A (oneLt' true v' u') Q E s := by
    intro E i j v' u' as' bs' r' r1 r2 ho hQ
    cases r1
    cases r2
    have ho : some (decide (i < j)) = some r' := ho
    cases ho
    exact oneLt_int hQ
  have hStr : ∀ {E : Value → Shared → Prop} (i j : Str) (v' u' : Value) (as' bs' : List Addr) (r' : Bool), Reads s.heap v' (.str i) as' → Reads s.heap u' (.str j) bs' → TrO.ordP .Lt (.str i) (.str j) = some r' → Q r' s → wpAny (model prog w) A (oneLt' true v' u') Q E s := by
    intro E i j v' u' as' bs' r' r1 r2 ho hQ
    cases r1
    cases r2
    have ho : some (decide (i.cps.toList < j.cps.toList)) = some r' := ho
    cases ho
    exact oneLt_str hQ
  unfold kindP at hk hkk
  split at hk
  · rename_i i
    split at hkk <;> first | omega | skip
    rename_i j
    show wpAny (model prog w) A (keyLt' oneType' v u) Q E s
    rw [keyLt'_oneType]
    exact hInt i j v u as bs r rp rq ho hQ
  · rename_i i
    split at hkk <;> first | omega | skip
    rename_i j
    show wpAny (model prog w) A (keyLt' oneType' v u) Q E s
    rw [keyLt'_oneType]
    exact hStr i j v u as bs r rp rq ho hQ
  · rename_i xs xr
    split at hkk <;> first | omega | skip
    rename_i ys yr
    exact tups false _ _ _ _ rfl rfl rfl fun h => by cases h
  · rename_i i xr
    split at hkk <;> first | omega | skip
    rename_i j yr
    exact tups true _ _ _ _ rfl rfl rfl fun _ => hInt i j
  · rename_i i xr
    split at hkk <;> first | omega | skip
    rename_i j yr
    exact tups true _ _ _ _ rfl rfl rfl fun _ => hStr i j
  · exact absurd rfl hk
end
section
variable {prog : Program} {w : World} {A : Around} {E : Value → Shared → Prop} {s : Shared}
theorem each_get {α β : Type} {R : α → β → Prop} {as : List α} {bs : List β} (e : PySem.W.EachIs R as bs) : ∀ a ∈ as, ∃ b, b ∈ bs ∧ R a b := e.left
theorem sortP_kind {ps : List PyData} {p q : PyData} (h : sortP ps = true) (hp : p ∈ ps) (hq : q ∈ ps) : kindP p ≠ 0 ∧ kindP q = kindP p := by
  unfold sortP at h
  rw [Bool.and_eq_true] at h
  cases ps with
  | nil => simp at hp
  | cons x r =>
    have h1 := h.1
    dsimp only at h1
    rw [Bool.and_eq_true, List.all_eq_true] at h1
    have a := beq_iff_eq.mp (h1.2 p hp)
    have b := beq_iff_eq.mp (h1.2 q hq)
    rw [a, b]
    exact ⟨bne_iff_ne.mp h1.1, rfl⟩
theorem sortP_shp {ps : List PyData} {p : PyData} (h : sortP ps = true) (hp : p ∈ ps) : SeqAt.shaped p = true := by
  unfold sortP at h
  rw [Bool.and_eq_true, List.all_eq_true] at h
  have := h.2 p hp
  rw [Bool.and_eq_true] at this
  exact this.1
theorem sortP_ord {ps : List PyData} {p q : PyData} (h : sortP ps = true) (hp : p ∈ ps) (hq : q ∈ ps) : TrO.ordP .Lt p q = some (decide (flatP p < flatP q)) := by
  unfold sortP at h
  rw [Bool.and_eq_true, List.all_eq_true] at h
  have := h.2 p hp
  rw [Bool.and_eq_true, List.all_eq_true] at this
  exact beq_iff_eq.mp (this.2 q hq)
/-- the flat key of a value that reads as one of ps -/
noncomputable def kfV (h : Heap) (ps : List PyData) (v : Value) : List Int := open Classical in if q : ∃ p, p ∈ ps ∧ ∃ as, Reads h v p as then flatP q.choose else []
theorem kfV_eq {h : Heap} {ps : List PyData} {v : Value} {p : PyData} {as : List Addr} (hs : sortP ps = true) (hp : p ∈ ps) (r : Reads h v p as) : kfV h ps v = flatP p := by
  have q : ∃ p, p ∈ ps ∧ ∃ as, Reads h v p as := ⟨p, hp, as, r⟩
  unfold kfV
  rw [dif_pos q]
  obtain ⟨h1, as', h2⟩ := q.choose_spec
  rw [SeqAt.plain_unique _ _ _ _ _ (PyData.plain_of_canLay0 _ (SeqAt.canLay_of_shaped (sortP_shp hs h1))) h2 r]
noncomputable def ltF (h : Heap) (ps : List PyData) (v u : Value) : Bool := decide (kfV h ps v < kfV h ps u)
theorem ltF_swo (h : Heap) (ps : List PyData) : SrtO.Swo (ltF h ps) := by
  refine ⟨fun x y e => ?_, fun x y z e1 e2 => ?_⟩
  · have a := of_decide_eq_true e
    exact decide_eq_false fun b => List.lt_irrefl _ (List.lt_trans a b)
  · have a := List.not_lt.mp (of_decide_eq_false e1)
    have b := List.not_lt.mp (of_decide_eq_false e2)
    exact decide_eq_false (List.not_lt.mpr (List.le_trans a b))
theorem firsts_of {h : Heap} : ∀ {vs : List Value} {ps : List PyData}, PySem.W.EachIs (fun v d => ∃ as, Reads h v d as) vs ps → (∀ p ∈ ps, 3 ≤ kindP p) → ∃ fs, PySem.W.KatTups h vs fs ∧ fs.length = vs.length ∧ ∀ f ∈ fs, ∃ x r as, PyData.tuple (x :: r) ∈ ps ∧ Reads h f x as :=
  fun e hk => PySem.W.each_katTups e fun d hd => by
    have := hk d hd
    unfold kindP at this
    split at this <;> first | omega | exact ⟨_, _, rfl⟩
/-- the values can be sorted -/
theorem sortable_f {a : Addr} {vs : List Value} {ps : List PyData} (e : PySem.W.EachIs (fun v d => ∃ as, Reads s.heap v d as) vs ps) (hs : sortP ps = true) (hu : A.units + 66 < cLine) (h2 : 2 ≤ vs.length) (hkeep : ∀ b o, s.heap.get? b = some o → b ≠ a ) : SrtO.SortableO prog w A s a vs (ltF s.heap ps) := by
  intro h' hk
  have keep : ∀ {v : Value} {d : PyData} {as : List Addr}, Reads s.heap v d as → Reads h' v d as := fun r => Reads.keeps (fun b o q => hk b o (hkeep b o q) q) r
  have e' : PySem.W.EachIs (fun v d => ∃ as, Reads h' v d as) vs ps := e.mono fun _ _ ⟨as, r⟩ => ⟨as, keep r⟩
  obtain ⟨p0, hp0⟩ : ∃ p, p ∈ ps := by
    cases ps with
    | nil => have := e.length; simp at this; rw [this] at h2; simp at h2
    | cons p r => exact ⟨p, List.mem_cons_self ..⟩
  refine ⟨kdP (kindP p0), fun Q E hq => ?_, fun x y hx hy => ?_⟩
  · have hne := (sortP_kind hs hp0 hp0).1
    by_cases h3 : 3 ≤ kindP p0
    · obtain ⟨fs, t1, t2, t3⟩ := firsts_of e' fun p hp => by rw [(sortP_kind hs hp0 hp).2]; exact h3
      have typ : ∀ (T : Value) , (∀ x r, PyData.tuple (x :: r) ∈ ps → PySem.W.dataType x = T) → (T == T) = true → kdP (kindP p0) = tuples' (T != Value.type "tuple") → wpAny (model prog w) A (keyKind' vs.toArray) Q E { s with heap := h' } := by
        intro T hT hTT hkd
        rw [hkd] at hq
        refine PySem.W.kat_kind (T := T) (s := { s with heap := h' }) t1 (by omega) (fun f hf => ?_) hTT hq
        obtain ⟨x, r, as, m1, m2⟩ := t3 f hf
        rw [← hT x r m1]
        exact PySem.W.looks_reads m2
      have kk : ∀ x r, PyData.tuple (x :: r) ∈ ps → kindP (.tuple (x :: r)) = kindP p0 := fun x r m => (sortP_kind hs hp0 m).2
      have h5 : kindP p0 ≤ 5 := by unfold kindP; split <;> omega
      rcases (show kindP p0 = 3 ∨ kindP p0 = 4 ∨ kindP p0 = 5 by omega) with h | h | h
      · refine typ (.type "tuple") (fun x r m => ?_) (by decide) (by rw [h]; rfl)
        have := kk x r m
        rw [h] at this
        unfold kindP at this
        split at this <;> first | omega | (rename_i e; cases e; rfl)
      · refine typ (.type "int") (fun x r m => ?_) (by decide) (by rw [h]; rfl)
        have := kk x r m
        rw [h] at this
        unfold kindP at this
        split at this <;> first | omega | (rename_i e; cases e; rfl)
      · refine typ (.type "str") (fun x r m => ?_) (by decide) (by rw [h]; rfl)
        have := kk x r m
        rw [h] at this
        unfold kindP at this
        split at this <;> first | omega | (rename_i e; cases e; rfl)
    · have typ : ∀ (T : Value), (∀ p, p ∈ ps → PySem.W.dataType p = T) → (T == T) = true → (T != Value.type "tuple") = true → kdP (kindP p0) = oneType' → wpAny (model prog w) A (keyKind' vs.toArray) Q E { s with heap := h' } := by
        intro T hT hTT hTn hkd
        rw [hkd] at hq
        refine PySem.W.kas_kind (T := T) (s := { s with heap := h' }) h2 (fun v hv => ?_) hTn hTT hq
        obtain ⟨d, hd, as, r⟩ := e'.left v hv
        rw [← hT d hd]
        exact PySem.W.looks_reads r
      rcases (show kindP p0 = 1 ∨ kindP p0 = 2 by omega) with h | h
      · refine typ (.type "int") (fun p m => ?_) (by decide) (by decide) (by rw [h]; rfl)
        have := (sortP_kind hs hp0 m).2
        rw [h] at this
        unfold kindP at this
        split at this <;> first | omega | rfl
      · refine typ (.type "str") (fun p m => ?_) (by decide) (by decide) (by rw [h]; rfl)
        have := (sortP_kind hs hp0 m).2
        rw [h] at this
        unfold kindP at this
        split at this <;> first | omega | rfl
  · obtain ⟨p, hp, as, rp⟩ := e.left _ hx
    obtain ⟨q, hq, bs, rq⟩ := e.left _ hy
    obtain ⟨k1, k2⟩ := sortP_kind hs hp hq
    obtain ⟨_, k3⟩ := sortP_kind hs hp0 hp
    rw [← k3]
    refine key_lt (s := { s with heap := h' }) (keep rp) (keep rq) k1 k2 (sortP_shp hs hp) (sortP_shp hs hq) hu (sortP_ord hs hp hq) ⟨rfl, ?_⟩
    show _ = ltF s.heap ps x.1 y.1
    unfold ltF
    rw [kfV_eq hs hp rp, kfV_eq hs hq rq]
end
/-! ### mergeSort is the stable sort -/
theorem stb_merge {α : Type} {lt : α → α → Bool} (O : SrtO.Swo lt) (l : List α) : SrtO.Srtd lt (l.mergeSort fun x y => !lt y x) ∧ SrtO.Stb lt (l.mergeSort fun x y => !lt y x) l := by
  have tr : ∀ a b c : α, (!lt b a) = true → (!lt c b) = true → (!lt c a) = true := fun a b c h1 h2 => by
    rw [Bool.not_eq_true'] at *
    exact O.tr a b c h1 h2
  have to : ∀ a b : α, ((!lt b a) || (!lt a b)) = true := fun a b => by
    cases h : lt b a with
    | false => rfl
    | true => rw [O.asym _ _ h]; rfl
  have hp := List.pairwise_mergeSort (le := fun x y => !lt y x) tr to l
  refine ⟨hp.imp fun {a b} h => by rw [Bool.not_eq_true'] at h; exact h, List.mergeSort_perm .., fun x => ?_⟩
  have hsub : (l.filter (SrtO.eqv lt x)).Sublist (l.mergeSort fun x y => !lt y x) := by
    refine List.sublist_mergeSort tr to ?_ List.filter_sublist
    refine List.pairwise_of_forall_mem_list fun a ha b hb => ?_
    have h1 := (List.mem_filter.mp ha).2
    have h2 := (List.mem_filter.mp hb).2
    rw [SrtO.eqv_iff] at h1 h2
    rw [Bool.not_eq_true']
    exact O.tr a x b h1.1 h2.2
  have h3 : (l.filter (SrtO.eqv lt x)).Sublist ((l.mergeSort fun x y => !lt y x).filter (SrtO.eqv lt x)) := by
    have := hsub.filter (SrtO.eqv lt x)
    rw [List.filter_filter] at this
    simpa using this
  exact (h3.eq_of_length (((List.mergeSort_perm l _).filter (SrtO.eqv lt x)).length_eq.symm)).symm
theorem trip : ∀ {K : PySem.W.Frag} {B : Hp} {vs : List V} {its : List Value} {es : List D}, Vals vs its → RpL K B vs es → ∃ L : List ((V × Value) × D), vs = L.map (·.1.1) ∧ its = L.map (·.1.2) ∧ es = L.map (·.2) ∧ ∀ x ∈ L, RelV x.1.1 x.1.2 ∧ Rp K B x.1.1 x.2
  | _, _, _, _, _, .nil, .nil => ⟨[], rfl, rfl, rfl, fun x h => by simp at h⟩
  | _, _, _, _, _, .cons (a := v) (b := u) r t, .cons (d := d) q u' => by
    obtain ⟨L, e1, e2, e3, h⟩ := trip t u'
    refine ⟨((v, u), d) :: L, by rw [List.map_cons, ← e1], by rw [List.map_cons, ← e2], by rw [List.map_cons, ← e3], fun x hx => ?_⟩
    rcases List.mem_cons.mp hx with rfl | hx
    · exact ⟨r, q⟩
    · exact h x hx
theorem trip_vals : ∀ {L : List ((V × Value) × D)}, (∀ x ∈ L, RelV x.1.1 x.1.2) → Vals (L.map (·.1.1)) (L.map (·.1.2))
  | [], _ => .nil
  | x :: r, h => .cons (h x (List.mem_cons_self ..)) (trip_vals fun y hy => h y (List.mem_cons_of_mem _ hy))
theorem trip_ral {K : PySem.W.Frag} {B : Hp} {ρ : Nat → Option Addr} : ∀ {L : List ((V × Value) × D)}, (∀ x ∈ L, Rp K B x.1.1 x.2) → RAL K B ρ (L.map (·.1.1)) ((L.map (·.2)).map A.d)
  | [], _ => .nil
  | x :: r, h => .cons (.d (h x (List.mem_cons_self ..))) (trip_ral fun y hy => h y (List.mem_cons_of_mem _ hy))
def rSD (K : PySem.W.Frag) (o : Bool) : List V → Hp → VK → Prop := fun vs H Q => ∃ (x : V) (a : A) (Z B : Hp) (ρ : Nat → Option Addr) (h : Hq) (Wx : XK), vs = [x] ∧ Ok K Z B ρ H h ∧ RA K B ρ x a ∧ Post K Z Wx B ρ (fun w _ B' ρ' H' => ∀ v, RA K B' ρ' v w → Q v H') (gSortD o a h)
theorem cr_sortD {X : Cx} {o : Bool} (hu : X.A.units + 80 < cLine) : CallR X (.builtin "sorted") (rSD X.K o) := by
  intro pins s σ H vs us Q I r hh
  obtain ⟨x, a, Z, B, ρ, h, Wx, rfl, ok, ra, q⟩ := hh
  unfold gSortD at q
  split at q
  · rename_i wl e1
    split at q
    · rename_i es e2
      split at q
      · rename_i hs
        obtain ⟨p, vs, rfl, hp, rl⟩ := lstOf_ra ok ra e1
        cases allD_of e2
        obtain ⟨its, rv, hl, hz⟩ := I.list (SqL.of hp)
        rw [Vals.ref1 r]
        have rp : RpL X.K B vs es := ral_rpl rl
        obtain ⟨L, e1, e2, e3, hL⟩ := trip rv rp
        have er : PySem.W.EachIs (fun v d => ∃ as, Reads s.heap v d as) its (es.map D.toP) := by
          rw [e2, e3, List.map_map]
          have : ∀ l : List ((V × Value) × D), (∀ x ∈ l, x ∈ L) → PySem.W.EachIs (fun v d => ∃ as, Reads s.heap v d as) (l.map (·.1.2)) (l.map (D.toP ∘ (·.2))) := by
            intro l
            induction l with
            | nil => exact fun _ => .nil
            | cons x r ih =>
              intro hm
              refine .cons ?_ (ih fun y hy => hm y (List.mem_cons_of_mem _ hy))
              have hx := hm x (List.mem_cons_self ..)
              have sh := sortP_shp hs (List.mem_map.mpr ⟨x.2, by rw [e3]; exact List.mem_map.mpr ⟨x, hx, rfl⟩, rfl⟩)
              obtain ⟨z1, z2⟩ := hL x hx
              exact Dp.reads I _ _ _ ((z2.mono ok.ex).dp sh) z1
          exact this L fun _ h => h
        have hlen : its.length = vs.length := rv.length.symm
        refine SrtO.sorted_ord (ltF_swo s.heap (es.map D.toP)) hl.isList (by rw [hlen]; exact hz) (fun h2 h₁ a' hat hkeep => ?_) fun out h1 h2 => ?_
        · have er1 : PySem.W.EachIs (fun v d => ∃ as, Reads h₁ v d as) its (es.map D.toP) := er.mono fun _ _ ⟨as, r⟩ => ⟨as, Reads.keeps (fun b o q => (hkeep b o q).2) r⟩
          have kf : ∀ v u, v ∈ its → u ∈ its → ltF h₁ (es.map D.toP) v u = ltF s.heap (es.map D.toP) v u := fun v u hv hu' => by
            obtain ⟨d, hd, as, rd⟩ := er.left v hv
            obtain ⟨d', hd', as', rd'⟩ := er.left u hu'
            unfold ltF
            rw [kfV_eq hs hd rd, kfV_eq hs hd' rd', kfV_eq hs hd (Reads.keeps (fun b o q => (hkeep b o q).2) rd), kfV_eq hs hd' (Reads.keeps (fun b o q => (hkeep b o q).2) rd')]
          intro h' hk
          have hk' : ∀ b o, s.heap.get? b = some o → h'.get? b = some o := fun b o q => hk b o (hkeep b o q).1 (hkeep b o q).2
          obtain ⟨κ, c1, c2⟩ := sortable_f (prog := X.prog) (w := X.w) (A := X.A.in1.in1) (s := { s with heap := s.heap }) (a := a') er hs (by show X.A.units + 1 + 1 + 66 < cLine; omega) h2 (fun b o q => (hkeep b o q).1) h' (fun b o _ q => hk' b o q)
          exact ⟨κ, c1, c2⟩
        · have hkey : ∀ x ∈ L, kfV s.heap (es.map D.toP) x.1.2 = flatP x.2.toP := fun x hx => by
            have hm : x.2.toP ∈ es.map D.toP := List.mem_map.mpr ⟨x.2, by rw [e3]; exact List.mem_map.mpr ⟨x, hx, rfl⟩, rfl⟩
            obtain ⟨z1, z2⟩ := hL x hx
            obtain ⟨as, rd⟩ := Dp.reads I _ _ _ ((z2.mono ok.ex).dp (sortP_shp hs hm)) z1
            exact kfV_eq hs hm rd
          let lt3 : (V × Value) × D → (V × Value) × D → Bool := fun x y => ltF s.heap (es.map D.toP) x.1.2 y.1.2
          have O3 : SrtO.Swo lt3 := ⟨fun x y => (ltF_swo s.heap (es.map D.toP)).asym _ _, fun x y z => (ltF_swo s.heap (es.map D.toP)).tr _ _ _⟩
          obtain ⟨s1, s2⟩ := stb_merge O3 L
          generalize hS : (L.mergeSort fun x y => !lt3 y x) = S at s1 s2
          have hSm : ∀ x ∈ S, x ∈ L := fun x hx => s2.perm.mem_iff.mp hx
          have eo : out = S.map (·.1.2) := by
            refine SrtO.stb_uniq (ltF_swo s.heap (es.map D.toP)) h1 (SrtO.srtd_map s1) (h2.trans ?_)
            have := SrtO.Stb.map (ltF_swo s.heap (es.map D.toP)) (fun x : (V × Value) × D => x.1.2) s2
            rw [← e2] at this
            exact ⟨this.perm.symm, fun x => (this.cls x).symm⟩
          have ed : S.map (·.2) = es.mergeSort flatLe := by
            rw [← hS, e3]
            refine List.map_mergeSort fun x hx y hy => ?_
            show (!ltF s.heap (es.map D.toP) y.1.2 x.1.2) = flatLe x.2 y.2
            unfold ltF flatLe
            rw [hkey x hx, hkey y hy, Bool.eq_iff_iff, Bool.not_eq_true', decide_eq_false_iff_not, decide_eq_true_eq]
            exact List.not_lt
          obtain ⟨ep, he'⟩ := PyProof.Rows.sortedAll_at s.heap its out.toArray
          have hz2 : (S.map (·.1.1)).length ≤ sizeLine := by
            rw [List.length_map, s2.perm.length_eq]
            rw [e1, List.length_map] at hz
            exact hz
          refine ⟨.ref _, upd H (s.heap.objs.size + 1) (.lst (S.map (·.1.1))), I.laid (t' := s.toks) (fun _ _ => PyProof.Rows.sortedAll_old) (Nat.le_succ _) ⟨hz2, out, ep, by rw [eo]; exact trip_vals fun x hx => (hL x (hSm x hx)).1, he'⟩, rfl, ?_⟩
          rw [← ed] at q
          exact mkL_ok ok (trip_ral fun x hx => (hL x (hSm x hx)).2) q (I.hok.fresh (Nat.le_succ _))
      · exact q.elim
    · exact q.elim
  · exact q.elim
theorem og_sortD {K : PySem.W.Frag} {o : Bool} : Op1 K (fun x H Q => rSD K o [x] H Q) (gSortD o) := fun Z B ρ H h x a W Q ok rx q => ⟨x, a, Z, B, ρ, h, W, rfl, ok, rx, q⟩
theorem rx_sortD {X : Cx} {W : WX} {a : Expr} {ma : E A} {px pos : Pos} (o : Bool) (hu : X.A.units + 80 < cLine) (ha : RX X W a ma) (hm : X.mg "sorted" = none) (hg : Gl X "sorted" := by rfl) (he : starEach [a] X.env = (false, eval a X.env) :: starEach [] X.env := by rfl) :
    RX X W (.Call (.Name "sorted" px) [a] [] pos) (mUn (gSortD o) ma) := rx_b1 (cr_sortD (o := o) hu) og_sortD ha hm (by decide +kernel) hg (by decide) (by decide) he
end Tq

/-! Tq19: calls without arguments, max / min of a list of ints, slices of lists with a step, constants of the module that are tuples. -/
namespace Tq
open PySem PySem.Spec PyProof.Rows L2
/-! ### calls without arguments -/
section
variable {X : Cx} {W : WX} {sem : Sem1} {pos px : Pos} {j k : Nat} {f : Addr} {fd : FuncData} {x : Str} {sp : Sp} {E : L2.St → XK}
theorem pe_callS0 {p : Pos} (F : FnOk X.prog X.w X.K X.mg X.base (CX X.prog X.w) k f fd [] sp) (hr : Room k X.A) (hg : Gl X x) (hm : X.mg x = some (.ref f)) (hk : PySem.W.keepIn X.K (.ref f) = true) (hb : Binds X.K fd [] []) (hx : ∀ σ, PassesAt (CX X.prog X.w) X σ (E σ))
    (hdb : (x == ("__debug__" : Str)) = false := by decide) : PE X (.Call (.Name x p) [] [] pos) (tCallS sp E tNil) := by
  refine ⟨fun pins s σ H Q I h => ?_⟩
  refine wpAny_Call_Name_kw (ld_glob I hg hm ?_ hdb)
  exact PySem.W.callWith_K0 I.kIn hk (run_fnS (us := []) F hr hb (hx σ) I .nil h)
theorem rx_call0 (tk : Takes X W) (Df : Def X.prog X.w X.K X.mg X.base j x [] sem) (hr : Room k X.A) (hj : j ≤ k)
    (hg : Gl X x := by rfl) (hdb : (x == ("__debug__" : Str)) = false := by decide) : RX X W (.Call (.Name x px) [] [] pos) (mCall sem (lenIs 0 maNil)) := by
  obtain ⟨fa, fd, F, h1, h2, h3⟩ := Df.ex
  refine ⟨pe_imp (pe_callS0 F (hr.mono hj) hg h1 h2 h3 (fun σ => passAt tk σ) hdb) fun σ H Q q => ?_⟩
  obtain ⟨Z, B, ρ, τ, h, ok, sl, q⟩ := q
  exact ⟨rfl, Z, B, ρ, h, [], ok, .nil, q⟩
theorem rx_callP0 (tk : Takes X W) (Df : Def X.prog X.w X.K X.mg X.base j x [] sem) (hr : Room k X.A) (hj : j ≤ k)
    (hg : Gl X x := by rfl) (hdb : (x == ("__debug__" : Str)) = false := by decide) : RX X W (.Call (.Name x px) [] [] pos) (mCallP sem (lenIs 0 maNil)) := by
  obtain ⟨fa, fd, F, h1, h2, h3⟩ := Df.ex
  refine ⟨pe_imp (pe_callS0 F (hr.mono hj) hg h1 h2 h3 (fun σ => passAt tk σ) hdb) fun σ H Q q => ?_⟩
  obtain ⟨Z, B, ρ, τ, h, ok, sl, q⟩ := q
  exact callP_ok ok .nil rfl q
theorem rx_callO0 (tk : Takes X W) (Df : Def X.prog X.w X.K X.mg X.base j x [] sem) (hr : Room k X.A) (hj : j ≤ k)
    (hg : Gl X x := by rfl) (hdb : (x == ("__debug__" : Str)) = false := by decide) : RX X W (.Call (.Name x px) [] [] pos) (mCallO sem (lenIs 0 maNil)) := by
  obtain ⟨fa, fd, F, h1, h2, h3⟩ := Df.ex
  refine ⟨pe_imp (pe_callS0 F (hr.mono hj) hg h1 h2 h3 (fun σ => passAt tk σ) hdb) fun σ H Q q => ?_⟩
  obtain ⟨Z, B, ρ, τ, h, ok, sl, q⟩ := q
  exact callO_ok ok .nil rfl q
end
/-! ### max, min of a list of ints -/
def gMax1 : G1 := fun a h => match lstOf h a with
  | some ws => (match mapMn intA ws with | some ns => (match ns.max? with | some m => some (.ok (.d (.int m)) h) | none => none) | none => none)
  | none => none
def gMin1 : G1 := fun a h => match lstOf h a with
  | some ws => (match mapMn intA ws with | some ns => (match ns.min? with | some m => some (.ok (.d (.int m)) h) | none => none) | none => none)
  | none => none
theorem og_max1 {K : PySem.W.Frag} : Op1 K (fun x H Q => rMax K [x] H Q) gMax1 := by
  intro Z B ρ H h x a W Q ok rx q
  unfold gMax1 at q
  split at q
  · rename_i ws e1
    split at q
    · rename_i ns e2
      split at q
      · rename_i m e3
        obtain ⟨p, vs, rfl, h1, r1⟩ := lstOf_ra ok rx e1
        have := intsA_of r1 e2
        subst this
        refine ⟨p, ns, rfl, SqL.of h1, ?_, fun y hy hle => ?_⟩
        · cases ns with
          | nil => cases e3
          | cons _ _ => exact Nat.succ_pos _
        · have hm := (List.max?_eq_some_iff (a := m)).mp e3
          have : y = m := Int.le_antisymm (hm.2 y hy) (hle m hm.1)
          subst this
          exact q.now ok _ (.d (.int _))
      · exact q.elim
    · exact q.elim
  · exact q.elim
theorem og_min1 {K : PySem.W.Frag} : Op1 K (fun x H Q => rMin K [x] H Q) gMin1 := by
  intro Z B ρ H h x a W Q ok rx q
  unfold gMin1 at q
  split at q
  · rename_i ws e1
    split at q
    · rename_i ns e2
      split at q
      · rename_i m e3
        obtain ⟨p, vs, rfl, h1, r1⟩ := lstOf_ra ok rx e1
        have := intsA_of r1 e2
        subst this
        refine ⟨p, ns, rfl, SqL.of h1, ?_, fun y hy hle => ?_⟩
        · cases ns with
          | nil => cases e3
          | cons _ _ => exact Nat.succ_pos _
        · have hm := (List.min?_eq_some_iff (a := m)).mp e3
          have : y = m := Int.le_antisymm (hle m hm.1) (hm.2 y hy)
          subst this
          exact q.now ok _ (.d (.int _))
      · exact q.elim
    · exact q.elim
  · exact q.elim
theorem rx_max1 {X : Cx} {W : WX} {a : Expr} {ma : E A} {px pos : Pos} (hc : X.calm = true) (ha : RX X W a ma) (hm : X.mg "max" = none) (hg : Gl X "max" := by rfl) (he : starEach [a] X.env = (false, eval a X.env) :: starEach [] X.env := by rfl) :
    RX X W (.Call (.Name "max" px) [a] [] pos) (mUn gMax1 ma) := rx_b1 (cr_max hc) og_max1 ha hm (by decide +kernel) hg (by decide) (by decide) he
theorem rx_min1 {X : Cx} {W : WX} {a : Expr} {ma : E A} {px pos : Pos} (hc : X.calm = true) (ha : RX X W a ma) (hm : X.mg "min" = none) (hg : Gl X "min" := by rfl) (he : starEach [a] X.env = (false, eval a X.env) :: starEach [] X.env := by rfl) :
    RX X W (.Call (.Name "min" px) [a] [] pos) (mUn gMin1 ma) := rx_b1 (cr_min hc) og_min1 ha hm (by decide +kernel) hg (by decide) (by decide) he
/-! ### slices with a step, of lists -/
def pickA {α : Type} (xs : List α) (lo hi st : Option Int) : List α := (sliceRange (sliceBounds lo hi st xs.length).1 (sliceBounds lo hi st xs.length).2.1 (sliceBounds lo hi st xs.length).2.2).filterMap (xs[·]?)
def gSl3 (o : Bool) (a : A) (lo hi st : Option Int) (h : Hq) : Option (Rs A) := match lstOf h a with
  | some ws => if st = some 0 then none else mkL o (pickA ws lo hi st) h
  | none => none
section
variable {X : Cx} {W : WX} {a : Expr} {lo hi : Option Expr} {st : Expr} {p2 pos : Pos} {ma : E A} {ml mh ms : E (Option Int)} {te : TE} {tl th ts : TO}
def tSl3 (K : PySem.W.Frag) (te : TE) (tl th ts : TO) : TE := fun σ H Q => te σ H fun x H1 => tl σ H1 fun l H2 => th σ H2 fun u H3 => ts σ H3 fun k H4 => ∃ p xs, x = .ref p ∧ SqL K H4 p xs ∧ k ≠ some 0 ∧ ∀ d, H4 d = none → Q (.ref d) (upd H4 d (.lst (pickA xs l u k)))
theorem vals_idx : ∀ {xs : List V} {us : List Value}, Vals xs us → ∀ i : Nat, (xs[i]? = none ∧ us[i]? = none) ∨ ∃ v u, xs[i]? = some v ∧ us[i]? = some u ∧ RelV v u
  | _, _, .nil, i => .inl ⟨by simp, by simp⟩
  | _, _, .cons r t, 0 => .inr ⟨_, _, rfl, rfl, r⟩
  | _, _, .cons r t, i + 1 => by simpa using vals_idx t i
theorem vals_pick {xs : List V} {us : List Value} (r : Vals xs us) : ∀ is : List Nat, Vals (is.filterMap (xs[·]?)) (is.filterMap (us[·]?))
  | [] => .nil
  | i :: is => by
    rcases vals_idx r i with ⟨h1, h2⟩ | ⟨v, u, h1, h2, h3⟩
    · rw [List.filterMap_cons_none h1, List.filterMap_cons_none h2]
      exact vals_pick r is
    · rw [List.filterMap_cons_some h1, List.filterMap_cons_some h2]
      exact .cons h3 (vals_pick r is)
theorem ral_idx {K : PySem.W.Frag} {B : Hp} {ρ : Nat → Option Addr} : ∀ {xs : List V} {us : List A}, RAL K B ρ xs us → ∀ i : Nat, (xs[i]? = none ∧ us[i]? = none) ∨ ∃ v u, xs[i]? = some v ∧ us[i]? = some u ∧ RA K B ρ v u
  | _, _, .nil, i => .inl ⟨by simp, by simp⟩
  | _, _, .cons r t, 0 => .inr ⟨_, _, rfl, rfl, r⟩
  | _, _, .cons r t, i + 1 => by simpa using ral_idx t i
theorem ral_pick {K : PySem.W.Frag} {B : Hp} {ρ : Nat → Option Addr} {xs : List V} {us : List A} (r : RAL K B ρ xs us) : ∀ is : List Nat, RAL K B ρ (is.filterMap (xs[·]?)) (is.filterMap (us[·]?))
  | [] => .nil
  | i :: is => by
    rcases ral_idx r i with ⟨h1, h2⟩ | ⟨v, u, h1, h2, h3⟩
    · rw [List.filterMap_cons_none h1, List.filterMap_cons_none h2]
      exact ral_pick r is
    · rw [List.filterMap_cons_some h1, List.filterMap_cons_some h2]
      exact .cons h3 (ral_pick r is)
theorem pe_slice3 (he : PE X a te) (hl : PO X lo tl) (hu : PO X hi th) (hs : PO X (some st) ts) : PE X (.Subscript a (.Slice lo hi (some st) p2) pos) (tSl3 X.K te tl th ts) := by
  refine ⟨fun pins s σ H Q I h => ?_⟩
  refine Subscript_ (thn (he.run pins s σ H _ I h) fun v s1 ⟨x, H1, I1, r1, q1⟩ => ?_)
  refine wpAny_Slice (thn (hl.run pins s1 σ H1 _ I1 q1) fun vl s2 ⟨l, H2, I2, pl, q2⟩ => thn (hu.run pins s2 σ H2 _ I2 q2) fun vu s3 ⟨u, H3, I3, pu, q3⟩ => thn (hs.run pins s3 σ H3 _ I3 q3) fun vk s4 ⟨k, H4, I4, pk, q4⟩ => ?_)
  obtain ⟨p, xs, rfl, hx, hk, q⟩ := q4
  obtain rfl : v = .ref p := by cases r1; rfl
  have I5 : Inv X pins σ H4 { s4 with heap := s4.heap.push { cls := .type "slice", data := .fields #[vl, vu, vk] } } := I4.kept (t' := s4.toks) fun b ob q => Heap.get?_push_of_some _ q
  obtain ⟨its, r, ht, hz⟩ := I5.list hx
  have hlen := r.length
  show wpAny (model X.prog X.w) X.A (subscriptTail a (.Slice lo hi (some st) p2) (.ref p) (.ref s4.heap.objs.size)) (EP X pins σ Q) X.xe { s4 with heap := s4.heap.push { cls := .type "slice", data := .fields #[vl, vu, vk] } }
  refine tail_any (ops := [.ref p, .ref s4.heap.objs.size]) ht.isList.typeIs slot_list_getitem.lookup ?_ (by with_unfolding_all rfl)
  refine wpAny_getItem_list_slice ht.isList (Heap.IsSliceOf.new ..) pl pu pk hk ?_ (by rw [List.size_toArray] <;> omega)
  have e : (slicePick its.toArray l u k).toList = (sliceRange (sliceBounds l u k xs.length).1 (sliceBounds l u k xs.length).2.1 (sliceBounds l u k xs.length).2.2).filterMap (its[·]?) := by
    simp [slicePick, hlen]
  refine ⟨.ref _, upd H4 _ (.lst (pickA xs l u k)), I5.laid (t' := s4.toks) (o := .lst (pickA xs l u k)) (fun b ob q => Heap.get?_push_of_some _ q) (Nat.le_refl _) ?_, rfl, q _ (I5.hok.fresh (Nat.le_refl _))⟩
  have rp : Vals (pickA xs l u k) (slicePick its.toArray l u k).toList := by
    rw [e]
    exact vals_pick r _
  refine ⟨?_, _, 0, rp, ?_⟩
  · have := slicePick_size_le its.toArray l u k
    have h2 := rp.length
    rw [h2]
    have h3 : its.toArray.size = its.length := List.size_toArray ..
    rw [Array.length_toList]
    omega
  · rw [Array.toArray_toList]
    exact Heap.get?_push_size _ rfl
def mSl3 (o : Bool) (ma : E A) (ml mh ms : E (Option Int)) : E A := fun τ h => bd (ma τ h) fun a h1 => bd (ml τ h1) fun lo h2 => bd (mh τ h2) fun hi h3 => bd (ms τ h3) fun st h4 => gSl3 o a lo hi st h4
theorem rx_slice3 (o : Bool) (ha : RX X W a ma) (hl : RO X W lo ml) (hh : RO X W hi mh) (hs : RO X W (some st) ms) : RX X W (.Subscript a (.Slice lo hi (some st) p2) pos) (mSl3 o ma ml mh ms) := ⟨pe_imp (pe_slice3 ha.pe hl.po hh.po hs.po) fun σ H Q q => by
  obtain ⟨Z, B, ρ, τ, h, ok, sl, q⟩ := q
  refine te_bd ok sl q fun x a h1 B1 ρ1 H1 rx ok1 sl1 g1 q1 => ?_
  refine ⟨Z, B1, ρ1, τ, h1, ok1, sl1, q1.bd.imp fun lo h2 B2 ρ2 H2 ok2 g2 q2 => ?_⟩
  refine ⟨Z, B2, ρ2, τ, h2, ok2, sl1.mono g2, q2.bd.imp fun hi h3 B3 ρ3 H3 ok3 g3 q3 => ?_⟩
  refine ⟨Z, B3, ρ3, τ, h3, ok3, (sl1.mono g2).mono g3, q3.bd.imp fun st h4 B4 ρ4 H4 ok4 g4 q4 => ?_⟩
  unfold gSl3 at q4
  split at q4
  · rename_i ws e1
    split at q4
    · exact q4.elim
    · rename_i hne
      obtain ⟨p, vs, rfl, hp, rl⟩ := lstOf_ra ok4 (rx.mono ((g2.trans g3).trans g4)) e1
      refine ⟨p, vs, rfl, SqL.of hp, hne, fun d hd => ?_⟩
      unfold pickA at q4 ⊢
      rw [rl.length]
      exact mkL_ok ok4 (ral_pick rl _) q4 hd
  · exact q4.elim⟩
end
/-! ### constants of the module that are tuples -/
theorem rp_kt {K : PySem.W.Frag} {a : Addr} {oc : Value} {od : Option Addr} {its : Array Value} {n : Nat} {sl : Array (Option Value)} {vs : List V} {ds : List D} {B : Hp} (hl : K.lookup a = some ⟨oc, od, .seq its n, sl⟩) (hc : oc = .type "tuple") (hz : its.size ≤ sizeLine) (r : Vals vs its.toList) (rp : RpL K B vs ds) : Rp K B (.ref a) (.kt ds) :=
  .kt (.inr ⟨_, _, _, hl, hc, rfl, hz, r⟩) rp
structure GlT (K : PySem.W.Frag) (mg : Str → Option Value) (x : Str) (d : D) : Prop where
  ex : ∃ a : Addr, mg x = some (.ref a) ∧ ∀ B, Rp K B (.ref a) d
theorem rx_globT {X : Cx} {W : WX} {x : Str} {d : D} {pos : Pos} (q : GlT X.K X.mg x d) (hg : Gl X x := by rfl) (hd : (x == ("__debug__" : Str)) = false := by decide) : RX X W (.Name x pos) (mC d) := by
  obtain ⟨a, h1, h2⟩ := q.ex
  exact rx_glob (v := .ref a) h1 rfl h2 hg hd
theorem Room_u80 {k : Nat} {A : Around} (r : Room k A) : A.units + 80 < cLine := by
  have := r.un
  omega
end Tq

/-! Tq20: a call that only looks (its arguments may be cells); its answer is made of its own new cells, tuples, numbers, texts: it comes back as data. -/
namespace Tq
open PySem PySem.Spec PyProof.Rows L2
mutual
def D.imm : D → Bool
  | .non => true | .bl _ => true | .int _ => true | .str _ => true | .tup ds => immL ds | _ => false
def immL : List D → Bool
  | [] => true
  | d :: ds => D.imm d && immL ds
end
def vwI : Nat → Hq → A → Option D
  | _, _, .d x => if x.imm then some x else none
  | 0, _, _ => none
  | n + 1, h, .r k => match h[k]? with
    | some (.lst ws) => (mapMn (vwI n h) ws).map .lst
    | some (.nd hd ws) => (mapMn (vwI n h) ws).map (.nd hd)
    | _ => none
  | n + 1, h, .tup ws => (mapMn (vwI n h) ws).map .tup
def callI (sem : Sem1) (ws : List A) (h1 : Hq) : Option (Rs A) := match mapMn (view h1) ws with
  | some ds => (match sem (ds.map A.d) [] with
    | some (.ok w h') => (match vwI 32 h' w with | some d => some (.ok (.d d) h1) | none => none)
    | _ => none)
  | none => none
def mCallI (sem : Sem1) (mr : E (List A)) : E A := fun τ h => bd (mr τ h) fun ws h1 => callI sem ws h1
section
variable {K : PySem.W.Frag} {Z B H : Hp} {ρ : Nat → Option Addr} {h : Hq}
mutual
theorem rp_imm {B B' : Hp} (s : ∀ a vs, B a = some (.tup vs) → B' a = some (.tup vs)) : ∀ {v : V} {d : D}, Rp K B v d → d.imm = true → Rp K B' v d
  | _, _, .non, _ => .non
  | _, _, .bl b, _ => .bl b
  | _, _, .int i, _ => .int i
  | _, _, .str x, _ => .str x
  | _, _, .tup e r, h => .tup (s _ _ e) (rpl_imm s r h)
  | _, _, .kt _ _, h => by cases h
  | _, _, .lst _ _, h => by cases h
  | _, _, .scr _, h => by cases h
  | _, _, .fn _, h => by cases h
  | _, _, .nd _ _, h => by cases h
theorem rpl_imm {B B' : Hp} (s : ∀ a vs, B a = some (.tup vs) → B' a = some (.tup vs)) : ∀ {vs : List V} {ds : List D}, RpL K B vs ds → immL ds = true → RpL K B' vs ds
  | _, _, .nil, _ => .nil
  | _, _, .cons r t, h => by
    have h : (_ && _) = true := h
    rw [Bool.and_eq_true] at h
    exact .cons (rp_imm s r h.1) (rpl_imm s t h.2)
end
theorem vwI_at {B' H' B2 : Hp} {ρ' : Nat → Option Addr} {h' : Hq} (ok' : Ok K H B' ρ' H' h') (t : ∀ a vs, B' a = some (.tup vs) → B2 a = some (.tup vs)) (e2 : ∀ b, H b = none → ∀ u, H' b = some u → B2 b = some u) : ∀ (n : Nat) (v : V) (w : A) (d : D), RA K B' ρ' v w → vwI n h' w = some d → Rp K B2 v d
  | n, _, .d x, d, .d r, e => by
    have e : (if x.imm then some x else none) = some d := by cases n <;> exact e
    split at e
    · rename_i hi
      cases e
      exact rp_imm t r hi
    · cases e
  | 0, _, .r k, d, _, e => by cases e
  | 0, _, .tup ws, d, _, e => by cases e
  | n + 1, _, .r k, d, .r hr, e => by
    unfold vwI at e
    split at e
    · rename_i ws e3
      obtain ⟨ds, e4, rfl⟩ := Option.map_eq_some_iff.mp e
      obtain ⟨a', h1, h2⟩ := ok'.ce k _ e3
      rw [hr] at h1
      cases h1
      cases h2 with
      | lst q1 q2 q3 q4 => exact .lst (e2 _ q4 _ q1) (vws_of (vwI_at ok' t e2 n) q2 e4)
    · rename_i hd ws e3
      obtain ⟨ds, e4, rfl⟩ := Option.map_eq_some_iff.mp e
      obtain ⟨a', h1, h2⟩ := ok'.ce k _ e3
      rw [hr] at h1
      cases h1
      cases h2 with
      | nd q1 q2 q3 => exact .nd (q1.to fun b hb u eu => e2 b (q3 b hb).2 u eu) (vws_of (vwI_at ok' t e2 n) q2 e4)
    · cases e
  | n + 1, _, .tup ws, d, .tup ht rl, e => by
    unfold vwI at e
    obtain ⟨ds, e4, rfl⟩ := Option.map_eq_some_iff.mp e
    exact .tup (t _ _ ht) (vws_of (vwI_at ok' t e2 n) rl e4)
theorem own_nt {H : Hp} {a : Addr} {hd : Hd} {vs : List V} {own : List Addr} (x : HdAt K H a hd vs own) : ∀ b ∈ own, ∀ ws, H b ≠ some (.tup ws) := by
  cases x with
  | dic h1 h2 => exact fun b hb ws e => by rw [List.mem_singleton.mp hb, h1] at e; cases e
  | dit h1 h2 => exact fun b hb ws e => by rw [List.mem_singleton.mp hb, h1] at e; cases e
  | ins h0 h1 h2 h4 =>
    intro b hb ws e
    rcases List.mem_cons.mp hb with rfl | hb
    · rw [h1] at e; cases e
    · rw [List.mem_singleton.mp hb, h2] at e; cases e
theorem callI_ok {W : XK} {Q : VK} {sem : Sem1} {vs : List V} {ws : List A} {np : Nat} (ok : Ok K Z B ρ H h) (r : RAL K B ρ vs ws) (hl : ws.length = np)
    (q : Post K Z W B ρ (fun w _ B' ρ' H' => ∀ v, RA K B' ρ' v w → Q v H') (callI sem ws h)) : spQ K np sem vs H Q W := by
  refine ⟨by rw [r.length]; exact hl, ?_⟩
  unfold callI at q
  split at q
  · rename_i ds e1
    let Bf : Hp := fun a => if Z a = none then H a else B a
    have bfH : Same Bf H := fun a o e => by
      have e : (if Z a = none then H a else B a) = some o := e
      split at e
      · exact e
      · exact ok.ex a o e
    have bBf : Same B Bf := fun a o e => by
      show (if Z a = none then H a else B a) = some o
      split
      · exact ok.ex a o e
      · exact e
    have okf : Ok K H Bf (fun _ => none) H [] := ⟨bfH, fun _ _ e => e, (fun k o e => by simp at e), (fun _ _ _ e => by cases e), (fun _ _ e => by cases e), fun _ _ => rfl⟩
    have rf : RpL K Bf vs ds := vws_of (fun v w d rv ev => vw_at ok bBf (fun b hz hb u hu => (show (if Z b = none then H b else B b) = some u by rw [if_pos hz]; exact hu)) 32 v w d rv ev) r e1
    refine ⟨H, Bf, fun _ => none, [], ds.map A.d, okf, ral_ds rf, ?_⟩
    split at q
    · rename_i w h' e2
      rw [e2]
      intro B' ρ' H' ok' g v rv
      split at q
      · rename_i d e3
        let B2 : Hp := fun a => if B a ≠ none then B a else if Z a = none then (if H a = none then H' a else (match H a with | some (.tup vs) => some (.tup vs) | _ => none)) else none
        have s0 : Same H H' := ok'.zz
        have zn : ∀ a, H a = none → Z a = none := fun a e => by
          cases z : Z a with
          | none => rfl
          | some u => rw [ok.zz a u z] at e; cases e
        have bn : ∀ a, H a = none → B a = none := fun a e => by
          cases z : B a with
          | none => rfl
          | some u => rw [ok.ex a u z] at e; cases e
        have k1 : ∀ a, B a ≠ none → B2 a = B a := fun a e => if_pos e
        have k2 : ∀ a, B a = none → Z a = none → H a = none → B2 a = H' a := fun a e1 e2 e3 => by
          show (if B a ≠ none then B a else if Z a = none then (if H a = none then H' a else _) else none) = H' a
          rw [if_neg (by rw [e1]; simp), if_pos e2, if_pos e3]
        have k3 : ∀ a vs, B a = none → Z a = none → H a = some (.tup vs) → B2 a = some (.tup vs) := fun a vs e1 e2 e3 => by
          show (if B a ≠ none then B a else if Z a = none then (if H a = none then H' a else (match H a with | some (.tup vs) => some (.tup vs) | _ => none)) else none) = _
          rw [if_neg (by rw [e1]; simp), if_pos e2, if_neg (by rw [e3]; simp), e3]
        have k4 : ∀ a u, B a = none → H a = some u → (∀ vs, u ≠ .tup vs) → B2 a = none := fun a u e1 e2 e3 => by
          show (if B a ≠ none then B a else if Z a = none then (if H a = none then H' a else (match H a with | some (.tup vs) => some (.tup vs) | _ => none)) else none) = _
          rw [if_neg (by rw [e1]; simp)]
          split
          · rw [if_neg (by rw [e2]; simp), e2]
            cases u with
            | tup vs => exact absurd rfl (e3 vs)
            | _ => rfl
          · rfl
        have b1 : Same B B2 := fun a o e => by rw [k1 a (by rw [e]; simp)]; exact e
        have b2 : Same B2 H' := fun a o e => by
          by_cases c1 : B a = none
          · by_cases c2 : Z a = none
            · cases c3 : H a with
              | none => rw [k2 a c1 c2 c3] at e; exact e
              | some u =>
                by_cases c4 : ∃ vs, u = .tup vs
                · obtain ⟨vs, rfl⟩ := c4
                  rw [k3 a vs c1 c2 c3] at e
                  cases e
                  exact s0 _ _ c3
                · rw [k4 a u c1 c3 fun vs z => c4 ⟨vs, z⟩] at e
                  cases e
            · have : B2 a = none := by
                show (if B a ≠ none then B a else if Z a = none then _ else none) = none
                rw [if_neg (by rw [c1]; simp), if_neg c2]
              rw [this] at e
              cases e
          · rw [k1 a c1] at e
            exact s0 _ _ (ok.ex a o e)
        have gg : Gr Z B ρ B2 ρ := ⟨b1, fun _ _ e => e, fun a e e' => by
          by_cases z : Z a = none
          · exact z
          · exact absurd (show (if B a ≠ none then B a else if Z a = none then _ else none) = none by rw [if_neg (by rw [e]; simp), if_neg z]) e'⟩
        have tt : ∀ a vs, B' a = some (.tup vs) → B2 a = some (.tup vs) := fun a vs e => by
          by_cases c1 : B a = none
          · cases c3 : H a with
            | none => rw [k2 a c1 (zn a c3) c3]; exact ok'.ex a _ e
            | some u =>
              cases c4 : Bf a with
              | none =>
                have := g.fz a c4 (by rw [e]; simp)
                rw [this] at c3
                cases c3
              | some u' =>
                have c5 := g.bb a u' c4
                rw [e] at c5
                cases c5
                have c4 : (if Z a = none then H a else B a) = some (.tup vs) := c4
                by_cases c2 : Z a = none
                · rw [if_pos c2] at c4
                  exact k3 a vs c1 c2 c4
                · rw [if_neg c2, c1] at c4
                  cases c4
          · rw [k1 a c1]
            cases c : B a with
            | none => exact absurd c c1
            | some u =>
              have := g.bb a u (bBf a u c)
              rw [e] at this
              exact this.symm
        have ok2 : Ok K Z B2 ρ H' h := by
          refine ⟨b2, fun a o e => s0 _ _ (ok.zz a o e), fun k c e => ?_, ok.nj, fun k a e => ?_, ok.up⟩
          · obtain ⟨a, h1, h2⟩ := ok.ce k c e
            refine ⟨a, h1, ?_⟩
            cases h2 with
            | lst e1 e2 e3 e4 => exact .lst (s0 _ _ e1) (e2.mono gg) (k4 a _ e3 e1 fun vs z => by cases z) e4
            | nd e1 e2 e3 =>
              refine .nd (e1.to fun b _ u e => s0 _ _ e) (e2.mono gg) fun b hb => ⟨?_, (e3 b hb).2⟩
              cases c : H b with
              | none => exact absurd c (e1.own_or.2.2.1 b hb)
              | some u => exact k4 b u (e3 b hb).1 c fun vs z => own_nt e1 b hb vs (by rw [c, z])
            | dead e1 => exact .dead e1
          · have := ok.al k a e
            cases z : H a with
            | none => exact absurd z this
            | some u => rw [s0 _ _ z]; simp
        exact q B2 ρ H' ok2 gg v (.d (vwI_at ok' tt (fun b hz u hu => by rw [k2 b (bn b hz) (zn b hz) hz]; exact hu) 32 v w d rv e3))
      · exact q.elim
    · exact q.elim
  · exact q.elim
end
section
variable {X : Cx} {W : WX} {a o : Expr} {es : List Expr} {mr : E (List A)} {mo : E A} {sem : Sem1} {pos px apos : Pos} {j k : Nat} {ps : List Str}
theorem rx_callI {x : Str} (tk : Takes X W) (Df : Def X.prog X.w X.K X.mg X.base j x ps sem) (hr : Room k X.A) (hj : j ≤ k) (ha : RAs X W (a :: es) mr)
    (hg : Gl X x := by rfl) (hdb : (x == ("__debug__" : Str)) = false := by decide) (he : starEach (a :: es) X.env = (false, eval a X.env) :: starEach es X.env := by rfl) (hpl : (backTo pos (starEach es X.env)).any (·.1) = false := by rfl) :
    RX X W (.Call (.Name x px) (a :: es) [] pos) (mCallI sem (lenIs ps.length mr)) := by
  obtain ⟨fa, fd, F, h1, h2, h3⟩ := Df.ex
  refine ⟨pe_imp (pe_callS F (hr.mono hj) hg h1 h2 h3 (fun σ => passAt tk σ) ha.pa hdb he hpl) fun σ H Q q => ?_⟩
  obtain ⟨Z, B, ρ, τ, h, ok, sl, q⟩ := q
  have q := q.bd
  unfold lenIs at q
  refine te_args ok sl q fun vs ws h1 B1 ρ1 H1 r ok1 sl1 g1 q1 => ?_
  split at q1
  · rename_i hl
    exact callI_ok ok1 r hl (q1.now ok1)
  · exact q1.elim
end
section
variable {τ : Sl} {h h1 h' : Hq} {mr : E (List A)} {ws us : List A} {ds : List D} {w : A} {d : D} {sem : Sem1}
theorem x_CallI (e : mr τ h = some (.ok ws h1)) (q : mapMn (view h1) ws = some ds) (u : ds.map A.d = us) (s : sem us [] = some (.ok w h')) (v : vwI 32 h' w = some d) : mCallI sem mr τ h = some (.ok (.d d) h1) := by
  unfold mCallI
  rw [e, bd_ok]
  unfold callI
  rw [q]
  dsimp only
  rw [u, s]
  dsimp only
  rw [v]
end
end Tq

/-! Tq21: a slot's cell and all cells within it are frozen (ghost). -/
namespace Tq
open PySem PySem.Spec PyProof.Rows L2
def fzW (f : A → Hq → Option (D × Hq)) : List A → Hq → Option (List D × Hq)
  | [], h => some ([], h)
  | w :: ws, h => match f w h with
    | some (d, h1) => (match fzW f ws h1 with | some (ds, h2) => some (d :: ds, h2) | none => none)
    | none => none
def fzA : Nat → A → Hq → Option (D × Hq)
  | _, .d x, h => some (x, h)
  | 0, _, _ => none
  | n + 1, .r k, h => match h[k]? with
    | some (.lst ws) => (match fzW (fzA n) ws h with
      | some (ds, h1) => (match h1[k]? with | some (.lst _) => some (.lst ds, h1.set k .dead) | _ => none)
      | none => none)
    | some (.nd hd ws) => (match fzW (fzA n) ws h with
      | some (ds, h1) => (match h1[k]? with | some (.nd _ _) => some (.nd hd ds, h1.set k .dead) | _ => none)
      | none => none)
    | _ => none
  | n + 1, .tup ws, h => match fzW (fzA n) ws h with
    | some (ds, h1) => some (.tup ds, h1)
    | none => none
section
variable {K : PySem.W.Frag} {Z H : Hp} {ρ : Nat → Option Addr}
theorem HdAt.own_eq {a : Addr} {hd hd' : Hd} {vs vs' : List V} {own own' : List Addr} (x : HdAt K H a hd vs own) (y : HdAt K H a hd' vs' own') : own = own' := by
  cases x with
  | dic h1 h2 => cases y with
    | dic k1 k2 => rfl
    | dit k1 k2 => rfl
    | ins k0 k1 k2 k4 => rw [h1] at k1; cases k1
  | dit h1 h2 => cases y with
    | dic k1 k2 => rfl
    | dit k1 k2 => rfl
    | ins k0 k1 k2 k4 => rw [h1] at k1; cases k1
  | ins h0 h1 h2 h4 => cases y with
    | dic k1 k2 => rw [h1] at k1; cases k1
    | dit k1 k2 => rw [h1] at k1; cases k1
    | ins k0 k1 k2 k4 =>
      have e := Option.some.inj (h1.symm.trans k1)
      injection e with _ e2 _
      rw [e2]
def FzOk (K : PySem.W.Frag) (Z H : Hp) (ρ : Nat → Option Addr) (f : A → Hq → Option (D × Hq)) : Prop := ∀ (B : Hp) (h h' : Hq) (v : V) (w : A) (d : D), Ok K Z B ρ H h → RA K B ρ v w → f w h = some (d, h') → ∃ B', Ok K Z B' ρ H h' ∧ Gr Z B ρ B' ρ ∧ Rp K B' v d
theorem fzW_ok {f : A → Hq → Option (D × Hq)} (hf : FzOk K Z H ρ f) : ∀ {vs : List V} {ws : List A} {B : Hp} {h h' : Hq} {ds : List D}, Ok K Z B ρ H h → RAL K B ρ vs ws → fzW f ws h = some (ds, h') → ∃ B', Ok K Z B' ρ H h' ∧ Gr Z B ρ B' ρ ∧ RpL K B' vs ds
  | _, _, B, h, h', ds, ok, .nil, e => by
    cases e
    exact ⟨B, ok, Gr.refl, .nil⟩
  | _, _, B, h, h', ds, ok, .cons (w := w) r t, e => by
    unfold fzW at e
    split at e
    · rename_i d h1 e1
      obtain ⟨B1, ok1, g1, r1⟩ := hf B h h1 _ w d ok r e1
      split at e
      · rename_i ds2 h2 e2
        cases e
        obtain ⟨B2, ok2, g2, r2⟩ := fzW_ok hf ok1 (t.mono g1) e2
        exact ⟨B2, ok2, g1.trans g2, .cons (r1.mono g2.bb) r2⟩
      · cases e
    · cases e
theorem fzA_ok : ∀ n : Nat, FzOk K Z H ρ (fzA n)
  | n, B, h, h', v, .d x, d, ok, ra, e => by
    have r := ra_d ra
    have e : some (x, h) = some (d, h') := by cases n <;> exact e
    cases e
    exact ⟨B, ok, Gr.refl, r⟩
  | 0, B, h, h', v, .r k, d, ok, _, e => by cases e
  | 0, B, h, h', v, .tup ws, d, ok, _, e => by cases e
  | n + 1, B, h, h', v, .tup ws, d, ok, ra, e => by
    cases ra with
    | tup ht rl =>
    unfold fzA at e
    split at e
    · rename_i ds h1 e1
      cases e
      obtain ⟨B1, ok1, g1, r1⟩ := fzW_ok (fzA_ok n) ok rl e1
      exact ⟨B1, ok1, g1, .tup (g1.bb _ _ ht) r1⟩
    · cases e
  | n + 1, B, h, h', v, .r k, d, ok, ra, e => by
    cases ra with
    | @r _ a hr =>
    unfold fzA at e
    split at e
    · rename_i ws ec
      obtain ⟨a', ea, x⟩ := ok.ce k _ ec
      rw [hr] at ea
      cases ea
      cases x with
      | lst x1 x2 x3 x4 =>
        split at e
        · rename_i ds h1 e1
          obtain ⟨B1, ok1, g1, r1⟩ := fzW_ok (fzA_ok n) ok x2 e1
          split at e
          · rename_i ws' ec'
            cases e
            obtain ⟨a', ea, y⟩ := ok1.ce k _ ec'
            rw [hr] at ea
            cases ea
            cases y with
            | lst y1 y2 y3 y4 =>
              obtain ⟨ok2, gg⟩ := ok1.fz (own := [a]) (List.getElem?_eq_some_iff.mp ec').1 hr (fun b hb => by rw [List.mem_singleton.mp hb]; exact ⟨y3, y4⟩) (List.mem_singleton.mpr rfl) (fun b hb => .inl (List.mem_singleton.mp hb)) (fun b hb => by rw [List.mem_singleton.mp hb, y1]; simp) (fun z => by rw [y1]; simp)
              refine ⟨_, ok2, g1.trans gg, .lst ?_ (r1.mono gg.bb)⟩
              show (if a ∈ [a] then H a else B1 a) = _
              rw [if_pos (List.mem_singleton.mpr rfl)]
              exact x1
          · cases e
        · cases e
    · rename_i hd ws ec
      obtain ⟨a', ea, x⟩ := ok.ce k _ ec
      rw [hr] at ea
      cases ea
      cases x with
      | nd x1 x2 x3 =>
        split at e
        · rename_i ds h1 e1
          obtain ⟨B1, ok1, g1, r1⟩ := fzW_ok (fzA_ok n) ok x2 e1
          split at e
          · rename_i hd' ws' ec'
            cases e
            obtain ⟨a', ea, y⟩ := ok1.ce k _ ec'
            rw [hr] at ea
            cases ea
            cases y with
            | nd y1 y2 y3 =>
              have eo := HdAt.own_eq x1 y1
              subst eo
              obtain ⟨ok2, gg⟩ := ok1.fz (List.getElem?_eq_some_iff.mp ec').1 hr y3 x1.own_or.1 x1.own_or.2.1 x1.own_or.2.2.1 x1.own_or.2.2.2.2
              refine ⟨_, ok2, g1.trans gg, .nd (x1.to fun b hb u eu => ?_) (r1.mono gg.bb)⟩
              show (if b ∈ _ then H b else B1 b) = _
              rw [if_pos hb]
              exact eu
          · cases e
        · cases e
    · cases e
end
def mFzd (i : Nat) : MS := fun τ h => match τ[i]? with
  | some (some w) => (match fzA 32 w h with
    | some (d, h1) => some (.nx (τ.set i (some (.d d))) h1)
    | none => none)
  | _ => some (.nx τ h)
theorem rss_fzd {X : Cx} {W : WX} {st : List Stmt} {m : MS} (i : Nat) (hm : RSs X W st m) : RSs X W st (mSeq (mFzd i) m) := ⟨pss_imp hm.ps fun De σ H q => by
  obtain ⟨Z, B, ρ, τ, h, ok, sl, q⟩ := q
  unfold mSeq mFzd at q
  cases ei : τ[i]? with
  | none =>
    rw [ei] at q
    exact ⟨Z, B, ρ, _, _, ok, sl, q⟩
  | some y =>
    rw [ei] at q
    cases y with
    | none => exact ⟨Z, B, ρ, _, _, ok, sl, q⟩
    | some w =>
      dsimp only at q
      cases ed : fzA 32 w h with
      | none => rw [ed] at q; exact q.elim
      | some p =>
        obtain ⟨d, h1⟩ := p
        rw [ed] at q
        dsimp only at q
        obtain ⟨v, ev, rv⟩ := sl.at_ i _ ei
        obtain ⟨B1, ok1, g1, r1⟩ := fzA_ok 32 B h h1 v w d ok rv ed
        exact ⟨Z, _, ρ, _, _, ok1, (sl.mono g1).ghost ev (.d r1), q.from g1⟩⟩
end Tq

/-! Tq22: loops that may return early, whiles, told by what holds turn by turn. -/
namespace Tq
open PySem PySem.Spec PyProof.Rows L2
theorem for_gen {α : Type} {gg : A → Sl → Hq → Option Sl} {mb : MS} {τ : Sl} {h : Hq} {xs : List α} (ι : α → A) (I : Nat → Sl → Hq → Prop) (R : A → Hq → Prop) (i0 : I 0 τ h) (hl : xs.length ≤ LIM)
    (hs : ∀ (n : Nat) (x : α) (τ : Sl) (h : Hq), xs[n]? = some x → I n τ h → ∃ τ1, gg (ι x) τ h = some τ1 ∧ ((∃ τ2 h2, I (n + 1) τ2 h2 ∧ (mb τ1 h = some (.nx τ2 h2) ∨ mb τ1 h = some (.ct τ2 h2))) ∨ ∃ w h2, R w h2 ∧ mb τ1 h = some (.rt w h2))) :
    (∃ τ' h', I xs.length τ' h' ∧ forM (nxL (xs.map ι)) gg mb FU 0 τ h = some (.nx τ' h')) ∨ ∃ w h', R w h' ∧ forM (nxL (xs.map ι)) gg mb FU 0 τ h = some (.rt w h') := by
  have go : ∀ (k n f : Nat) (τ : Sl) (h : Hq), xs.length - n = k → n ≤ xs.length → k < f → I n τ h →
      (∃ τ' h', I xs.length τ' h' ∧ forM (nxL (xs.map ι)) gg mb f n τ h = some (.nx τ' h')) ∨ ∃ w h', R w h' ∧ forM (nxL (xs.map ι)) gg mb f n τ h = some (.rt w h') := by
    intro k
    induction k with
    | zero =>
      intro n f τ h e hn hf i
      have : n = xs.length := by omega
      subst this
      obtain ⟨f, rfl⟩ : ∃ f', f = f' + 1 := ⟨f - 1, by omega⟩
      refine .inl ⟨τ, h, i, ?_⟩
      unfold forM nxL
      rw [List.getElem?_eq_none (by rw [List.length_map]; exact Nat.le_refl _)]
    | succ k ih =>
      intro n f τ h e hn hf i
      have hlt : n < xs.length := by omega
      obtain ⟨f, rfl⟩ : ∃ f', f = f' + 1 := ⟨f - 1, by omega⟩
      have hx : xs[n]? = some xs[n] := List.getElem?_eq_getElem hlt
      have un : nxL (xs.map ι) n h = some (some (ι xs[n])) := by unfold nxL; rw [List.getElem?_map, hx]; rfl
      obtain ⟨τ1, e1, q⟩ := hs n _ τ h hx i
      rcases q with ⟨τ2, h2, i2, e2⟩ | ⟨w, h2, r, e2⟩
      · have st : forM (nxL (xs.map ι)) gg mb (f + 1) n τ h = forM (nxL (xs.map ι)) gg mb f (n + 1) τ2 h2 := by
          conv => lhs; unfold forM
          rw [un]
          dsimp only
          rw [e1]
          dsimp only
          rcases e2 with e2 | e2 <;> (rw [e2])
        rw [st]
        exact ih (n + 1) f τ2 h2 (by omega) (by omega) (by omega) i2
      · refine .inr ⟨w, h2, r, ?_⟩
        unfold forM
        rw [un]
        dsimp only
        rw [e1]
        dsimp only
        rw [e2]
  exact go xs.length 0 FU τ h (by omega) (Nat.zero_le _) (by show xs.length < 16777217; have : xs.length ≤ 16777216 := hl; omega) i0
/-- the first item that fits gives the answer -/
theorem for_find {α : Type} {gg : A → Sl → Hq → Option Sl} {mb : MS} {τ : Sl} {h : Hq} {xs : List α} (ι : α → A) (p : α → Bool) (f : α → A) (I : Sl → Prop) (i0 : I τ) (hl : xs.length ≤ LIM)
    (hs : ∀ (n : Nat) (x : α) (τ : Sl), xs[n]? = some x → I τ → ∃ τ1, gg (ι x) τ h = some τ1 ∧ ((p x = false ∧ ∃ τ2, I τ2 ∧ (mb τ1 h = some (.nx τ2 h) ∨ mb τ1 h = some (.ct τ2 h))) ∨ (p x = true ∧ mb τ1 h = some (.rt (f x) h)))) :
    (xs.find? p = none ∧ ∃ τ', I τ' ∧ forM (nxL (xs.map ι)) gg mb FU 0 τ h = some (.nx τ' h)) ∨ ∃ x, xs.find? p = some x ∧ forM (nxL (xs.map ι)) gg mb FU 0 τ h = some (.rt (f x) h) := by
  have fs : ∀ n x, xs[n]? = some x → (xs.take n).find? p = none → p x = true → xs.find? p = some x := fun n x e q hp => by
    have : xs = xs.take n ++ xs.drop n := (List.take_append_drop n xs).symm
    rw [this, List.find?_append, q]
    obtain ⟨hn, rfl⟩ := List.getElem?_eq_some_iff.mp e
    rw [List.drop_eq_getElem_cons hn, List.find?_cons, hp]
    rfl
  rcases for_gen (gg := gg) (mb := mb) (τ := τ) (h := h) (xs := xs) ι (fun n τ' h' => I τ' ∧ h' = h ∧ (xs.take n).find? p = none) (fun w h' => h' = h ∧ ∃ x, xs.find? p = some x ∧ w = f x) ⟨i0, rfl, rfl⟩ hl (fun n x τ' h' e i => by
    obtain ⟨i1, rfl, i3⟩ := i
    obtain ⟨τ1, e1, q⟩ := hs n x τ' e i1
    refine ⟨τ1, e1, ?_⟩
    rcases q with ⟨hp, τ2, i2, e2⟩ | ⟨hp, e2⟩
    · refine .inl ⟨τ2, h', ⟨i2, rfl, ?_⟩, e2⟩
      rw [List.take_add_one, e, List.find?_append, i3]
      simp [hp]
    · exact .inr ⟨f x, h', ⟨rfl, x, fs n x e i3 hp, rfl⟩, e2⟩) with ⟨τ', h', ⟨i1, rfl, i3⟩, e⟩ | ⟨w, h', ⟨rfl, x, hx, rfl⟩, e⟩
  · rw [List.take_length] at i3
    exact .inl ⟨i3, τ', i1, e⟩
  · exact .inr ⟨x, hx, e⟩
/-- a while, by what holds ahead of each turn -/
theorem while_gen {t : E Bool} {mb : MS} {τ : Sl} {h : Hq} {f : Nat} (I : Nat → Sl → Hq → Prop) (X : Sl → Hq → Prop) (R : A → Hq → Prop) (i0 : I 0 τ h)
    (hs : ∀ (n : Nat) (τ : Sl) (h : Hq), I n τ h → n < f ∧ ((t τ h = some (.ok false h) ∧ X τ h) ∨ (t τ h = some (.ok true h) ∧ ((∃ τ2 h2, I (n + 1) τ2 h2 ∧ (mb τ h = some (.nx τ2 h2) ∨ mb τ h = some (.ct τ2 h2))) ∨ (∃ w h2, R w h2 ∧ mb τ h = some (.rt w h2)) ∨ ∃ τ2 h2, X τ2 h2 ∧ mb τ h = some (.bk τ2 h2))))) :
    (∃ τ' h', X τ' h' ∧ mWhile t mb f τ h = some (.nx τ' h')) ∨ ∃ w h', R w h' ∧ mWhile t mb f τ h = some (.rt w h') := by
  have go : ∀ (k n : Nat) (τ : Sl) (h : Hq), f - n = k → I n τ h → (∃ τ' h', X τ' h' ∧ mWhile t mb k τ h = some (.nx τ' h')) ∨ ∃ w h', R w h' ∧ mWhile t mb k τ h = some (.rt w h') := by
    intro k
    induction k with
    | zero =>
      intro n τ h e i
      have := (hs n τ h i).1
      omega
    | succ k ih =>
      intro n τ h e i
      obtain ⟨hn, q⟩ := hs n τ h i
      rcases q with ⟨e1, x⟩ | ⟨e1, q⟩
      · refine .inl ⟨τ, h, x, ?_⟩
        unfold mWhile
        rw [e1]
        rfl
      · rcases q with ⟨τ2, h2, i2, e2⟩ | ⟨w, h2, r, e2⟩ | ⟨τ2, h2, x, e2⟩
        · have st : mWhile t mb (k + 1) τ h = mWhile t mb k τ2 h2 := by
            conv => lhs; unfold mWhile
            rw [e1, sb_ok]
            dsimp only
            rcases e2 with e2 | e2 <;> (rw [e2])
          rw [st]
          exact ih (n + 1) τ2 h2 (by omega) i2
        · refine .inr ⟨w, h2, r, ?_⟩
          unfold mWhile
          rw [e1, sb_ok]
          dsimp only
          rw [e2]
        · refine .inl ⟨τ2, h2, x, ?_⟩
          unfold mWhile
          rw [e1, sb_ok]
          dsimp only
          rw [e2]
  exact go f 0 τ h (by omega) i0
end Tq

/-! Tq23: targets a, b, c = t where t may be a tuple of the module. -/
namespace Tq
open PySem PySem.Spec PyProof.Rows L2
def mgTupK (n : Nat) (gs : List A → Sl → Hq → Option Sl) : A → Sl → Hq → Option Sl := fun w τ h => match w with
  | .d (.kt ds) => if ds.length = n then gs (ds.map A.d) τ h else none
  | w => mgTup n gs w τ h
theorem rg_tupK {X : Cx} {pos : Pos} {is : List Nat} {es : List Expr} {k : Nat} {gs : List A → Sl → Hq → Option Sl} (hc : X.calm = true) (h : RGs X is es gs) (n : Nat)
    (hn : (assignEach es X.env).length = n := by rfl) (hst : (assignEach es X.env).findIdx? (·.1) = none := by rfl) : RG X is (.Tuple es k pos) (mgTupK n gs) := ⟨pg_imp (pg_or (pg_tup hc h.pg hn hst) (pg_lst hc h.pg hn hst)) fun v σ H Q q => by
  obtain ⟨Z, B, ρ, w, τ, τ', h, ok, sl, r, e, q⟩ := q
  unfold mgTupK at e
  split at e
  · rename_i ds
    split at e
    · rename_i hl
      cases ra_d r with
      | kt h1 r1 => exact .inl ⟨_, _, rfl, sqt_mono ok.ex h1, by rw [r1.length]; exact hl, Z, B, ρ, ds.map A.d, τ, τ', h, ok, sl, ral_ds r1, e, q⟩
    · cases e
  · unfold mgTup at e
    split at e
    · rename_i ws e1
      split at e
      · rename_i hl
        obtain ⟨p, vs, rfl, h1, r1⟩ := tupOf_ra r e1
        exact .inl ⟨p, vs, rfl, sqt_of (ok.ex _ _ h1), by rw [r1.length]; exact hl, Z, B, ρ, ws, τ, τ', h, ok, sl, r1, e, q⟩
      · cases e
    · split at e
      · rename_i ws e1
        split at e
        · rename_i hl
          obtain ⟨p, vs, rfl, h1, r1⟩ := lstOf_ra ok r e1
          exact .inr ⟨p, vs, rfl, SqL.of h1, by rw [r1.length]; exact hl, Z, B, ρ, ws, τ, τ', h, ok, sl, r1, e, q⟩
        · cases e
      · cases e⟩
theorem mgK_T3 {gs : List A → Sl → Hq → Option Sl} {τ τ1 : Sl} {h : Hq} {x y z : D} (q : gs [.d x, .d y, .d z] τ h = some τ1) : mgTupK 3 gs (.d (.tup [x, y, z])) τ h = some τ1 := mg_T3 q
theorem mgK_K3 {gs : List A → Sl → Hq → Option Sl} {τ τ1 : Sl} {h : Hq} {x y z : D} (q : gs [.d x, .d y, .d z] τ h = some τ1) : mgTupK 3 gs (.d (.kt [x, y, z])) τ h = some τ1 := by
  unfold mgTupK
  exact (if_pos rfl).trans q
end Tq

/-! Tq24: what is seen in a heap is seen in a longer one. -/
namespace Tq
open PySem PySem.Spec PyProof.Rows L2
theorem mapMn_mono {α β : Type} {f g : α → Option β} (h : ∀ a b, f a = some b → g a = some b) : ∀ {xs : List α} {ys : List β}, mapMn f xs = some ys → mapMn g xs = some ys
  | [], _, e => e
  | x :: xs, ys, e => by
    unfold mapMn at e ⊢
    cases hx : f x with
    | none => rw [hx] at e; cases e
    | some y =>
      rw [hx] at e
      rw [h x y hx]
      dsimp only at e ⊢
      cases hr : mapMn f xs with
      | none => rw [hr] at e; cases e
      | some r =>
        rw [hr] at e
        rw [mapMn_mono h hr]
        exact e
theorem vw_app (g : Hq) : ∀ (n : Nat) (h : Hq) (w : A) (d : D), vw n h w = some d → vw n (h ++ g) w = some d
  | n, h, .d x, d, e => by rw [vw_d] at e ⊢; exact e
  | 0, h, .r k, d, e => by cases e
  | 0, h, .tup ws, d, e => by cases e
  | n + 1, h, .r k, d, e => by
    unfold vw at e ⊢
    cases hk : h[k]? with
    | none => rw [hk] at e; cases e
    | some o =>
      have hk2 : (h ++ g)[k]? = some o := by
        rw [List.getElem?_append_left (List.getElem?_eq_some_iff.mp hk).1]; exact hk
      rw [hk] at e
      rw [hk2]
      have mono := fun {xs : List A} {ys : List D} (q : mapMn (vw n h) xs = some ys) => mapMn_mono (f := vw n h) (g := vw n (h ++ g)) (fun a b => vw_app g n h a b) q
      cases o with
      | lst ws =>
        dsimp only at e ⊢
        cases hm : mapMn (vw n h) ws with
        | none => rw [hm] at e; cases e
        | some ys => rw [hm] at e; rw [mono hm]; exact e
      | nd hd ws =>
        dsimp only at e ⊢
        cases hm : mapMn (vw n h) ws with
        | none => rw [hm] at e; cases e
        | some ys => rw [hm] at e; rw [mono hm]; exact e
      | dead => cases e
  | n + 1, h, .tup ws, d, e => by
    unfold vw at e ⊢
    have mono := fun {xs : List A} {ys : List D} (q : mapMn (vw n h) xs = some ys) => mapMn_mono (f := vw n h) (g := vw n (h ++ g)) (fun a b => vw_app g n h a b) q
    cases hm : mapMn (vw n h) ws with
    | none => rw [hm] at e; cases e
    | some ys => rw [hm] at e; rw [mono hm]; exact e
theorem view_app {h : Hq} {w : A} {d : D} (g : Hq) (e : view h w = some d) : view (h ++ g) w = some d := vw_app g 32 h w d e
end Tq

/-! Tq25: a pure call whose new cells all become cells of the caller. -/
namespace Tq
open PySem PySem.Spec PyProof.Rows L2
mutual
def A.sh (n : Nat) : A → A
  | .d x => .d x
  | .r k => .r (n + k)
  | .tup ws => .tup (shL n ws)
def shL (n : Nat) : List A → List A
  | [] => []
  | w :: r => w.sh n :: shL n r
end
theorem shL_map (n : Nat) : ∀ ws : List A, shL n ws = ws.map (A.sh n)
  | [] => rfl
  | w :: r => by
    show w.sh n :: shL n r = _
    rw [shL_map n r]
    rfl
def O.sh (n : Nat) : O → O
  | .lst ws => .lst (shL n ws)
  | .nd hd ws => .nd hd (shL n ws)
  | .dead => .dead
def callN (sem : Sem1) (ws : List A) (h1 : Hq) : Option (Rs A) := match allD ws with
  | some ds => (match sem ws [] with
    | some (.ok w h') => some (.ok (w.sh h1.length) (h1 ++ h'.map (O.sh h1.length)))
    | some (.ex _ _) => callP sem ws h1
    | none => none)
  | none => none
def mCallN (sem : Sem1) (mr : E (List A)) : E A := fun τ h => bd (mr τ h) fun ws h1 => callN sem ws h1
section
variable {K : PySem.W.Frag} {Z B H : Hp} {ρ : Nat → Option Addr} {h : Hq}
abbrev rhoN (n : Nat) (ρ ρ' : Nat → Option Addr) : Nat → Option Addr := fun k => if k < n then ρ k else ρ' (k - n)
mutual
theorem RA.shN {B' : Hp} {n : Nat} {ρ' : Nat → Option Addr} : ∀ {v : V} {w : A}, RA K B' ρ' v w → RA K B' (rhoN n ρ ρ') v (w.sh n)
  | _, _, .d r => .d r
  | _, _, .r (k := k) e => .r (by show (if n + k < n then ρ (n + k) else ρ' (n + k - n)) = _; rw [if_neg (by omega), Nat.add_sub_cancel_left]; exact e)
  | _, _, .tup e r => .tup e (RAL.shN r)
theorem RAL.shN {B' : Hp} {n : Nat} {ρ' : Nat → Option Addr} : ∀ {vs : List V} {ws : List A}, RAL K B' ρ' vs ws → RAL K B' (rhoN n ρ ρ') vs (shL n ws)
  | _, _, .nil => .nil
  | _, _, .cons r t => .cons (RA.shN r) (RAL.shN t)
end
theorem Ok.backN (ok : Ok K Z B ρ H h) {B' H' : Hp} {ρ' : Nat → Option Addr} {h' : Hq} (ok' : Ok K H B' ρ' H' h') (g : Gr H B (fun _ => none) B' ρ') :
    Ok K Z B' (rhoN h.length ρ ρ') H' (h ++ h'.map (O.sh h.length)) ∧ Gr Z B ρ B' (rhoN h.length ρ ρ') := by
  have s0 : Same H H' := ok'.zz
  have zn : ∀ a, H a = none → Z a = none := fun a e => by
    cases z : Z a with
    | none => rfl
    | some u => rw [ok.zz a u z] at e; cases e
  have rlt : ∀ k a, ρ k = some a → k < h.length := fun k a e => by
    rcases Nat.lt_or_ge k h.length with z | z
    · exact z
    · rw [ok.up k z] at e; cases e
  have new' : ∀ k a, ρ' k = some a → H a = none := fun k a e => by
    rcases Nat.lt_or_ge k h'.length with z | z
    · have ek : h'[k]? = some h'[k] := List.getElem?_eq_getElem z
      generalize h'[k] = o at ek
      obtain ⟨b, e2, c⟩ := ok'.ce k o ek
      rw [e] at e2
      cases e2
      cases c with
      | lst _ _ _ e4 => exact e4
      | nd c1 _ c3 => exact (c3 a (by obtain ⟨x, _⟩ := c1.own_or; exact x)).2
      | dead e1 => exact e1
    · rw [ok'.up k z] at e; cases e
  have gr : Gr Z B ρ B' (rhoN h.length ρ ρ') := ⟨g.bb, fun k a e => by
    show (if k < h.length then ρ k else _) = _
    rw [if_pos (rlt k a e)]; exact e, fun a e e' => zn a (g.fz a e e')⟩
  have bnew : ∀ a, H a ≠ none → B a = none → B' a = none := fun a e1 e2 => by
    cases z : B' a with
    | none => rfl
    | some u => exact absurd (g.fz a e2 (by rw [z]; simp)) e1
  refine ⟨⟨ok'.ex, fun a o e => s0 _ _ (ok.zz a o e), fun k o e => ?_, fun i j a e1 e2 => ?_, fun k a e => ?_, fun k e => ?_⟩, gr⟩
  · rcases Nat.lt_or_ge k h.length with z | z
    · rw [List.getElem?_append_left z] at e
      obtain ⟨a, h1, h2⟩ := ok.ce k o e
      refine ⟨a, gr.rr k a h1, ?_⟩
      cases h2 with
      | lst e1 e2 e3 e4 => exact .lst (s0 _ _ e1) (e2.mono gr) (bnew a (by rw [e1]; simp) e3) e4
      | nd e1 e2 e3 => exact .nd (e1.to fun b _ u e => s0 _ _ e) (e2.mono gr) fun b hb => ⟨bnew b (e1.own_or.2.2.1 b hb) (e3 b hb).1, (e3 b hb).2⟩
      | dead e1 => exact .dead e1
    · rw [List.getElem?_append_right z, List.getElem?_map] at e
      obtain ⟨o', e', rfl⟩ := Option.map_eq_some_iff.mp e
      obtain ⟨a, h1, h2⟩ := ok'.ce _ o' e'
      refine ⟨a, by show (if k < h.length then ρ k else ρ' (k - h.length)) = _; rw [if_neg (by omega)]; exact h1, ?_⟩
      cases h2 with
      | lst e1 e2 e3 e4 => exact .lst e1 (RAL.shN e2) e3 (zn a e4)
      | nd e1 e2 e3 => exact .nd e1 (RAL.shN e2) fun b hb => ⟨(e3 b hb).1, zn b (e3 b hb).2⟩
      | dead e1 => exact .dead (zn a e1)
  · have e1 : (if i < h.length then ρ i else ρ' (i - h.length)) = some a := e1
    have e2 : (if j < h.length then ρ j else ρ' (j - h.length)) = some a := e2
    split at e1 <;> split at e2
    · exact ok.nj i j a e1 e2
    · exact absurd (new' _ a e2) (ok.al _ _ e1)
    · exact absurd (new' _ a e1) (ok.al _ _ e2)
    · have := ok'.nj _ _ a e1 e2
      omega
  · have e : (if k < h.length then ρ k else ρ' (k - h.length)) = some a := e
    split at e
    · have := ok.al k a e
      cases z : H a with
      | none => exact absurd z this
      | some u => rw [s0 _ _ z]; simp
    · exact ok'.al _ a e
  · rw [List.length_append, List.length_map] at e
    show (if k < h.length then ρ k else ρ' (k - h.length)) = none
    rw [if_neg (by omega)]
    exact ok'.up _ (by omega)
theorem callN_ok {W : XK} {Q : VK} {sem : Sem1} {vs : List V} {ws : List A} {np : Nat} (ok : Ok K Z B ρ H h) (r : RAL K B ρ vs ws) (hl : ws.length = np)
    (q : Post K Z W B ρ (fun w _ B' ρ' H' => ∀ v, RA K B' ρ' v w → Q v H') (callN sem ws h)) : spQ K np sem vs H Q W := by
  unfold callN at q
  split at q
  · rename_i ds e0
    split at q
    · rename_i w h' e2
      refine ⟨by rw [r.length]; exact hl, ?_⟩
      cases allD_of e0
      refine ⟨H, B, fun _ => none, [], ds.map A.d, ok.void, ral_ds (ral_rpl r), ?_⟩
      rw [e2]
      intro B' ρ' H' ok' g v rv
      obtain ⟨o2, g2⟩ := ok.backN ok' g
      exact q B' _ H' o2 g2 _ (RA.shN rv)
    · exact callP_ok ok r hl q
    · exact q.elim
  · exact q.elim
end
section
variable {X : Cx} {W : WX} {a o : Expr} {es : List Expr} {mr : E (List A)} {sem : Sem1} {pos px : Pos} {j k : Nat} {ps : List Str}
theorem rx_callN {x : Str} (tk : Takes X W) (Df : Def X.prog X.w X.K X.mg X.base j x ps sem) (hr : Room k X.A) (hj : j ≤ k) (ha : RAs X W (a :: es) mr)
    (hg : Gl X x := by rfl) (hdb : (x == ("__debug__" : Str)) = false := by decide) (he : starEach (a :: es) X.env = (false, eval a X.env) :: starEach es X.env := by rfl) (hpl : (backTo pos (starEach es X.env)).any (·.1) = false := by rfl) :
    RX X W (.Call (.Name x px) (a :: es) [] pos) (mCallN sem (lenIs ps.length mr)) := by
  obtain ⟨fa, fd, F, h1, h2, h3⟩ := Df.ex
  refine ⟨pe_imp (pe_callS F (hr.mono hj) hg h1 h2 h3 (fun σ => passAt tk σ) ha.pa hdb he hpl) fun σ H Q q => ?_⟩
  obtain ⟨Z, B, ρ, τ, h, ok, sl, q⟩ := q
  have q := q.bd
  unfold lenIs at q
  refine te_args ok sl q fun vs ws h1 B1 ρ1 H1 r ok1 sl1 g1 q1 => ?_
  split at q1
  · rename_i hl
    exact callN_ok ok1 r hl (q1.now ok1)
  · exact q1.elim
end
theorem x_CallN {sem : Sem1} {mr : E (List A)} {τ : Sl} {h h1 h' : Hq} {ws : List A} {ds : List D} {w : A} (e : mr τ h = some (.ok ws h1)) (q : allD ws = some ds) (s : sem ws [] = some (.ok w h')) : mCallN sem mr τ h = some (.ok (w.sh h1.length) (h1 ++ h'.map (O.sh h1.length))) := by
  unfold mCallN
  rw [e, bd_ok]
  unfold callN
  rw [q]
  dsimp only
  rw [s]
end Tq

/-! Tq26: {k: v for .. in ..} whose keys are tuples of ints and texts, none twice; keys and values data. -/
namespace L2
open PySem PySem.Spec PyProof.Rows
/-- the put of such a comprehension -/
theorem put_dT {X : Cx} {ps : List (Addr × Obj)} {τ : St} {G : Hp} {t : Shared} {Er : Value → Shared → Prop} {D b : Addr} {es : List (List Key × V)} {k : List Key} {v : V} {r : Value} {P : Unit → Shared → Prop} (hu : X.A.units < cLine) (J : Inv X ps τ G t)
    (gD : G D = some (.dT es)) (gb : G b = some (.tup (k.map kV))) (hz : es.length < sizeLine) (rv : RelV v r) (go : ∀ t', Inv X ps τ (upd G D (.dT (putK es k v))) t' → P () t') : wpAny (model X.prog X.w) X.A (dictSet D (.ref b) r) P Er t := by
  obtain ⟨z1, z2, ys, rel, dd⟩ := dt_of J.hok gD
  have l1 : ys.length ≤ sizeLine := Paired.length rel ▸ z1
  refine wpAny_dictSet_heap (knd := tupleKind (mixKind X.prog X.w)) (hsz := l1) hu (key_of J.hok gb) dd fun hp dd' same => go _ ?_
  obtain ⟨ob, as, n, g1, g2, g3, g4, _, g6⟩ := dd'
  have l2 : (putK es k v).length ≤ sizeLine := Nat.le_trans (length_putK es k v) hz
  refine d_write J (by rw [gD]; trivial) same ⟨ob, g1⟩ ⟨l2, z2, _, (rel.put k gb rv).keeps (fun c us gc => ?_), ob, as, n, g1, g2, g3, g4, g6⟩
  have n1 : c ≠ D := ne_of gc gD (by intro q; cases q)
  rw [upd_ne n1]; exact gc
def tDcT (wi : TI) (g : TG) (tt : TT) (tk tv : TE) (vs : List Nat) : TE := fun σ G P => wi σ G fun J G1 => ∀ D, G1 D = none → ∃ Wd : Nat → Nat → Hp → Prop, (∃ m, Wd 0 m (upd G1 D (.dT []))) ∧ ∀ i m G2, Wd i m G2 →
  (J.stop i G2 ∧ P (.ref D) G2) ∨ (J.go i G2 ∧ ∃ Next : Hp → Prop, (∀ G', Next G' → ∃ m', m' < m ∧ Wd (i + 1) m' G') ∧ ∀ x G', J.yld i G2 x G' → g x (wipe σ vs) G' fun σ' G3 => wipe σ' vs = wipe σ vs ∧ tt σ' G3 fun b G4 =>
    if b = true then tk σ' G4 fun y G5 => tv σ' G5 fun z G6 => ∃ es k p, y = .ref p ∧ G6 p = some (.tup (k.map kV)) ∧ G6 D = some (.dT es) ∧ es.length < sizeLine ∧ Next (upd G6 D (.dT (putK es k z))) else Next G4)
section
variable {X : Cx} {kx vx tg iter : Expr} {ifs : List Expr} {scope : Scope} {own : List (Str × Nat)} {pos : Pos} {wi : TI} {g : TG} {tt : TT} {tk tv : TE}
theorem pe_dcT (hu : X.A.units < cLine) (hc : X.calm = true) (hN : X.N.Nodup) (hi : PI X tg iter wi) (okb : BlkOk X.N X.env.scope scope own)
    (hg : ∀ (s : Shared) (G : Hp) (C : Addr) (cl : List (Str × Addr)) (fp : List Addr), PG (X.blk s G scope (compEnvC scope cl C X.env) fp) tg g) (hT : ∀ (s : Shared) (G : Hp) (C : Addr) (cl : List (Str × Addr)) (fp : List Addr), PTs (X.blk s G scope (compEnvC scope cl C X.env) fp) ifs tt)
    (hK : ∀ (s : Shared) (G : Hp) (C : Addr) (cl : List (Str × Addr)) (fp : List Addr), PE (X.blk s G scope (compEnvC scope cl C X.env) fp) kx tk) (hV : ∀ (s : Shared) (G : Hp) (C : Addr) (cl : List (Str × Addr)) (fp : List Addr), PE (X.blk s G scope (compEnvC scope cl C X.env) fp) vx tv)
    (hs : ∀ x, foldedSetIterable iter X.env x = pure x := by intro _; rfl) : PE X (.DictComp kx vx [⟨tg, iter, ifs, 0⟩] scope pos) (tDcT wi g tt tk tv (own.map (·.2))) := by
  refine ⟨fun pins t0 σ G P J0 hyp => ?_⟩
  rw [arm_eval_DictComp]
  have free : ∀ y ∈ scope.names, y.2 = .free → ∃ c, X.env.cells.lookup y.1 = some c := fun y my ey => by
    have := okb.free y my ey
    rcases this with q | q <;> exact J0.ok.has _ (by first | exact .inl q | exact .inr q)
  refine wpAny_comprehension_free rfl hs (closure_ok free) okb.kind (fun y my ey => by rw [okb.uniq y my, ey]) (thn (hi.run pins t0 σ G _ J0 hyp) fun _ _ hx => thn hx fun _ t2 r2 => ?_)
  obtain ⟨it, fp, tn, Jt, G2, rfl, J2, T, s2, f2, hW⟩ := r2
  refine wpAny_newObj_type (newEnv_comp ?_)
  generalize eD : t2.heap.objs.size = D
  obtain ⟨Wd, ⟨m0, w0⟩, turns⟩ := hW D (J2.hok.fresh (Nat.le_of_eq eD))
  generalize et3 : ({ t2 with heap := t2.heap.push { cls := .type "dict", data := .dict #[] } } : Shared) = t3
  have hp3 : t3.heap = t2.heap.push { cls := .type "dict", data := .dict #[] } := by subst et3; rfl
  have J3 : Inv X pins σ (upd G2 D (.dT [])) t3 := by
    subst et3 eD
    exact J2.laid (t' := t2.toks) (fun _ _ q => Heap.get?_push_of_some _ q) (Nat.le_refl _) (dt_empty t2.heap J2.big)
  have f3 : ∀ b ∈ fp, FpOk X pins (upd G2 D (.dT [])) b ∧ b < t3.heap.objs.size := fun b hb => by
    obtain ⟨_, q, _⟩ := T.obj _ _ s2 b hb
    have lt := Heap.lt_size q
    obtain ⟨u1, u2⟩ := f2 b hb
    have ne : b ≠ D := eD ▸ Nat.ne_of_lt lt
    exact ⟨⟨by rw [upd_ne ne]; exact u1, u2⟩, by rw [hp3, Heap.size_push]; exact Nat.lt_succ_of_lt lt⟩
  have s3 : tn 0 t3.heap := T.keep _ _ _ s2 fun _ _ _ q => by rw [hp3]; exact Heap.get?_push_of_some _ q
  have J4 := block_start J3 okb hN f3
  have nf : ∀ b ∈ fp, (upd G2 D (.dT [])) b = none := fun b hb => (f3 b hb).1.1
  generalize eG3 : upd G2 D (.dT []) = G3 at *
  have rg := hg t3 G3 t3.heap.objs.size (cellsFrom (t3.heap.objs.size + 1) scope.names (cloFrom X.env.cells scope.names [])) fp
  have rt := hT t3 G3 t3.heap.objs.size (cellsFrom (t3.heap.objs.size + 1) scope.names (cloFrom X.env.cells scope.names [])) fp
  have rk := hK t3 G3 t3.heap.objs.size (cellsFrom (t3.heap.objs.size + 1) scope.names (cloFrom X.env.cells scope.names [])) fp
  have rv := hV t3 G3 t3.heap.objs.size (cellsFrom (t3.heap.objs.size + 1) scope.names (cloFrom X.env.cells scope.names [])) fp
  show codeAny _ _ (.compStart _ 0 (.ref it) (.ref D) (compEnvC scope (cellsFrom (t3.heap.objs.size + 1) scope.names (cloFrom X.env.cells scope.names [])) t3.heap.objs.size X.env)) _ _
  generalize ecl : cellsFrom (t3.heap.objs.size + 1) scope.names (cloFrom X.env.cells scope.names []) = cl at *
  have el : (compEnvC scope cl t3.heap.objs.size X.env).locals = t3.heap.objs.size := rfl
  generalize eE : compEnvC scope cl t3.heap.objs.size X.env = en at *
  generalize et4 : ({ t3 with heap := pushCells (t3.heap.push { cls := .type "dict", data := .dict #[] }) scope.names } : Shared) = t4 at J4 ⊢
  have s4 : tn 0 t4.heap := T.keep _ _ _ s3 fun _ _ _ q => by subst et4; exact pushCells_keeps _ _ _ _ (Heap.get?_push_of_some _ q)
  have away : ∀ {σ' : St} {G' : Hp} {t' : Shared}, Inv (X.blk t3 G3 scope en fp) [] σ' G' t' → (∀ b ∈ fp, G' b = none) → ∀ b ∈ fp, FpOk (X.blk t3 G3 scope en fp) [] G' b := fun J nn b hb => by
    obtain ⟨u1, u2⟩ := J.ok.exf b hb
    exact ⟨nn b hb, u1, J.ok.exfs b hb, .inl hb, fun x c q => u2 x c q, fun p hp => absurd (show p ∈ ([] : List (Addr × Obj)) from hp) List.not_mem_nil⟩
  refine (fun bd => codeAny_compStart_dict bd (T.self X.A 0 _ _ _ s4 bd)) ?_
  · refine compLoop_anyD (fun n t' => ∃ i G', Inv (X.blk t3 G3 scope en fp) [] (wipe σ (own.map (·.2))) G' t' ∧ tn i t'.heap ∧ (∀ b ∈ fp, G' b = none) ∧ Wd i n G') ?_ m0 ⟨0, G3, J4, s4, nf, w0⟩
    rintro n t5 ⟨i, G5, J5, s5, n5, w5⟩
    rcases turns i n G5 w5 with ⟨stop, done⟩ | ⟨goes, Next, nx, step⟩
    · refine thnF (T.done (X.blk t3 G3 scope en fp) rfl rfl rfl hc i [] t5 _ G5 (fun _ _ => False) J5 (away J5 n5) s5 stop) fun r t6 q6 => ?_
      obtain ⟨rfl, J6⟩ := q6
      have J7 : Inv X pins σ G5 t6 := J3.call' (ch := fp) J6.os J6.base J6.hok J6.bare fun b hb => by
        obtain ⟨⟨_, u2, _, u4, u5, u6⟩, _⟩ := f3 b hb
        exact ⟨u4, u2, u5, u6⟩
      have nC : G5 t3.heap.objs.size = none := el ▸ J6.free
      obtain ⟨k, hk, _⟩ := J6.loc
      have hk : t6.heap.Ns t3.heap.objs.size k := el ▸ hk
      refine ⟨k, hk, fun h2 sb => ?_⟩
      obtain ⟨v0, v1, v2, v3, v4, v5⟩ := J3.fpOk (Nat.le_refl _) nC
      exact ⟨.ref D, G5, J7.turned (t' := t6.toks) (fun b o hb q => (sb.2 b hb).trans q) v0 v1 v3 v4 v5, rfl, done⟩
    · refine thnF (T.item (X.blk t3 G3 scope en fp) rfl rfl rfl hc i [] t5 _ G5 (fun _ _ => False) J5 (away J5 n5) s5 goes) fun r t6 q6 => ?_
      obtain ⟨u, rfl, q6⟩ := q6
      refine thnF q6 fun _ t7 q7 => ?_
      obtain ⟨x, G7, J7, r7, y7, s7, n7⟩ := q7
      refine thnF (rg.run _ t7 _ G7 x u _ (J7.pinned (away J7 n7) (T.obj _ _ s7)) r7 (step x G7 y7)) fun _ t8 q8 => ?_
      obtain ⟨σ8, G8, J8, hw8, q8⟩ := q8
      refine thnF (rt.run _ t8 σ8 G8 _ J8 q8) fun b t9 q9 => ?_
      obtain ⟨G9, J9, q9⟩ := q9
      have next : ∀ {t' : Shared} {G' : Hp}, Inv (X.blk t3 G3 scope en fp) ([] ++ pinsAt fp t7.heap) σ8 G' t' → Next G' → ∃ m, m < n ∧ ∃ i G', Inv (X.blk t3 G3 scope en fp) [] (wipe σ (own.map (·.2))) G' t' ∧ tn i t'.heap ∧ (∀ b ∈ fp, G' b = none) ∧ Wd i m G' := fun {t' G'} J hx => by
        obtain ⟨m', lt, w'⟩ := nx G' hx
        have pn : ∀ b ∈ fp, ∀ o, t7.heap.get? b = some o → t'.heap.get? b = some o ∧ G' b = none := fun b hb o q => by
          have := J.pin (b, o) (List.mem_append_right _ (List.mem_append_right _ (mem_pinsAt hb q)))
          exact ⟨this.1, this.2.1⟩
        refine ⟨m', lt, i + 1, G', (J.unpinned (pins := [])).weak (by rw [← hw8, wipe_length]) (fun j v q => (wipe_some (hw8 ▸ q)).1), T.keep _ _ _ s7 fun b hb o q => (pn b hb o q).1, fun b hb => ?_, w'⟩
        obtain ⟨o, q, _⟩ := T.obj _ _ s7 b hb
        exact (pn b hb o q).2
      cases b with
      | false =>
        simp only [Bool.false_eq_true, if_false] at q9 ⊢
        exact next J9 q9
      | true =>
        simp only [if_true] at q9 ⊢
        refine thnF (rk.run _ t9 σ8 G9 _ J9 q9) fun z1 t10 q10 => ?_
        obtain ⟨yk, G10, J10, r10, q10⟩ := q10
        refine thnF (rv.run _ t10 σ8 G10 _ J10 q10) fun z2 t11 q11 => ?_
        obtain ⟨yv, G11, J11, r11, es, k, p, rfl, gp, gD, hz, hx⟩ := q11
        obtain rfl : z1 = .ref p := r10
        exact put_dT (X := X.blk t3 G3 scope en fp) hu J11 gD gp hz r11 fun t12 J12 => next J12 hx
end
end L2

/-! Tq27: dict comprehensions by tuple keys, as m's. -/
namespace Tq
open PySem PySem.Spec PyProof.Rows L2
def compD (nx : Nxt) (g : A → Sl → Hq → Option Sl) (mt : E Bool) (mk mv : E A) (τw : Sl) : Nat → Nat → Hq → Hd → List A → Option ((Hd × List A) × Hq)
  | 0, _, _, _, _ => none
  | f + 1, i, h, hd, ws => match nx i h with
    | some none => some ((hd, ws), h)
    | some (some w) => (match g w τw h with
      | some τ1 => (match mt τ1 h with
        | some (.ok true h1) => (match mk τ1 h1 with
          | some (.ok kd h2) => (match mv τ1 h2 with
            | some (.ok x h3) => (match hPut hd ws kd x with | some (hd', ws') => compD nx g mt mk mv τw f (i + 1) h3 hd' ws' | none => none)
            | _ => none)
          | _ => none)
        | some (.ok false h1) => compD nx g mt mk mv τw f (i + 1) h1 hd ws
        | _ => none)
      | none => none)
    | none => none
def mDC (mi : E Nxt) (g : A → Sl → Hq → Option Sl) (mt : E Bool) (mk mv : E A) (vs : List Nat) : E A := fun τ h => bd (mi τ h) fun nx h1 => match compD nx g mt mk mv (wipeT τ vs) FU 0 h1 (.dit []) [] with
  | some ((hd, ws), h2) => some (.ok (.r h2.length) (h2 ++ [.nd hd ws]))
  | none => none
theorem dc_reads {X : Cx} {vs : List Nat} {g : A → Sl → Hq → Option Sl} {mt : E Bool} {mk mv : E A} {gg : TG} {tt : TT} {tk tv : TE}
    (hgg : ∀ v σ H Q, (∃ Z B ρ w τ τ' h, Ok X.K Z B ρ H h ∧ SlOk X.K B ρ σ τ ∧ RA X.K B ρ v w ∧ g w τ h = some τ' ∧ ∀ σ', SlOk X.K B ρ σ' τ' → Apart vs σ σ' → Q σ' H) → gg v σ H Q)
    (htt : ∀ σ H Q, tT X.K W0 mt σ H Q → tt σ H Q) (htk : ∀ σ H Q, tE X.K W0 mk σ H Q → tk σ H Q) (htv : ∀ σ H Q, tE X.K W0 mv σ H Q → tv σ H Q)
    {σ : L2.St} {Z B1 H1 : Hp} {ρ1 : Nat → Option Addr} {h1 h2 : Hq} {τ : Sl} {nx : Nxt} {J : It} {hdr : Hd} {wsr : List A} {Q : VK} {W : XK} (ok1 : Ok X.K Z B1 ρ1 H1 h1) (sl1 : SlOk X.K B1 ρ1 σ τ) (wk : Walk X.K B1 ρ1 J nx)
    (e : compD nx g mt mk mv (wipeT τ vs) FU 0 h1 (.dit []) [] = some ((hdr, wsr), h2)) (k : Post X.K Z W B1 ρ1 (fun w _ B' ρ' H' => ∀ v, RA X.K B' ρ' v w → Q v H') (some (.ok (.r h2.length) (h2 ++ [.nd hdr wsr])))) :
    ∀ D, H1 D = none → ∃ Wv : Nat → Nat → Hp → Prop, (∃ m, Wv 0 m (upd H1 D (.dT []))) ∧ ∀ i m H, Wv i m H →
  (J.stop i H ∧ Q (.ref D) H) ∨ (J.go i H ∧ ∃ Nx : Hp → Prop, (∀ H', Nx H' → ∃ m', m' < m ∧ Wv (i + 1) m' H') ∧ ∀ x H', J.yld i H x H' → gg x (L2.wipe σ vs) H' fun σ2 H2 => L2.wipe σ2 vs = L2.wipe σ vs ∧ tt σ2 H2 fun b H3 =>
    if b = true then tk σ2 H3 fun y H4 => tv σ2 H4 fun z H5 => ∃ es kk p, y = .ref p ∧ H5 p = some (.tup (kk.map kV)) ∧ H5 D = some (.dT es) ∧ es.length < sizeLine ∧ Nx (upd H5 D (.dT (putK es kk z))) else Nx H3) := by
  intro D hD
  have hzD : Z D = none := by
    cases z : Z D with
    | none => rfl
    | some u => rw [ok1.zz D u z] at hD; cases hD
  have hbD : B1 D = none := by
    cases z : B1 D with
    | none => rfl
    | some u => rw [ok1.ex D u z] at hD; cases hD
  refine ⟨fun i m H' => ∃ B' ρ' h' ks us ws, Ok X.K (upd Z D (.dT (ks.zip us))) B' ρ' H' h' ∧ Gr Z B1 ρ1 B' ρ' ∧ B' D = none ∧ ks.length = us.length ∧ RAL X.K B' ρ' us ws ∧
      compD nx g mt mk mv (wipeT τ vs) m i h' (.dit ks) ws = some ((hdr, wsr), h2),
    ⟨FU, B1, ρ1, h1, [], [], [], ok1.aside hD, Gr.refl, hbD, rfl, .nil, e⟩, ?_⟩
  rintro i m H2 ⟨B2, ρ2, h', ks, us, ws, ok2, g2, hb2, el, ra, ec⟩
  cases m with
  | zero => cases ec
  | succ m =>
    obtain ⟨stop, go⟩ := wk _ B2 ρ2 H2 h' i ok2 g2.wk
    unfold compD at ec
    split at ec
    · rename_i e1
      cases ec
      refine .inl ⟨stop e1, ?_⟩
      have hq : H2 D = some (.dT (ks.zip us)) := ok2.zz D _ upd_same
      have own : HdAt X.K H2 D (.dit ks) us [D] := .dit hq el
      obtain ⟨ok3, g3⟩ := ok2.adoptC hzD (c := .nd (.dit ks) wsr) (.nd own ra fun b hb => by rw [List.mem_singleton.mp hb]; exact ⟨hb2, hzD⟩)
      exact k B2 _ H2 ok3 (g2.trans g3) _ (.r (if_pos rfl))
    · rename_i w e1
      obtain ⟨k1, k2⟩ := go w e1
      refine .inr ⟨k1, fun H' => ∃ B' ρ' h' ks us ws, Ok X.K (upd Z D (.dT (ks.zip us))) B' ρ' H' h' ∧ Gr Z B1 ρ1 B' ρ' ∧ B' D = none ∧ ks.length = us.length ∧ RAL X.K B' ρ' us ws ∧
        compD nx g mt mk mv (wipeT τ vs) m (i + 1) h' (.dit ks) ws = some ((hdr, wsr), h2), fun H' q => ⟨m, Nat.lt_succ_self m, q⟩, fun x H3 y => ?_⟩
      obtain ⟨B3, rx, ok3, g3⟩ := k2 x H3 y
      have keep : ∀ {B' : Hp} {ρ' : Nat → Option Addr} {Ba : Hp} {ρa : Nat → Option Addr}, Ba D = none → Gr (upd Z D (.dT (ks.zip us))) Ba ρa B' ρ' → B' D = none := fun {B' ρ' Ba ρa} hn g => by
        cases z : B' D with
        | none => rfl
        | some u =>
          have := g.fz D hn (by rw [z]; simp)
          rw [upd_same] at this
          cases this
      have hb3 := keep hb2 g3
      have g13 := g2.trans (g3.aside hzD)
      split at ec
      · rename_i τ3 e3
        refine hgg _ _ _ _ ⟨_, B3, ρ2, w, wipeT τ vs, τ3, h', ok3, (sl1.mono g13).wipe vs, rx, e3, fun σ4 sl4 a4 => ⟨(wipe_apart a4).trans (wipe_wipe σ vs), htt _ _ _ ⟨_, B3, ρ2, τ3, h', ok3, sl4, ?_⟩⟩⟩
        split at ec
        · rename_i h5 e5
          rw [e5]
          intro B5 ρ5 H5 ok5 g5
          refine iteT (htk _ _ _ ⟨_, B5, ρ5, τ3, h5, ok5, sl4.mono g5, ?_⟩)
          have hb5 := keep hb3 g5
          split at ec
          · rename_i kd h6 e6
            rw [e6]
            intro B6 ρ6 H6 ok6 g6 v rv
            have hb6 := keep hb5 g6
            refine htv _ _ _ ⟨_, B6, ρ6, τ3, h6, ok6, (sl4.mono g5).mono g6, ?_⟩
            split at ec
            · rename_i xx h7 e7
              rw [e7]
              intro B7 ρ7 H7 ok7 g7 z rz
              have hb7 := keep hb6 g7
              split at ec
              · rename_i hd' ws' e8
                have hq : H7 D = some (.dT (ks.zip us)) := ok7.zz D _ upd_same
                have g37 := ((g5.trans g6).trans g7).aside hzD
                have ra7 := ra.mono ((g3.aside hzD).trans g37)
                have own : HdAt X.K H7 D (.dit ks) us [D] := .dit hq el
                unfold hPut at e8
                dsimp only at e8
                split at e8
                · rename_i hn
                  obtain ⟨kk, hk, e8⟩ := Option.map_eq_some_iff.mp e8
                  cases e8
                  have hy : ∃ b, v = .ref b ∧ H7 b = some (.tup (kk.map kV)) := by
                    unfold keyT at hk
                    split at hk
                    · cases ra_d (rv.mono g7) with
                      | tup q1 q2 => exact ⟨_, rfl, by rw [ok7.ex _ _ q1, keysD_rp q2 hk]⟩
                    · cases hk
                  obtain ⟨b, rfl, hb⟩ := hy
                  obtain ⟨vs', q1, q2, q3, _⟩ := dPut_ok (k := kk) rz ra7 el
                  refine ⟨ks.zip us, kk, b, rfl, hb, hq, by rw [List.length_zip, ← el, Nat.min_self, ← lim_eq]; exact hn.2, B7, ρ7, h7, _, vs', _, ?_, g13.trans g37, hb7, q2, q3, ec⟩
                  rw [putK_eq (by rw [map_fst_zip el]; exact hn.1), q1]
                  exact ok7.turn hb7 hzD
                · cases e8
              · cases ec
            · cases ec
          · cases ec
        · rename_i h5 e5
          rw [e5]
          intro B5 ρ5 H5 ok5 g5
          exact iteF ⟨B5, ρ5, h5, ks, us, ws, ok5, g13.trans (g5.aside hzD), keep hb3 g5, el, ra.mono ((g3.aside hzD).trans (g5.aside hzD)), ec⟩
        · cases ec
      · cases ec
    · cases ec
section
variable {X : Cx} {W : WX} {tg iter kx vx : Expr} {ifs : List Expr} {scope : Scope} {mi : E Nxt} {g : A → Sl → Hq → Option Sl} {mt : E Bool} {mk mv : E A} {pos : Pos}
theorem rx_dcT (hu : X.A.units < cLine) (hc : X.calm = true) (hN : X.N.Nodup) (own : List (Str × Nat)) (hi : RI X W tg iter mi)
    (hg : ∀ (s : Shared) (H : Hp) (C : Addr) (cl : List (Str × Addr)) (fp : List Addr), RG (X.blk s H scope (compEnvC scope cl C X.env) fp) (own.map (·.2)) tg g) (ht : ∀ (s : Shared) (H : Hp) (C : Addr) (cl : List (Str × Addr)) (fp : List Addr), RTs (X.blk s H scope (compEnvC scope cl C X.env) fp) W0 ifs mt)
    (hk : ∀ (s : Shared) (H : Hp) (C : Addr) (cl : List (Str × Addr)) (fp : List Addr), RX (X.blk s H scope (compEnvC scope cl C X.env) fp) W0 kx mk) (hv : ∀ (s : Shared) (H : Hp) (C : Addr) (cl : List (Str × Addr)) (fp : List Addr), RX (X.blk s H scope (compEnvC scope cl C X.env) fp) W0 vx mv) (ok : BlkOk X.N X.env.scope scope own)
    (hs : ∀ x, foldedSetIterable iter X.env x = pure x := by intro _; rfl) : RX X W (.DictComp kx vx [⟨tg, iter, ifs, 0⟩] scope pos) (mDC mi g mt mk mv (own.map (·.2))) := ⟨pe_imp (pe_dcT hu hc hN hi.pi ok (g := fun v σ H Q => ∃ Z B ρ w τ τ' h, Ok X.K Z B ρ H h ∧ SlOk X.K B ρ σ τ ∧ RA X.K B ρ v w ∧ g w τ h = some τ' ∧ ∀ σ', SlOk X.K B ρ σ' τ' → Apart (own.map (·.2)) σ σ' → Q σ' H) (tt := tT X.K W0 mt) (tk := tE X.K W0 mk) (tv := tE X.K W0 mv)
    (fun s H C cl fp => (hg s H C cl fp).pg) (fun s H C cl fp => (ht s H C cl fp).pt) (fun s H C cl fp => (hk s H C cl fp).pe) (fun s H C cl fp => (hv s H C cl fp).pe) hs) fun σ H Q q => by
  obtain ⟨Z, B, ρ, τ, h, okk, sl, q⟩ := q
  unfold mDC at q
  refine ⟨Z, B, ρ, τ, h, okk, sl, q.bd.imp fun nx h1 B1 ρ1 H1 ok1 g1 q1 J wk => ?_⟩
  split at q1
  · rename_i hd ws h2 e1
    exact dc_reads (X := X) (fun _ _ _ _ h => h) (fun _ _ _ h => h) (fun _ _ _ h => h) (fun _ _ _ h => h) ok1 (sl.mono g1) wk e1 q1
  · exact q1.elim⟩
end
end Tq

set_option maxHeartbeats 4000000
/-! .index of a list or a tuple of texts -/
namespace Tq
open PySem PySem.Spec PyProof.Rows L2
def idxS (y : Str) : List Str → Option Nat
  | [] => none
  | z :: r => if z = y then some 0 else (idxS y r).map (· + 1)
theorem idxS_some {y : Str} : ∀ {l : List Str} {j : Nat}, idxS y l = some j → l[j]? = some y ∧ ∀ m, m < j → l[m]? ≠ some y
  | [], j, e => by cases e
  | z :: r, j, e => by
    unfold idxS at e
    split at e
    · rename_i hz; cases e; subst hz; exact ⟨rfl, fun m hm => absurd hm (Nat.not_lt_zero m)⟩
    · rename_i hz
      cases e2 : idxS y r with
      | none => rw [e2] at e; cases e
      | some k =>
        rw [e2] at e; cases e
        obtain ⟨h1, h2⟩ := idxS_some e2
        refine ⟨h1, fun m hm => ?_⟩
        cases m with
        | zero => intro q; cases q; exact hz rfl
        | succ m => exact h2 m (Nat.lt_of_succ_lt_succ hm)
def gIdxL : G2 := fun u s h => match s with
  | .d (.str a) => (match lstOf h u with
    | some ws => (match strsA ws with
      | some ys => (match idxS a ys with | some j => some (.ok (.d (.int (j : Nat))) h) | none => none)
      | none => none)
    | none => none)
  | _ => none
def gIdxT : G2 := fun u s h => match u with
  | .d (.kt ds) => (match s with
    | .d (.str a) => (match strsA (ds.map A.d) with
      | some ys => (match idxS a ys with | some j => some (.ok (.d (.int (j : Nat))) h) | none => none)
      | none => none)
    | _ => none)
  | _ => none
def mIdxT (d : D) (mb : E A) : E A := fun τ h => bd (mb τ h) fun b h2 => gIdxT (.d d) b h2
theorem rp_kt_inv {K : PySem.W.Frag} {B : Hp} {v : V} {ds : List D} (r : Rp K B v (.kt ds)) : ∃ p vs, v = .ref p ∧ SqT K B p vs ∧ RpL K B vs ds := by
  cases r with
  | kt h r => exact ⟨_, _, rfl, h, r⟩
structure GlTn (K : PySem.W.Frag) (mg : Str → Option Value) (x : Str) (d : D) : Prop where
  ex : ∃ a o, mg x = some (.ref a) ∧ K.lookup a = some o ∧ o.cls = .type "tuple" ∧ o.dict = none ∧ ∀ B, Rp K B (.ref a) d
theorem og_idxL {K : PySem.W.Frag} : Op2 K (fun x y H Q => rIndex K x [y] H Q) gIdxL := by
  intro Z B ρ H h x y a b W Q ok rx ry q
  unfold gIdxL at q
  split at q
  · rename_i s
    split at q
    · rename_i ws e
      split at q
      · rename_i ys e2
        split at q
        · rename_i j e3
          cases ra_str ry
          obtain ⟨p, vs, rfl, h1, r1⟩ := lstOf_ra ok rx e
          have := strsA_ra r1 e2
          subst this
          obtain ⟨f1, f2⟩ := idxS_some e3
          refine ⟨p, ys.map V.str, .str s, j, .str s, rfl, rfl, SqL.of h1, rfl, ?_, ?_, ?_, ?_, q.now ok _ (.d (.int _))⟩
          · rw [List.all_map]; exact List.all_eq_true.mpr fun z _ => rfl
          · rw [List.getElem?_map, f1]; rfl
          · exact decide_eq_true rfl
          · intro m z' hm hz
            rw [List.getElem?_map] at hz
            cases e4 : ys[m]? with
            | none => rw [e4] at hz; cases hz
            | some z =>
              rw [e4] at hz; cases hz
              have : z ≠ s := fun q => f2 m hm (q ▸ e4)
              exact decide_eq_false this
        · exact q.elim
      · exact q.elim
    · exact q.elim
  · exact q.elim
theorem og_idxT {K : PySem.W.Frag} : Op2 K (fun x y H Q => (∃ p, ∃ ys : List Str, ∃ z j, x = .ref p ∧ [y] = [.str z] ∧ SqT K H p (ys.map V.str) ∧ ys[j]? = some z ∧ (∀ m, m < j → ys[m]? ≠ some z) ∧ Q (.int (j : Nat)) H)) gIdxT := by
  intro Z B ρ H h x y a b W Q ok rx ry q
  unfold gIdxT at q
  split at q
  · rename_i ds
    split at q
    · rename_i s
      split at q
      · rename_i ys e2
        split at q
        · rename_i j e3
          cases ra_str ry
          obtain ⟨p, vs, rfl, h1, r1⟩ := rp_kt_inv (ra_d rx)
          have := strsA_ra (ral_ds (ρ := ρ) r1) e2
          subst this
          obtain ⟨f1, f2⟩ := idxS_some e3
          exact ⟨p, ys, s, j, rfl, rfl, sqt_mono ok.ex h1, f1, f2, q.now ok _ (.d (.int _))⟩
        · exact q.elim
      · exact q.elim
    · exact q.elim
  · exact q.elim
section
variable {X : Cx} {W : WX} {a b : Expr} {ma mb : E A} {pos apos : Pos}
theorem rx_idxL (ha : RX X W a ma) (hb : RX X W b mb) (hbase : attributeBase a "index" X.env (eval a X.env) = eval a X.env := by rfl)
    (hfew : ((backTo pos (starEach (b :: []) X.env)).all (fun x => !x.1) && (backToKw pos (keywordEach [] X.env)).all (fun x => x.1.isSome)
      && decide ((b :: []).length + ([] : List Keyword).length + (if ([] : List Keyword).isEmpty then 0 else 1) < 30)) = true := by rfl)
    (hline : (apos.endLine == pos.line) = true := by rfl) (hs : starEach (b :: []) X.env = (false, eval b X.env) :: starEach [] X.env := by rfl) : RX X W (.Call (.Attribute a "index" apos) [b] [] pos) (mM1 tokL gIdxL ma mb) :=
  rx_m1 F.plainAttrs_list F.slot_list_index F.type_list_index mt_index tokL tokL_ty og_idxL ha hb hbase hfew hline hs
theorem rx_idxT {x : Str} {d : D} {px : Pos} (gq : GlTn X.K X.mg x d) (hb : RX X W b mb) (hg : Gl X x := by rfl) (hd : (x == ("__debug__" : Str)) = false := by decide) (hbase : attributeBase (.Name x px) "index" X.env (eval (.Name x px) X.env) = eval (.Name x px) X.env := by rfl)
    (hfew : ((backTo pos (starEach (b :: []) X.env)).all (fun x => !x.1) && (backToKw pos (keywordEach [] X.env)).all (fun x => x.1.isSome)
      && decide ((b :: []).length + ([] : List Keyword).length + (if ([] : List Keyword).isEmpty then 0 else 1) < 30)) = true := by rfl)
    (hline : (apos.endLine == pos.line) = true := by rfl) (hs : starEach (b :: []) X.env = (false, eval b X.env) :: starEach [] X.env := by rfl) : RX X W (.Call (.Attribute (.Name x px) "index" apos) [b] [] pos) (mIdxT d mb) := by
  obtain ⟨a, o, h1, h2, h3, h4, h5⟩ := gq.ex
  refine ⟨pe_imp (pe_bm F.plainAttrs_tuple F.slot_tuple_index F.type_tuple_index mt_tup_index (pe_glob (v := .ref a) hg h1 rfl hd) (pa_cons hb.pe pa_nil hs) hbase hfew hline hs) fun σ H Q q => ?_⟩
  obtain ⟨Z, B, ρ, τ, h, ok, sl, q⟩ := q
  exact ⟨.inr (.inl ⟨rfl, o, h2, h3, h4⟩), te_bd ok sl q fun y b h2 B2 ρ2 H2 ry ok2 sl2 g2 q2 => og_idxT Z B2 ρ2 H2 h2 (.ref a) y (.d d) b _ Q ok2 (.d (h5 B2)) ry q2⟩
end
/-! ### list * int -/
def gRepL (o : Bool) : G2 := fun a b h => match b with
  | .d (.int n) => (match lstOf h a with
    | some ws => if n < 2 ^ 62 ∧ -(2 ^ 62) < n ∧ ws.length * n.toNat ≤ LIM then mkL o (List.replicate n.toNat ws).flatten h else none
    | none => none)
  | _ => none
theorem ral_rep {K : PySem.W.Frag} {B : Hp} {ρ : Nat → Option Addr} {vs : List V} {ws : List A} (r : RAL K B ρ vs ws) : ∀ n : Nat, RAL K B ρ (List.replicate n vs).flatten (List.replicate n ws).flatten
  | 0 => .nil
  | n + 1 => by
    rw [List.replicate_succ, List.replicate_succ, List.flatten_cons, List.flatten_cons]
    exact r.append (ral_rep r n)
theorem og_repL {K : PySem.W.Frag} {o : Bool} : Op2 K rRep (gRepL o) := by
  intro Z B ρ H h x y a b W Q ok rx ry q
  unfold gRepL at q
  split at q
  · rename_i n
    split at q
    · rename_i ws e
      split at q
      · rename_i hc
        obtain ⟨p, vs, rfl, h1, r1⟩ := lstOf_ra ok rx e
        refine ⟨p, n, vs, rfl, ra_int ry, h1, by omega, by omega, ?_, fun c hc => mkL_ok ok (ral_rep r1 _) q hc⟩
        rw [r1.length, ← lim_eq]
        exact hc.2.2
      · exact q.elim
    · exact q.elim
  · exact q.elim
end Tq

/-! Tq29: xs.pop(i) of a cell's list; x or y of any values. -/
namespace Tq
open PySem PySem.Spec PyProof.Rows L2

def gPopI : G2 := fun a b h => match a with
  | .r k => (match b with
    | .d (.int z) => (match h[k]? with
      | some (.lst ws) => (match seqIndex? z ws.length with
        | some j => if -(2 ^ 63) ≤ z ∧ z < 2 ^ 63 then (match ws[j]? with | some w => some (.ok w (h.set k (.lst (ws.eraseIdx j)))) | none => none) else none
        | none => none)
      | _ => none)
    | _ => none)
  | _ => none
theorem RAL.erase {K : PySem.W.Frag} {B : Hp} {ρ : Nat → Option Addr} {vs : List V} {ws : List A} (r : RAL K B ρ vs ws) (j : Nat) : RAL K B ρ (vs.eraseIdx j) (ws.eraseIdx j) := by
  rw [List.eraseIdx_eq_take_drop_succ, List.eraseIdx_eq_take_drop_succ]
  exact (r.take _).append (r.drop _)
theorem og_popI {K : PySem.W.Frag} : Op2 K (fun x y H Q => rPopAt x [y] H Q) gPopI := by
  intro Z B ρ H h x y a b W Q ok rx ry q
  unfold gPopI at q
  split at q
  · split at q
    · rename_i z
      cases ra_int ry
      split at q
      · rename_i ws e
        split at q
        · rename_i j ej
          split at q
          · rename_i hz
            split at q
            · rename_i w e2
              obtain ⟨p, vs, rfl, hr, h1, r1, up⟩ := cell_lst ok rx e
              obtain ⟨v, h2, r2⟩ := r1.get e2
              exact ⟨p, vs, z, j, v, rfl, rfl, h1, hz.1, hz.2, by rw [r1.length]; exact ej, h2, q B ρ _ (up _ _ (r1.erase j)) Gr.refl _ r2⟩
            · exact q.elim
          · exact q.elim
        · exact q.elim
      · exact q.elim
    · exact q.elim
  · exact q.elim
section
variable {X : Cx} {W : WX} {a b : Expr} {ma mb : E A} {pos apos : Pos}
theorem rx_popI (ha : RX X W a ma) (hb : RX X W b mb) (hbase : attributeBase a "pop" X.env (eval a X.env) = eval a X.env := by rfl)
    (hfew : ((backTo pos (starEach (b :: []) X.env)).all (fun x => !x.1) && (backToKw pos (keywordEach [] X.env)).all (fun x => x.1.isSome)
      && decide ((b :: []).length + ([] : List Keyword).length + (if ([] : List Keyword).isEmpty then 0 else 1) < 30)) = true := by rfl)
    (hline : (apos.endLine == pos.line) = true := by rfl) (hs : starEach (b :: []) X.env = (false, eval b X.env) :: starEach [] X.env := by rfl) : RX X W (.Call (.Attribute a "pop" apos) [b] [] pos) (mM1 tokL gPopI ma mb) :=
  rx_m1 F.plainAttrs_list F.slot_list_pop F.type_list_pop mt_popAt tokL tokL_ty og_popI ha hb hbase hfew hline hs
end
def mOrA (ma mb : E A) : E A := fun τ h => bd (ma τ h) fun a h1 => match truA h1 a with
  | some true => some (.ok a h1)
  | some false => mb τ h1
  | none => none
theorem rx_orA {X : Cx} {W : WX} {a b : Expr} {rest : List Expr} {ma mb : E A} {pos : Pos} (ha : RX X W a ma) (hb : RX X W (.BoolOp .Or (b :: rest) pos) mb) : RX X W (.BoolOp .Or (a :: b :: rest) pos) (mOrA ma mb) := ⟨pe_imp (pe_orT ha.pe hb.pe) fun σ H Q q => by
  obtain ⟨Z, B, ρ, τ, h, ok, sl, q⟩ := q
  refine te_bd ok sl q fun x a h1 B1 ρ1 H1 rx ok1 sl1 g1 q1 => ?_
  split at q1
  · rename_i e
    exact ⟨true, tru_ra ok1 rx e, iteT (q1.now ok1 x rx)⟩
  · rename_i e
    exact ⟨false, tru_ra ok1 rx e, iteF ⟨Z, B1, ρ1, τ, h1, ok1, sl1, q1⟩⟩
  · exact q1.elim⟩
theorem x_OrA0 {ma mb : E A} {τ : Sl} {h h1 : Hq} {a : A} {r : Option (Rs A)} (e : ma τ h = some (.ok a h1)) (t : truA h1 a = some false) (e2 : mb τ h1 = r) : mOrA ma mb τ h = r := by unfold mOrA; rw [e, bd_ok, t]; exact e2
theorem x_OrA1 {ma mb : E A} {τ : Sl} {h h1 : Hq} {a : A} (e : ma τ h = some (.ok a h1)) (t : truA h1 a = some true) : mOrA ma mb τ h = some (.ok a h1) := by unfold mOrA; rw [e, bd_ok, t]
theorem g_popI {h : Hq} {k j : Nat} {z : Int} {ws : List A} {w : A} {h1 : Hq} (e : h[k]? = some (.lst ws)) (ix : seqIndex? z ws.length = some j) (hz : -(2 ^ 63) ≤ z ∧ z < 2 ^ 63) (e2 : ws[j]? = some w) (s : h.set k (.lst (ws.eraseIdx j)) = h1) : gPopI (.r k) (.d (.int z)) h = some (.ok w h1) := by
  unfold gPopI
  dsimp only
  rw [e]
  dsimp only
  rw [ix]
  dsimp only
  rw [if_pos hz, e2, s]
end Tq

/-! Tq30: trees of cells. Sh: the shape (dat: data at once; b: it is a cell, or None); Tr h n sh a d F: the value a is d, in cells F that it owns, each once, at most n deep. -/
namespace Tq
open PySem PySem.Spec PyProof.Rows L2

inductive Sh where
  | dat | lst (b : Bool) (s : Sh) | nd (b : Bool) (ss : List Sh) | tup (b : Bool) (ss : List Sh)
mutual
/-- no part of it has to be a cell -/
def Sh.dead : Sh → Bool
  | .dat => true
  | .lst b s => !b && s.dead
  | .nd b ss => !b && Sh.deads ss
  | .tup b ss => !b && Sh.deads ss
def Sh.deads : List Sh → Bool
  | [] => true
  | s :: r => s.dead && Sh.deads r
end
theorem Sh.deads_get : ∀ {ss : List Sh} {i : Nat} {s : Sh}, Sh.deads ss = true → ss[i]? = some s → s.dead = true
  | [], _, _, _, e => by cases e
  | s :: r, 0, _, h, e => by
    cases e
    unfold Sh.deads at h
    rw [Bool.and_eq_true] at h
    exact h.1
  | s :: r, i + 1, _, h, e => by
    unfold Sh.deads at h
    rw [Bool.and_eq_true] at h
    exact Sh.deads_get h.2 e
mutual
inductive Tr (h : Hq) : Nat → Sh → A → D → List Nat → Prop
  | d {n : Nat} {s : Sh} {x : D} : s.dead = true ∨ x = .non → Tr h n s (.d x) x []
  | lst {n k : Nat} {b : Bool} {s : Sh} {ws : List A} {ds : List D} {F : List Nat} : h[k]? = some (.lst ws) → TrL h n (List.replicate ws.length s) ws ds F → k ∉ F → Tr h (n + 1) (.lst b s) (.r k) (.lst ds) (k :: F)
  | nd {n k : Nat} {b : Bool} {hd : Hd} {ss : List Sh} {ws : List A} {ds : List D} {F : List Nat} : h[k]? = some (.nd hd ws) → TrL h n ss ws ds F → k ∉ F → Tr h (n + 1) (.nd b ss) (.r k) (.nd hd ds) (k :: F)
  | tup {n : Nat} {b : Bool} {ss : List Sh} {ws : List A} {ds : List D} {F : List Nat} : TrL h n ss ws ds F → Tr h (n + 1) (.tup b ss) (.tup ws) (.tup ds) F
inductive TrL (h : Hq) : Nat → List Sh → List A → List D → List Nat → Prop
  | nil {n : Nat} : TrL h n [] [] [] []
  | cons {n : Nat} {s : Sh} {ss : List Sh} {w : A} {d : D} {ws : List A} {ds : List D} {F G : List Nat} : Tr h n s w d F → TrL h n ss ws ds G → (∀ i ∈ F, i ∉ G) → TrL h n (s :: ss) (w :: ws) (d :: ds) (F ++ G)
end
section
variable {h h' h1 h2 : Hq} {n k j : Nat} {s : Sh} {ss : List Sh} {a w w' : A} {d d' : D} {ws : List A} {ds : List D} {F G F' : List Nat}
mutual
theorem Tr.vw {h : Hq} : ∀ {n : Nat} {s : Sh} {a : A} {d : D} {F : List Nat}, Tr h n s a d F → vw n h a = some d
  | _, _, _, _, _, .d _ => vw_d _ _ _
  | _, _, _, _, _, .lst e t _ => by
    unfold Tq.vw
    rw [e]
    dsimp only
    rw [t.vws]
    rfl
  | _, _, _, _, _, .nd e t _ => by
    unfold Tq.vw
    rw [e]
    dsimp only
    rw [t.vws]
    rfl
  | _, _, _, _, _, .tup t => by
    unfold Tq.vw
    rw [t.vws]
    rfl
theorem TrL.vws {h : Hq} : ∀ {n : Nat} {ss : List Sh} {ws : List A} {ds : List D} {F : List Nat}, TrL h n ss ws ds F → mapMn (Tq.vw n h) ws = some ds
  | _, _, _, _, _, .nil => rfl
  | _, _, _, _, _, .cons t r _ => by
    unfold mapMn
    rw [t.vw, r.vws]
end
mutual
theorem Tr.up {h : Hq} : ∀ {n : Nat} {s : Sh} {a : A} {d : D} {F : List Nat}, Tr h n s a d F → Tr h (n + 1) s a d F
  | _, _, _, _, _, .d q => .d q
  | _, _, _, _, _, .lst e t q => .lst e t.up q
  | _, _, _, _, _, .nd e t q => .nd e t.up q
  | _, _, _, _, _, .tup t => .tup t.up
theorem TrL.up {h : Hq} : ∀ {n : Nat} {ss : List Sh} {ws : List A} {ds : List D} {F : List Nat}, TrL h n ss ws ds F → TrL h (n + 1) ss ws ds F
  | _, _, _, _, _, .nil => .nil
  | _, _, _, _, _, .cons t r q => .cons t.up r.up q
end
theorem Tr.le {m : Nat} (t : Tr h n s a d F) (hm : n ≤ m) : Tr h m s a d F := by
  induction m with
  | zero => rw [Nat.le_zero.mp hm] at t; exact t
  | succ m ih =>
    rcases Nat.eq_or_lt_of_le hm with e | e
    · rw [← e]; exact t
    · exact (ih (by omega)).up
theorem Tr.view (t : Tr h n s a d F) (hn : n ≤ 32) : view h a = some d := (t.le hn).vw
mutual
theorem Tr.frame {h h' : Hq} : ∀ {n : Nat} {s : Sh} {a : A} {d : D} {F : List Nat}, Tr h n s a d F → (∀ i ∈ F, h'[i]? = h[i]?) → Tr h' n s a d F
  | _, _, _, _, _, .d q, _ => .d q
  | _, _, _, _, _, .lst e t q, k => .lst ((k _ (List.mem_cons_self ..)).trans e) (t.frame fun i hi => k i (List.mem_cons_of_mem _ hi)) q
  | _, _, _, _, _, .nd e t q, k => .nd ((k _ (List.mem_cons_self ..)).trans e) (t.frame fun i hi => k i (List.mem_cons_of_mem _ hi)) q
  | _, _, _, _, _, .tup t, k => .tup (t.frame k)
theorem TrL.frame {h h' : Hq} : ∀ {n : Nat} {ss : List Sh} {ws : List A} {ds : List D} {F : List Nat}, TrL h n ss ws ds F → (∀ i ∈ F, h'[i]? = h[i]?) → TrL h' n ss ws ds F
  | _, _, _, _, _, .nil, _ => .nil
  | _, _, _, _, _, .cons t r q, k => .cons (t.frame fun i hi => k i (List.mem_append_left _ hi)) (r.frame fun i hi => k i (List.mem_append_right _ hi)) q
end
mutual
theorem Tr.lt {h : Hq} : ∀ {n : Nat} {s : Sh} {a : A} {d : D} {F : List Nat}, Tr h n s a d F → ∀ i ∈ F, i < h.length
  | _, _, _, _, _, .d _, _, hi => by cases hi
  | _, _, _, _, _, .lst e t q, i, hi => by
    rcases List.mem_cons.mp hi with rfl | hi
    · exact (List.getElem?_eq_some_iff.mp e).1
    · exact t.lt i hi
  | _, _, _, _, _, .nd e t q, i, hi => by
    rcases List.mem_cons.mp hi with rfl | hi
    · exact (List.getElem?_eq_some_iff.mp e).1
    · exact t.lt i hi
  | _, _, _, _, _, .tup t, i, hi => t.lt i hi
theorem TrL.lt {h : Hq} : ∀ {n : Nat} {ss : List Sh} {ws : List A} {ds : List D} {F : List Nat}, TrL h n ss ws ds F → ∀ i ∈ F, i < h.length
  | _, _, _, _, _, .nil, _, hi => by cases hi
  | _, _, _, _, _, .cons t r q, i, hi => by
    rcases List.mem_append.mp hi with hi | hi
    · exact t.lt i hi
    · exact r.lt i hi
end
theorem Tr.app (t : Tr h n s a d F) (g : Hq) : Tr (h ++ g) n s a d F := t.frame fun i hi => List.getElem?_append_left (t.lt i hi)
theorem TrL.app (t : TrL h n ss ws ds F) (g : Hq) : TrL (h ++ g) n ss ws ds F := t.frame fun i hi => List.getElem?_append_left (t.lt i hi)
theorem Tr.away (t : Tr h n s a d F) {o : O} (hk : k ∉ F) : Tr (h.set k o) n s a d F := t.frame fun i hi => List.getElem?_set_ne (fun e : k = i => hk (by rw [e]; exact hi))
theorem TrL.away (t : TrL h n ss ws ds F) {o : O} (hk : k ∉ F) : TrL (h.set k o) n ss ws ds F := t.frame fun i hi => List.getElem?_set_ne (fun e : k = i => hk (by rw [e]; exact hi))
theorem TrL.len : ∀ {n : Nat} {ss : List Sh} {ws : List A} {ds : List D} {F : List Nat}, TrL h n ss ws ds F → ws.length = ds.length ∧ ss.length = ws.length
  | _, _, _, _, _, .nil => ⟨rfl, rfl⟩
  | _, _, _, _, _, .cons t r _ => by
    obtain ⟨h1, h2⟩ := r.len
    exact ⟨by rw [List.length_cons, List.length_cons, h1], by rw [List.length_cons, List.length_cons, h2]⟩
/-- data in lists -/
theorem TrL.data {s : Sh} (hs : s.dead = true) : ∀ {n : Nat} (ds : List D), TrL h n (List.replicate ds.length s) (ds.map A.d) ds []
  | _, [] => .nil
  | n, d :: r => .cons (F := []) (.d (.inl hs)) (TrL.data hs r) (fun i hi => by cases hi)
theorem Tr.dlst {b : Bool} {ds : List D} (e : h[k]? = some (.lst (ds.map A.d))) (hs : s.dead = true := by rfl) : Tr h (n + 1) (.lst b s) (.r k) (.lst ds) [k] := .lst e (by rw [List.length_map]; exact TrL.data hs ds) (fun hi => by cases hi)
theorem Tr.of_dat (t : Tr h n .dat a d F) : a = .d d ∧ F = [] := by
  cases t
  exact ⟨rfl, rfl⟩
theorem TrL.of_dat : ∀ {n m : Nat} {ws : List A} {ds : List D} {F : List Nat}, TrL h n (List.replicate m .dat) ws ds F → ws = ds.map A.d ∧ F = []
  | _, 0, _, _, _, .nil => ⟨rfl, rfl⟩
  | _, m + 1, _, _, _, .cons t r _ => by
    obtain ⟨rfl, rfl⟩ := t.of_dat
    obtain ⟨rfl, rfl⟩ := TrL.of_dat (m := m) r
    exact ⟨rfl, rfl⟩
/-- a list of data, in a cell or at once -/
theorem Tr.dl {b : Bool} (t : Tr h n (.lst b .dat) a (.lst ds) F) : (a = .d (.lst ds) ∧ F = []) ∨ ∃ k, a = .r k ∧ h[k]? = some (.lst (ds.map A.d)) ∧ F = [k] := by
  cases t with
  | d => exact .inl ⟨rfl, rfl⟩
  | lst e t q =>
    obtain ⟨rfl, rfl⟩ := t.of_dat
    exact .inr ⟨_, rfl, e, rfl⟩
/-! ### one item -/
theorem TrL.get : ∀ {n : Nat} {ss : List Sh} {ws : List A} {ds : List D} {F : List Nat} (j : Nat) {d : D}, TrL h n ss ws ds F → ds[j]? = some d → ∃ s w Fj, ss[j]? = some s ∧ ws[j]? = some w ∧ Tr h n s w d Fj ∧ ∀ i ∈ Fj, i ∈ F
  | _, _, _, _, _, j, d, .nil, e => by cases e
  | _, _, _, _, _, 0, d, .cons t r _, e => by cases e; exact ⟨_, _, _, rfl, rfl, t, fun i hi => List.mem_append_left _ hi⟩
  | _, _, _, _, _, j + 1, d, .cons t r _, e => by
    obtain ⟨s, w, Fj, e1, e2, t', hs⟩ := TrL.get j r e
    exact ⟨s, w, Fj, e1, e2, t', fun i hi => List.mem_append_right _ (hs i hi)⟩
/-- what a change of the cells F to F' leaves -/
structure Upd (h h' : Hq) (F F' : List Nat) : Prop where
  len : h.length ≤ h'.length
  keep : ∀ i, i < h.length → i ∉ F → h'[i]? = h[i]?
  own : ∀ i ∈ F', i ∈ F ∨ h.length ≤ i
theorem Upd.refl : Upd h h F F := ⟨Nat.le_refl _, fun _ _ _ => rfl, fun _ hi => .inl hi⟩
theorem Upd.trans {F1 F2 : List Nat} (u : Upd h h1 F F1) (v : Upd h1 h2 F1 F2) : Upd h h2 F F2 := by
  refine ⟨Nat.le_trans u.len v.len, fun i hi hF => ?_, fun i hi => ?_⟩
  · rw [v.keep i (Nat.lt_of_lt_of_le hi u.len) (fun h1 => by rcases u.own i h1 with h | h; exact hF h; omega), u.keep i hi hF]
  · rcases v.own i hi with h | h
    · exact u.own i h
    · exact .inr (Nat.le_trans u.len h)
theorem Upd.sub {F0 F1 : List Nat} (u : Upd h h' F F') (h0 : ∀ i ∈ F, i ∈ F0) (h1 : ∀ i ∈ F1, i ∈ F0 ∨ h.length ≤ i) : Upd h h' F0 F1 := ⟨u.len, fun i hi hF => u.keep i hi fun z => hF (h0 i z), h1⟩
/-- another tree stays -/
theorem Upd.other {m : Nat} {t : Sh} {b : A} {e : D} {G : List Nat} (u : Upd h h' F F') (T : Tr h m t b e G) (dj : ∀ i ∈ G, i ∉ F) : Tr h' m t b e G ∧ ∀ i ∈ G, i ∉ F' :=
  ⟨T.frame fun i hi => u.keep i (T.lt i hi) (dj i hi), fun i hi z => by
    rcases u.own i z with z | z
    · exact dj i hi z
    · have := T.lt i hi; omega⟩
theorem Upd.others {m : Nat} {t : List Sh} {b : List A} {e : List D} {G : List Nat} (u : Upd h h' F F') (T : TrL h m t b e G) (dj : ∀ i ∈ G, i ∉ F) : TrL h' m t b e G ∧ ∀ i ∈ G, i ∉ F' :=
  ⟨T.frame fun i hi => u.keep i (T.lt i hi) (dj i hi), fun i hi z => by
    rcases u.own i z with z | z
    · exact dj i hi z
    · have := T.lt i hi; omega⟩
/-- one item of many is changed -/
theorem TrL.focus {h : Hq} : ∀ {n : Nat} {ss : List Sh} {ws : List A} {ds : List D} {F : List Nat} (j : Nat) {d : D}, TrL h n ss ws ds F → ds[j]? = some d → ∃ s w Fj, ss[j]? = some s ∧ ws[j]? = some w ∧ Tr h n s w d Fj ∧ (∀ i ∈ Fj, i ∈ F) ∧
    ∀ {h' : Hq} {w' : A} {d' : D} {F' : List Nat}, Upd h h' Fj F' → Tr h' n s w' d' F' → ∃ F2, TrL h' n ss (ws.set j w') (ds.set j d') F2 ∧ Upd h h' F F2 ∧ ∀ i ∈ F2, i ∈ F' ∨ i ∈ F
  | _, _, _, _, _, j, d, .nil, e => by cases e
  | _, _, _, _, _, 0, d, .cons t r q, e => by
    cases e
    refine ⟨_, _, _, rfl, rfl, t, fun i hi => List.mem_append_left _ hi, fun u t' => ?_⟩
    obtain ⟨r', dj⟩ := u.others r fun i hi z => q i z hi
    refine ⟨_, .cons t' r' fun i hi z => dj i z hi, u.sub (fun i hi => List.mem_append_left _ hi) fun i hi => ?_, fun i hi => ?_⟩
    · rcases List.mem_append.mp hi with hi | hi
      · exact (u.own i hi).imp (fun z => List.mem_append_left _ z) id
      · exact .inl (List.mem_append_right _ hi)
    · rcases List.mem_append.mp hi with hi | hi
      · exact .inl hi
      · exact .inr (List.mem_append_right _ hi)
  | _, _, _, _, _, j + 1, d, .cons t r q, e => by
    obtain ⟨s, w, Fj, e1, e2, tj, hs, up⟩ := TrL.focus j r e
    refine ⟨s, w, Fj, e1, e2, tj, fun i hi => List.mem_append_right _ (hs i hi), fun {h' w' d' F'} u t' => ?_⟩
    obtain ⟨F2, r2, u2, o2⟩ := up u t'
    obtain ⟨t2, dj⟩ := u2.other t q
    refine ⟨_, .cons t2 r2 dj, u2.sub (fun i hi => List.mem_append_right _ hi) fun i hi => ?_, fun i hi => ?_⟩
    · rcases List.mem_append.mp hi with hi | hi
      · exact .inl (List.mem_append_left _ hi)
      · exact (u2.own i hi).imp (fun z => List.mem_append_right _ z) id
    · rcases List.mem_append.mp hi with hi | hi
      · exact .inr (List.mem_append_left _ hi)
      · exact (o2 i hi).imp id fun z => List.mem_append_right _ z
theorem set_self {α : Type} {xs : List α} {j : Nat} {x : α} (e : xs[j]? = some x) : xs.set j x = xs := by
  apply List.ext_getElem?
  intro i
  by_cases hi : j = i
  · subst hi
    rw [List.getElem?_set_self (List.getElem?_eq_some_iff.mp e).1, e]
  · rw [List.getElem?_set_ne hi]
/-- into a part -/
theorem Tr.inL {b : Bool} {ds : List D} (t : Tr h (n + 1) (.lst b s) (.r k) (.lst ds) F) (e : ds[j]? = some d) : ∃ ws w Fj, h[k]? = some (.lst ws) ∧ ws.length = ds.length ∧ ws[j]? = some w ∧ Tr h n s w d Fj ∧ (∀ i ∈ Fj, i ∈ F) ∧
    ∀ {h' : Hq} {d' : D} {F' : List Nat}, Upd h h' Fj F' → Tr h' n s w d' F' → ∃ F2, Tr h' (n + 1) (.lst b s) (.r k) (.lst (ds.set j d')) F2 ∧ Upd h h' F F2 := by
  cases t with
  | lst e0 t q =>
    rename_i ws F
    obtain ⟨s', w, Fj, e1, e2, tj, hs, up⟩ := t.focus j e
    have hs' : s' = s := by
      rw [List.getElem?_replicate] at e1
      split at e1
      · cases e1; rfl
      · cases e1
    subst hs'
    refine ⟨ws, w, Fj, e0, t.len.1, e2, tj, fun i hi => List.mem_cons_of_mem _ (hs i hi), fun {h' d' F'} u t' => ?_⟩
    obtain ⟨F2, r2, u2, o2⟩ := up u t'
    rw [set_self e2] at r2
    have hk : k < h.length := (List.getElem?_eq_some_iff.mp e0).1
    refine ⟨k :: F2, .lst ((u.keep k hk fun z => q (hs k z)).trans e0) r2 fun z => ?_, u2.sub (fun i hi => List.mem_cons_of_mem _ hi) fun i hi => ?_⟩
    · rcases u2.own k z with z | z
      · exact q z
      · omega
    · rcases List.mem_cons.mp hi with rfl | hi
      · exact .inl (List.mem_cons_self ..)
      · exact (u2.own i hi).imp (fun z => List.mem_cons_of_mem _ z) id
theorem Tr.inN {b : Bool} {hd : Hd} {ds : List D} (t : Tr h (n + 1) (.nd b ss) (.r k) (.nd hd ds) F) (e : ds[j]? = some d) : ∃ ws w s Fj, h[k]? = some (.nd hd ws) ∧ ss[j]? = some s ∧ ws[j]? = some w ∧ Tr h n s w d Fj ∧ (∀ i ∈ Fj, i ∈ F) ∧
    ∀ {h' : Hq} {d' : D} {F' : List Nat}, Upd h h' Fj F' → Tr h' n s w d' F' → ∃ F2, Tr h' (n + 1) (.nd b ss) (.r k) (.nd hd (ds.set j d')) F2 ∧ Upd h h' F F2 := by
  cases t with
  | nd e0 t q =>
    rename_i ws F
    obtain ⟨s', w, Fj, e1, e2, tj, hs, up⟩ := t.focus j e
    refine ⟨ws, w, s', Fj, e0, e1, e2, tj, fun i hi => List.mem_cons_of_mem _ (hs i hi), fun {h' d' F'} u t' => ?_⟩
    obtain ⟨F2, r2, u2, o2⟩ := up u t'
    rw [set_self e2] at r2
    have hk : k < h.length := (List.getElem?_eq_some_iff.mp e0).1
    refine ⟨k :: F2, .nd ((u.keep k hk fun z => q (hs k z)).trans e0) r2 fun z => ?_, u2.sub (fun i hi => List.mem_cons_of_mem _ hi) fun i hi => ?_⟩
    · rcases u2.own k z with z | z
      · exact q z
      · omega
    · rcases List.mem_cons.mp hi with rfl | hi
      · exact .inl (List.mem_cons_self ..)
      · exact (u2.own i hi).imp (fun z => List.mem_cons_of_mem _ z) id
/-- a cell of a list of data is set anew -/
theorem Tr.putD {b : Bool} {ds es : List D} (t : Tr h (n + 1) (.lst b .dat) (.r k) (.lst ds) F) : Tr (h.set k (.lst (es.map A.d))) (n + 1) (.lst b .dat) (.r k) (.lst es) [k] ∧ Upd h (h.set k (.lst (es.map A.d))) F [k] ∧ h[k]? = some (.lst (ds.map A.d)) ∧ F = [k] := by
  rcases t.dl with ⟨e, _⟩ | ⟨k', e, e2, rfl⟩
  · cases e
  · cases e
    have hk : k < h.length := (List.getElem?_eq_some_iff.mp e2).1
    refine ⟨.dlst (List.getElem?_set_self hk), ⟨by rw [List.length_set]; exact Nat.le_refl _, fun i hi hF => List.getElem?_set_ne fun z => hF (by rw [z]; exact List.mem_singleton.mpr rfl), fun i hi => .inl hi⟩, e2, rfl⟩
/-- an item of a list is set anew: the new value stands aside -/
theorem Tr.putL {b : Bool} {ds : List D} (t : Tr h (n + 1) (.lst b s) (.r k) (.lst ds) F) (hj : j < ds.length) (t' : Tr h n s w' d' F') (dj : ∀ i ∈ F', i ∉ F) : ∃ ws F2, h[k]? = some (.lst ws) ∧ ws.length = ds.length ∧ Tr (h.set k (.lst (ws.set j w'))) (n + 1) (.lst b s) (.r k) (.lst (ds.set j d')) F2 ∧ (∀ i ∈ F2, i ∈ F ∨ i ∈ F') ∧ k ∈ F := by
  cases t with
  | lst e0 t q =>
    rename_i ws F
    have hk : k < h.length := (List.getElem?_eq_some_iff.mp e0).1
    have key : ∀ {m j : Nat} {ws : List A} {ds : List D} {F : List Nat}, TrL h n (List.replicate m s) ws ds F → j < ds.length → (∀ i ∈ F', i ∉ F) → ∃ F2, TrL h n (List.replicate m s) (ws.set j w') (ds.set j d') F2 ∧ ∀ i ∈ F2, i ∈ F ∨ i ∈ F' := by
      intro m
      induction m with
      | zero => intro j ws ds F t hj _; cases t; cases hj
      | succ m ih =>
        intro j ws ds F t hj dj
        rw [List.replicate_succ] at t ⊢
        cases t with
        | cons t r q =>
          cases j with
          | zero => exact ⟨_, .cons t' r (fun i hi z => dj i hi (List.mem_append_right _ z)), fun i hi => (List.mem_append.mp hi).elim .inr fun z => .inl (List.mem_append_right _ z)⟩
          | succ j =>
            obtain ⟨F2, r2, o2⟩ := ih r (Nat.lt_of_succ_lt_succ hj) fun i hi z => dj i hi (List.mem_append_right _ z)
            refine ⟨_, .cons t r2 (fun i hi z => (o2 i z).elim (q i hi) fun z => dj i z (List.mem_append_left _ hi)), fun i hi => ?_⟩
            rcases List.mem_append.mp hi with hi | hi
            · exact .inl (List.mem_append_left _ hi)
            · exact (o2 i hi).imp (fun z => List.mem_append_right _ z) id
    obtain ⟨F2, r2, o2⟩ := key t hj fun i hi z => dj i hi (List.mem_cons_of_mem _ z)
    have hk2 : k ∉ F2 := fun z => (o2 k z).elim q fun z => dj k z (List.mem_cons_self ..)
    refine ⟨ws, k :: F2, e0, t.len.1, .lst (List.getElem?_set_self hk) (by rw [List.length_set]; exact r2.away hk2) hk2, fun i hi => ?_, List.mem_cons_self ..⟩
    rcases List.mem_cons.mp hi with rfl | hi
    · exact .inl (List.mem_cons_self ..)
    · exact (o2 i hi).imp (fun z => List.mem_cons_of_mem _ z) id
/-- a live list is a cell -/
theorem Tr.cellL {ds : List D} (t : Tr h n (.lst true s) a (.lst ds) F) : ∃ k m, a = .r k ∧ n = m + 1 := by
  cases t with
  | d q =>
    rcases q with q | q
    · cases q
    · cases q
  | lst _ _ _ => exact ⟨_, _, rfl, rfl⟩
theorem Tr.cellN {hd : Hd} {ds : List D} (t : Tr h n (.nd true ss) a (.nd hd ds) F) : ∃ k m, a = .r k ∧ n = m + 1 := by
  cases t with
  | d q =>
    rcases q with q | q
    · cases q
    · cases q
  | nd _ _ _ => exact ⟨_, _, rfl, rfl⟩
end
end Tq

/-! Tq31: what trees of cells answer; comprehensions and loops over them. -/
namespace Tq
open PySem PySem.Spec PyProof.Rows L2

def D.nonB : D → Bool
  | .non => true
  | _ => false
def fIx (f : Str) : List Str → Option Nat
  | [] => none
  | g :: fs => if g = f then some 0 else (fIx f fs).map (· + 1)
theorem fget_ix {f : Str} : ∀ {fs : List Str} {ws : List A} {i : Nat} {w : A}, fIx f fs = some i → ws[i]? = some w → fGet f fs ws = some w
  | [], _, _, _, e, _ => by cases e
  | g :: fs, [], i, _, _, e2 => by cases e2
  | g :: fs, u :: ws, i, w, e, e2 => by
    unfold fIx at e
    unfold fGet
    split at e
    · rename_i c
      cases e
      rw [if_pos c]
      exact e2
    · rename_i c
      rw [if_neg c]
      cases q : fIx f fs with
      | none => rw [q] at e; cases e
      | some j =>
        rw [q] at e
        cases e
        exact fget_ix q e2
section
variable {h h' h1 h2 : Hq} {n k j i : Nat} {s : Sh} {ss : List Sh} {a w w' : A} {d d' : D} {ws : List A} {ds : List D} {F G F' : List Nat} {z : Int} {m : E A} {τ : Sl}
theorem dead_nd {b : Bool} {hd : Hd} {i : Nat} {s : Sh} (q : (Sh.nd b ss).dead = true ∨ D.nd hd ds = .non) (e : ss[i]? = some s) : s.dead = true := by
  rcases q with q | q
  · unfold Sh.dead at q
    rw [Bool.and_eq_true] at q
    exact Sh.deads_get q.2 e
  · cases q
theorem dead_lst {b : Bool} (q : (Sh.lst b s).dead = true ∨ D.lst ds = .non) : s.dead = true := by
  rcases q with q | q
  · unfold Sh.dead at q
    rw [Bool.and_eq_true] at q
    exact q.2
  · cases q
theorem dead_tup {b : Bool} {i : Nat} {s : Sh} (q : (Sh.tup b ss).dead = true ∨ D.tup ds = .non) (e : ss[i]? = some s) : s.dead = true := by
  rcases q with q | q
  · unfold Sh.dead at q
    rw [Bool.and_eq_true] at q
    exact Sh.deads_get q.2 e
  · cases q
theorem t_fld {T : FTab} {f C : Str} {fs : List Str} {b : Bool} (t : Tr h n (.nd b ss) a (.nd (.ins C fs) ds) F) (hf : fOk T C f = true) (hx : fIx f fs = some i) (e : ds[i]? = some d) (hs : ss[i]? = some s) : ∃ w Fi, gFld T f a h = some (.ok w h) ∧ Tr h n s w d Fi ∧ ∀ j ∈ Fi, j ∈ F := by
  cases t with
  | d q =>
    refine ⟨.d d, [], g_fld hf (fget_ix hx ?_), .d (.inl (dead_nd q hs)), fun j hj => by cases hj⟩
    rw [List.getElem?_map, e]
    rfl
  | nd e0 t q =>
    obtain ⟨s', w, Fi, e1, e2, t', sub⟩ := t.get i e
    rw [hs] at e1
    cases e1
    exact ⟨w, Fi, g_fldc e0 hf (fget_ix hx e2), t'.up, fun j hj => List.mem_cons_of_mem _ (sub j hj)⟩
theorem t_get {b : Bool} (t : Tr h n (.lst b s) a (.lst ds) F) (ix : ixN ds.length z = some j) (e : ds[j]? = some d) : ∃ w Fj, gGet a (.d (.int z)) h = some (.ok w h) ∧ Tr h n s w d Fj ∧ ∀ i ∈ Fj, i ∈ F := by
  cases t with
  | d q => exact ⟨.d d, [], g_getld ix e, .d (.inl (dead_lst q)), fun j hj => by cases hj⟩
  | lst e0 t q =>
    obtain ⟨s', w, Fi, e1, e2, t', sub⟩ := t.get j e
    rw [List.getElem?_replicate] at e1
    split at e1
    · cases e1
      exact ⟨w, Fi, g_getc e0 (by rw [t.len.1]; exact ix) e2, t'.up, fun j hj => List.mem_cons_of_mem _ (sub j hj)⟩
    · cases e1
theorem t_len {b : Bool} (t : Tr h n (.lst b s) a (.lst ds) F) : gLen a h = some (.ok (.d (.int (ds.length : Nat))) h) := by
  cases t with
  | d _ => exact g_lenld
  | lst e0 t q => rw [← t.len.1]; exact g_lenc e0
theorem t_isn (t : Tr h n s a d F) (neg : Bool) : gIs neg a (.d .non) h = some (.ok (.d (.bl (if neg then !d.nonB else d.nonB))) h) := by
  cases t with
  | d _ => cases d <;> cases neg <;> rfl
  | lst => cases neg <;> rfl
  | nd => cases neg <;> rfl
  | tup => cases neg <;> rfl
/-- walked -/
theorem t_it {b : Bool} (t : Tr h1 n (.lst b s) a (.lst ds) F) (e : m τ h = some (.ok a h1)) : ∃ (nx : Nxt) (ws : List A), mItems m τ h = some (.ok nx h1) ∧ ws.length = ds.length ∧ (∀ h', (∀ i ∈ F, h'[i]? = h1[i]?) → ∀ i, nx i h' = some ws[i]?) ∧ ∀ (i : Nat) (w : A) (d : D), ws[i]? = some w → ds[i]? = some d → ∃ Fi, Tr h1 n s w d Fi ∧ ∀ j ∈ Fi, j ∈ F := by
  cases t with
  | d q => exact ⟨_, ds.map A.d, x_It e, List.length_map .., fun _ _ _ => rfl, fun i w d e1 e2 => by
      rw [List.getElem?_map, e2] at e1
      cases e1
      exact ⟨[], .d (.inl (dead_lst q)), fun j hj => by cases hj⟩⟩
  | lst e0 t q =>
    rename_i _ ws _
    refine ⟨_, ws, x_ItC e e0, t.len.1, fun h' k i => ?_, fun i w d e1 e2 => ?_⟩
    · unfold nxC
      rw [k _ (List.mem_cons_self ..), e0]
    · obtain ⟨s', w', Fi, e3, e4, t', sub⟩ := t.get i e2
      rw [e1] at e4
      cases e4
      rw [List.getElem?_replicate] at e3
      split at e3
      · cases e3
        exact ⟨Fi, t'.up, fun j hj => List.mem_cons_of_mem _ (sub j hj)⟩
      · cases e3
/-- a pair taken apart -/
theorem t_un2 {b : Bool} {s1 s2 : Sh} {d1 d2 : D} {p q : Nat} (t : Tr h n (.tup b [s1, s2]) a (.tup [d1, d2]) F) : ∃ w1 w2 F1 F2, Tr h n s1 w1 d1 F1 ∧ Tr h n s2 w2 d2 F2 ∧ (∀ i ∈ F1, i ∈ F) ∧ (∀ i ∈ F2, i ∈ F) ∧ (∀ i ∈ F1, i ∉ F2) ∧ ∀ τ, mgTup 2 (mgCons (mgName p) (mgCons (mgName q) mgNil)) a τ h = some ((τ.set p (some w1)).set q (some w2)) := by
  cases t with
  | d q => exact ⟨.d d1, .d d2, [], [], .d (.inl (dead_tup (i := 0) q rfl)), .d (.inl (dead_tup (i := 1) q rfl)), (fun i hi => by cases hi), (fun i hi => by cases hi), (fun i hi => by cases hi), fun τ => rfl⟩
  | tup t =>
    cases t with
    | cons t1 r q1 =>
      cases r with
      | cons t2 r q2 =>
        cases r
        rw [List.append_nil] at q1
        exact ⟨_, _, _, _, t1.up, t2.up, (fun i hi => List.mem_append_left _ hi), (fun i hi => List.mem_append_right _ (List.mem_append_left _ hi)), q1, fun τ => rfl⟩
end
/-! ### comprehensions -/
theorem lcI {o : Bool} {mi : E Nxt} {gg : A → Sl → Hq → Option Sl} {me : E A} {vs : List Nat} {τ : Sl} {h h1 : Hq} {nx : Nxt} {ws : List A} (I : Nat → List A → Hq → Prop) (e : mi τ h = some (.ok nx h1)) (hn : ∀ i as h', I i as h' → nx i h' = some ws[i]?) (i0 : I 0 [] h1) (hl : ws.length ≤ LIM)
    (hs : ∀ (i : Nat) (w : A) (as : List A) (h' : Hq), ws[i]? = some w → I i as h' → ∃ τ1 a h2, gg w (wipeT τ vs) h' = some τ1 ∧ me τ1 h' = some (.ok a h2) ∧ I (i + 1) (as ++ [a]) h2) : ∃ as h2, I ws.length as h2 ∧ as.length = ws.length ∧ mLC o mi gg mYes me vs τ h = mkL o as h2 := by
  have go : ∀ (j n fu : Nat) (as : List A) (h' : Hq), ws.length - n = j → n ≤ ws.length → j < fu → I n as h' → ∃ rs h2, I ws.length (as ++ rs) h2 ∧ rs.length = j ∧ compM nx gg mYes me (wipeT τ vs) fu n h' = some (rs, h2) := by
    intro j
    induction j with
    | zero =>
      intro n fu as h' e hn' hf i
      have : n = ws.length := by omega
      subst this
      obtain ⟨fu, rfl⟩ : ∃ f', fu = f' + 1 := ⟨fu - 1, by omega⟩
      refine ⟨[], h', by rw [List.append_nil]; exact i, rfl, ?_⟩
      unfold compM
      rw [hn _ _ _ i, List.getElem?_eq_none (Nat.le_refl _)]
    | succ j ih =>
      intro n fu as h' e hn' hf i
      have hlt : n < ws.length := by omega
      obtain ⟨fu, rfl⟩ : ∃ f', fu = f' + 1 := ⟨fu - 1, by omega⟩
      obtain ⟨τ1, a, h2, e1, e2, i2⟩ := hs n _ as h' (List.getElem?_eq_getElem hlt) i
      obtain ⟨rs, h3, i3, l3, e3⟩ := ih (n + 1) fu (as ++ [a]) h2 (by omega) (by omega) (by omega) i2
      refine ⟨a :: rs, h3, by rw [List.append_assoc] at i3; exact i3, by rw [List.length_cons, l3], ?_⟩
      unfold compM
      rw [hn _ _ _ i, List.getElem?_eq_getElem hlt]
      dsimp only
      rw [e1]
      dsimp only
      rw [show mYes τ1 h' = some (.ok true h') from rfl]
      dsimp only
      rw [e2]
      dsimp only
      rw [e3]
  obtain ⟨rs, h2, i2, l2, e2⟩ := go ws.length 0 FU [] h1 (by omega) (Nat.zero_le _) (by show ws.length < 16777217; have : ws.length ≤ 16777216 := hl; omega) i0
  refine ⟨rs, h2, i2, by omega, ?_⟩
  unfold mLC
  rw [e, bd_ok, e2]
  dsimp only
  rw [if_pos (by rw [l2]; exact hl)]
/-- nothing changes -/
theorem lcN {α : Type} {o : Bool} {mi : E Nxt} {gg : A → Sl → Hq → Option Sl} {me : E A} {vs : List Nat} {τ : Sl} {h h1 : Hq} {nx : Nxt} {ws : List A} {xs : List α} (f : α → A) (e : mi τ h = some (.ok nx h1)) (hn : ∀ i, nx i h1 = some ws[i]?) (hl : ws.length ≤ LIM) (hx : ws.length = xs.length)
    (hs : ∀ (i : Nat) (w : A) (x : α), ws[i]? = some w → xs[i]? = some x → ∃ τ1, gg w (wipeT τ vs) h1 = some τ1 ∧ me τ1 h1 = some (.ok (f x) h1)) : mLC o mi gg mYes me vs τ h = mkL o (xs.map f) h1 := by
  obtain ⟨as, h2, ⟨rfl, rfl⟩, _, e2⟩ := lcI (o := o) (me := me) (gg := gg) (vs := vs) (τ := τ) (ws := ws) (fun i as h' => h' = h1 ∧ as = (xs.take i).map f) e (fun i as h' q => by rw [q.1]; exact hn i) ⟨rfl, rfl⟩ hl (fun i w as h' ew q => by
    obtain ⟨rfl, rfl⟩ := q
    have hi : i < xs.length := by rw [← hx]; exact (List.getElem?_eq_some_iff.mp ew).1
    obtain ⟨τ1, e1, e2⟩ := hs i w xs[i] ew (List.getElem?_eq_getElem hi)
    refine ⟨τ1, f xs[i], h', e1, e2, rfl, ?_⟩
    rw [List.take_add_one, List.getElem?_eq_getElem hi, List.map_append]
    rfl)
  rw [e2, hx, List.take_length]
/-! ### loops -/
theorem forI {gg : A → Sl → Hq → Option Sl} {mb : MS} {τ : Sl} {h : Hq} {nx : Nxt} {ws : List A} (I : Nat → Sl → Hq → Prop) (hn : ∀ i τ h', I i τ h' → nx i h' = some ws[i]?) (i0 : I 0 τ h) (hl : ws.length ≤ LIM)
    (hs : ∀ (i : Nat) (w : A) (τ : Sl) (h' : Hq), ws[i]? = some w → I i τ h' → ∃ τ1 τ2 h2, gg w τ h' = some τ1 ∧ (mb τ1 h' = some (.nx τ2 h2) ∨ mb τ1 h' = some (.ct τ2 h2)) ∧ I (i + 1) τ2 h2) : ∃ τ' h2, I ws.length τ' h2 ∧ forM nx gg mb FU 0 τ h = some (.nx τ' h2) := by
  have go : ∀ (j n fu : Nat) (τ : Sl) (h' : Hq), ws.length - n = j → n ≤ ws.length → j < fu → I n τ h' → ∃ τ' h2, I ws.length τ' h2 ∧ forM nx gg mb fu n τ h' = some (.nx τ' h2) := by
    intro j
    induction j with
    | zero =>
      intro n fu τ h' e hn' hf i
      have : n = ws.length := by omega
      subst this
      obtain ⟨fu, rfl⟩ : ∃ f', fu = f' + 1 := ⟨fu - 1, by omega⟩
      refine ⟨τ, h', i, ?_⟩
      unfold forM
      rw [hn _ _ _ i, List.getElem?_eq_none (Nat.le_refl _)]
    | succ j ih =>
      intro n fu τ h' e hn' hf i
      have hlt : n < ws.length := by omega
      obtain ⟨fu, rfl⟩ : ∃ f', fu = f' + 1 := ⟨fu - 1, by omega⟩
      obtain ⟨τ1, τ2, h2, e1, e2, i2⟩ := hs n _ τ h' (List.getElem?_eq_getElem hlt) i
      obtain ⟨τ', h3, i3, e3⟩ := ih (n + 1) fu τ2 h2 (by omega) (by omega) (by omega) i2
      refine ⟨τ', h3, i3, ?_⟩
      conv => lhs; unfold forM
      rw [hn _ _ _ i, List.getElem?_eq_getElem hlt]
      dsimp only
      rw [e1]
      dsimp only
      rcases e2 with e2 | e2 <;> (rw [e2]; exact e3)
  exact go ws.length 0 FU τ h (by omega) (Nat.zero_le _) (by show ws.length < 16777217; have : ws.length ≤ 16777216 := hl; omega) i0
end Tq

/-! Tq32: new trees of cells: lists by comprehensions, instances by __init__. -/
namespace Tq
open PySem PySem.Spec PyProof.Rows L2

/-- a value made anew over h -/
def Nw (h : Hq) (r : Option (Rs A)) (n : Nat) (s : Sh) (d : D) : Prop := ∃ a g F, r = some (.ok a (h ++ g)) ∧ Tr (h ++ g) n s a d F ∧ ∀ j ∈ F, h.length ≤ j
/-- .. and it is a cell -/
def NwC (h : Hq) (r : Option (Rs A)) (n : Nat) (s : Sh) (d : D) : Prop := ∃ k g F, r = some (.ok (.r k) (h ++ g)) ∧ Tr (h ++ g) n s (.r k) d F ∧ ∀ j ∈ F, h.length ≤ j
theorem NwC.nw {h : Hq} {r : Option (Rs A)} {n : Nat} {s : Sh} {d : D} (q : NwC h r n s d) : Nw h r n s d := by
  obtain ⟨k, q⟩ := q
  exact ⟨_, q⟩
section
variable {h h' h1 h2 : Hq} {n k j i : Nat} {s : Sh} {ss : List Sh} {a w w' : A} {d d' : D} {ws : List A} {ds : List D} {F G F' : List Nat} {z : Int} {m : E A} {τ : Sl} {r : Option (Rs A)}
theorem Nw.data (e : r = some (.ok (.d d) h)) (q : s.dead = true ∨ d = .non := by exact Or.inl rfl) : Nw h r n s d := ⟨.d d, [], [], by rw [List.append_nil]; exact e, .d q, fun j hj => by cases hj⟩
theorem NwC.dlst {b : Bool} (e : r = some (.ok (.r h.length) (h ++ [.lst (ds.map A.d)]))) (hs : s.dead = true := by rfl) : NwC h r (n + 1) (.lst b s) (.lst ds) :=
  ⟨_, _, [h.length], e, .dlst (by rw [List.getElem?_append_right (Nat.le_refl _), Nat.sub_self]; rfl) hs, fun j hj => by rw [List.mem_singleton.mp hj]; exact Nat.le_refl _⟩
theorem nw_mkL {b : Bool} (hl : ds.length ≤ LIM) (hs : s.dead = true := by rfl) : NwC h (mkL true (ds.map A.d) h) (n + 1) (.lst b s) (.lst ds) := NwC.dlst (x_mkC (by rw [List.length_map]; exact hl)) hs
theorem TrL.snoc : ∀ {n : Nat} {ss : List Sh} {ws : List A} {ds : List D} {F G : List Nat} {s : Sh} {w : A} {d : D}, TrL h n ss ws ds F → Tr h n s w d G → (∀ i ∈ F, i ∉ G) → ∃ F2, TrL h n (ss ++ [s]) (ws ++ [w]) (ds ++ [d]) F2 ∧ ∀ i, i ∈ F2 ↔ i ∈ F ∨ i ∈ G
  | _, _, _, _, _, G, _, _, _, .nil, t, q => ⟨_, .cons t .nil (fun i _ z => by cases z), fun i => by simp⟩
  | _, _, _, _, _, G, _, _, _, .cons t0 r q0, t, q => by
    obtain ⟨F2, r2, o2⟩ := r.snoc t fun i hi => q i (List.mem_append_right _ hi)
    refine ⟨_, .cons t0 r2 (fun i hi z => ((o2 i).mp z).elim (q0 i hi) (q i (List.mem_append_left _ hi))), fun i => ?_⟩
    rw [List.mem_append, List.mem_append, o2 i, or_assoc]
theorem TrL.put : ∀ {n : Nat} {ss : List Sh} {ws : List A} {ds : List D} {F F' : List Nat} {j : Nat} {s : Sh} {w' : A} {d' : D}, TrL h n ss ws ds F → ss[j]? = some s → Tr h n s w' d' F' → (∀ i ∈ F', i ∉ F) → ∃ F2, TrL h n ss (ws.set j w') (ds.set j d') F2 ∧ ∀ i ∈ F2, i ∈ F ∨ i ∈ F'
  | _, _, _, _, _, _, j, _, _, _, .nil, e, _, _ => by cases e
  | _, _, _, _, _, _, 0, _, _, _, .cons t r q, e, t', dj => by
    cases e
    exact ⟨_, .cons t' r (fun i hi z => dj i hi (List.mem_append_right _ z)), fun i hi => (List.mem_append.mp hi).elim .inr fun z => .inl (List.mem_append_right _ z)⟩
  | _, _, _, _, _, _, j + 1, _, _, _, .cons t r q, e, t', dj => by
    obtain ⟨F2, r2, o2⟩ := r.put e t' fun i hi z => dj i hi (List.mem_append_right _ z)
    refine ⟨_, .cons t r2 (fun i hi z => (o2 i z).elim (q i hi) fun z => dj i z (List.mem_append_left _ hi)), fun i hi => ?_⟩
    rcases List.mem_append.mp hi with hi | hi
    · exact .inl (List.mem_append_left _ hi)
    · exact (o2 i hi).imp (fun z => List.mem_append_right _ z) id
/-! ### lists of new things -/
theorem lcT {b : Bool} {mi : E Nxt} {gg : A → Sl → Hq → Option Sl} {me : E A} {vs : List Nat} {nx : Nxt} (ds : List D) (e : mi τ h = some (.ok nx h1)) (hn : ∀ g i, nx i (h1 ++ g) = some ws[i]?) (hw : ws.length = ds.length) (hl : ds.length ≤ LIM)
    (hs : ∀ (i : Nat) (w : A) (d : D) (g : Hq), ws[i]? = some w → ds[i]? = some d → ∃ τ1, gg w (wipeT τ vs) (h1 ++ g) = some τ1 ∧ Nw (h1 ++ g) (me τ1 (h1 ++ g)) n s d) : NwC h1 (mLC true mi gg mYes me vs τ h) (n + 1) (.lst b s) (.lst ds) := by
  obtain ⟨as, h2, ⟨g, F, rfl, t, hF⟩, la, e2⟩ := lcI (o := true) (me := me) (gg := gg) (vs := vs) (τ := τ) (ws := ws) (fun i as h' => ∃ g F, h' = h1 ++ g ∧ TrL h' n (List.replicate as.length s) as (ds.take i) F ∧ ∀ j ∈ F, h1.length ≤ j) e (fun i as h' q => by
    obtain ⟨g, F, rfl, _⟩ := q
    exact hn g i) ⟨[], [], by rw [List.append_nil], .nil, fun j hj => by cases hj⟩ (by rw [hw]; exact hl) (fun i w as h' ew q => by
    obtain ⟨g, F, rfl, t, hF⟩ := q
    have hi : i < ds.length := by rw [← hw]; exact (List.getElem?_eq_some_iff.mp ew).1
    obtain ⟨τ1, e1, a, g2, F2, e2, t2, hF2⟩ := hs i w ds[i] g ew (List.getElem?_eq_getElem hi)
    obtain ⟨F3, t3, o3⟩ := (t.app g2).snoc t2 fun j hj z => by have := t.lt j hj; have := hF2 j z; omega
    refine ⟨τ1, a, _, e1, e2, g ++ g2, F3, List.append_assoc .., ?_, fun j hj => ?_⟩
    · rw [List.take_add_one, List.getElem?_eq_getElem hi, List.length_append, show List.replicate (as.length + [a].length) s = List.replicate as.length s ++ [s] from by rw [← List.replicate_append_replicate]; rfl]
      exact t3
    · rcases (o3 j).mp hj with z | z
      · exact hF j z
      · have := hF2 j z
        rw [List.length_append] at this
        omega)
  rw [hw, List.take_length] at t
  have t' := t.app [.lst as]
  refine ⟨(h1 ++ g).length, g ++ [.lst as], (h1 ++ g).length :: F, ?_, ?_, fun j hj => ?_⟩
  · rw [e2, x_mkC (by rw [la, hw]; exact hl), List.append_assoc]
  · rw [← List.append_assoc]
    refine .lst ?_ t' fun z => ?_
    · rw [List.getElem?_append_right (Nat.le_refl _), Nat.sub_self]; rfl
    · have := t.lt _ z; omega
  · rcases List.mem_cons.mp hj with rfl | z
    · rw [List.length_append]; omega
    · exact hF j z
/-! ### instances -/
def Ob (h0 : Hq) (C : Str) (n : Nat) (fs : List Str) (ss : List Sh) (ds : List D) (h : Hq) : Prop := ∃ ws g F, h = h0 ++ .nd (.ins C fs) ws :: g ∧ TrL h n ss ws ds F ∧ ws.length = fs.length ∧ ∀ j ∈ F, h0.length < j
variable {h0 : Hq} {C : Str} {fs : List Str}
theorem ob_new : Ob h0 C n [] [] [] (h0 ++ [.nd (.ins C []) []]) := ⟨[], [], [], rfl, .nil, rfl, fun j hj => by cases hj⟩
theorem ob_at {g : Hq} {o : O} : (h0 ++ o :: g)[h0.length]? = some o := by rw [List.getElem?_append_right (Nat.le_refl _), Nat.sub_self]; rfl
theorem ob_put {g : Hq} {o o' : O} : (h0 ++ o :: g).set h0.length o' = h0 ++ o' :: g := by rw [List.set_append_right _ _ (Nat.le_refl _), Nat.sub_self]; rfl
theorem Ob.tr {b : Bool} (o : Ob h0 C n fs ss ds h) : ∃ F, Tr h (n + 1) (.nd b ss) (.r h0.length) (.nd (.ins C fs) ds) F ∧ ∀ j ∈ F, h0.length ≤ j := by
  obtain ⟨ws, g, F, rfl, t, hl, hF⟩ := o
  refine ⟨h0.length :: F, .nd ob_at t fun z => Nat.lt_irrefl _ (hF _ z), fun j hj => ?_⟩
  rcases List.mem_cons.mp hj with rfl | z
  · exact Nat.le_refl _
  · exact Nat.le_of_lt (hF j z)
theorem Ob.ext (o : Ob h0 C n fs ss ds h) : ∃ g, h = h0 ++ g := by
  obtain ⟨ws, g, F, rfl, _⟩ := o
  exact ⟨_, rfl⟩
theorem fPut_new {f : Str} {w : A} : ∀ {fs : List Str} {ws : List A}, decide (f ∈ fs) = false → ws.length = fs.length → fPut f w fs ws = (fs ++ [f], ws ++ [w])
  | [], [], _, _ => rfl
  | [], _ :: _, _, e => by cases e
  | _ :: _, [], _, e => by cases e
  | g :: fs, u :: ws, hf, e => by
    have hf := of_decide_eq_false hf
    refine fput_miss (decide_eq_false fun z => hf (by rw [z]; exact List.mem_cons_self ..)) ?_
    exact fPut_new (decide_eq_false fun z => hf (List.mem_cons_of_mem _ z)) (Nat.succ.inj e)
theorem fPut_ix {f : Str} {w : A} : ∀ {fs : List Str} {ws : List A} {i : Nat}, fIx f fs = some i → ws.length = fs.length → fPut f w fs ws = (fs, ws.set i w)
  | [], _, _, e, _ => by cases e
  | _ :: _, [], _, _, e => by cases e
  | g :: fs, u :: ws, i, e, el => by
    unfold fIx at e
    split at e
    · rename_i c
      cases e
      subst c
      exact fput_hit
    · rename_i c
      cases q : fIx f fs with
      | none => rw [q] at e; cases e
      | some j =>
        rw [q] at e
        cases e
        exact fput_miss (decide_eq_false c) (fPut_ix q (Nat.succ.inj el))
/-- self.f = e, f new -/
theorem ob_set {T : FTab} {f : Str} {mv : E A} {i : Nat} (o : Ob h0 C n fs ss ds h) (v : Nw h (mv τ h) n s d) (hi : τ[i]? = some (some (.r h0.length))) (hf : fOk T C f = true) (hl : fs.length < 1000) (hn : decide (f ∈ fs) = false) : ∃ h', mSetF T f (mVar i) mv τ h = some (.nx τ h') ∧ Ob h0 C n (fs ++ [f]) (ss ++ [s]) (ds ++ [d]) h' := by
  obtain ⟨ws, g, F, rfl, t, hw, hF⟩ := o
  obtain ⟨a, g2, F2, e, t2, hF2⟩ := v
  have e1 : h0 ++ .nd (.ins C fs) ws :: g ++ g2 = h0 ++ .nd (.ins C fs) ws :: (g ++ g2) := by rw [List.append_assoc]; rfl
  have hk2 : h0.length ∉ F2 := fun z => by
    have := hF2 _ z
    rw [List.length_append, List.length_cons] at this
    omega
  have hk : h0.length ∉ F := fun z => Nat.lt_irrefl _ (hF _ z)
  obtain ⟨F3, t3, o3⟩ := (t.app g2).snoc t2 fun j hj z => by have := t.lt j hj; have := hF2 j z; omega
  have hk3 : h0.length ∉ F3 := fun z => ((o3 _).mp z).elim hk hk2
  have t4 := t3.away (o := .nd (.ins C (fs ++ [f])) (ws ++ [a])) hk3
  refine ⟨_, s_SetF e (x_Var hi) (by rw [e1]; exact ob_at) hf hl (fPut_new hn hw) rfl, ws ++ [a], g ++ g2, F3, ?_, t4, by rw [List.length_append, List.length_append, hw]; rfl, fun j hj => ?_⟩
  · rw [e1, ob_put]
  · rcases (o3 j).mp hj with z | z
    · exact hF j z
    · have := hF2 j z
      rw [List.length_append, List.length_cons] at this
      omega
/-- o.f = e, f there -/
theorem ob_upd {T : FTab} {f : Str} {mv : E A} {i j : Nat} (o : Ob h0 C n fs ss ds h) (v : Nw h (mv τ h) n s d) (hi : τ[i]? = some (some (.r h0.length))) (hf : fOk T C f = true) (hl : fs.length < 1000) (hx : fIx f fs = some j) (hs : ss[j]? = some s) : ∃ h', mSetF T f (mVar i) mv τ h = some (.nx τ h') ∧ Ob h0 C n fs ss (ds.set j d) h' := by
  obtain ⟨ws, g, F, rfl, t, hw, hF⟩ := o
  obtain ⟨a, g2, F2, e, t2, hF2⟩ := v
  have e1 : h0 ++ .nd (.ins C fs) ws :: g ++ g2 = h0 ++ .nd (.ins C fs) ws :: (g ++ g2) := by rw [List.append_assoc]; rfl
  have hk2 : h0.length ∉ F2 := fun z => by
    have := hF2 _ z
    rw [List.length_append, List.length_cons] at this
    omega
  have hk : h0.length ∉ F := fun z => Nat.lt_irrefl _ (hF _ z)
  obtain ⟨F3, t3, o3⟩ := (t.app g2).put hs t2 fun j hj z => by have := t.lt j z; have := hF2 j hj; omega
  have hk3 : h0.length ∉ F3 := fun z => (o3 _ z).elim hk hk2
  have t4 := t3.away (o := .nd (.ins C fs) (ws.set j a)) hk3
  refine ⟨_, s_SetF e (x_Var hi) (by rw [e1]; exact ob_at) hf hl (fPut_ix hx hw) rfl, ws.set j a, g ++ g2, F3, ?_, t4, by rw [List.length_set]; exact hw, fun j hj => ?_⟩
  · rw [e1, ob_put]
  · rcases o3 j hj with z | z
    · exact hF j z
    · have := hF2 j z
      rw [List.length_append, List.length_cons] at this
      omega
/-- C(..) -/
theorem ob_make {np : Nat} {sem : Sem1} {mr : E (List A)} {us : List A} (e : mr τ h = some (.ok us h)) (hl : us.length + 1 = np) (q : ∃ h', sem (.r h.length :: us) (h ++ [.nd (.ins C []) []]) = some (.ok (.d .non) h') ∧ Ob h C n fs ss ds h') : ∃ h', mMake C np sem mr τ h = some (.ok (.r h.length) h') ∧ Ob h C n fs ss ds h' := by
  obtain ⟨h', s, o⟩ := q
  exact ⟨h', x_Make e hl rfl s, o⟩
theorem nw_make {b : Bool} {np : Nat} {sem : Sem1} {mr : E (List A)} {us : List A} (e : mr τ h = some (.ok us h)) (hl : us.length + 1 = np) (q : ∃ h', sem (.r h.length :: us) (h ++ [.nd (.ins C []) []]) = some (.ok (.d .non) h') ∧ Ob h C n fs ss ds h') : NwC h (mMake C np sem mr τ h) (n + 1) (.nd b ss) (.nd (.ins C fs) ds) := by
  obtain ⟨h', s, o⟩ := ob_make e hl q
  obtain ⟨g, rfl⟩ := o.ext
  obtain ⟨F, t, hF⟩ := o.tr
  exact ⟨_, g, F, s, t, hF⟩
end
end Tq

/-! Tq33: two fors over trees. -/
namespace Tq
open PySem PySem.Spec PyProof.Rows L2
theorem compN {α : Type} {gg : A → Sl → Hq → Option Sl} {me : E A} {τw : Sl} {h1 : Hq} {nx : Nxt} {ws : List A} {xs : List α} (f : α → A) (hn : ∀ i, nx i h1 = some ws[i]?) (hl : ws.length ≤ LIM) (hx : ws.length = xs.length)
    (hs : ∀ (i : Nat) (w : A) (x : α), ws[i]? = some w → xs[i]? = some x → ∃ τ1, gg w τw h1 = some τ1 ∧ me τ1 h1 = some (.ok (f x) h1)) : compM nx gg mYes me τw FU 0 h1 = some (xs.map f, h1) := by
  have go : ∀ (j n fu : Nat), xs.length - n = j → n ≤ xs.length → j < fu → compM nx gg mYes me τw fu n h1 = some ((xs.drop n).map f, h1) := by
    intro j
    induction j with
    | zero =>
      intro n fu e hn' hf
      have : n = xs.length := by omega
      subst this
      obtain ⟨fu, rfl⟩ : ∃ f', fu = f' + 1 := ⟨fu - 1, by omega⟩
      unfold compM
      rw [hn, List.getElem?_eq_none (by omega), List.drop_of_length_le (Nat.le_refl _)]
      rfl
    | succ j ih =>
      intro n fu e hn' hf
      have hlt : n < xs.length := by omega
      have hlt2 : n < ws.length := by omega
      obtain ⟨fu, rfl⟩ : ∃ f', fu = f' + 1 := ⟨fu - 1, by omega⟩
      obtain ⟨τ1, e1, e2⟩ := hs n _ _ (List.getElem?_eq_getElem hlt2) (List.getElem?_eq_getElem hlt)
      unfold compM
      rw [hn, List.getElem?_eq_getElem hlt2]
      dsimp only
      rw [e1]
      dsimp only
      rw [show mYes τ1 h1 = some (.ok true h1) from rfl]
      dsimp only
      rw [e2]
      dsimp only
      rw [ih (n + 1) fu (by omega) (by omega) (by omega), List.drop_eq_getElem_cons hlt]
      rfl
  exact go xs.length 0 FU (by omega) (Nat.zero_le _) (by show xs.length < 16777217; have : ws.length ≤ 16777216 := hl; omega)
theorem lc2N {α β : Type} {o : Bool} {mi : E Nxt} {gg : A → Sl → Hq → Option Sl} {mi1 : E Nxt} {g1 : A → Sl → Hq → Option Sl} {me : E A} {vs vs1 : List Nat} {τ : Sl} {h h1 : Hq} {nx : Nxt} {ws : List A} {xs : List α} (ys : α → List β) (f : α → β → A) (e : mi τ h = some (.ok nx h1)) (hn : ∀ i, nx i h1 = some ws[i]?) (hl : ws.length ≤ LIM) (hx : ws.length = xs.length) (hf : (xs.flatMap fun x => (ys x).map (f x)).length ≤ LIM)
    (hs : ∀ (i : Nat) (w : A) (x : α), ws[i]? = some w → xs[i]? = some x → ∃ (τ1 : Sl) (nx1 : Nxt) (ws1 : List A), gg w (wipeT τ vs) h1 = some τ1 ∧ mi1 τ1 h1 = some (.ok nx1 h1) ∧ (∀ i, nx1 i h1 = some ws1[i]?) ∧ ws1.length = (ys x).length ∧ (ys x).length ≤ LIM ∧ ∀ (j : Nat) (u : A) (y : β), ws1[j]? = some u → (ys x)[j]? = some y → ∃ τ2, g1 u (wipeT τ1 vs1) h1 = some τ2 ∧ me τ2 h1 = some (.ok (f x y) h1)) :
    mLC2 o mi gg mYes mi1 g1 mYes me vs vs1 τ h = mkL o (xs.flatMap fun x => (ys x).map (f x)) h1 := by
  have go : ∀ (j n fu : Nat), xs.length - n = j → n ≤ xs.length → j < fu → compM2 nx gg mYes mi1 g1 mYes me (wipeT τ vs) vs1 fu n h1 = some ((xs.drop n).flatMap fun x => (ys x).map (f x), h1) := by
    intro j
    induction j with
    | zero =>
      intro n fu e hn' hf
      have : n = xs.length := by omega
      subst this
      obtain ⟨fu, rfl⟩ : ∃ f', fu = f' + 1 := ⟨fu - 1, by omega⟩
      unfold compM2
      rw [hn, List.getElem?_eq_none (by omega), List.drop_of_length_le (Nat.le_refl _)]
      rfl
    | succ j ih =>
      intro n fu e hn' hf
      have hlt : n < xs.length := by omega
      have hlt2 : n < ws.length := by omega
      obtain ⟨fu, rfl⟩ : ∃ f', fu = f' + 1 := ⟨fu - 1, by omega⟩
      obtain ⟨τ1, nx1, ws1, e1, e2, e3, e4, e5, e6⟩ := hs n _ _ (List.getElem?_eq_getElem hlt2) (List.getElem?_eq_getElem hlt)
      unfold compM2
      rw [hn, List.getElem?_eq_getElem hlt2]
      dsimp only
      rw [e1]
      dsimp only
      rw [show mYes τ1 h1 = some (.ok true h1) from rfl]
      dsimp only
      rw [e2]
      dsimp only
      rw [compN (f xs[n]) e3 (by rw [e4]; exact e5) e4 e6]
      dsimp only
      rw [ih (n + 1) fu (by omega) (by omega) (by omega), List.drop_eq_getElem_cons hlt, List.flatMap_cons]
  have := go xs.length 0 FU (by omega) (Nat.zero_le _) (by show xs.length < 16777217; have : ws.length ≤ 16777216 := hl; omega)
  unfold mLC2
  rw [e, bd_ok, this]
  dsimp only
  rw [List.drop_zero, if_pos hf]
end Tq

/-! Tq34: for i, x in enumerate(data); any(list of truths); *e in an argument list. -/
namespace Tq
open PySem PySem.Spec PyProof.Rows L2
def enA (xs : List D) : List A := xs.mapIdx fun i x => A.d (.tup [.int (i : Nat), x])
def mEnum (m : E A) : E Nxt := fun τ h => bd (m τ h) fun a h1 => match a with
  | .d (.lst xs) => some (.ok (nxL (enA xs)) h1)
  | _ => none
section
variable {X : Cx} {W : WX} {e a b : Expr} {m ma mb : E A} {pos px tpos : Pos} {elts : List Expr} {kk : Nat}
theorem walk_enum {K : PySem.W.Frag} {B : Hp} {ρ : Nat → Option Addr} {a : Addr} {vs : List V} {xs : List D} (h : B a = some (.lst vs)) (r : RpL K B vs xs) : Walk K B ρ (Ite K a) (nxL (enA xs)) := by
  intro Z B2 ρ2 H2 h2 i ok2 g2
  have hq : SqL K H2 a vs := ok2.ex.seq (g2.bb.seq (SqL.of h))
  refine ⟨fun e => ?_, fun w e => ?_⟩
  · have e : (enA xs)[i]? = none := Option.some.inj e
    have := List.getElem?_eq_none_iff.mp e
    unfold enA at this
    rw [List.length_mapIdx] at this
    exact ⟨vs, hq, by rw [r.length]; exact this⟩
  · have e : (enA xs)[i]? = some w := Option.some.inj e
    unfold enA at e
    rw [List.getElem?_mapIdx] at e
    cases z : xs[i]? with
    | none => rw [z] at e; cases e
    | some x =>
      rw [z] at e
      cases e
      obtain ⟨v, h1, h3⟩ := r.get z
      refine ⟨⟨vs, v, hq, h1⟩, fun y H' hy => ?_⟩
      obtain ⟨T, u, rfl, hT, rfl, hu⟩ := hy
      have : u = v := Option.some.inj ((hu vs hq).symm.trans h1)
      subst this
      obtain ⟨ok3, g3⟩ := ok2.newB (o := .tup [.int (i : Nat), u]) hT
      exact ⟨_, .d (.tup upd_same (.cons (.int _) (.cons (h3.mono fun c o q => g3.bb _ _ (g2.bb _ _ q)) .nil))), ok3, g3⟩
theorem ri_enum (he : RX X W e m) (hm : X.mg "enumerate" = none) (hg : Gl X "enumerate" := by rfl) (hs : starEach [e] X.env = [(false, eval e X.env)] := by rfl) : RI X W (.Tuple elts kk tpos) (.Call (.Name "enumerate" px) [e] [] pos) (mEnum m) := ⟨pi_imp (pi_enum hg hm (pa_cons he.pe pa_nil hs) hs) fun σ H R q => by
  obtain ⟨Z, B, ρ, τ, h, ok, sl, q⟩ := q
  refine te_bd ok sl q fun x a h1 B1 ρ1 H1 rx ok1 sl1 g1 q1 => ?_
  split at q1
  · rename_i xs
    cases ra_d rx with
    | lst h2 r1 => exact ⟨_, _, rfl, SqL.of (ok1.ex _ _ h2), q1.now ok1 _ (walk_enum h2 r1)⟩
  · exact q1.elim⟩
/-! ### any -/
def blA : A → Option Bool
  | .d (.bl b) => some b
  | _ => none
def gAny : G1 := fun a h => match lstOf h a with
  | some ws => (match mapMn blA ws with | some bs => some (.ok (.d (.bl (bs.any id))) h) | none => none)
  | none => none
theorem blsA_of {K : PySem.W.Frag} {B : Hp} {ρ : Nat → Option Addr} : ∀ {vs : List V} {ws : List A} {ns : List Bool}, RAL K B ρ vs ws → mapMn blA ws = some ns → vs = ns.map V.bl
  | _, _, ns, .nil, e => by cases e; rfl
  | _, _, ns, .cons (w := w) r t, e => by
    unfold mapMn at e
    cases w with
    | d x =>
      cases x with
      | bl i =>
        dsimp only [blA] at e
        split at e
        · rename_i bs e2
          cases e
          rw [rp_bl (ra_d r), blsA_of t e2]
          rfl
        · cases e
      | _ => cases e
    | _ => cases e
theorem og_any {K : PySem.W.Frag} : Op1 K (fun x H Q => rAny K [x] H Q) gAny := by
  intro Z B ρ H h x a W Q ok rx q
  unfold gAny at q
  split at q
  · rename_i ws e1
    split at q
    · rename_i bs e2
      obtain ⟨p, vs, rfl, h1, r1⟩ := lstOf_ra ok rx e1
      have := blsA_of r1 e2
      subst this
      exact ⟨p, bs, rfl, SqL.of h1, q.now ok _ (.d (.bl _))⟩
    · exact q.elim
  · exact q.elim
theorem rx_any (hc : X.calm = true) (ha : RX X W a ma) (hm : X.mg "any" = none) (hg : Gl X "any" := by rfl) (he : starEach [a] X.env = (false, eval a X.env) :: starEach [] X.env := by rfl) :
    RX X W (.Call (.Name "any" px) [a] [] pos) (mUn gAny ma) := rx_b1 (cr_any hc) og_any ha hm (by decide +kernel) hg (by decide) (by decide) he
/-! ### *e -/
def maStar (ma : E A) (mr : E (List A)) : E (List A) := fun τ h => bd (ma τ h) fun a h1 => match a with
  | .d (.tup xs) => bd (mr τ h1) fun r h2 => some (.ok (xs.map A.d ++ r) h2)
  | _ => none
variable {es : List Expr} {mr : E (List A)} {p : Pos}
theorem ra_star (ha : RX X W a ma) (hr : RAs X W es mr) (hs : starEach (.Starred a p :: es) X.env = (true, eval a X.env) :: starEach es X.env := by rfl) : RAs X W (.Starred a p :: es) (maStar ma mr) := ⟨pa_imp (StX.pa_star ha.pe hr.pa hs) fun σ H Q q => by
  obtain ⟨Z, B, ρ, τ, h, ok, sl, q⟩ := q
  refine te_bd ok sl q fun x a h1 B1 ρ1 H1 rx ok1 sl1 g1 q1 => ?_
  split at q1
  · rename_i xs
    cases ra_d rx with
    | tup h2 r1 =>
      refine ⟨_, _, rfl, .inl (sqt_of (ok1.ex _ _ h2)), Z, B1, ρ1, τ, h1, ok1, sl1, q1.bd.imp fun ws h3 B2 ρ2 H2 ok2 g2 q2 vs rl => ?_⟩
      exact q2.now ok2 _ (((ral_ds r1).mono g2).append rl)
  · exact q1.elim⟩
end
end Tq

/-! Tq35: text.index(sign). -/
namespace Tq
open PySem PySem.Spec PyProof.Rows L2
def gIdxS : G2 := fun u s h => match u, s with
  | .d (.str a), .d (.str b) => (match Builtin.Str.occurrences a b 0 a.length 1 with
    | i :: _ => some (.ok (.d (.int (i : Nat))) h)
    | [] => none)
  | _, _ => none
theorem og_idxS {K : PySem.W.Frag} : Op2 K (fun x y H Q => ∃ a b i rest, x = .str a ∧ [y] = [.str b] ∧ Builtin.Str.occurrences a b 0 a.length 1 = i :: rest ∧ Q (.int (i : Nat)) H) gIdxS := by
  intro Z B ρ H h x y a b W Q ok rx ry q
  unfold gIdxS at q
  split at q
  · split at q
    · rename_i e
      cases ra_str rx
      cases ra_str ry
      exact ⟨_, _, _, _, rfl, rfl, e, q.now ok _ (.d (.int _))⟩
    · exact q.elim
  · exact q.elim
section
variable {X : Cx} {W : WX} {a b : Expr} {ma mb : E A} {pos apos : Pos}
theorem rx_idxS (ha : RX X W a ma) (hb : RX X W b mb) (hbase : attributeBase a "index" X.env (eval a X.env) = eval a X.env := by rfl)
    (hfew : ((backTo pos (starEach (b :: []) X.env)).all (fun x => !x.1) && (backToKw pos (keywordEach [] X.env)).all (fun x => x.1.isSome)
      && decide ((b :: []).length + ([] : List Keyword).length + (if ([] : List Keyword).isEmpty then 0 else 1) < 30)) = true := by rfl)
    (hline : (apos.endLine == pos.line) = true := by rfl) (hs : starEach (b :: []) X.env = (false, eval b X.env) :: starEach [] X.env := by rfl) : RX X W (.Call (.Attribute a "index" apos) [b] [] pos) (mM1 tokS gIdxS ma mb) :=
  rx_m1 F.plainAttrs_str F.slot_str_index F.type_str_index mt_sindex tokS tokS_ty og_idxS ha hb hbase hfew hline hs
end
end Tq

set_option maxHeartbeats 1000000
namespace KK
open PySem PySem.Spec PyProof.Rows L2 Tq
def topS (i : Nat) : Stmt := PySem.Challenge.pw_kithwhole_k30_arithmetic.main.body.getD i (.Pass ⟨0, 0, 0, 0⟩)
def FT : FTab := [("World", ["sources", "parameters"]), ("Frame", ["columns", "row", "members", "outer"]), ("Source", ["name", "columns", "kinds", "rows"])]
abbrev D_COMPARISONS : D := .kt [.str "=", .str "<>", .str "<", .str "<=", .str ">", .str ">="]
/-! ### _law_next: 0=state 1=limit 2=cell 3=value -/
abbrev s__law_next : Stmt := topS 49
theorem sc__law_next : FnScope ["state", "limit", "cell", "value"] ["state", "limit"] (defScope s__law_next) := ⟨rfl, rfl, rfl, by decide +kernel, rfl, by decide +kernel, by decide +kernel⟩
def b__law_next : MS :=
 (mSeq (mIf (mAndT (mTB (mBin (gEq false) (mBin gGet (mVar 0) (mC (.int 2))) (mC (.int 0)))) (mTB (mBin gLt (mBin gGet (mVar 0) (mC (.int 1))) (mUn gLen (mBin gGet (mVar 0) (mC (.int 0))))))) (mSeq (mSet 2 (mBin gGet (mBin gGet (mVar 0) (mC (.int 0))) (mBin gGet (mVar 0) (mC (.int 1)))))
 (mSeq (mAugI true gIAdd (mVar 0) (mC (.int 1)) (mC (.int 1)))
 (mIf (mTB (mBin gGe (mVar 2) (mBin gPow (mC (.int 10)) (mC (.int 18))))) (mSetI true (mVar 0) (mC (.int 2)) (mVar 2)) (mSetI true (mVar 0) (mC (.int 3)) (mBin gMod (mUn gInt (mBin (gAdd false) (mBin (gAdd false) (mBin gMul (mBin gGet (mVar 0) (mC (.int 3))) (mC (.int 48271))) (mBin gMod (mUn gInt (mVar 2)) (mC (.int 2147483647)))) (mC (.int 7)))) (mC (.int 2147483647))))))) mNx)
 (mSeq (mIf (mTB (mBin gGt (mBin gGet (mVar 0) (mC (.int 2))) (mC (.int 0)))) (mSeq (mSet 3 (mBin gMod (mUn gInt (mBin gGet (mVar 0) (mC (.int 2)))) (mVar 1)))
 (mSeq (mSetI true (mVar 0) (mC (.int 2)) (mBin gDiv (mBin gGet (mVar 0) (mC (.int 2))) (mVar 1)))
 (mRet (mVar 3)))) mNx)
 (mSeq (mSetI true (mVar 0) (mC (.int 3)) (mBin gMod (mUn gInt (mBin (gAdd false) (mBin gMul (mBin gGet (mVar 0) (mC (.int 3))) (mC (.int 69621))) (mC (.int 12345)))) (mC (.int 2147483647))))
 (mRet (mBin gMod (mUn gInt (mBin gDiv (mBin gGet (mVar 0) (mC (.int 3))) (mC (.int 7)))) (mVar 1))))))
def sem__law_next : Sem1 := runB 2 4 b__law_next
/-! ### _law_integer: 0=state 1=sign 2=pick -/
abbrev s__law_integer : Stmt := topS 52
theorem sc__law_integer : FnScope ["state", "sign", "pick"] ["state"] (defScope s__law_integer) := ⟨rfl, rfl, rfl, by decide +kernel, rfl, by decide +kernel, by decide +kernel⟩
def b__law_integer : MS :=
 (mSeq (mSet 1 (mBin gSub (mC (.int 1)) (mBin gMul (mC (.int 2)) (mCall sem__law_next (lenIs 2 (maCons (mVar 0) (maCons (mC (.int 2)) maNil)))))))
 (mSeq (mSet 2 (mCall sem__law_next (lenIs 2 (maCons (mVar 0) (maCons (mC (.int 8)) maNil)))))
 (mSeq (mIf (mTB (mBin (gEq false) (mVar 2) (mC (.int 0)))) (mRet (mC .non)) mNx)
 (mSeq (mIf (mTB (mBin gLt (mVar 2) (mC (.int 3)))) (mRet (mBin gMul (mVar 1) (mCall sem__law_next (lenIs 2 (maCons (mVar 0) (maCons (mC (.int 12)) maNil)))))) mNx)
 (mSeq (mIf (mTB (mBin (gEq false) (mVar 2) (mC (.int 3)))) (mRet (mBin gMul (mVar 1) (mBin gSub (mBin (gAdd false) (mBin gPow (mC (.int 10)) (mC (.int 20))) (mCall sem__law_next (lenIs 2 (maCons (mVar 0) (maCons (mC (.int 3)) maNil))))) (mC (.int 1))))) mNx)
 (mSeq (mIf (mTB (mBin (gEq false) (mVar 2) (mC (.int 4)))) (mRet (mBin gMul (mVar 1) (mBin gSub (mBin gSub (mBin gPow (mC (.int 10)) (mC (.int 40))) (mC (.int 1))) (mCall sem__law_next (lenIs 2 (maCons (mVar 0) (maCons (mC (.int 3)) maNil))))))) mNx)
 (mSeq (mIf (mTB (mBin (gEq false) (mVar 2) (mC (.int 5)))) (mRet (mBin gMul (mVar 1) (mBin gSub (mBin (gAdd false) (mBin gMul (mC (.int 5)) (mBin gPow (mC (.int 10)) (mC (.int 39)))) (mCall sem__law_next (lenIs 2 (maCons (mVar 0) (maCons (mC (.int 3)) maNil))))) (mC (.int 1))))) mNx)
 (mSeq (mIf (mTB (mBin (gEq false) (mVar 2) (mC (.int 6)))) (mRet (mBin gMul (mVar 1) (mBin gGet (mLst false (maCons (mBin gPow (mC (.int 10)) (mC (.int 40))) (maCons (mBin gMul (mC (.int 2)) (mBin gPow (mC (.int 10)) (mC (.int 40)))) (maCons (mBin (gAdd false) (mBin gPow (mC (.int 10)) (mC (.int 40))) (mCall sem__law_next (lenIs 2 (maCons (mVar 0) (maCons (mBin gPow (mC (.int 10)) (mC (.int 40))) maNil))))) (maCons (mCall sem__law_next (lenIs 2 (maCons (mVar 0) (maCons (mBin gPow (mC (.int 10)) (mC (.int 60))) maNil)))) maNil))))) (mCall sem__law_next (lenIs 2 (maCons (mVar 0) (maCons (mC (.int 4)) maNil))))))) mNx)
 (mRet (mBin gMul (mVar 1) (mCall sem__law_next (lenIs 2 (maCons (mVar 0) (maCons (mBin gGet (mLst false (maCons (mBin gPow (mC (.int 10)) (mC (.int 6))) (maCons (mBin gPow (mC (.int 10)) (mC (.int 21))) (maCons (mBin gPow (mC (.int 10)) (mC (.int 40))) maNil)))) (mCall sem__law_next (lenIs 2 (maCons (mVar 0) (maCons (mC (.int 3)) maNil))))) maNil))))))))))))))
def sem__law_integer : Sem1 := runB 1 3 b__law_integer
/-! ### bounded: 0=number -/
abbrev s_bounded : Stmt := topS 6
theorem sc_bounded : FnScope ["number"] ["number"] (defScope s_bounded) := ⟨rfl, rfl, rfl, by decide +kernel, rfl, by decide +kernel, by decide +kernel⟩
def b_bounded : MS :=
 (mSeq (mIf (mTB (mBin gGe (mUn gAbs (mVar 0)) (mC (.int 10000000000000000000000000000000000000000)))) (mRet (mC .non)) mNx)
 (mRet (mVar 0)))
def sem_bounded : Sem1 := runB 1 1 b_bounded
/-! ### quotient: 0=first 1=second 2=result -/
abbrev s_quotient : Stmt := topS 7
theorem sc_quotient : FnScope ["first", "second", "result"] ["first", "second"] (defScope s_quotient) := ⟨rfl, rfl, rfl, by decide +kernel, rfl, by decide +kernel, by decide +kernel⟩
def b_quotient : MS :=
 (mSeq (mSet 2 (mBin gDiv (mUn gAbs (mVar 0)) (mUn gAbs (mVar 1))))
 (mSeq (mIf (mTB (mBin (gEq true) (mBin gLt (mVar 0) (mC (.int 0))) (mBin gLt (mVar 1) (mC (.int 0))))) (mRet (mUn gNeg (mVar 2))) mNx)
 (mRet (mVar 2))))
def sem_quotient : Sem1 := runB 2 3 b_quotient
/-! ### arithmetic: 0=operator 1=first 2=second 3=joined -/
abbrev s_arithmetic : Stmt := topS 8
theorem sc_arithmetic : FnScope ["operator", "first", "second", "joined"] ["operator", "first", "second"] (defScope s_arithmetic) := ⟨rfl, rfl, rfl, by decide +kernel, rfl, by decide +kernel, by decide +kernel⟩
def b_arithmetic : MS :=
 (mSeq (mIf (mOrT (mTB (mBin (gIs false) (mVar 1) (mC .non))) (mTB (mBin (gIs false) (mVar 2) (mC .non)))) (mRet (mC .non)) mNx)
 (mSeq (mIf (mTB (mBin (gEq false) (mVar 0) (mC (.str "||")))) (mSeq (mSet 3 (mBin (gAdd false) (mVar 1) (mVar 2)))
 (mSeq (mIf (mTB (mBin gGt (mUn gLen (mVar 3)) (mC (.int 2000)))) (mRet (mC .non)) mNx)
 (mRet (mVar 3)))) mNx)
 (mSeq (mIf (mTB (mBin (gEq false) (mVar 0) (mC (.str "+")))) (mRet (mCallP sem_bounded (lenIs 1 (maCons (mBin (gAdd false) (mVar 1) (mVar 2)) maNil)))) mNx)
 (mSeq (mIf (mTB (mBin (gEq false) (mVar 0) (mC (.str "-")))) (mRet (mCallP sem_bounded (lenIs 1 (maCons (mBin gSub (mVar 1) (mVar 2)) maNil)))) mNx)
 (mSeq (mIf (mTB (mBin (gEq false) (mVar 0) (mC (.str "*")))) (mRet (mCallP sem_bounded (lenIs 1 (maCons (mBin gMul (mVar 1) (mVar 2)) maNil)))) mNx)
 (mSeq (mIf (mTB (mBin (gEq false) (mVar 2) (mC (.int 0)))) (mRet (mC .non)) mNx)
 (mSeq (mIf (mTB (mBin (gEq false) (mVar 0) (mC (.str "/")))) (mRet (mCallP sem_bounded (lenIs 1 (maCons (mCallP sem_quotient (lenIs 2 (maCons (mVar 1) (maCons (mVar 2) maNil)))) maNil)))) mNx)
 (mRet (mCallP sem_bounded (lenIs 1 (maCons (mBin gSub (mVar 1) (mBin gMul (mCallP sem_quotient (lenIs 2 (maCons (mVar 1) (maCons (mVar 2) maNil)))) (mVar 2))) maNil)))))))))))
def sem_arithmetic : Sem1 := runB 3 4 b_arithmetic
/-! ### _law_same: 0=actual 1=expected 2=k -/
abbrev s__law_same : Stmt := topS 50
theorem sc__law_same : FnScope ["actual", "expected", "k"] ["actual", "expected"] (defScope s__law_same) := ⟨rfl, rfl, rfl, by decide +kernel, rfl, by decide +kernel, by decide +kernel⟩
def B1__law_same (sem : Sem1) : MS :=
 (mIf (mNotT (mTru (mCallP (sem) (lenIs 2 (maCons (mBin gGet (mVar 0) (mVar 2)) (maCons (mBin gGet (mVar 1) (mVar 2)) maNil)))))) (mRet (mC (.bl false))) mNx)
def L1__law_same (sem : Sem1) : MS :=
 (mFor (mRange1 (mUn gLen (mVar 1))) (mgName 2) (B1__law_same sem))
def b__law_same (sem : Sem1) : MS :=
 (mSeq (mIf (mTB (mBin (gIs false) (mVar 1) (mC .non))) (mRet (mBin (gIs false) (mVar 0) (mC .non))) mNx)
 (mSeq (mIf (mTru (mUn (gIsi "bool") (mVar 1))) (mRet (mAndV (mUn (gIsi "bool") (mVar 0)) (mBin (gEq false) (mVar 0) (mVar 1)))) mNx)
 (mSeq (mIf (mTru (mUn (gIsi "int") (mVar 1))) (mRet (mAndV (mUn (gIsi "int") (mVar 0)) (mAndV (mNotV (mUn (gIsi "bool") (mVar 0))) (mBin (gEq false) (mVar 0) (mVar 1))))) mNx)
 (mSeq (mIf (mTru (mUn (gIsi "str") (mVar 1))) (mRet (mAndV (mUn (gIsi "str") (mVar 0)) (mBin (gEq false) (mVar 0) (mVar 1)))) mNx)
 (mSeq (mIf (mAndT (mTru (mUn (gIsi "tuple") (mVar 1))) (mNotT (mTru (mUn (gIsi "tuple") (mVar 0))))) (mRet (mC (.bl false))) mNx)
 (mSeq (mIf (mAndT (mTru (mUn (gIsi "list") (mVar 1))) (mNotT (mTru (mUn (gIsi "list") (mVar 0))))) (mRet (mC (.bl false))) mNx)
 (mSeq (mIf (mTB (mBin (gEq true) (mUn gLen (mVar 0)) (mUn gLen (mVar 1)))) (mRet (mC (.bl false))) mNx)
 (mSeq (L1__law_same sem)
 (mRet (mC (.bl true)))))))))))
def sem__law_same : Nat → Sem1
  | 0 => fun _ _ => none
  | n + 1 => runB 2 3 (b__law_same (sem__law_same n))
/-! ### _law_bounded: 0=number -/
abbrev s__law_bounded : Stmt := topS 54
theorem sc__law_bounded : FnScope ["number"] ["number"] (defScope s__law_bounded) := ⟨rfl, rfl, rfl, by decide +kernel, rfl, by decide +kernel, by decide +kernel⟩
def b__law_bounded : MS :=
 (mSeq (mIf (mTB (mBin gGe (mUn gAbs (mVar 0)) (mBin gPow (mC (.int 10)) (mC (.int 40))))) (mRet (mC .non)) mNx)
 (mRet (mVar 0)))
def sem__law_bounded : Sem1 := runB 1 1 b__law_bounded
/-! ### _law_due: 0=first 1=second 2=due 3=quotient_v -/
abbrev s__law_due : Stmt := topS 55
theorem sc__law_due : FnScope ["first", "second", "due", "quotient_v"] ["first", "second"] (defScope s__law_due) := ⟨rfl, rfl, rfl, by decide +kernel, rfl, by decide +kernel, by decide +kernel⟩
def b__law_due : MS :=
 (mSeq (mIf (mOrT (mTB (mBin (gIs false) (mVar 0) (mC .non))) (mTB (mBin (gIs false) (mVar 1) (mC .non)))) (mRet (mLst false (maCons (mC .non) (maCons (mC .non) (maCons (mC .non) (maCons (mC .non) (maCons (mC .non) maNil))))))) mNx)
 (mSeq (mSet 2 (mLst false (maCons (mCallP sem__law_bounded (lenIs 1 (maCons (mBin (gAdd false) (mVar 0) (mVar 1)) maNil))) (maCons (mCallP sem__law_bounded (lenIs 1 (maCons (mBin gSub (mVar 0) (mVar 1)) maNil))) (maCons (mCallP sem__law_bounded (lenIs 1 (maCons (mBin gMul (mVar 0) (mVar 1)) maNil))) maNil)))))
 (mSeq (mIf (mTB (mBin (gEq false) (mVar 1) (mC (.int 0)))) (mRet (mBin (gAdd false) (mVar 2) (mLst false (maCons (mC .non) (maCons (mC .non) maNil))))) mNx)
 (mSeq (mSet 3 (mBin gDiv (mUn gAbs (mVar 0)) (mUn gAbs (mVar 1))))
 (mSeq (mIf (mTB (mBin (gEq true) (mBin gLt (mVar 0) (mC (.int 0))) (mBin gLt (mVar 1) (mC (.int 0))))) (mSet 3 (mBin gSub (mC (.int 0)) (mVar 3))) mNx)
 (mRet (mBin (gAdd false) (mVar 2) (mLst false (maCons (mCallP sem__law_bounded (lenIs 1 (maCons (mVar 3) maNil))) (maCons (mCallP sem__law_bounded (lenIs 1 (maCons (mBin gSub (mVar 0) (mBin gMul (mVar 3) (mVar 1))) maNil))) maNil))))))))))
def sem__law_due : Sem1 := runB 2 4 b__law_due
/-! ### Source.__init__: 0=self 1=name 2=columns 3=kinds 4=rows -/
abbrev s_Source____init__ : Stmt := inClass (topS 47) 0
theorem sc_Source____init__ : FnScope ["self", "name", "columns", "kinds", "rows"] ["self", "name", "columns", "kinds", "rows"] (defScope s_Source____init__) := ⟨rfl, rfl, rfl, by decide +kernel, rfl, by decide +kernel, by decide +kernel⟩
def b_Source____init__ : MS :=
 (mSeq (mSetF FT "name" (mVar 0) (mVar 1))
 (mSeq (mSetF FT "columns" (mVar 0) (mUn (gLstOf false) (mVar 2)))
 (mSeq (mSetF FT "kinds" (mVar 0) (mUn (gLstOf false) (mVar 3)))
 (mSetF FT "rows" (mVar 0) (mUn (gLstOf false) (mVar 4))))))
def sem_Source____init__ : Sem1 := runB 5 5 b_Source____init__
/-! ### known_as: 0=source -/
abbrev s_known_as : Stmt := topS 29
theorem sc_known_as : FnScope ["source"] ["source"] (defScope s_known_as) := ⟨rfl, rfl, rfl, by decide +kernel, rfl, by decide +kernel, by decide +kernel⟩
def b_known_as : MS :=
 (mSeq (mIf (mTB (mBin (gIs false) (mBin gGet (mVar 0) (mC (.int 2))) (mC .non))) (mRet (mBin gGet (mVar 0) (mC (.int 1)))) mNx)
 (mRet (mBin gGet (mVar 0) (mC (.int 2)))))
def sem_known_as : Sem1 := runB 1 1 b_known_as
/-! ### table_result: 0=source 1=world 2=table 3=name -/
abbrev s_table_result : Stmt := topS 39
theorem sc_table_result : FnScope ["source", "world", "table", "name"] ["source", "world"] (defScope s_table_result) := ⟨rfl, rfl, rfl, by decide +kernel, rfl, by decide +kernel, by decide +kernel⟩
def E1_table_result : E Tq.A :=
 (mTup (maCons (mCallP sem_known_as (lenIs 1 (maCons (mVar 0) maNil))) (maCons (mVar 3) maNil)))
def C1_table_result : E Tq.A :=
 (mLC false (mItems (mUn (gFld FT "columns") (mVar 2))) (mgName 3) mYes E1_table_result [3])
def b_table_result : MS :=
 (mSeq (mSet 2 (mBin gGet (mUn (gFld FT "sources") (mVar 1)) (mBin gGet (mVar 0) (mC (.int 1)))))
 (mRet (mTup (maCons C1_table_result (maCons (mUn (gLstOf false) (mUn (gFld FT "rows") (mVar 2))) maNil)))))
def sem_table_result : Sem1 := runB 2 4 b_table_result
/-! ### Frame.__init__: 0=self 1=columns 2=row 3=members 4=outer -/
abbrev s_Frame____init__ : Stmt := inClass (topS 20) 0
theorem sc_Frame____init__ : FnScope ["self", "columns", "row", "members", "outer"] ["self", "columns", "row", "members", "outer"] (defScope s_Frame____init__) := ⟨rfl, rfl, rfl, by decide +kernel, rfl, by decide +kernel, by decide +kernel⟩
def b_Frame____init__ : MS :=
 (mSeq (mSetF FT "columns" (mVar 0) (mVar 1))
 (mSeq (mSetF FT "row" (mVar 0) (mVar 2))
 (mSeq (mSetF FT "members" (mVar 0) (mVar 3))
 (mSetF FT "outer" (mVar 0) (mVar 4)))))
def sem_Frame____init__ : Sem1 := runB 5 5 b_Frame____init__
/-! ### named: 0=columns 1=source 2=name 3=found 4=index 5=column -/
abbrev s_named : Stmt := topS 21
theorem sc_named : FnScope ["columns", "source", "name", "found", "index", "column"] ["columns", "source", "name"] (defScope s_named) := ⟨rfl, rfl, rfl, by decide +kernel, rfl, by decide +kernel, by decide +kernel⟩
def B1_named : MS :=
 (mIf (mAndT (mTB (mBin (gEq false) (mBin gGet (mVar 5) (mC (.int 1))) (mVar 2))) (mOrT (mTB (mBin (gIs false) (mVar 1) (mC .non))) (mTB (mBin (gEq false) (mBin gGet (mVar 5) (mC (.int 0))) (mVar 1))))) (mDrop (mM1 tokL gApp (mVar 3) (mVar 4))) mNx)
def L1_named : MS :=
 (mFor (mEnum (mVar 0)) (mgTup 2 (mgCons (mgName 4) (mgCons (mgName 5) mgNil))) B1_named)
def b_named : MS :=
 (mSeq (mSet 3 (mLst true maNil))
 (mSeq L1_named
 (mRet (mVar 3))))
def sem_named : Sem1 := runB 3 6 b_named
/-! ### locate: 0=scope 1=source 2=name 3=current 4=found -/
abbrev s_locate : Stmt := topS 22
theorem sc_locate : FnScope ["scope", "source", "name", "current", "found"] ["scope", "source", "name"] (defScope s_locate) := ⟨rfl, rfl, rfl, by decide +kernel, rfl, by decide +kernel, by decide +kernel⟩
def B1_locate : MS :=
 (mSeq (mSet 4 (mCallP sem_named (lenIs 3 (maCons (mUn (gFld FT "columns") (mVar 3)) (maCons (mVar 1) (maCons (mVar 2) maNil))))))
 (mSeq (mIf (mTB (mBin gGt (mUn gLen (mVar 4)) (mC (.int 1)))) mNoS mNx)
 (mSeq (mIf (mTB (mBin (gEq false) (mUn gLen (mVar 4)) (mC (.int 1)))) (mRet (mTup (maCons (mVar 3) (maCons (mBin gGet (mVar 4) (mC (.int 0))) maNil)))) mNx)
 (mSet 3 (mUn (gFld FT "outer") (mVar 3))))))
def W1_locate : E Bool :=
 (mTB (mBin (gIs true) (mVar 3) (mC .non)))
def L1_locate : MS :=
 (mWhile W1_locate B1_locate 1000000)
def b_locate : MS :=
 (mSeq (mSet 3 (mVar 0))
 (mSeq L1_locate
 (mSeq (mIf (mTB (mBin (gIs false) (mVar 1) (mC .non))) mNoS mNx)
 mNoS)))
def sem_locate : Sem1 := runB 3 5 b_locate
/-! ### conjunction: 0=first 1=second -/
abbrev s_conjunction : Stmt := topS 11
theorem sc_conjunction : FnScope ["first", "second"] ["first", "second"] (defScope s_conjunction) := ⟨rfl, rfl, rfl, by decide +kernel, rfl, by decide +kernel, by decide +kernel⟩
def b_conjunction : MS :=
 (mSeq (mIf (mOrT (mTB (mBin (gIs false) (mVar 0) (mC (.bl false)))) (mTB (mBin (gIs false) (mVar 1) (mC (.bl false))))) (mRet (mC (.bl false))) mNx)
 (mSeq (mIf (mOrT (mTB (mBin (gIs false) (mVar 0) (mC .non))) (mTB (mBin (gIs false) (mVar 1) (mC .non)))) (mRet (mC .non)) mNx)
 (mRet (mC (.bl true)))))
def sem_conjunction : Sem1 := runB 2 2 b_conjunction
/-! ### disjunction: 0=first 1=second -/
abbrev s_disjunction : Stmt := topS 12
theorem sc_disjunction : FnScope ["first", "second"] ["first", "second"] (defScope s_disjunction) := ⟨rfl, rfl, rfl, by decide +kernel, rfl, by decide +kernel, by decide +kernel⟩
def b_disjunction : MS :=
 (mSeq (mIf (mOrT (mTB (mBin (gIs false) (mVar 0) (mC (.bl true)))) (mTB (mBin (gIs false) (mVar 1) (mC (.bl true))))) (mRet (mC (.bl true))) mNx)
 (mSeq (mIf (mOrT (mTB (mBin (gIs false) (mVar 0) (mC .non))) (mTB (mBin (gIs false) (mVar 1) (mC .non)))) (mRet (mC .non)) mNx)
 (mRet (mC (.bl false)))))
def sem_disjunction : Sem1 := runB 2 2 b_disjunction
/-! ### value_key: 0=value -/
abbrev s_value_key : Stmt := topS 3
theorem sc_value_key : FnScope ["value"] ["value"] (defScope s_value_key) := ⟨rfl, rfl, rfl, by decide +kernel, rfl, by decide +kernel, by decide +kernel⟩
def b_value_key : MS :=
 (mSeq (mIf (mTB (mBin (gIs false) (mVar 0) (mC .non))) (mRet (mTup (maCons (mC (.int 0)) maNil))) mNx)
 (mSeq (mIf (mTru (mUn (gIsi "bool") (mVar 0))) (mRet (mTup (maCons (mC (.int 1)) (maCons (mUn gInt (mVar 0)) maNil)))) mNx)
 (mSeq (mIf (mTru (mUn (gIsi "int") (mVar 0))) (mRet (mTup (maCons (mC (.int 2)) (maCons (mVar 0) maNil)))) mNx)
 (mRet (mTup (maCons (mC (.int 3)) (maCons (mVar 0) maNil)))))))
def sem_value_key : Sem1 := runB 1 1 b_value_key
/-! ### compare: 0=operator 1=first 2=second 3=left 4=right -/
abbrev s_compare : Stmt := topS 9
theorem sc_compare : FnScope ["operator", "first", "second", "left", "right"] ["operator", "first", "second"] (defScope s_compare) := ⟨rfl, rfl, rfl, by decide +kernel, rfl, by decide +kernel, by decide +kernel⟩
def b_compare : MS :=
 (mSeq (mIf (mOrT (mTB (mBin (gIs false) (mVar 1) (mC .non))) (mTB (mBin (gIs false) (mVar 2) (mC .non)))) (mRet (mC .non)) mNx)
 (mSeq (mSet 3 (mCallP sem_value_key (lenIs 1 (maCons (mVar 1) maNil))))
 (mSeq (mSet 4 (mCallP sem_value_key (lenIs 1 (maCons (mVar 2) maNil))))
 (mSeq (mIf (mTB (mBin (gEq false) (mVar 0) (mC (.str "=")))) (mRet (mBin (gEq false) (mVar 3) (mVar 4))) mNx)
 (mSeq (mIf (mTB (mBin (gEq false) (mVar 0) (mC (.str "<>")))) (mRet (mBin (gEq true) (mVar 3) (mVar 4))) mNx)
 (mSeq (mIf (mTB (mBin (gEq false) (mVar 0) (mC (.str "<")))) (mRet (mBin (gOrdO .Lt) (mVar 3) (mVar 4))) mNx)
 (mSeq (mIf (mTB (mBin (gEq false) (mVar 0) (mC (.str "<=")))) (mRet (mBin (gOrdO .LtE) (mVar 3) (mVar 4))) mNx)
 (mSeq (mIf (mTB (mBin (gEq false) (mVar 0) (mC (.str ">")))) (mRet (mBin (gOrdO .Gt) (mVar 3) (mVar 4))) mNx)
 (mRet (mBin (gOrdO .GtE) (mVar 3) (mVar 4)))))))))))
def sem_compare : Sem1 := runB 3 5 b_compare
/-! ### combined: 0=operator 1=first 2=second -/
abbrev s_combined : Stmt := topS 33
theorem sc_combined : FnScope ["operator", "first", "second"] ["operator", "first", "second"] (defScope s_combined) := ⟨rfl, rfl, rfl, by decide +kernel, rfl, by decide +kernel, by decide +kernel⟩
def b_combined : MS :=
 (mSeq (mIf (mTB (mBin (gEq false) (mVar 0) (mC (.str "and")))) (mRet (mCallP sem_conjunction (lenIs 2 (maCons (mVar 1) (maCons (mVar 2) maNil))))) mNx)
 (mSeq (mIf (mTB (mBin (gEq false) (mVar 0) (mC (.str "or")))) (mRet (mCallP sem_disjunction (lenIs 2 (maCons (mVar 1) (maCons (mVar 2) maNil))))) mNx)
 (mSeq (mIf (mTB (mBin (g2V (inD false)) (mVar 0) (mC D_COMPARISONS))) (mRet (mCallP sem_compare (lenIs 3 (maCons (mVar 0) (maCons (mVar 1) (maCons (mVar 2) maNil)))))) mNx)
 (mRet (mCallP sem_arithmetic (lenIs 3 (maCons (mVar 0) (maCons (mVar 1) (maCons (mVar 2) maNil)))))))))
def sem_combined : Sem1 := runB 3 3 b_combined
/-! ### negation: 0=value -/
abbrev s_negation : Stmt := topS 10
theorem sc_negation : FnScope ["value"] ["value"] (defScope s_negation) := ⟨rfl, rfl, rfl, by decide +kernel, rfl, by decide +kernel, by decide +kernel⟩
def b_negation : MS :=
 (mSeq (mIf (mTB (mBin (gIs false) (mVar 0) (mC .non))) (mRet (mC .non)) mNx)
 (mRet (mNotV (mVar 0))))
def sem_negation : Sem1 := runB 1 1 b_negation
/-! ### same: 0=first 1=second -/
abbrev s_same : Stmt := topS 5
theorem sc_same : FnScope ["first", "second"] ["first", "second"] (defScope s_same) := ⟨rfl, rfl, rfl, by decide +kernel, rfl, by decide +kernel, by decide +kernel⟩
def b_same : MS :=
 (mRet (mBin (gEq false) (mCallP sem_value_key (lenIs 1 (maCons (mVar 0) maNil))) (mCallP sem_value_key (lenIs 1 (maCons (mVar 1) maNil)))))
def sem_same : Sem1 := runB 2 2 b_same
/-! ### is_among: 0=value 1=column 2=other -/
abbrev s_is_among : Stmt := topS 35
theorem sc_is_among : FnScope ["value", "column", "other"] ["value", "column"] (defScope s_is_among) := ⟨rfl, rfl, rfl, by decide +kernel, rfl, by decide +kernel, by decide +kernel⟩
def E1_is_among : E Tq.A :=
 (mCallP sem_same (lenIs 2 (maCons (mVar 0) (maCons (mVar 2) maNil))))
def C1_is_among : E Tq.A :=
 (mLC false (mItems (mVar 1)) (mgName 2) mYes E1_is_among [2])
def E2_is_among : E Tq.A :=
 (mBin (gIs false) (mVar 2) (mC .non))
def C2_is_among : E Tq.A :=
 (mLC false (mItems (mVar 1)) (mgName 2) mYes E2_is_among [2])
def b_is_among : MS :=
 (mSeq (mIf (mTB (mBin (gEq false) (mUn gLen (mVar 1)) (mC (.int 0)))) (mRet (mC (.bl false))) mNx)
 (mSeq (mIf (mTB (mBin (gIs false) (mVar 0) (mC .non))) (mRet (mC .non)) mNx)
 (mSeq (mIf (mTru (mUn gAny C1_is_among)) (mRet (mC (.bl true))) mNx)
 (mSeq (mIf (mTru (mUn gAny C2_is_among)) (mRet (mC .non)) mNx)
 (mRet (mC (.bl false)))))))
def sem_is_among : Sem1 := runB 2 3 b_is_among
/-! ### operands: 0=node 1=form -/
abbrev s_operands : Stmt := topS 25
theorem sc_operands : FnScope ["node", "form"] ["node"] (defScope s_operands) := ⟨rfl, rfl, rfl, by decide +kernel, rfl, by decide +kernel, by decide +kernel⟩
def b_operands : MS :=
 (mSeq (mSet 1 (mBin gGet (mVar 0) (mC (.int 0))))
 (mSeq (mIf (mTB (mBin (g2V (inD false)) (mVar 1) (mTup (maCons (mC (.str "not")) (maCons (mC (.str "negate")) (maCons (mC (.str "is_null")) (maCons (mC (.str "in_query")) maNil))))))) (mRet (mLst false (maCons (mBin gGet (mVar 0) (mC (.int 1))) maNil))) mNx)
 (mSeq (mIf (mTB (mBin (gEq false) (mVar 1) (mC (.str "binary")))) (mRet (mLst false (maCons (mBin gGet (mVar 0) (mC (.int 2))) (maCons (mBin gGet (mVar 0) (mC (.int 3))) maNil)))) mNx)
 (mSeq (mIf (mTB (mBin (gEq false) (mVar 1) (mC (.str "in_list")))) (mRet (mLst false (maCons (mBin gGet (mVar 0) (mC (.int 1))) (maStar (mBin gGet (mVar 0) (mC (.int 2))) maNil)))) mNx)
 (mSeq (mIf (mTB (mBin (gEq false) (mVar 1) (mC (.str "case")))) (mRet (mLst false (maCons (mBin gGet (mVar 0) (mC (.int 1))) (maCons (mBin gGet (mVar 0) (mC (.int 2))) (maCons (mBin gGet (mVar 0) (mC (.int 3))) maNil))))) mNx)
 (mSeq (mIf (mTB (mBin (gEq false) (mVar 1) (mC (.str "aggregate")))) (mRet (mLst false (maCons (mBin gGet (mVar 0) (mC (.int 2))) maNil))) mNx)
 (mRet (mLst false maNil))))))))
def sem_operands : Sem1 := runB 1 2 b_operands
/-! ### has_aggregate: 0=node 1=part -/
abbrev s_has_aggregate : Stmt := topS 26
theorem sc_has_aggregate : FnScope ["node", "part"] ["node"] (defScope s_has_aggregate) := ⟨rfl, rfl, rfl, by decide +kernel, rfl, by decide +kernel, by decide +kernel⟩
def E1_has_aggregate (sem : Sem1) : E Tq.A :=
 (mCallP (sem) (lenIs 1 (maCons (mVar 1) maNil)))
def C1_has_aggregate (sem : Sem1) : E Tq.A :=
 (mLC false (mItems (mCallP sem_operands (lenIs 1 (maCons (mVar 0) maNil)))) (mgName 1) mYes (E1_has_aggregate sem) [1])
def b_has_aggregate (sem : Sem1) : MS :=
 (mSeq (mIf (mTB (mBin (g2V (inD false)) (mBin gGet (mVar 0) (mC (.int 0))) (mTup (maCons (mC (.str "count_all")) (maCons (mC (.str "aggregate")) maNil))))) (mRet (mC (.bl true))) mNx)
 (mRet (mUn gAny (C1_has_aggregate sem))))
def sem_has_aggregate : Nat → Sem1
  | 0 => fun _ _ => none
  | n + 1 => runB 1 2 (b_has_aggregate (sem_has_aggregate n))
/-! ### is_grouping: 0=select 1=item -/
abbrev s_is_grouping : Stmt := topS 27
theorem sc_is_grouping : FnScope ["select", "item"] ["select"] (defScope s_is_grouping) := ⟨rfl, rfl, rfl, by decide +kernel, rfl, by decide +kernel, by decide +kernel⟩
def E1_is_grouping : E Tq.A :=
 (mCallP (sem_has_aggregate 8) (lenIs 1 (maCons (mBin gGet (mVar 1) (mC (.int 0))) maNil)))
def C1_is_grouping : E Tq.A :=
 (mLC false (mItems (mBin gGet (mVar 0) (mC (.int 2)))) (mgName 1) mYes E1_is_grouping [1])
def b_is_grouping : MS :=
 (mSeq (mIf (mOrT (mTB (mBin (gIs true) (mBin gGet (mVar 0) (mC (.int 5))) (mC .non))) (mTB (mBin (gIs true) (mBin gGet (mVar 0) (mC (.int 6))) (mC .non)))) (mRet (mC (.bl true))) mNx)
 (mRet (mAndV (mBin (gIs true) (mBin gGet (mVar 0) (mC (.int 2))) (mC .non)) (mUn gAny C1_is_grouping))))
def sem_is_grouping : Sem1 := runB 1 2 b_is_grouping
/-! ### own_index: 0=columns 1=node 2=found -/
abbrev s_own_index : Stmt := topS 23
theorem sc_own_index : FnScope ["columns", "node", "found"] ["columns", "node"] (defScope s_own_index) := ⟨rfl, rfl, rfl, by decide +kernel, rfl, by decide +kernel, by decide +kernel⟩
def b_own_index : MS :=
 (mSeq (mIf (mTB (mBin (gEq true) (mBin gGet (mVar 1) (mC (.int 0))) (mC (.str "column")))) (mRet (mC .non)) mNx)
 (mSeq (mSet 2 (mCallP sem_named (lenIs 3 (maCons (mVar 0) (maCons (mBin gGet (mVar 1) (mC (.int 1))) (maCons (mBin gGet (mVar 1) (mC (.int 2))) maNil))))))
 (mSeq (mIf (mTB (mBin (gEq false) (mUn gLen (mVar 2)) (mC (.int 1)))) (mRet (mBin gGet (mVar 2) (mC (.int 0)))) mNx)
 (mRet (mC .non)))))
def sem_own_index : Sem1 := runB 2 3 b_own_index
/-! ### row_key: 0=row 1=parts 2=value -/
abbrev s_row_key : Stmt := topS 4
theorem sc_row_key : FnScope ["row", "parts", "value"] ["row"] (defScope s_row_key) := ⟨rfl, rfl, rfl, by decide +kernel, rfl, by decide +kernel, by decide +kernel⟩
def B1_row_key : MS :=
 (mDrop (mM1 tokL gExt (mVar 1) (mCallP sem_value_key (lenIs 1 (maCons (mVar 2) maNil)))))
def L1_row_key : MS :=
 (mFor (mItems (mVar 0)) (mgName 2) B1_row_key)
def b_row_key : MS :=
 (mSeq (mSet 1 (mLst true maNil))
 (mSeq L1_row_key
 (mRet (mUn gTupOf (mVar 1)))))
def sem_row_key : Sem1 := runB 1 3 b_row_key
/-! ### grouped_frames: 0=select 1=columns 2=rows 3=outer 4=first 5=indexes 6=node 7=groups 8=row 9=index 10=members -/
abbrev s_grouped_frames : Stmt := topS 41
theorem sc_grouped_frames : FnScope ["select", "columns", "rows", "outer", "first", "indexes", "node", "groups", "row", "index", "members"] ["select", "columns", "rows", "outer"] (defScope s_grouped_frames) := ⟨rfl, rfl, rfl, by decide +kernel, rfl, by decide +kernel, by decide +kernel⟩
def E1_grouped_frames : E Tq.A :=
 (mCallP sem_own_index (lenIs 2 (maCons (mVar 1) (maCons (mVar 6) maNil))))
def C1_grouped_frames : E Tq.A :=
 (mLC false (mItems (mBin gGet (mVar 0) (mC (.int 5)))) (mgName 6) mYes E1_grouped_frames [6])
def B1_grouped_frames : MS :=
 mNoS
def L1_grouped_frames : MS :=
 (mFor (mItems (mVar 2)) (mgName 8) B1_grouped_frames)
def b_grouped_frames : MS :=
 (mSeq (mIf (mTB (mBin (gIs false) (mBin gGet (mVar 0) (mC (.int 5))) (mC .non))) (mSeq (mSet 4 (mTup maNil))
 (mSeq (mIf (mTB (mBin gGt (mUn gLen (mVar 2)) (mC (.int 0)))) (mSet 4 (mBin gGet (mVar 2) (mC (.int 0)))) mNx)
 (mRet (mLst false (maCons (mMakeP "Frame" 5 sem_Frame____init__ (maCons (mVar 1) (maCons (mVar 4) (maCons (mVar 2) (maCons (mVar 3) maNil))))) maNil))))) mNx)
 (mSeq (mSet 5 C1_grouped_frames)
 (mSeq (mSet 7 (mDict0 false))
 (mSeq L1_grouped_frames
 mNoS))))
def sem_grouped_frames : Sem1 := runB 4 11 b_grouped_frames
/-! ### item_name: 0=item 1=expression 2=name -/
abbrev s_item_name : Stmt := topS 28
theorem sc_item_name : FnScope ["item", "expression", "name"] ["item"] (defScope s_item_name) := ⟨rfl, rfl, rfl, by decide +kernel, rfl, by decide +kernel, by decide +kernel⟩
def b_item_name : MS :=
 (mSeq (mAsg (mgTup 2 (mgCons (mgName 1) (mgCons (mgName 2) mgNil))) (mVar 0))
 (mSeq (mIf (mTB (mBin (gIs true) (mVar 2) (mC .non))) (mRet (mVar 2)) mNx)
 (mSeq (mIf (mTB (mBin (gEq false) (mBin gGet (mVar 1) (mC (.int 0))) (mC (.str "column")))) (mRet (mBin gGet (mVar 1) (mC (.int 2)))) mNx)
 (mRet (mC (.str ""))))))
def sem_item_name : Sem1 := runB 1 3 b_item_name
/-! ### without_repeats: 0=rows 1=found 2=row -/
abbrev s_without_repeats : Stmt := topS 38
theorem sc_without_repeats : FnScope ["rows", "found", "row"] ["rows"] (defScope s_without_repeats) := ⟨rfl, rfl, rfl, by decide +kernel, rfl, by decide +kernel, by decide +kernel⟩
def B1_without_repeats : MS :=
 mNoS
def L1_without_repeats : MS :=
 (mFor (mItems (mVar 0)) (mgName 2) B1_without_repeats)
def b_without_repeats : MS :=
 (mSeq (mSet 1 (mDict0 false))
 (mSeq L1_without_repeats
 mNoS))
def sem_without_repeats : Sem1 := runB 1 3 b_without_repeats
/-! ### result_of: 0=query 1=outer 2=world 3=names 4=first 5=second 6=there 7=row 8=wanted -/
abbrev s_result_of : Stmt := topS 44
theorem sc_result_of : FnScope ["query", "outer", "world", "names", "first", "second", "there", "row", "wanted"] ["query", "outer", "world"] (defScope s_result_of) := ⟨rfl, rfl, rfl, by decide +kernel, rfl, by decide +kernel, by decide +kernel⟩
def b_result_of (r_result_of r_select_result r_source_result r_kept_frames r_value_of r_membership r_aggregate r_made_row : Sem1) : MS :=
 (mSeq (mIf (mTB (mBin (gEq false) (mBin gGet (mVar 0) (mC (.int 0))) (mC (.str "select")))) (mRet (mCallP (r_select_result) (lenIs 3 (maCons (mVar 0) (maCons (mVar 1) (maCons (mVar 2) maNil)))))) mNx)
 (mSeq (mAsg (mgTup 2 (mgCons (mgName 3) (mgCons (mgName 4) mgNil))) (mCallP (r_result_of) (lenIs 3 (maCons (mBin gGet (mVar 0) (mC (.int 2))) (maCons (mVar 1) (maCons (mVar 2) maNil))))))
 (mSeq (mSet 5 (mBin gGet (mCallP (r_result_of) (lenIs 3 (maCons (mBin gGet (mVar 0) (mC (.int 3))) (maCons (mVar 1) (maCons (mVar 2) maNil))))) (mC (.int 1))))
 (mSeq (mIf (mTB (mBin (gEq false) (mBin gGet (mVar 0) (mC (.int 1))) (mC (.str "union all")))) (mRet (mTup (maCons (mVar 3) (maCons (mBin (gAdd false) (mVar 4) (mVar 5)) maNil)))) mNx)
 (mSeq (mIf (mTB (mBin (gEq false) (mBin gGet (mVar 0) (mC (.int 1))) (mC (.str "union")))) (mRet (mTup (maCons (mVar 3) (maCons (mCallP sem_without_repeats (lenIs 1 (maCons (mBin (gAdd false) (mVar 4) (mVar 5)) maNil))) maNil)))) mNx)
 mNoS)))))
/-! ### select_result: 0=select 1=outer 2=world 3=columns 4=rows 5=frames 6=row 7=frame 8=names 9=column 10=made 11=item -/
abbrev s_select_result : Stmt := topS 42
theorem sc_select_result : FnScope ["select", "outer", "world", "columns", "rows", "frames", "row", "frame", "names", "column", "made", "item"] ["select", "outer", "world"] (defScope s_select_result) := ⟨rfl, rfl, rfl, by decide +kernel, rfl, by decide +kernel, by decide +kernel⟩
def E1_select_result (r_result_of r_select_result r_source_result r_kept_frames r_value_of r_membership r_aggregate r_made_row : Sem1) : E Tq.A :=
 (mMakeP "Frame" 5 sem_Frame____init__ (maCons (mVar 3) (maCons (mVar 6) (maCons (mC .non) (maCons (mVar 1) maNil)))))
def C1_select_result (r_result_of r_select_result r_source_result r_kept_frames r_value_of r_membership r_aggregate r_made_row : Sem1) : E Tq.A :=
 (mLC false (mItems (mVar 4)) (mgName 6) mYes (E1_select_result r_result_of r_select_result r_source_result r_kept_frames r_value_of r_membership r_aggregate r_made_row) [6])
def E2_select_result (r_result_of r_select_result r_source_result r_kept_frames r_value_of r_membership r_aggregate r_made_row : Sem1) : E Tq.A :=
 (mUn (gFld FT "row") (mVar 7))
def C2_select_result (r_result_of r_select_result r_source_result r_kept_frames r_value_of r_membership r_aggregate r_made_row : Sem1) : E Tq.A :=
 (mLC false (mItems (mVar 5)) (mgName 7) mYes (E2_select_result r_result_of r_select_result r_source_result r_kept_frames r_value_of r_membership r_aggregate r_made_row) [7])
def E3_select_result (r_result_of r_select_result r_source_result r_kept_frames r_value_of r_membership r_aggregate r_made_row : Sem1) : E Tq.A :=
 (mBin gGet (mVar 9) (mC (.int 1)))
def C3_select_result (r_result_of r_select_result r_source_result r_kept_frames r_value_of r_membership r_aggregate r_made_row : Sem1) : E Tq.A :=
 (mLC false (mItems (mVar 3)) (mgName 9) mYes (E3_select_result r_result_of r_select_result r_source_result r_kept_frames r_value_of r_membership r_aggregate r_made_row) [9])
def E4_select_result (r_result_of r_select_result r_source_result r_kept_frames r_value_of r_membership r_aggregate r_made_row : Sem1) : E Tq.A :=
 (mUn (gFld FT "row") (mVar 7))
def C4_select_result (r_result_of r_select_result r_source_result r_kept_frames r_value_of r_membership r_aggregate r_made_row : Sem1) : E Tq.A :=
 (mLC false (mItems (mVar 5)) (mgName 7) mYes (E4_select_result r_result_of r_select_result r_source_result r_kept_frames r_value_of r_membership r_aggregate r_made_row) [7])
def E5_select_result (r_result_of r_select_result r_source_result r_kept_frames r_value_of r_membership r_aggregate r_made_row : Sem1) : E Tq.A :=
 (mCallP sem_item_name (lenIs 1 (maCons (mVar 11) maNil)))
def C5_select_result (r_result_of r_select_result r_source_result r_kept_frames r_value_of r_membership r_aggregate r_made_row : Sem1) : E Tq.A :=
 (mLC false (mItems (mBin gGet (mVar 0) (mC (.int 2)))) (mgName 11) mYes (E5_select_result r_result_of r_select_result r_source_result r_kept_frames r_value_of r_membership r_aggregate r_made_row) [11])
def E6_select_result (r_result_of r_select_result r_source_result r_kept_frames r_value_of r_membership r_aggregate r_made_row : Sem1) : E Tq.A :=
 (mCallP (r_made_row) (lenIs 3 (maCons (mBin gGet (mVar 0) (mC (.int 2))) (maCons (mVar 7) (maCons (mVar 2) maNil)))))
def C6_select_result (r_result_of r_select_result r_source_result r_kept_frames r_value_of r_membership r_aggregate r_made_row : Sem1) : E Tq.A :=
 (mLC false (mItems (mVar 5)) (mgName 7) mYes (E6_select_result r_result_of r_select_result r_source_result r_kept_frames r_value_of r_membership r_aggregate r_made_row) [7])
def b_select_result (r_result_of r_select_result r_source_result r_kept_frames r_value_of r_membership r_aggregate r_made_row : Sem1) : MS :=
 (mSeq (mSet 3 (mLst false maNil))
 (mSeq (mSet 4 (mLst false (maCons (mTup maNil) maNil)))
 (mSeq (mIf (mTB (mBin (gIs true) (mBin gGet (mVar 0) (mC (.int 3))) (mC .non))) (mAsg (mgTup 2 (mgCons (mgName 3) (mgCons (mgName 4) mgNil))) (mCallP (r_source_result) (lenIs 3 (maCons (mBin gGet (mVar 0) (mC (.int 3))) (maCons (mVar 1) (maCons (mVar 2) maNil)))))) mNx)
 (mSeq (mSet 5 (mCallP (r_kept_frames) (lenIs 3 (maCons (mBin gGet (mVar 0) (mC (.int 4))) (maCons (C1_select_result r_result_of r_select_result r_source_result r_kept_frames r_value_of r_membership r_aggregate r_made_row) (maCons (mVar 2) maNil))))))
 (mSeq (mIf (mTru (mCallP sem_is_grouping (lenIs 1 (maCons (mVar 0) maNil)))) (mSet 5 (mCallP sem_grouped_frames (lenIs 4 (maCons (mVar 0) (maCons (mVar 3) (maCons (C2_select_result r_result_of r_select_result r_source_result r_kept_frames r_value_of r_membership r_aggregate r_made_row) (maCons (mVar 1) maNil))))))) mNx)
 (mSeq (mSet 5 (mCallP (r_kept_frames) (lenIs 3 (maCons (mBin gGet (mVar 0) (mC (.int 6))) (maCons (mVar 5) (maCons (mVar 2) maNil))))))
 (mSeq (mIf (mTB (mBin (gIs false) (mBin gGet (mVar 0) (mC (.int 2))) (mC .non))) (mSeq (mSet 8 (C3_select_result r_result_of r_select_result r_source_result r_kept_frames r_value_of r_membership r_aggregate r_made_row))
 (mSet 10 (C4_select_result r_result_of r_select_result r_source_result r_kept_frames r_value_of r_membership r_aggregate r_made_row))) (mSeq (mSet 8 (C5_select_result r_result_of r_select_result r_source_result r_kept_frames r_value_of r_membership r_aggregate r_made_row))
 (mSet 10 (C6_select_result r_result_of r_select_result r_source_result r_kept_frames r_value_of r_membership r_aggregate r_made_row))))
 (mSeq (mIf (mTru (mBin gGet (mVar 0) (mC (.int 1)))) (mSet 10 (mCallP sem_without_repeats (lenIs 1 (maCons (mVar 10) maNil)))) mNx)
 (mRet (mTup (maCons (mVar 8) (maCons (mVar 10) maNil))))))))))))
/-! ### source_result: 0=source 1=outer 2=world 3=names 4=rows 5=name 6=left 7=left_rows 8=right 9=right_rows 10=columns 11=joined 12=row 13=frames 14=other 15=matches 16=frame 17=_ -/
abbrev s_source_result : Stmt := topS 40
theorem sc_source_result : FnScope ["source", "outer", "world", "names", "rows", "name", "left", "left_rows", "right", "right_rows", "columns", "joined", "row", "frames", "other", "matches", "frame", "_"] ["source", "outer", "world"] (defScope s_source_result) := ⟨rfl, rfl, rfl, by decide +kernel, rfl, by decide +kernel, by decide +kernel⟩
def E1_source_result (r_result_of r_select_result r_source_result r_kept_frames r_value_of r_membership r_aggregate r_made_row : Sem1) : E Tq.A :=
 (mTup (maCons (mBin gGet (mVar 0) (mC (.int 2))) (maCons (mVar 5) maNil)))
def C1_source_result (r_result_of r_select_result r_source_result r_kept_frames r_value_of r_membership r_aggregate r_made_row : Sem1) : E Tq.A :=
 (mLC false (mItems (mVar 3)) (mgName 5) mYes (E1_source_result r_result_of r_select_result r_source_result r_kept_frames r_value_of r_membership r_aggregate r_made_row) [5])
def E2_source_result (r_result_of r_select_result r_source_result r_kept_frames r_value_of r_membership r_aggregate r_made_row : Sem1) : E Tq.A :=
 (mMakeP "Frame" 5 sem_Frame____init__ (maCons (mVar 10) (maCons (mBin (gAdd false) (mVar 12) (mVar 14)) (maCons (mC .non) (maCons (mVar 1) maNil)))))
def C2_source_result (r_result_of r_select_result r_source_result r_kept_frames r_value_of r_membership r_aggregate r_made_row : Sem1) : E Tq.A :=
 (mLC false (mItems (mVar 9)) (mgName 14) mYes (E2_source_result r_result_of r_select_result r_source_result r_kept_frames r_value_of r_membership r_aggregate r_made_row) [14])
def E3_source_result (r_result_of r_select_result r_source_result r_kept_frames r_value_of r_membership r_aggregate r_made_row : Sem1) : E Tq.A :=
 (mUn (gFld FT "row") (mVar 16))
def C3_source_result (r_result_of r_select_result r_source_result r_kept_frames r_value_of r_membership r_aggregate r_made_row : Sem1) : E Tq.A :=
 (mLC false (mItems (mCallP (r_kept_frames) (lenIs 3 (maCons (mBin gGet (mVar 0) (mC (.int 3))) (maCons (mVar 13) (maCons (mVar 2) maNil)))))) (mgName 16) mYes (E3_source_result r_result_of r_select_result r_source_result r_kept_frames r_value_of r_membership r_aggregate r_made_row) [16])
def E4_source_result (r_result_of r_select_result r_source_result r_kept_frames r_value_of r_membership r_aggregate r_made_row : Sem1) : E Tq.A :=
 (mC .non)
def C4_source_result (r_result_of r_select_result r_source_result r_kept_frames r_value_of r_membership r_aggregate r_made_row : Sem1) : E Tq.A :=
 (mLC false (mItems (mVar 8)) (mgName 17) mYes (E4_source_result r_result_of r_select_result r_source_result r_kept_frames r_value_of r_membership r_aggregate r_made_row) [17])
def B1_source_result (r_result_of r_select_result r_source_result r_kept_frames r_value_of r_membership r_aggregate r_made_row : Sem1) : MS :=
 (mSeq (mSet 13 (C2_source_result r_result_of r_select_result r_source_result r_kept_frames r_value_of r_membership r_aggregate r_made_row))
 (mSeq (mSet 15 (C3_source_result r_result_of r_select_result r_source_result r_kept_frames r_value_of r_membership r_aggregate r_made_row))
 (mSeq (mIf (mAndT (mTru (mBin gGet (mVar 0) (mC (.int 4)))) (mTB (mBin (gEq false) (mUn gLen (mVar 15)) (mC (.int 0))))) (mSet 15 (mLst false (maCons (mBin (gAdd false) (mVar 12) (mUn gTupOf (C4_source_result r_result_of r_select_result r_source_result r_kept_frames r_value_of r_membership r_aggregate r_made_row))) maNil))) mNx)
 (mDrop (mM1 tokL gExt (mVar 11) (mVar 15))))))
def L1_source_result (r_result_of r_select_result r_source_result r_kept_frames r_value_of r_membership r_aggregate r_made_row : Sem1) : MS :=
 (mFor (mItems (mVar 7)) (mgName 12) (B1_source_result r_result_of r_select_result r_source_result r_kept_frames r_value_of r_membership r_aggregate r_made_row))
def b_source_result (r_result_of r_select_result r_source_result r_kept_frames r_value_of r_membership r_aggregate r_made_row : Sem1) : MS :=
 (mSeq (mIf (mTB (mBin (gEq false) (mBin gGet (mVar 0) (mC (.int 0))) (mC (.str "table")))) (mRet (mCallP sem_table_result (lenIs 2 (maCons (mVar 0) (maCons (mVar 2) maNil))))) mNx)
 (mSeq (mIf (mTB (mBin (gEq false) (mBin gGet (mVar 0) (mC (.int 0))) (mC (.str "subquery")))) (mSeq (mAsg (mgTup 2 (mgCons (mgName 3) (mgCons (mgName 4) mgNil))) (mCallP (r_result_of) (lenIs 3 (maCons (mBin gGet (mVar 0) (mC (.int 1))) (maCons (mVar 1) (maCons (mVar 2) maNil))))))
 (mRet (mTup (maCons (C1_source_result r_result_of r_select_result r_source_result r_kept_frames r_value_of r_membership r_aggregate r_made_row) (maCons (mVar 4) maNil))))) mNx)
 (mSeq (mAsg (mgTup 2 (mgCons (mgName 6) (mgCons (mgName 7) mgNil))) (mCallP (r_source_result) (lenIs 3 (maCons (mBin gGet (mVar 0) (mC (.int 1))) (maCons (mVar 1) (maCons (mVar 2) maNil))))))
 (mSeq (mAsg (mgTup 2 (mgCons (mgName 8) (mgCons (mgName 9) mgNil))) (mCallP (r_source_result) (lenIs 3 (maCons (mBin gGet (mVar 0) (mC (.int 2))) (maCons (mVar 1) (maCons (mVar 2) maNil))))))
 (mSeq (mSet 10 (mBin (gAdd false) (mVar 6) (mVar 8)))
 (mSeq (mSet 11 (mLst true maNil))
 (mSeq (L1_source_result r_result_of r_select_result r_source_result r_kept_frames r_value_of r_membership r_aggregate r_made_row)
 (mRet (mTup (maCons (mVar 10) (maCons (mVar 11) maNil)))))))))))
/-! ### kept_frames: 0=condition 1=frames 2=world 3=frame -/
abbrev s_kept_frames : Stmt := topS 37
theorem sc_kept_frames : FnScope ["condition", "frames", "world", "frame"] ["condition", "frames", "world"] (defScope s_kept_frames) := ⟨rfl, rfl, rfl, by decide +kernel, rfl, by decide +kernel, by decide +kernel⟩
def E1_kept_frames (r_result_of r_select_result r_source_result r_kept_frames r_value_of r_membership r_aggregate r_made_row : Sem1) : E Tq.A :=
 (mVar 3)
def T1_kept_frames (r_result_of r_select_result r_source_result r_kept_frames r_value_of r_membership r_aggregate r_made_row : Sem1) : E Bool :=
 (mTB (mBin (gIs false) (mCallP (r_value_of) (lenIs 3 (maCons (mVar 0) (maCons (mVar 3) (maCons (mVar 2) maNil))))) (mC (.bl true))))
def C1_kept_frames (r_result_of r_select_result r_source_result r_kept_frames r_value_of r_membership r_aggregate r_made_row : Sem1) : E Tq.A :=
 (mLC false (mItems (mVar 1)) (mgName 3) (T1_kept_frames r_result_of r_select_result r_source_result r_kept_frames r_value_of r_membership r_aggregate r_made_row) (E1_kept_frames r_result_of r_select_result r_source_result r_kept_frames r_value_of r_membership r_aggregate r_made_row) [3])
def b_kept_frames (r_result_of r_select_result r_source_result r_kept_frames r_value_of r_membership r_aggregate r_made_row : Sem1) : MS :=
 (mSeq (mIf (mTB (mBin (gIs false) (mVar 0) (mC .non))) (mRet (mVar 1)) mNx)
 (mRet (C1_kept_frames r_result_of r_select_result r_source_result r_kept_frames r_value_of r_membership r_aggregate r_made_row)))
/-! ### value_of: 0=node 1=frame 2=world 3=form 4=found 5=index -/
abbrev s_value_of : Stmt := topS 32
theorem sc_value_of : FnScope ["node", "frame", "world", "form", "found", "index"] ["node", "frame", "world"] (defScope s_value_of) := ⟨rfl, rfl, rfl, by decide +kernel, rfl, by decide +kernel, by decide +kernel⟩
def b_value_of (r_result_of r_select_result r_source_result r_kept_frames r_value_of r_membership r_aggregate r_made_row : Sem1) : MS :=
 (mSeq (mSet 3 (mBin gGet (mVar 0) (mC (.int 0))))
 (mSeq (mIf (mTB (mBin (gEq false) (mVar 3) (mC (.str "literal")))) (mRet (mBin gGet (mVar 0) (mC (.int 1)))) mNx)
 (mSeq (mIf (mTB (mBin (gEq false) (mVar 3) (mC (.str "parameter")))) (mRet (mBin gGet (mUn (gFld FT "parameters") (mVar 2)) (mBin gSub (mBin gGet (mVar 0) (mC (.int 1))) (mC (.int 1))))) mNx)
 (mSeq (mIf (mTB (mBin (gEq false) (mVar 3) (mC (.str "column")))) (mSeq (mAsg (mgTup 2 (mgCons (mgName 4) (mgCons (mgName 5) mgNil))) (mCallP sem_locate (lenIs 3 (maCons (mVar 1) (maCons (mBin gGet (mVar 0) (mC (.int 1))) (maCons (mBin gGet (mVar 0) (mC (.int 2))) maNil))))))
 (mRet (mBin gGet (mUn (gFld FT "row") (mVar 4)) (mVar 5)))) mNx)
 (mSeq (mIf (mTB (mBin (gEq false) (mVar 3) (mC (.str "binary")))) (mRet (mCallP sem_combined (lenIs 3 (maCons (mBin gGet (mVar 0) (mC (.int 1))) (maCons (mCallP (r_value_of) (lenIs 3 (maCons (mBin gGet (mVar 0) (mC (.int 2))) (maCons (mVar 1) (maCons (mVar 2) maNil))))) (maCons (mCallP (r_value_of) (lenIs 3 (maCons (mBin gGet (mVar 0) (mC (.int 3))) (maCons (mVar 1) (maCons (mVar 2) maNil))))) maNil)))))) mNx)
 (mSeq (mIf (mTB (mBin (gEq false) (mVar 3) (mC (.str "not")))) (mRet (mCallP sem_negation (lenIs 1 (maCons (mCallP (r_value_of) (lenIs 3 (maCons (mBin gGet (mVar 0) (mC (.int 1))) (maCons (mVar 1) (maCons (mVar 2) maNil))))) maNil)))) mNx)
 (mSeq (mIf (mTB (mBin (gEq false) (mVar 3) (mC (.str "negate")))) (mRet (mCallP sem_arithmetic (lenIs 3 (maCons (mC (.str "-")) (maCons (mC (.int 0)) (maCons (mCallP (r_value_of) (lenIs 3 (maCons (mBin gGet (mVar 0) (mC (.int 1))) (maCons (mVar 1) (maCons (mVar 2) maNil))))) maNil)))))) mNx)
 (mSeq (mIf (mTB (mBin (gEq false) (mVar 3) (mC (.str "is_null")))) (mRet (mBin (gEq true) (mBin (gIs false) (mCallP (r_value_of) (lenIs 3 (maCons (mBin gGet (mVar 0) (mC (.int 1))) (maCons (mVar 1) (maCons (mVar 2) maNil))))) (mC .non)) (mBin gGet (mVar 0) (mC (.int 2))))) mNx)
 (mSeq (mIf (mTB (mBin (g2V (inD false)) (mVar 3) (mTup (maCons (mC (.str "in_list")) (maCons (mC (.str "in_query")) maNil))))) (mRet (mCallP (r_membership) (lenIs 3 (maCons (mVar 0) (maCons (mVar 1) (maCons (mVar 2) maNil)))))) mNx)
 (mSeq (mIf (mTB (mBin (gEq false) (mVar 3) (mC (.str "exists")))) (mRet (mBin gGt (mUn gLen (mBin gGet (mCallP (r_result_of) (lenIs 3 (maCons (mBin gGet (mVar 0) (mC (.int 1))) (maCons (mVar 1) (maCons (mVar 2) maNil))))) (mC (.int 1)))) (mC (.int 0)))) mNx)
 (mSeq (mIf (mTB (mBin (gEq false) (mVar 3) (mC (.str "scalar")))) (mRet (mBin gGet (mBin gGet (mBin gGet (mCallP (r_result_of) (lenIs 3 (maCons (mBin gGet (mVar 0) (mC (.int 1))) (maCons (mVar 1) (maCons (mVar 2) maNil))))) (mC (.int 1))) (mC (.int 0))) (mC (.int 0)))) mNx)
 (mSeq (mIf (mTB (mBin (gEq false) (mVar 3) (mC (.str "case")))) (mSeq (mIf (mTB (mBin (gIs false) (mCallP (r_value_of) (lenIs 3 (maCons (mBin gGet (mVar 0) (mC (.int 1))) (maCons (mVar 1) (maCons (mVar 2) maNil))))) (mC (.bl true)))) (mRet (mCallP (r_value_of) (lenIs 3 (maCons (mBin gGet (mVar 0) (mC (.int 2))) (maCons (mVar 1) (maCons (mVar 2) maNil)))))) mNx)
 (mRet (mCallP (r_value_of) (lenIs 3 (maCons (mBin gGet (mVar 0) (mC (.int 3))) (maCons (mVar 1) (maCons (mVar 2) maNil))))))) mNx)
 (mRet (mCallP (r_aggregate) (lenIs 3 (maCons (mVar 0) (maCons (mVar 1) (maCons (mVar 2) maNil))))))))))))))))))
/-! ### membership: 0=node 1=frame 2=world 3=value 4=found 5=item 6=row -/
abbrev s_membership : Stmt := topS 34
theorem sc_membership : FnScope ["node", "frame", "world", "value", "found", "item", "row"] ["node", "frame", "world"] (defScope s_membership) := ⟨rfl, rfl, rfl, by decide +kernel, rfl, by decide +kernel, by decide +kernel⟩
def B1_membership (r_result_of r_select_result r_source_result r_kept_frames r_value_of r_membership r_aggregate r_made_row : Sem1) : MS :=
 (mSet 4 (mCallP sem_disjunction (lenIs 2 (maCons (mVar 4) (maCons (mCallP sem_compare (lenIs 3 (maCons (mC (.str "=")) (maCons (mVar 3) (maCons (mCallP (r_value_of) (lenIs 3 (maCons (mVar 5) (maCons (mVar 1) (maCons (mVar 2) maNil))))) maNil))))) maNil)))))
def L1_membership (r_result_of r_select_result r_source_result r_kept_frames r_value_of r_membership r_aggregate r_made_row : Sem1) : MS :=
 (mFor (mItems (mBin gGet (mVar 0) (mC (.int 2)))) (mgName 5) (B1_membership r_result_of r_select_result r_source_result r_kept_frames r_value_of r_membership r_aggregate r_made_row))
def E1_membership (r_result_of r_select_result r_source_result r_kept_frames r_value_of r_membership r_aggregate r_made_row : Sem1) : E Tq.A :=
 (mBin gGet (mVar 6) (mC (.int 0)))
def C1_membership (r_result_of r_select_result r_source_result r_kept_frames r_value_of r_membership r_aggregate r_made_row : Sem1) : E Tq.A :=
 (mLC false (mItems (mBin gGet (mCallP (r_result_of) (lenIs 3 (maCons (mBin gGet (mVar 0) (mC (.int 2))) (maCons (mVar 1) (maCons (mVar 2) maNil))))) (mC (.int 1)))) (mgName 6) mYes (E1_membership r_result_of r_select_result r_source_result r_kept_frames r_value_of r_membership r_aggregate r_made_row) [6])
def b_membership (r_result_of r_select_result r_source_result r_kept_frames r_value_of r_membership r_aggregate r_made_row : Sem1) : MS :=
 (mSeq (mSet 3 (mCallP (r_value_of) (lenIs 3 (maCons (mBin gGet (mVar 0) (mC (.int 1))) (maCons (mVar 1) (maCons (mVar 2) maNil))))))
 (mSeq (mIf (mTB (mBin (gEq false) (mBin gGet (mVar 0) (mC (.int 0))) (mC (.str "in_list")))) (mSeq (mSet 4 (mC (.bl false)))
 (L1_membership r_result_of r_select_result r_source_result r_kept_frames r_value_of r_membership r_aggregate r_made_row)) (mSet 4 (mCallP sem_is_among (lenIs 2 (maCons (mVar 3) (maCons (C1_membership r_result_of r_select_result r_source_result r_kept_frames r_value_of r_membership r_aggregate r_made_row) maNil))))))
 (mSeq (mIf (mTru (mBin gGet (mVar 0) (mC (.int 3)))) (mRet (mCallP sem_negation (lenIs 1 (maCons (mVar 4) maNil)))) mNx)
 (mRet (mVar 4)))))
/-! ### aggregate: 0=node 1=frame 2=world 3=values 4=row 5=value -/
abbrev s_aggregate : Stmt := topS 36
theorem sc_aggregate : FnScope ["node", "frame", "world", "values", "row", "value"] ["node", "frame", "world"] (defScope s_aggregate) := ⟨rfl, rfl, rfl, by decide +kernel, rfl, by decide +kernel, by decide +kernel⟩
def B1_aggregate (r_result_of r_select_result r_source_result r_kept_frames r_value_of r_membership r_aggregate r_made_row : Sem1) : MS :=
 (mSeq (mSet 5 (mCallP (r_value_of) (lenIs 3 (maCons (mBin gGet (mVar 0) (mC (.int 2))) (maCons (mMakeP "Frame" 5 sem_Frame____init__ (maCons (mUn (gFld FT "columns") (mVar 1)) (maCons (mVar 4) (maCons (mC .non) (maCons (mUn (gFld FT "outer") (mVar 1)) maNil))))) (maCons (mVar 2) maNil))))))
 (mIf (mTB (mBin (gIs true) (mVar 5) (mC .non))) (mDrop (mM1 tokL gApp (mVar 3) (mVar 5))) mNx))
def L1_aggregate (r_result_of r_select_result r_source_result r_kept_frames r_value_of r_membership r_aggregate r_made_row : Sem1) : MS :=
 (mFor (mItems (mUn (gFld FT "members") (mVar 1))) (mgName 4) (B1_aggregate r_result_of r_select_result r_source_result r_kept_frames r_value_of r_membership r_aggregate r_made_row))
def b_aggregate (r_result_of r_select_result r_source_result r_kept_frames r_value_of r_membership r_aggregate r_made_row : Sem1) : MS :=
 (mSeq (mIf (mTB (mBin (gEq false) (mBin gGet (mVar 0) (mC (.int 0))) (mC (.str "count_all")))) (mRet (mUn gLen (mUn (gFld FT "members") (mVar 1)))) mNx)
 (mSeq (mSet 3 (mLst true maNil))
 (mSeq (L1_aggregate r_result_of r_select_result r_source_result r_kept_frames r_value_of r_membership r_aggregate r_made_row)
 (mSeq (mIf (mTB (mBin (gEq false) (mBin gGet (mVar 0) (mC (.int 1))) (mC (.str "count")))) (mRet (mUn gLen (mVar 3))) mNx)
 (mSeq (mIf (mTB (mBin (gEq false) (mUn gLen (mVar 3)) (mC (.int 0)))) (mRet (mC .non)) mNx)
 (mSeq (mIf (mTB (mBin (gEq false) (mBin gGet (mVar 0) (mC (.int 1))) (mC (.str "sum")))) (mRet (mCallP sem_bounded (lenIs 1 (maCons (mUn gSum (mVar 3)) maNil)))) mNx)
 (mSeq (mSet 3 (mUn (gSortK true sem_value_key) (mVar 3)))
 (mSeq (mIf (mTB (mBin (gEq false) (mBin gGet (mVar 0) (mC (.int 1))) (mC (.str "min")))) (mRet (mBin gGet (mVar 3) (mC (.int 0)))) mNx)
 (mRet (mBin gGet (mVar 3) (mUn gNeg (mC (.int 1)))))))))))))
/-! ### made_row: 0=items 1=frame 2=world 3=item -/
abbrev s_made_row : Stmt := topS 43
theorem sc_made_row : FnScope ["items", "frame", "world", "item"] ["items", "frame", "world"] (defScope s_made_row) := ⟨rfl, rfl, rfl, by decide +kernel, rfl, by decide +kernel, by decide +kernel⟩
def E1_made_row (r_result_of r_select_result r_source_result r_kept_frames r_value_of r_membership r_aggregate r_made_row : Sem1) : E Tq.A :=
 (mCallP (r_value_of) (lenIs 3 (maCons (mBin gGet (mVar 3) (mC (.int 0))) (maCons (mVar 1) (maCons (mVar 2) maNil)))))
def C1_made_row (r_result_of r_select_result r_source_result r_kept_frames r_value_of r_membership r_aggregate r_made_row : Sem1) : E Tq.A :=
 (mLC false (mItems (mVar 0)) (mgName 3) mYes (E1_made_row r_result_of r_select_result r_source_result r_kept_frames r_value_of r_membership r_aggregate r_made_row) [3])
def b_made_row (r_result_of r_select_result r_source_result r_kept_frames r_value_of r_membership r_aggregate r_made_row : Sem1) : MS :=
 (mRet (mUn gTupOf (C1_made_row r_result_of r_select_result r_source_result r_kept_frames r_value_of r_membership r_aggregate r_made_row)))
mutual
def sem_result_of : Nat → Sem1
  | 0 => fun _ _ => none
  | n + 1 => runB 3 9 (b_result_of (sem_result_of n) (sem_select_result n) (sem_source_result n) (sem_kept_frames n) (sem_value_of n) (sem_membership n) (sem_aggregate n) (sem_made_row n))
def sem_select_result : Nat → Sem1
  | 0 => fun _ _ => none
  | n + 1 => runB 3 12 (b_select_result (sem_result_of n) (sem_select_result n) (sem_source_result n) (sem_kept_frames n) (sem_value_of n) (sem_membership n) (sem_aggregate n) (sem_made_row n))
def sem_source_result : Nat → Sem1
  | 0 => fun _ _ => none
  | n + 1 => runB 3 18 (b_source_result (sem_result_of n) (sem_select_result n) (sem_source_result n) (sem_kept_frames n) (sem_value_of n) (sem_membership n) (sem_aggregate n) (sem_made_row n))
def sem_kept_frames : Nat → Sem1
  | 0 => fun _ _ => none
  | n + 1 => runB 3 4 (b_kept_frames (sem_result_of n) (sem_select_result n) (sem_source_result n) (sem_kept_frames n) (sem_value_of n) (sem_membership n) (sem_aggregate n) (sem_made_row n))
def sem_value_of : Nat → Sem1
  | 0 => fun _ _ => none
  | n + 1 => runB 3 6 (b_value_of (sem_result_of n) (sem_select_result n) (sem_source_result n) (sem_kept_frames n) (sem_value_of n) (sem_membership n) (sem_aggregate n) (sem_made_row n))
def sem_membership : Nat → Sem1
  | 0 => fun _ _ => none
  | n + 1 => runB 3 7 (b_membership (sem_result_of n) (sem_select_result n) (sem_source_result n) (sem_kept_frames n) (sem_value_of n) (sem_membership n) (sem_aggregate n) (sem_made_row n))
def sem_aggregate : Nat → Sem1
  | 0 => fun _ _ => none
  | n + 1 => runB 3 6 (b_aggregate (sem_result_of n) (sem_select_result n) (sem_source_result n) (sem_kept_frames n) (sem_value_of n) (sem_membership n) (sem_aggregate n) (sem_made_row n))
def sem_made_row : Nat → Sem1
  | 0 => fun _ _ => none
  | n + 1 => runB 3 4 (b_made_row (sem_result_of n) (sem_select_result n) (sem_source_result n) (sem_kept_frames n) (sem_value_of n) (sem_membership n) (sem_aggregate n) (sem_made_row n))
end
/-! ### World.__init__: 0=self 1=sources 2=parameters -/
abbrev s_World____init__ : Stmt := inClass (topS 19) 0
theorem sc_World____init__ : FnScope ["self", "sources", "parameters"] ["self", "sources", "parameters"] (defScope s_World____init__) := ⟨rfl, rfl, rfl, by decide +kernel, rfl, by decide +kernel, by decide +kernel⟩
def b_World____init__ : MS :=
 (mSeq (mSetF FT "sources" (mVar 0) (mVar 1))
 (mSetF FT "parameters" (mVar 0) (mVar 2)))
def sem_World____init__ : Sem1 := runB 3 3 b_World____init__
/-! ### query_rows: 0=query 1=sources 2=parameters -/
abbrev s_query_rows : Stmt := topS 45
theorem sc_query_rows : FnScope ["query", "sources", "parameters"] ["query", "sources", "parameters"] (defScope s_query_rows) := ⟨rfl, rfl, rfl, by decide +kernel, rfl, by decide +kernel, by decide +kernel⟩
def b_query_rows : MS :=
 (mRet (mBin gGet (mCallP (sem_result_of 20) (lenIs 3 (maCons (mVar 0) (maCons (mC .non) (maCons (mMakeP "World" 3 sem_World____init__ (maCons (mVar 1) (maCons (mVar 2) maNil))) maNil))))) (mC (.int 1))))
def sem_query_rows : Sem1 := runB 3 3 b_query_rows
/-! ### _law_asked: 0=first 1=second 2=columns 3=items 4=operator 5=select 6=rows 7=sources 8=total 9=given -/
abbrev s__law_asked : Stmt := topS 56
theorem sc__law_asked : FnScope ["first", "second", "columns", "items", "operator", "select", "rows", "sources", "total", "given"] ["first", "second"] (defScope s__law_asked) := ⟨rfl, rfl, rfl, by decide +kernel, rfl, by decide +kernel, by decide +kernel⟩
def E1__law_asked : E Tq.A :=
 (mTup (maCons (mTup (maCons (mC (.str "binary")) (maCons (mVar 4) (maCons (mBin gGet (mVar 2) (mC (.int 0))) (maCons (mBin gGet (mVar 2) (mC (.int 1))) maNil))))) (maCons (mC .non) maNil)))
def C1__law_asked : E Tq.A :=
 (mLC false (mItems (mLst false (maCons (mC (.str "+")) (maCons (mC (.str "-")) (maCons (mC (.str "*")) (maCons (mC (.str "/")) (maCons (mC (.str "mod")) maNil))))))) (mgName 4) mYes E1__law_asked [4])
def b__law_asked : MS :=
 (mSeq (mSet 2 (mLst false (maCons (mTup (maCons (mC (.str "column")) (maCons (mC .non) (maCons (mC (.str "c")) maNil)))) (maCons (mTup (maCons (mC (.str "column")) (maCons (mC .non) (maCons (mC (.str "d")) maNil)))) maNil))))
 (mSeq (mSet 3 C1__law_asked)
 (mSeq (mSet 3 (mBin (gAdd false) (mVar 3) (mLst false (maCons (mTup (maCons (mTup (maCons (mC (.str "negate")) (maCons (mBin gGet (mVar 2) (mC (.int 0))) maNil))) (maCons (mC .non) maNil))) (maCons (mTup (maCons (mTup (maCons (mC (.str "binary")) (maCons (mC (.str "/")) (maCons (mBin gGet (mVar 2) (mC (.int 0))) (maCons (mTup (maCons (mC (.str "literal")) (maCons (mC (.int 1)) maNil))) maNil))))) (maCons (mC .non) maNil))) maNil)))))
 (mSeq (mSet 5 (mTup (maCons (mC (.str "select")) (maCons (mC (.bl false)) (maCons (mUn gTupOf (mVar 3)) (maCons (mTup (maCons (mC (.str "table")) (maCons (mC (.str "s0_t")) (maCons (mC .non) maNil)))) (maCons (mC .non) (maCons (mC .non) (maCons (mC .non) maNil)))))))))
 (mSeq (mSet 6 (mLst false (maCons (mTup (maCons (mC (.str "0.1.0")) (maCons (mVar 0) (maCons (mVar 1) maNil)))) (maCons (mTup (maCons (mC (.str "0.2.0")) (maCons (mVar 1) (maCons (mVar 0) maNil)))) maNil))))
 (mSeq (mSet 7 (mDict [(.inr "s0_t")] [(mMakeP "Source" 5 sem_Source____init__ (maCons (mC (.str "s0_t")) (maCons (mLst false (maCons (mC (.str "id")) (maCons (mC (.str "c")) (maCons (mC (.str "d")) maNil)))) (maCons (mLst false (maCons (mC (.str "text")) (maCons (mC (.str "integer")) (maCons (mC (.str "integer")) maNil)))) (maCons (mVar 6) maNil)))))]))
 (mSeq (mSet 8 (mC .non))
 (mSeq (mIf (mTB (mBin (gIs true) (mVar 0) (mC .non))) (mSet 8 (mCallP sem__law_bounded (lenIs 1 (maCons (mVar 0) maNil)))) mNx)
 (mSeq (mSet 9 (mLst true (maCons (mUn gTupOf (mBin (gAdd false) (mCallP sem__law_due (lenIs 2 (maCons (mVar 0) (maCons (mVar 1) maNil)))) (mLst false (maCons (mBin gGet (mCallP sem__law_due (lenIs 2 (maCons (mC (.int 0)) (maCons (mVar 0) maNil)))) (mC (.int 1))) (maCons (mVar 8) maNil))))) maNil)))
 (mSeq (mSet 8 (mC .non))
 (mSeq (mIf (mTB (mBin (gIs true) (mVar 1) (mC .non))) (mSet 8 (mCallP sem__law_bounded (lenIs 1 (maCons (mVar 1) maNil)))) mNx)
 (mSeq (mDrop (mM1 tokL gApp (mVar 9) (mUn gTupOf (mBin (gAdd false) (mCallP sem__law_due (lenIs 2 (maCons (mVar 1) (maCons (mVar 0) maNil)))) (mLst false (maCons (mBin gGet (mCallP sem__law_due (lenIs 2 (maCons (mC (.int 0)) (maCons (mVar 1) maNil)))) (mC (.int 1))) (maCons (mVar 8) maNil)))))))
 (mSeq (mFz 7)
 (mRet (mCallP (sem__law_same 8) (lenIs 2 (maCons (mCallP sem_query_rows (lenIs 3 (maCons (mVar 5) (maCons (mVar 7) (maCons (mLst false maNil) maNil))))) (maCons (mVar 9) maNil))))))))))))))))))
def sem__law_asked : Sem1 := runB 2 10 b__law_asked
/-! ### _law_char: 0=index 1=chars -/
abbrev s__law_char : Stmt := topS 51
theorem sc__law_char : FnScope ["index", "chars"] ["index"] (defScope s__law_char) := ⟨rfl, rfl, rfl, by decide +kernel, rfl, by decide +kernel, by decide +kernel⟩
def b__law_char : MS :=
 (mSeq (mSet 1 (mC (.str " '!\"#$&()*+,-./0123456789:;<=>?@ABCDEFGHIJKLMNOPQRSTUVWXYZ[\\]^_`")))
 (mSeq (mSet 1 (mBin (gAdd false) (mVar 1) (mC (.str "abcdefghijklmnopqrstuvwxyz{|}~\n"))))
 (mRet (mBin gGet (mVar 1) (mBin gMod (mUn gInt (mVar 0)) (mC (.int 95)))))))
def sem__law_char : Sem1 := runB 1 2 b__law_char
/-! ### _law_string: 0=state 1=pick 2=text 3=k -/
abbrev s__law_string : Stmt := topS 53
theorem sc__law_string : FnScope ["state", "pick", "text", "k"] ["state"] (defScope s__law_string) := ⟨rfl, rfl, rfl, by decide +kernel, rfl, by decide +kernel, by decide +kernel⟩
def E1__law_string : E Tq.A :=
 (mCallP sem__law_char (lenIs 1 (maCons (mCall sem__law_next (lenIs 2 (maCons (mVar 0) (maCons (mC (.int 95)) maNil)))) maNil)))
def C1__law_string : E Tq.A :=
 (mLC false (mRange1 (mCall sem__law_next (lenIs 2 (maCons (mVar 0) (maCons (mC (.int 4)) maNil))))) (mgName 3) mYes E1__law_string [3])
def b__law_string : MS :=
 (mSeq (mSet 1 (mCall sem__law_next (lenIs 2 (maCons (mVar 0) (maCons (mC (.int 6)) maNil)))))
 (mSeq (mIf (mTB (mBin (gEq false) (mVar 1) (mC (.int 0)))) (mRet (mC .non)) mNx)
 (mSeq (mSet 2 (mM1 tokS gJoin (mC (.str "")) C1__law_string))
 (mSeq (mIf (mTB (mBin (gEq false) (mVar 1) (mC (.int 1)))) (mRet (mBin (gAdd false) (mVar 2) (mBin gRep (mC (.str "ab")) (mC (.int 500))))) mNx)
 (mSeq (mIf (mTB (mBin (gEq false) (mVar 1) (mC (.int 2)))) (mRet (mBin gRep (mC (.str "y")) (mBin (gAdd false) (mC (.int 990)) (mCall sem__law_next (lenIs 2 (maCons (mVar 0) (maCons (mC (.int 1011)) maNil))))))) mNx)
 (mRet (mVar 2)))))))
def sem__law_string : Sem1 := runB 1 4 b__law_string
/-! ### law: 0=script 1=state 2=first 3=second 4=told 5=operator 6=left 7=right 8=joined -/
abbrev s_law : Stmt := topS 57
theorem sc_law : FnScope ["script", "state", "first", "second", "told", "operator", "left", "right", "joined"] ["script"] (defScope s_law) := ⟨rfl, rfl, rfl, by decide +kernel, rfl, by decide +kernel, by decide +kernel⟩
def E1_law : E Tq.A :=
 (mCallP sem_arithmetic (lenIs 3 (maCons (mVar 5) (maCons (mVar 2) (maCons (mVar 3) maNil)))))
def C1_law : E Tq.A :=
 (mLC false (mItems (mLst false (maCons (mC (.str "+")) (maCons (mC (.str "-")) (maCons (mC (.str "*")) (maCons (mC (.str "/")) (maCons (mC (.str "mod")) maNil))))))) (mgName 5) mYes E1_law [5])
def b_law : MS :=
 (mSeq (mSet 1 (mLst true (maCons (mUn (gLstOf false) (mVar 0)) (maCons (mC (.int 0)) (maCons (mC (.int 0)) (maCons (mC (.int 1)) maNil))))))
 (mSeq (mSet 2 (mCall sem__law_integer (lenIs 1 (maCons (mVar 1) maNil))))
 (mSeq (mSet 3 (mCall sem__law_integer (lenIs 1 (maCons (mVar 1) maNil))))
 (mSeq (mSet 4 C1_law)
 (mSeq (mIf (mOrT (mNotT (mTru (mCallP (sem__law_same 8) (lenIs 2 (maCons (mVar 4) (maCons (mCallP sem__law_due (lenIs 2 (maCons (mVar 2) (maCons (mVar 3) maNil)))) maNil)))))) (mNotT (mTru (mCallP sem__law_asked (lenIs 2 (maCons (mVar 2) (maCons (mVar 3) maNil))))))) (mRet (mC (.bl false))) mNx)
 (mSeq (mSet 6 (mCall sem__law_string (lenIs 1 (maCons (mVar 1) maNil))))
 (mSeq (mSet 7 (mCall sem__law_string (lenIs 1 (maCons (mVar 1) maNil))))
 (mSeq (mSet 8 (mC .non))
 (mSeq (mIf (mAndT (mTB (mBin (gIs true) (mVar 6) (mC .non))) (mAndT (mTB (mBin (gIs true) (mVar 7) (mC .non))) (mTB (mBin gLe (mBin (gAdd false) (mUn gLen (mVar 6)) (mUn gLen (mVar 7))) (mC (.int 2000)))))) (mSet 8 (mBin (gAdd false) (mVar 6) (mVar 7))) mNx)
 (mRet (mCallP (sem__law_same 8) (lenIs 2 (maCons (mCallP sem_arithmetic (lenIs 3 (maCons (mC (.str "||")) (maCons (mVar 6) (maCons (mVar 7) maNil))))) (maCons (mVar 8) maNil))))))))))))))
def sem_law : Sem1 := runB 1 9 b_law
section
variable {Pr : Program} {w : World} {K : PySem.W.Frag} {mg : Str → Option Value} {base : Heap}
theorem ok__law_next (hT : ClsT K FT) (S : Src K mg "_law_next" s__law_next ["state", "limit"]) (z_int : mg "int" = none) (z_len : mg "len" = none) : Def Pr w K mg base 1 "_law_next" ["state", "limit"] sem__law_next :=
  def_tr S sc__law_next b__law_next (fun fa cdv A outer s H Ex hr tk hp => by
      have nd := sc__law_next.nd
      exact (rss_cons (rs_if (RWt.rt (rw_and (rt_cmp (op_eqD (Room_u64 hr)) og_eq (rx_sub (Room_u1 hr) (rx_var 0) rx_int) rx_int (nomark _)) (rw_and1 (rt_cmp op_lt og_lt (rx_sub (Room_u1 hr) (rx_var 0) rx_int) (rx_b1 call_len og_len (rx_sub (Room_u1 hr) (rx_var 0) rx_int) z_len) (nomark _))))) (rss_cons (rs_set (i := 2) nd (rx_sub (Room_u1 hr) (rx_sub (Room_u1 hr) (rx_var 0) rx_int) (rx_sub (Room_u1 hr) (rx_var 0) rx_int)))
 (rss_cons (rs_augL iop_addA og_iadd (rx_var 0) rx_int rx_int)
 (rss_one (rs_if (rt_cmp op_ge og_ge (rx_var 2) (rx_bin op_pow og_pow rx_int rx_int) (nomark _)) (rss_one (rs_setL (rx_var 0) rx_int (rx_var 2))) (rss_one (rs_setL (rx_var 0) rx_int (rx_bin op_mod og_mod (rx_t1 call_int1 og_int (rx_bin op_addA og_add (rx_bin op_addA og_add (rx_bin op_mulB og_mul (rx_sub (Room_u1 hr) (rx_var 0) rx_int) rx_int) (rx_bin op_mod og_mod (rx_t1 call_int1 og_int (rx_var 2) z_int) rx_int)) rx_int) z_int) rx_int))))))) rss_nil)
 (rss_cons (rs_if (rt_cmp op_gt og_gt (rx_sub (Room_u1 hr) (rx_var 0) rx_int) rx_int (nomark _)) (rss_cons (rs_set (i := 3) nd (rx_bin op_mod og_mod (rx_t1 call_int1 og_int (rx_sub (Room_u1 hr) (rx_var 0) rx_int) z_int) (rx_var 1)))
 (rss_cons (rs_setL (rx_var 0) rx_int (rx_bin op_fdivW og_div (rx_sub (Room_u1 hr) (rx_var 0) rx_int) (rx_var 1)))
 (rss_one (rs_ret (rx_var 3))))) rss_nil)
 (rss_cons (rs_setL (rx_var 0) rx_int (rx_bin op_mod og_mod (rx_t1 call_int1 og_int (rx_bin op_addA og_add (rx_bin op_mulB og_mul (rx_sub (Room_u1 hr) (rx_var 0) rx_int) rx_int) rx_int) z_int) rx_int))
 (rss_one (rs_ret (rx_bin op_mod og_mod (rx_t1 call_int1 og_int (rx_bin op_fdivW og_div (rx_sub (Room_u1 hr) (rx_var 0) rx_int) rx_int) z_int) (rx_var 1))))))))
theorem ok__law_integer (hT : ClsT K FT) (S : Src K mg "_law_integer" s__law_integer ["state"]) (d__law_next : Def Pr w K mg base 1 "_law_next" ["state", "limit"] sem__law_next) : Def Pr w K mg base 2 "_law_integer" ["state"] sem__law_integer :=
  def_tr S sc__law_integer b__law_integer (fun fa cdv A outer s H Ex hr tk hp => by
      have nd := sc__law_integer.nd
      exact (rss_cons (rs_set (i := 1) nd (rx_bin op_sub og_sub rx_int (rx_bin op_mulB og_mul rx_int (rx_call tk d__law_next hr (by decide) (ra_cons (rx_var 0) (ra_cons rx_int ra_nil))))))
 (rss_cons (rs_set (i := 2) nd (rx_call tk d__law_next hr (by decide) (ra_cons (rx_var 0) (ra_cons rx_int ra_nil))))
 (rss_cons (rs_if (rt_cmp (op_eqD (Room_u64 hr)) og_eq (rx_var 2) rx_int (nomark _)) (rss_one (rs_ret rx_non)) rss_nil)
 (rss_cons (rs_if (rt_cmp op_lt og_lt (rx_var 2) rx_int (nomark _)) (rss_one (rs_ret (rx_bin op_mulB og_mul (rx_var 1) (rx_call tk d__law_next hr (by decide) (ra_cons (rx_var 0) (ra_cons rx_int ra_nil)))))) rss_nil)
 (rss_cons (rs_if (rt_cmp (op_eqD (Room_u64 hr)) og_eq (rx_var 2) rx_int (nomark _)) (rss_one (rs_ret (rx_bin op_mulB og_mul (rx_var 1) (rx_bin op_sub og_sub (rx_bin op_addA og_add (rx_bin op_pow og_pow rx_int rx_int) (rx_call tk d__law_next hr (by decide) (ra_cons (rx_var 0) (ra_cons rx_int ra_nil)))) rx_int)))) rss_nil)
 (rss_cons (rs_if (rt_cmp (op_eqD (Room_u64 hr)) og_eq (rx_var 2) rx_int (nomark _)) (rss_one (rs_ret (rx_bin op_mulB og_mul (rx_var 1) (rx_bin op_sub og_sub (rx_bin op_sub og_sub (rx_bin op_pow og_pow rx_int rx_int) rx_int) (rx_call tk d__law_next hr (by decide) (ra_cons (rx_var 0) (ra_cons rx_int ra_nil))))))) rss_nil)
 (rss_cons (rs_if (rt_cmp (op_eqD (Room_u64 hr)) og_eq (rx_var 2) rx_int (nomark _)) (rss_one (rs_ret (rx_bin op_mulB og_mul (rx_var 1) (rx_bin op_sub og_sub (rx_bin op_addA og_add (rx_bin op_mulB og_mul rx_int (rx_bin op_pow og_pow rx_int rx_int)) (rx_call tk d__law_next hr (by decide) (ra_cons (rx_var 0) (ra_cons rx_int ra_nil)))) rx_int)))) rss_nil)
 (rss_cons (rs_if (rt_cmp (op_eqD (Room_u64 hr)) og_eq (rx_var 2) rx_int (nomark _)) (rss_one (rs_ret (rx_bin op_mulB og_mul (rx_var 1) (rx_sub (Room_u1 hr) (rx_lst false (ra_cons (rx_bin op_pow og_pow rx_int rx_int) (ra_cons (rx_bin op_mulB og_mul rx_int (rx_bin op_pow og_pow rx_int rx_int)) (ra_cons (rx_bin op_addA og_add (rx_bin op_pow og_pow rx_int rx_int) (rx_call tk d__law_next hr (by decide) (ra_cons (rx_var 0) (ra_cons (rx_bin op_pow og_pow rx_int rx_int) ra_nil)))) (ra_cons (rx_call tk d__law_next hr (by decide) (ra_cons (rx_var 0) (ra_cons (rx_bin op_pow og_pow rx_int rx_int) ra_nil))) ra_nil))))) (rx_call tk d__law_next hr (by decide) (ra_cons (rx_var 0) (ra_cons rx_int ra_nil))))))) rss_nil)
 (rss_one (rs_ret (rx_bin op_mulB og_mul (rx_var 1) (rx_call tk d__law_next hr (by decide) (ra_cons (rx_var 0) (ra_cons (rx_sub (Room_u1 hr) (rx_lst false (ra_cons (rx_bin op_pow og_pow rx_int rx_int) (ra_cons (rx_bin op_pow og_pow rx_int rx_int) (ra_cons (rx_bin op_pow og_pow rx_int rx_int) ra_nil)))) (rx_call tk d__law_next hr (by decide) (ra_cons (rx_var 0) (ra_cons rx_int ra_nil)))) ra_nil)))))))))))))))
theorem ok_bounded (hT : ClsT K FT) (S : Src K mg "bounded" s_bounded ["number"]) {tk_BOUND : Tok} (g_BOUND : mg "BOUND" = some (.int 10000000000000000000000000000000000000000 tk_BOUND)) (z_abs : mg "abs" = none) : Def Pr w K mg base 1 "bounded" ["number"] sem_bounded :=
  def_tr S sc_bounded b_bounded (fun fa cdv A outer s H Ex hr tk hp => by
      have nd := sc_bounded.nd
      exact (rss_cons (rs_if (rt_cmp op_ge og_ge (rx_b1 call_abs og_abs (rx_var 0) z_abs) (rx_glob (v := .int 10000000000000000000000000000000000000000) g_BOUND ⟨_, rfl⟩ (fun _ => .int _)) (nomark _)) (rss_one (rs_ret rx_non)) rss_nil)
 (rss_one (rs_ret (rx_var 0)))))
theorem ok_quotient (hT : ClsT K FT) (S : Src K mg "quotient" s_quotient ["first", "second"]) (z_abs : mg "abs" = none) : Def Pr w K mg base 1 "quotient" ["first", "second"] sem_quotient :=
  def_tr S sc_quotient b_quotient (fun fa cdv A outer s H Ex hr tk hp => by
      have nd := sc_quotient.nd
      exact (rss_cons (rs_set (i := 2) nd (rx_bin op_fdivW og_div (rx_b1 call_abs og_abs (rx_var 0) z_abs) (rx_b1 call_abs og_abs (rx_var 1) z_abs)))
 (rss_cons (rs_if (rt_cmp (op_neD (Room_u64 hr)) og_ne (rx_cmp op_lt og_lt (rx_var 0) rx_int (nomark _)) (rx_cmp op_lt og_lt (rx_var 1) rx_int (nomark _)) (nomark _)) (rss_one (rs_ret (rx_un un_neg og_neg (rx_var 2)))) rss_nil)
 (rss_one (rs_ret (rx_var 2))))))
theorem ok_arithmetic (hT : ClsT K FT) (S : Src K mg "arithmetic" s_arithmetic ["operator", "first", "second"]) (d_bounded : Def Pr w K mg base 1 "bounded" ["number"] sem_bounded) (d_quotient : Def Pr w K mg base 1 "quotient" ["first", "second"] sem_quotient) {tk_LONGEST_TEXT : Tok} (g_LONGEST_TEXT : mg "LONGEST_TEXT" = some (.int 2000 tk_LONGEST_TEXT)) (z_len : mg "len" = none) : Def Pr w K mg base 2 "arithmetic" ["operator", "first", "second"] sem_arithmetic :=
  def_tr S sc_arithmetic b_arithmetic (fun fa cdv A outer s H Ex hr tk hp => by
      have nd := sc_arithmetic.nd
      exact (rss_cons (rs_if (RWt.rt (rw_or (rt_cmp op_isA og_is (rx_var 1) rx_non (nomark _)) (rw_or1 (rt_cmp op_isA og_is (rx_var 2) rx_non (nomark _))))) (rss_one (rs_ret rx_non)) rss_nil)
 (rss_cons (rs_if (rt_cmp (op_eqD (Room_u64 hr)) og_eq (rx_var 0) rx_str (nomark _)) (rss_cons (rs_set (i := 3) nd (rx_bin op_addA og_add (rx_var 1) (rx_var 2)))
 (rss_cons (rs_if (rt_cmp op_gt og_gt (rx_b1 call_len og_len (rx_var 3) z_len) (rx_glob (v := .int 2000) g_LONGEST_TEXT ⟨_, rfl⟩ (fun _ => .int _)) (nomark _)) (rss_one (rs_ret rx_non)) rss_nil)
 (rss_one (rs_ret (rx_var 3))))) rss_nil)
 (rss_cons (rs_if (rt_cmp (op_eqD (Room_u64 hr)) og_eq (rx_var 0) rx_str (nomark _)) (rss_one (rs_ret (rx_callP tk d_bounded hr (by decide) (ra_cons (rx_bin op_addA og_add (rx_var 1) (rx_var 2)) ra_nil)))) rss_nil)
 (rss_cons (rs_if (rt_cmp (op_eqD (Room_u64 hr)) og_eq (rx_var 0) rx_str (nomark _)) (rss_one (rs_ret (rx_callP tk d_bounded hr (by decide) (ra_cons (rx_bin op_sub og_sub (rx_var 1) (rx_var 2)) ra_nil)))) rss_nil)
 (rss_cons (rs_if (rt_cmp (op_eqD (Room_u64 hr)) og_eq (rx_var 0) rx_str (nomark _)) (rss_one (rs_ret (rx_callP tk d_bounded hr (by decide) (ra_cons (rx_bin op_mulB og_mul (rx_var 1) (rx_var 2)) ra_nil)))) rss_nil)
 (rss_cons (rs_if (rt_cmp (op_eqD (Room_u64 hr)) og_eq (rx_var 2) rx_int (nomark _)) (rss_one (rs_ret rx_non)) rss_nil)
 (rss_cons (rs_if (rt_cmp (op_eqD (Room_u64 hr)) og_eq (rx_var 0) rx_str (nomark _)) (rss_one (rs_ret (rx_callP tk d_bounded hr (by decide) (ra_cons (rx_callP tk d_quotient hr (by decide) (ra_cons (rx_var 1) (ra_cons (rx_var 2) ra_nil))) ra_nil)))) rss_nil)
 (rss_one (rs_ret (rx_callP tk d_bounded hr (by decide) (ra_cons (rx_bin op_sub og_sub (rx_var 1) (rx_bin op_mulB og_mul (rx_callP tk d_quotient hr (by decide) (ra_cons (rx_var 1) (ra_cons (rx_var 2) ra_nil))) (rx_var 2))) ra_nil))))))))))))
theorem ok__law_same (hT : ClsT K FT) (S : Src K mg "_law_same" s__law_same ["actual", "expected"]) (z_bool : mg "bool" = none) (z_int : mg "int" = none) (z_isinstance : mg "isinstance" = none) (z_len : mg "len" = none) (z_list : mg "list" = none) (z_range : mg "range" = none) (z_str : mg "str" = none) (z_tuple : mg "tuple" = none) : ∀ n : Nat, Def Pr w K mg base (1 + n) "_law_same" ["actual", "expected"] (sem__law_same n)
  | 0 => def_none S
  | n + 1 => by
    have ih := ok__law_same hT S z_bool z_int z_isinstance z_len z_list z_range z_str z_tuple n
    exact def_tr S sc__law_same (b__law_same (sem__law_same n)) (fun fa cdv A outer s H Ex hr tk hp => by
      have nd := sc__law_same.nd
      exact (rss_cons (rs_if (rt_cmp op_isA og_is (rx_var 1) rx_non (nomark _)) (rss_one (rs_ret (rx_cmp op_isA og_is (rx_var 0) rx_non (nomark _)))) rss_nil)
 (rss_cons (rs_if (rt_truth (rx_isi (rx_var 1) z_isinstance z_bool)) (rss_one (rs_ret (rx_and (rx_isi (rx_var 0) z_isinstance z_bool) (rx_one (rx_cmp (op_eqD (Room_u64 hr)) og_eq (rx_var 0) (rx_var 1) (nomark _)))))) rss_nil)
 (rss_cons (rs_if (rt_truth (rx_isi (rx_var 1) z_isinstance z_int)) (rss_one (rs_ret (rx_and (rx_isi (rx_var 0) z_isinstance z_int) (rx_and (rx_not (rx_isi (rx_var 0) z_isinstance z_bool)) (rx_one (rx_cmp (op_eqD (Room_u64 hr)) og_eq (rx_var 0) (rx_var 1) (nomark _))))))) rss_nil)
 (rss_cons (rs_if (rt_truth (rx_isi (rx_var 1) z_isinstance z_str)) (rss_one (rs_ret (rx_and (rx_isi (rx_var 0) z_isinstance z_str) (rx_one (rx_cmp (op_eqD (Room_u64 hr)) og_eq (rx_var 0) (rx_var 1) (nomark _)))))) rss_nil)
 (rss_cons (rs_if (RWt.rt (rw_and (rt_truth (rx_isi (rx_var 1) z_isinstance z_tuple)) (rw_and1 (rt_not (rt_truth (rx_isi (rx_var 0) z_isinstance z_tuple)))))) (rss_one (rs_ret rx_bl)) rss_nil)
 (rss_cons (rs_if (RWt.rt (rw_and (rt_truth (rx_isi (rx_var 1) z_isinstance z_list)) (rw_and1 (rt_not (rt_truth (rx_isi (rx_var 0) z_isinstance z_list)))))) (rss_one (rs_ret rx_bl)) rss_nil)
 (rss_cons (rs_if (rt_cmp (op_neD (Room_u64 hr)) og_ne (rx_b1 call_len og_len (rx_var 0) z_len) (rx_b1 call_len og_len (rx_var 1) z_len) (nomark _)) (rss_one (rs_ret rx_bl)) rss_nil)
 (rss_cons (rs_for (is := [2]) hp rfl (ri_range1 (rx_b1 call_len og_len (rx_var 1) z_len) z_range) (rg_name (i := 2) nd) (rss_one (rs_if (rt_not (rt_truth (rx_callP tk ih hr (Nat.le_refl _) (ra_cons (rx_sub (Room_u1 hr) (rx_var 0) (rx_var 2)) (ra_cons (rx_sub (Room_u1 hr) (rx_var 1) (rx_var 2)) ra_nil))))) (rss_one (rs_ret rx_bl)) rss_nil)))
 (rss_one (rs_ret rx_bl)))))))))))
theorem ok__law_bounded (hT : ClsT K FT) (S : Src K mg "_law_bounded" s__law_bounded ["number"]) (z_abs : mg "abs" = none) : Def Pr w K mg base 1 "_law_bounded" ["number"] sem__law_bounded :=
  def_tr S sc__law_bounded b__law_bounded (fun fa cdv A outer s H Ex hr tk hp => by
      have nd := sc__law_bounded.nd
      exact (rss_cons (rs_if (rt_cmp op_ge og_ge (rx_b1 call_abs og_abs (rx_var 0) z_abs) (rx_bin op_pow og_pow rx_int rx_int) (nomark _)) (rss_one (rs_ret rx_non)) rss_nil)
 (rss_one (rs_ret (rx_var 0)))))
theorem ok__law_due (hT : ClsT K FT) (S : Src K mg "_law_due" s__law_due ["first", "second"]) (d__law_bounded : Def Pr w K mg base 1 "_law_bounded" ["number"] sem__law_bounded) (z_abs : mg "abs" = none) : Def Pr w K mg base 2 "_law_due" ["first", "second"] sem__law_due :=
  def_tr S sc__law_due b__law_due (fun fa cdv A outer s H Ex hr tk hp => by
      have nd := sc__law_due.nd
      exact (rss_cons (rs_if (RWt.rt (rw_or (rt_cmp op_isA og_is (rx_var 0) rx_non (nomark _)) (rw_or1 (rt_cmp op_isA og_is (rx_var 1) rx_non (nomark _))))) (rss_one (rs_ret (rx_lst false (ra_cons rx_non (ra_cons rx_non (ra_cons rx_non (ra_cons rx_non (ra_cons rx_non ra_nil)))))))) rss_nil)
 (rss_cons (rs_set (i := 2) nd (rx_lst false (ra_cons (rx_callP tk d__law_bounded hr (by decide) (ra_cons (rx_bin op_addA og_add (rx_var 0) (rx_var 1)) ra_nil)) (ra_cons (rx_callP tk d__law_bounded hr (by decide) (ra_cons (rx_bin op_sub og_sub (rx_var 0) (rx_var 1)) ra_nil)) (ra_cons (rx_callP tk d__law_bounded hr (by decide) (ra_cons (rx_bin op_mulB og_mul (rx_var 0) (rx_var 1)) ra_nil)) ra_nil)))))
 (rss_cons (rs_if (rt_cmp (op_eqD (Room_u64 hr)) og_eq (rx_var 1) rx_int (nomark _)) (rss_one (rs_ret (rx_bin op_addA og_add (rx_var 2) (rx_lst false (ra_cons rx_non (ra_cons rx_non ra_nil)))))) rss_nil)
 (rss_cons (rs_set (i := 3) nd (rx_bin op_fdivW og_div (rx_b1 call_abs og_abs (rx_var 0) z_abs) (rx_b1 call_abs og_abs (rx_var 1) z_abs)))
 (rss_cons (rs_if (rt_cmp (op_neD (Room_u64 hr)) og_ne (rx_cmp op_lt og_lt (rx_var 0) rx_int (nomark _)) (rx_cmp op_lt og_lt (rx_var 1) rx_int (nomark _)) (nomark _)) (rss_one (rs_set (i := 3) nd (rx_bin op_sub og_sub rx_int (rx_var 3)))) rss_nil)
 (rss_one (rs_ret (rx_bin op_addA og_add (rx_var 2) (rx_lst false (ra_cons (rx_callP tk d__law_bounded hr (by decide) (ra_cons (rx_var 3) ra_nil)) (ra_cons (rx_callP tk d__law_bounded hr (by decide) (ra_cons (rx_bin op_sub og_sub (rx_var 0) (rx_bin op_mulB og_mul (rx_var 3) (rx_var 1))) ra_nil)) ra_nil))))))))))))
theorem ok_Source____init__ (hT : ClsT K FT) (S : SrcM K "Source" "__init__" s_Source____init__ ["self", "name", "columns", "kinds", "rows"] "Source.__init__") (z_list : mg "list" = none) : DefM Pr w K mg base 1 "Source" "__init__" ["self", "name", "columns", "kinds", "rows"] sem_Source____init__ :=
  defM_tr S sc_Source____init__ b_Source____init__ (fun fa cdv A outer s H Ex hr tk hp => by
      have nd := sc_Source____init__.nd
      exact (rss_cons (rs_setF hT (rx_var 0) (rx_var 1))
 (rss_cons (rs_setF hT (rx_var 0) (rx_t1 call_list_of og_lstOf (rx_var 2) z_list))
 (rss_cons (rs_setF hT (rx_var 0) (rx_t1 call_list_of og_lstOf (rx_var 3) z_list))
 (rss_one (rs_setF hT (rx_var 0) (rx_t1 call_list_of og_lstOf (rx_var 4) z_list)))))))
theorem ok_known_as (hT : ClsT K FT) (S : Src K mg "known_as" s_known_as ["source"])  : Def Pr w K mg base 1 "known_as" ["source"] sem_known_as :=
  def_tr S sc_known_as b_known_as (fun fa cdv A outer s H Ex hr tk hp => by
      have nd := sc_known_as.nd
      exact (rss_cons (rs_if (rt_cmp op_isA og_is (rx_sub (Room_u1 hr) (rx_var 0) rx_int) rx_non (nomark _)) (rss_one (rs_ret (rx_sub (Room_u1 hr) (rx_var 0) rx_int))) rss_nil)
 (rss_one (rs_ret (rx_sub (Room_u1 hr) (rx_var 0) rx_int)))))
theorem ok_table_result (hT : ClsT K FT) (S : Src K mg "table_result" s_table_result ["source", "world"]) (d_known_as : Def Pr w K mg base 1 "known_as" ["source"] sem_known_as) (z_list : mg "list" = none) : Def Pr w K mg base 2 "table_result" ["source", "world"] sem_table_result :=
  def_tr S sc_table_result b_table_result (fun fa cdv A outer s H Ex hr tk hp => by
      have nd := sc_table_result.nd
      exact (rss_cons (rs_set (i := 2) nd (rx_sub (Room_u1 hr) (rx_fld hT (rx_var 1)) (rx_sub (Room_u1 hr) (rx_var 0) rx_int)))
 (rss_one (rs_ret (rx_tup (ra_cons (rx_lc false rfl nd [("name", 3)] (ri_items (rx_fld hT (rx_var 2))) (fun _ _ _ _ _ => (rg_name (i := 3) nd)) (fun _ _ _ _ _ => rts_nil) (fun _ _ _ _ _ => (rx_tup (ra_cons (rx_callP (ps := ["source"]) takes0 d_known_as hr (by decide) (ra_cons (rx_var 0) ra_nil)) (ra_cons (rx_var 3) ra_nil)))) (blkOk_by (N := ["source", "world", "table", "name"]) (sc := defScope s_table_result) (by decide +kernel))) (ra_cons (rx_t1 call_list_of og_lstOf (rx_fld hT (rx_var 2)) z_list) ra_nil)))))))
theorem ok_Frame____init__ (hT : ClsT K FT) (S : SrcM K "Frame" "__init__" s_Frame____init__ ["self", "columns", "row", "members", "outer"] "Frame.__init__")  : DefM Pr w K mg base 1 "Frame" "__init__" ["self", "columns", "row", "members", "outer"] sem_Frame____init__ :=
  defM_tr S sc_Frame____init__ b_Frame____init__ (fun fa cdv A outer s H Ex hr tk hp => by
      have nd := sc_Frame____init__.nd
      exact (rss_cons (rs_setF hT (rx_var 0) (rx_var 1))
 (rss_cons (rs_setF hT (rx_var 0) (rx_var 2))
 (rss_cons (rs_setF hT (rx_var 0) (rx_var 3))
 (rss_one (rs_setF hT (rx_var 0) (rx_var 4)))))))
theorem ok_named (hT : ClsT K FT) (S : Src K mg "named" s_named ["columns", "source", "name"]) (z_enumerate : mg "enumerate" = none) : Def Pr w K mg base 1 "named" ["columns", "source", "name"] sem_named :=
  def_tr S sc_named b_named (fun fa cdv A outer s H Ex hr tk hp => by
      have nd := sc_named.nd
      exact (rss_cons (rs_set (i := 3) nd (rx_lst true ra_nil))
 (rss_cons (rs_for (is := [4, 5]) hp rfl (ri_enum (rx_var 0) z_enumerate) (rg_tup rfl (rgs_cons (rg_name (i := 4) nd) (rgs_cons (rg_name (i := 5) nd) rgs_nil)) 2) (rss_one (rs_if (RWt.rt (rw_and (rt_cmp (op_eqD (Room_u64 hr)) og_eq (rx_sub (Room_u1 hr) (rx_var 5) rx_int) (rx_var 2) (nomark _)) (rw_and1 (RWt.rt (rw_or (rt_cmp op_isA og_is (rx_var 1) rx_non (nomark _)) (rw_or1 (rt_cmp (op_eqD (Room_u64 hr)) og_eq (rx_sub (Room_u1 hr) (rx_var 5) rx_int) (rx_var 1) (nomark _)))))))) (rss_one (rs_drop (rx_append (rx_var 3) (rx_var 4)))) rss_nil)))
 (rss_one (rs_ret (rx_var 3))))))
theorem ok_locate (hT : ClsT K FT) (S : Src K mg "locate" s_locate ["scope", "source", "name"]) (d_named : Def Pr w K mg base 1 "named" ["columns", "source", "name"] sem_named) (z_len : mg "len" = none) : Def Pr w K mg base 2 "locate" ["scope", "source", "name"] sem_locate :=
  def_tr S sc_locate b_locate (fun fa cdv A outer s H Ex hr tk hp => by
      have nd := sc_locate.nd
      exact (rss_cons (rs_set (i := 3) nd (rx_var 0))
 (rss_cons (rs_while 1000000 hp (rt_cmp op_isNotA og_is (rx_var 3) rx_non (nomark _)) (rss_cons (rs_set (i := 4) nd (rx_callP tk d_named hr (by decide) (ra_cons (rx_fld hT (rx_var 3)) (ra_cons (rx_var 1) (ra_cons (rx_var 2) ra_nil)))))
 (rss_cons (rs_if (rt_cmp op_gt og_gt (rx_b1 call_len og_len (rx_var 4) z_len) rx_int (nomark _)) rss_no rss_nil)
 (rss_cons (rs_if (rt_cmp (op_eqD (Room_u64 hr)) og_eq (rx_b1 call_len og_len (rx_var 4) z_len) rx_int (nomark _)) (rss_one (rs_ret (rx_tup (ra_cons (rx_var 3) (ra_cons (rx_sub (Room_u1 hr) (rx_var 4) rx_int) ra_nil))))) rss_nil)
 (rss_one (rs_set (i := 3) nd (rx_fld hT (rx_var 3))))))))
 (rss_cons (rs_if (rt_cmp op_isA og_is (rx_var 1) rx_non (nomark _)) rss_no rss_nil)
 rss_no))))
theorem ok_conjunction (hT : ClsT K FT) (S : Src K mg "conjunction" s_conjunction ["first", "second"])  : Def Pr w K mg base 1 "conjunction" ["first", "second"] sem_conjunction :=
  def_tr S sc_conjunction b_conjunction (fun fa cdv A outer s H Ex hr tk hp => by
      have nd := sc_conjunction.nd
      exact (rss_cons (rs_if (RWt.rt (rw_or (rt_cmp op_isA og_is (rx_var 0) rx_bl (nomark _)) (rw_or1 (rt_cmp op_isA og_is (rx_var 1) rx_bl (nomark _))))) (rss_one (rs_ret rx_bl)) rss_nil)
 (rss_cons (rs_if (RWt.rt (rw_or (rt_cmp op_isA og_is (rx_var 0) rx_non (nomark _)) (rw_or1 (rt_cmp op_isA og_is (rx_var 1) rx_non (nomark _))))) (rss_one (rs_ret rx_non)) rss_nil)
 (rss_one (rs_ret rx_bl)))))
theorem ok_disjunction (hT : ClsT K FT) (S : Src K mg "disjunction" s_disjunction ["first", "second"])  : Def Pr w K mg base 1 "disjunction" ["first", "second"] sem_disjunction :=
  def_tr S sc_disjunction b_disjunction (fun fa cdv A outer s H Ex hr tk hp => by
      have nd := sc_disjunction.nd
      exact (rss_cons (rs_if (RWt.rt (rw_or (rt_cmp op_isA og_is (rx_var 0) rx_bl (nomark _)) (rw_or1 (rt_cmp op_isA og_is (rx_var 1) rx_bl (nomark _))))) (rss_one (rs_ret rx_bl)) rss_nil)
 (rss_cons (rs_if (RWt.rt (rw_or (rt_cmp op_isA og_is (rx_var 0) rx_non (nomark _)) (rw_or1 (rt_cmp op_isA og_is (rx_var 1) rx_non (nomark _))))) (rss_one (rs_ret rx_non)) rss_nil)
 (rss_one (rs_ret rx_bl)))))
theorem ok_value_key (hT : ClsT K FT) (S : Src K mg "value_key" s_value_key ["value"]) (z_bool : mg "bool" = none) (z_int : mg "int" = none) (z_isinstance : mg "isinstance" = none) : Def Pr w K mg base 1 "value_key" ["value"] sem_value_key :=
  def_tr S sc_value_key b_value_key (fun fa cdv A outer s H Ex hr tk hp => by
      have nd := sc_value_key.nd
      exact (rss_cons (rs_if (rt_cmp op_isA og_is (rx_var 0) rx_non (nomark _)) (rss_one (rs_ret (rx_tup (ra_cons rx_int ra_nil)))) rss_nil)
 (rss_cons (rs_if (rt_truth (rx_isi (rx_var 0) z_isinstance z_bool)) (rss_one (rs_ret (rx_tup (ra_cons rx_int (ra_cons (rx_t1 call_int1 og_int (rx_var 0) z_int) ra_nil))))) rss_nil)
 (rss_cons (rs_if (rt_truth (rx_isi (rx_var 0) z_isinstance z_int)) (rss_one (rs_ret (rx_tup (ra_cons rx_int (ra_cons (rx_var 0) ra_nil))))) rss_nil)
 (rss_one (rs_ret (rx_tup (ra_cons rx_int (ra_cons (rx_var 0) ra_nil)))))))))
theorem ok_compare (hT : ClsT K FT) (S : Src K mg "compare" s_compare ["operator", "first", "second"]) (d_value_key : Def Pr w K mg base 1 "value_key" ["value"] sem_value_key) : Def Pr w K mg base 2 "compare" ["operator", "first", "second"] sem_compare :=
  def_tr S sc_compare b_compare (fun fa cdv A outer s H Ex hr tk hp => by
      have nd := sc_compare.nd
      exact (rss_cons (rs_if (RWt.rt (rw_or (rt_cmp op_isA og_is (rx_var 1) rx_non (nomark _)) (rw_or1 (rt_cmp op_isA og_is (rx_var 2) rx_non (nomark _))))) (rss_one (rs_ret rx_non)) rss_nil)
 (rss_cons (rs_set (i := 3) nd (rx_callP tk d_value_key hr (by decide) (ra_cons (rx_var 1) ra_nil)))
 (rss_cons (rs_set (i := 4) nd (rx_callP tk d_value_key hr (by decide) (ra_cons (rx_var 2) ra_nil)))
 (rss_cons (rs_if (rt_cmp (op_eqD (Room_u64 hr)) og_eq (rx_var 0) rx_str (nomark _)) (rss_one (rs_ret (rx_cmp (op_eqD (Room_u64 hr)) og_eq (rx_var 3) (rx_var 4) (nomark _)))) rss_nil)
 (rss_cons (rs_if (rt_cmp (op_eqD (Room_u64 hr)) og_eq (rx_var 0) rx_str (nomark _)) (rss_one (rs_ret (rx_cmp (op_neD (Room_u64 hr)) og_ne (rx_var 3) (rx_var 4) (nomark _)))) rss_nil)
 (rss_cons (rs_if (rt_cmp (op_eqD (Room_u64 hr)) og_eq (rx_var 0) rx_str (nomark _)) (rss_one (rs_ret (rx_cmp (op_ltO (Room_u64 hr)) og_ordO (rx_var 3) (rx_var 4) (nomark _)))) rss_nil)
 (rss_cons (rs_if (rt_cmp (op_eqD (Room_u64 hr)) og_eq (rx_var 0) rx_str (nomark _)) (rss_one (rs_ret (rx_cmp (op_leO (Room_u64 hr)) og_ordO (rx_var 3) (rx_var 4) (nomark _)))) rss_nil)
 (rss_cons (rs_if (rt_cmp (op_eqD (Room_u64 hr)) og_eq (rx_var 0) rx_str (nomark _)) (rss_one (rs_ret (rx_cmp (op_gtO (Room_u64 hr)) og_ordO (rx_var 3) (rx_var 4) (nomark _)))) rss_nil)
 (rss_one (rs_ret (rx_cmp (op_geO (Room_u64 hr)) og_ordO (rx_var 3) (rx_var 4) (nomark _)))))))))))))
theorem ok_combined (hT : ClsT K FT) (S : Src K mg "combined" s_combined ["operator", "first", "second"]) (d_arithmetic : Def Pr w K mg base 2 "arithmetic" ["operator", "first", "second"] sem_arithmetic) (d_compare : Def Pr w K mg base 2 "compare" ["operator", "first", "second"] sem_compare) (d_conjunction : Def Pr w K mg base 1 "conjunction" ["first", "second"] sem_conjunction) (d_disjunction : Def Pr w K mg base 1 "disjunction" ["first", "second"] sem_disjunction) (q_COMPARISONS : GlT K mg "COMPARISONS" D_COMPARISONS) : Def Pr w K mg base 3 "combined" ["operator", "first", "second"] sem_combined :=
  def_tr S sc_combined b_combined (fun fa cdv A outer s H Ex hr tk hp => by
      have nd := sc_combined.nd
      exact (rss_cons (rs_if (rt_cmp (op_eqD (Room_u64 hr)) og_eq (rx_var 0) rx_str (nomark _)) (rss_one (rs_ret (rx_callP tk d_conjunction hr (by decide) (ra_cons (rx_var 1) (ra_cons (rx_var 2) ra_nil))))) rss_nil)
 (rss_cons (rs_if (rt_cmp (op_eqD (Room_u64 hr)) og_eq (rx_var 0) rx_str (nomark _)) (rss_one (rs_ret (rx_callP tk d_disjunction hr (by decide) (ra_cons (rx_var 1) (ra_cons (rx_var 2) ra_nil))))) rss_nil)
 (rss_cons (rs_if (rt_cmp (op_inA (Room_u65 hr)) og_in (rx_var 0) (rx_globT q_COMPARISONS) (by with_unfolding_all rfl)) (rss_one (rs_ret (rx_callP tk d_compare hr (by decide) (ra_cons (rx_var 0) (ra_cons (rx_var 1) (ra_cons (rx_var 2) ra_nil)))))) rss_nil)
 (rss_one (rs_ret (rx_callP tk d_arithmetic hr (by decide) (ra_cons (rx_var 0) (ra_cons (rx_var 1) (ra_cons (rx_var 2) ra_nil))))))))))
theorem ok_negation (hT : ClsT K FT) (S : Src K mg "negation" s_negation ["value"])  : Def Pr w K mg base 1 "negation" ["value"] sem_negation :=
  def_tr S sc_negation b_negation (fun fa cdv A outer s H Ex hr tk hp => by
      have nd := sc_negation.nd
      exact (rss_cons (rs_if (rt_cmp op_isA og_is (rx_var 0) rx_non (nomark _)) (rss_one (rs_ret rx_non)) rss_nil)
 (rss_one (rs_ret (rx_not (rx_var 0))))))
theorem ok_same (hT : ClsT K FT) (S : Src K mg "same" s_same ["first", "second"]) (d_value_key : Def Pr w K mg base 1 "value_key" ["value"] sem_value_key) : Def Pr w K mg base 2 "same" ["first", "second"] sem_same :=
  def_tr S sc_same b_same (fun fa cdv A outer s H Ex hr tk hp => by
      have nd := sc_same.nd
      exact (rss_one (rs_ret (rx_cmp (op_eqD (Room_u64 hr)) og_eq (rx_callP tk d_value_key hr (by decide) (ra_cons (rx_var 0) ra_nil)) (rx_callP tk d_value_key hr (by decide) (ra_cons (rx_var 1) ra_nil)) (nomark _)))))
theorem ok_is_among (hT : ClsT K FT) (S : Src K mg "is_among" s_is_among ["value", "column"]) (d_same : Def Pr w K mg base 2 "same" ["first", "second"] sem_same) (z_any : mg "any" = none) (z_len : mg "len" = none) : Def Pr w K mg base 3 "is_among" ["value", "column"] sem_is_among :=
  def_tr S sc_is_among b_is_among (fun fa cdv A outer s H Ex hr tk hp => by
      have nd := sc_is_among.nd
      exact (rss_cons (rs_if (rt_cmp (op_eqD (Room_u64 hr)) og_eq (rx_b1 call_len og_len (rx_var 1) z_len) rx_int (nomark _)) (rss_one (rs_ret rx_bl)) rss_nil)
 (rss_cons (rs_if (rt_cmp op_isA og_is (rx_var 0) rx_non (nomark _)) (rss_one (rs_ret rx_non)) rss_nil)
 (rss_cons (rs_if (rt_truth (rx_any rfl (rx_lc false rfl nd [("other", 2)] (ri_items (rx_var 1)) (fun _ _ _ _ _ => (rg_name (i := 2) nd)) (fun _ _ _ _ _ => rts_nil) (fun _ _ _ _ _ => (rx_callP (ps := ["first", "second"]) takes0 d_same hr (by decide) (ra_cons (rx_var 0) (ra_cons (rx_var 2) ra_nil)))) (blkOk_by (N := ["value", "column", "other"]) (sc := defScope s_is_among) (by decide +kernel))) z_any)) (rss_one (rs_ret rx_bl)) rss_nil)
 (rss_cons (rs_if (rt_truth (rx_any rfl (rx_lc false rfl nd [("other", 2)] (ri_items (rx_var 1)) (fun _ _ _ _ _ => (rg_name (i := 2) nd)) (fun _ _ _ _ _ => rts_nil) (fun _ _ _ _ _ => (rx_cmp op_isA og_is (rx_var 2) rx_non (nomark _))) (blkOk_by (N := ["value", "column", "other"]) (sc := defScope s_is_among) (by decide +kernel))) z_any)) (rss_one (rs_ret rx_non)) rss_nil)
 (rss_one (rs_ret rx_bl)))))))
theorem ok_operands (hT : ClsT K FT) (S : Src K mg "operands" s_operands ["node"])  : Def Pr w K mg base 1 "operands" ["node"] sem_operands :=
  def_tr S sc_operands b_operands (fun fa cdv A outer s H Ex hr tk hp => by
      have nd := sc_operands.nd
      exact (rss_cons (rs_set (i := 1) nd (rx_sub (Room_u1 hr) (rx_var 0) rx_int))
 (rss_cons (rs_if (rt_cmp (op_inA (Room_u65 hr)) og_in (rx_var 1) (rx_tup (ra_cons rx_str (ra_cons rx_str (ra_cons rx_str (ra_cons rx_str ra_nil))))) (by with_unfolding_all rfl)) (rss_one (rs_ret (rx_lst false (ra_cons (rx_sub (Room_u1 hr) (rx_var 0) rx_int) ra_nil)))) rss_nil)
 (rss_cons (rs_if (rt_cmp (op_eqD (Room_u64 hr)) og_eq (rx_var 1) rx_str (nomark _)) (rss_one (rs_ret (rx_lst false (ra_cons (rx_sub (Room_u1 hr) (rx_var 0) rx_int) (ra_cons (rx_sub (Room_u1 hr) (rx_var 0) rx_int) ra_nil))))) rss_nil)
 (rss_cons (rs_if (rt_cmp (op_eqD (Room_u64 hr)) og_eq (rx_var 1) rx_str (nomark _)) (rss_one (rs_ret (rx_lst false (ra_cons (rx_sub (Room_u1 hr) (rx_var 0) rx_int) (ra_star (rx_sub (Room_u1 hr) (rx_var 0) rx_int) ra_nil))))) rss_nil)
 (rss_cons (rs_if (rt_cmp (op_eqD (Room_u64 hr)) og_eq (rx_var 1) rx_str (nomark _)) (rss_one (rs_ret (rx_lst false (ra_cons (rx_sub (Room_u1 hr) (rx_var 0) rx_int) (ra_cons (rx_sub (Room_u1 hr) (rx_var 0) rx_int) (ra_cons (rx_sub (Room_u1 hr) (rx_var 0) rx_int) ra_nil)))))) rss_nil)
 (rss_cons (rs_if (rt_cmp (op_eqD (Room_u64 hr)) og_eq (rx_var 1) rx_str (nomark _)) (rss_one (rs_ret (rx_lst false (ra_cons (rx_sub (Room_u1 hr) (rx_var 0) rx_int) ra_nil)))) rss_nil)
 (rss_one (rs_ret (rx_lst false ra_nil))))))))))
theorem ok_has_aggregate (hT : ClsT K FT) (S : Src K mg "has_aggregate" s_has_aggregate ["node"]) (d_operands : Def Pr w K mg base 1 "operands" ["node"] sem_operands) (z_any : mg "any" = none) : ∀ n : Nat, Def Pr w K mg base (2 + n) "has_aggregate" ["node"] (sem_has_aggregate n)
  | 0 => def_none S
  | n + 1 => by
    have ih := ok_has_aggregate hT S d_operands z_any n
    exact def_tr S sc_has_aggregate (b_has_aggregate (sem_has_aggregate n)) (fun fa cdv A outer s H Ex hr tk hp => by
      have nd := sc_has_aggregate.nd
      exact (rss_cons (rs_if (rt_cmp (op_inA (Room_u65 hr)) og_in (rx_sub (Room_u1 hr) (rx_var 0) rx_int) (rx_tup (ra_cons rx_str (ra_cons rx_str ra_nil))) (by with_unfolding_all rfl)) (rss_one (rs_ret rx_bl)) rss_nil)
 (rss_one (rs_ret (rx_any rfl (rx_lc false rfl nd [("part", 1)] (ri_items (rx_callP tk d_operands hr (Nat.le_trans (show 1 ≤ 2 from by decide) (Nat.le_add_right 2 n)) (ra_cons (rx_var 0) ra_nil))) (fun _ _ _ _ _ => (rg_name (i := 1) nd)) (fun _ _ _ _ _ => rts_nil) (fun _ _ _ _ _ => (rx_callP (ps := ["node"]) takes0 ih hr (Nat.le_refl _) (ra_cons (rx_var 1) ra_nil))) (blkOk_by (N := ["node", "part"]) (sc := defScope s_has_aggregate) (by decide +kernel))) z_any)))))
theorem ok_is_grouping (hT : ClsT K FT) (S : Src K mg "is_grouping" s_is_grouping ["select"]) (d_has_aggregate : Def Pr w K mg base 10 "has_aggregate" ["node"] (sem_has_aggregate 8)) (z_any : mg "any" = none) : Def Pr w K mg base 11 "is_grouping" ["select"] sem_is_grouping :=
  def_tr S sc_is_grouping b_is_grouping (fun fa cdv A outer s H Ex hr tk hp => by
      have nd := sc_is_grouping.nd
      exact (rss_cons (rs_if (RWt.rt (rw_or (rt_cmp op_isNotA og_is (rx_sub (Room_u1 hr) (rx_var 0) rx_int) rx_non (nomark _)) (rw_or1 (rt_cmp op_isNotA og_is (rx_sub (Room_u1 hr) (rx_var 0) rx_int) rx_non (nomark _))))) (rss_one (rs_ret rx_bl)) rss_nil)
 (rss_one (rs_ret (rx_and (rx_cmp op_isNotA og_is (rx_sub (Room_u1 hr) (rx_var 0) rx_int) rx_non (nomark _)) (rx_one (rx_any rfl (rx_lc false rfl nd [("item", 1)] (ri_items (rx_sub (Room_u1 hr) (rx_var 0) rx_int)) (fun _ _ _ _ _ => (rg_name (i := 1) nd)) (fun _ _ _ _ _ => rts_nil) (fun _ _ _ _ _ => (rx_callP (ps := ["node"]) takes0 d_has_aggregate hr (by decide) (ra_cons (rx_sub (Room_u1 hr) (rx_var 1) rx_int) ra_nil))) (blkOk_by (N := ["select", "item"]) (sc := defScope s_is_grouping) (by decide +kernel))) z_any)))))))
theorem ok_own_index (hT : ClsT K FT) (S : Src K mg "own_index" s_own_index ["columns", "node"]) (d_named : Def Pr w K mg base 1 "named" ["columns", "source", "name"] sem_named) (z_len : mg "len" = none) : Def Pr w K mg base 2 "own_index" ["columns", "node"] sem_own_index :=
  def_tr S sc_own_index b_own_index (fun fa cdv A outer s H Ex hr tk hp => by
      have nd := sc_own_index.nd
      exact (rss_cons (rs_if (rt_cmp (op_neD (Room_u64 hr)) og_ne (rx_sub (Room_u1 hr) (rx_var 1) rx_int) rx_str (nomark _)) (rss_one (rs_ret rx_non)) rss_nil)
 (rss_cons (rs_set (i := 2) nd (rx_callP tk d_named hr (by decide) (ra_cons (rx_var 0) (ra_cons (rx_sub (Room_u1 hr) (rx_var 1) rx_int) (ra_cons (rx_sub (Room_u1 hr) (rx_var 1) rx_int) ra_nil)))))
 (rss_cons (rs_if (rt_cmp (op_eqD (Room_u64 hr)) og_eq (rx_b1 call_len og_len (rx_var 2) z_len) rx_int (nomark _)) (rss_one (rs_ret (rx_sub (Room_u1 hr) (rx_var 2) rx_int))) rss_nil)
 (rss_one (rs_ret rx_non))))))
theorem ok_row_key (hT : ClsT K FT) (S : Src K mg "row_key" s_row_key ["row"]) (d_value_key : Def Pr w K mg base 1 "value_key" ["value"] sem_value_key) (z_tuple : mg "tuple" = none) : Def Pr w K mg base 2 "row_key" ["row"] sem_row_key :=
  def_tr S sc_row_key b_row_key (fun fa cdv A outer s H Ex hr tk hp => by
      have nd := sc_row_key.nd
      exact (rss_cons (rs_set (i := 1) nd (rx_lst true ra_nil))
 (rss_cons (rs_for (is := [2]) hp rfl (ri_items (rx_var 0)) (rg_name (i := 2) nd) (rss_one (rs_drop (rx_extend (rx_var 1) (rx_callP tk d_value_key hr (by decide) (ra_cons (rx_var 2) ra_nil))))))
 (rss_one (rs_ret (rx_t1 call_tuple_of og_tupOf (rx_var 1) z_tuple))))))
theorem ok_grouped_frames (hT : ClsT K FT) (S : Src K mg "grouped_frames" s_grouped_frames ["select", "columns", "rows", "outer"]) (d_Frame____init__ : DefM Pr w K mg base 1 "Frame" "__init__" ["self", "columns", "row", "members", "outer"] sem_Frame____init__) (d_own_index : Def Pr w K mg base 2 "own_index" ["columns", "node"] sem_own_index) (d_row_key : Def Pr w K mg base 2 "row_key" ["row"] sem_row_key) (k_Frame : MkC K mg "Frame") (z_len : mg "len" = none) : Def Pr w K mg base 3 "grouped_frames" ["select", "columns", "rows", "outer"] sem_grouped_frames :=
  def_tr S sc_grouped_frames b_grouped_frames (fun fa cdv A outer s H Ex hr tk hp => by
      have nd := sc_grouped_frames.nd
      exact (rss_cons (rs_if (rt_cmp op_isA og_is (rx_sub (Room_u1 hr) (rx_var 0) rx_int) rx_non (nomark _)) (rss_cons (rs_set (i := 4) nd (rx_tup ra_nil))
 (rss_cons (rs_if (rt_cmp op_gt og_gt (rx_b1 call_len og_len (rx_var 2) z_len) rx_int (nomark _)) (rss_one (rs_set (i := 4) nd (rx_sub (Room_u1 hr) (rx_var 2) rx_int))) rss_nil)
 (rss_one (rs_ret (rx_lst false (ra_cons (rx_makeP tk k_Frame d_Frame____init__ hr (by decide) (ra_cons (rx_var 1) (ra_cons (rx_var 4) (ra_cons (rx_var 2) (ra_cons (rx_var 3) ra_nil))))) ra_nil)))))) rss_nil)
 (rss_cons (rs_setLc false (i := 5) rfl nd [("node", 6)] (ri_items (rx_sub (Room_u1 hr) (rx_var 0) rx_int)) (fun _ _ _ _ _ => (rg_name (i := 6) nd)) (fun _ _ _ _ _ => rts_nil) (fun _ _ _ _ _ => (rx_callP (ps := ["columns", "node"]) takes0 d_own_index hr (by decide) (ra_cons (rx_var 1) (ra_cons (rx_var 6) ra_nil)))) (blkOk_by (N := ["select", "columns", "rows", "outer", "first", "indexes", "node", "groups", "row", "index", "members"]) (sc := defScope s_grouped_frames) (by decide +kernel)) (sw_true rfl rfl rfl (by decide +kernel)))
 (rss_cons (rs_set (i := 7) nd (rx_dict0 false))
 (rss_cons (rs_for (is := [8]) hp rfl (ri_items (rx_var 2)) (rg_name (i := 8) nd) rss_no)
 rss_no)))))
theorem ok_item_name (hT : ClsT K FT) (S : Src K mg "item_name" s_item_name ["item"])  : Def Pr w K mg base 1 "item_name" ["item"] sem_item_name :=
  def_tr S sc_item_name b_item_name (fun fa cdv A outer s H Ex hr tk hp => by
      have nd := sc_item_name.nd
      exact (rss_cons (rs_asg (is := [1, 2]) (rx_var 0) (rg_tup rfl (rgs_cons (rg_name (i := 1) nd) (rgs_cons (rg_name (i := 2) nd) rgs_nil)) 2))
 (rss_cons (rs_if (rt_cmp op_isNotA og_is (rx_var 2) rx_non (nomark _)) (rss_one (rs_ret (rx_var 2))) rss_nil)
 (rss_cons (rs_if (rt_cmp (op_eqD (Room_u64 hr)) og_eq (rx_sub (Room_u1 hr) (rx_var 1) rx_int) rx_str (nomark _)) (rss_one (rs_ret (rx_sub (Room_u1 hr) (rx_var 1) rx_int))) rss_nil)
 (rss_one (rs_ret rx_str))))))
theorem ok_without_repeats (hT : ClsT K FT) (S : Src K mg "without_repeats" s_without_repeats ["rows"]) (d_row_key : Def Pr w K mg base 2 "row_key" ["row"] sem_row_key) : Def Pr w K mg base 3 "without_repeats" ["rows"] sem_without_repeats :=
  def_tr S sc_without_repeats b_without_repeats (fun fa cdv A outer s H Ex hr tk hp => by
      have nd := sc_without_repeats.nd
      exact (rss_cons (rs_set (i := 1) nd (rx_dict0 false))
 (rss_cons (rs_for (is := [2]) hp rfl (ri_items (rx_var 0)) (rg_name (i := 2) nd) rss_no)
 rss_no)))
theorem ok_made_row (hT : ClsT K FT) (S_result_of : Src K mg "result_of" s_result_of ["query", "outer", "world"]) (S_select_result : Src K mg "select_result" s_select_result ["select", "outer", "world"]) (S_source_result : Src K mg "source_result" s_source_result ["source", "outer", "world"]) (S_kept_frames : Src K mg "kept_frames" s_kept_frames ["condition", "frames", "world"]) (S_value_of : Src K mg "value_of" s_value_of ["node", "frame", "world"]) (S_membership : Src K mg "membership" s_membership ["node", "frame", "world"]) (S_aggregate : Src K mg "aggregate" s_aggregate ["node", "frame", "world"]) (S_made_row : Src K mg "made_row" s_made_row ["items", "frame", "world"]) (d_Frame____init__ : DefM Pr w K mg base 1 "Frame" "__init__" ["self", "columns", "row", "members", "outer"] sem_Frame____init__) (d_arithmetic : Def Pr w K mg base 2 "arithmetic" ["operator", "first", "second"] sem_arithmetic) (d_bounded : Def Pr w K mg base 1 "bounded" ["number"] sem_bounded) (d_combined : Def Pr w K mg base 3 "combined" ["operator", "first", "second"] sem_combined) (d_compare : Def Pr w K mg base 2 "compare" ["operator", "first", "second"] sem_compare) (d_disjunction : Def Pr w K mg base 1 "disjunction" ["first", "second"] sem_disjunction) (d_grouped_frames : Def Pr w K mg base 3 "grouped_frames" ["select", "columns", "rows", "outer"] sem_grouped_frames) (d_is_among : Def Pr w K mg base 3 "is_among" ["value", "column"] sem_is_among) (d_is_grouping : Def Pr w K mg base 11 "is_grouping" ["select"] sem_is_grouping) (d_item_name : Def Pr w K mg base 1 "item_name" ["item"] sem_item_name) (d_locate : Def Pr w K mg base 2 "locate" ["scope", "source", "name"] sem_locate) (d_negation : Def Pr w K mg base 1 "negation" ["value"] sem_negation) (d_row_key : Def Pr w K mg base 2 "row_key" ["row"] sem_row_key) (d_table_result : Def Pr w K mg base 2 "table_result" ["source", "world"] sem_table_result) (d_value_key : Def Pr w K mg base 1 "value_key" ["value"] sem_value_key) (d_without_repeats : Def Pr w K mg base 3 "without_repeats" ["rows"] sem_without_repeats) (k_Frame : MkC K mg "Frame") (z_len : mg "len" = none) (z_sorted : mg "sorted" = none) (z_sum : mg "sum" = none) (z_tuple : mg "tuple" = none) : ∀ n : Nat, Def Pr w K mg base (12 + n) "result_of" ["query", "outer", "world"] (sem_result_of n) ∧ Def Pr w K mg base (12 + n) "select_result" ["select", "outer", "world"] (sem_select_result n) ∧ Def Pr w K mg base (12 + n) "source_result" ["source", "outer", "world"] (sem_source_result n) ∧ Def Pr w K mg base (12 + n) "kept_frames" ["condition", "frames", "world"] (sem_kept_frames n) ∧ Def Pr w K mg base (12 + n) "value_of" ["node", "frame", "world"] (sem_value_of n) ∧ Def Pr w K mg base (12 + n) "membership" ["node", "frame", "world"] (sem_membership n) ∧ Def Pr w K mg base (12 + n) "aggregate" ["node", "frame", "world"] (sem_aggregate n) ∧ Def Pr w K mg base (12 + n) "made_row" ["items", "frame", "world"] (sem_made_row n)
  | 0 => ⟨def_none S_result_of, def_none S_select_result, def_none S_source_result, def_none S_kept_frames, def_none S_value_of, def_none S_membership, def_none S_aggregate, def_none S_made_row⟩
  | n + 1 => by
    obtain ⟨ih_result_of, ih_select_result, ih_source_result, ih_kept_frames, ih_value_of, ih_membership, ih_aggregate, ih_made_row⟩ := ok_made_row hT S_result_of S_select_result S_source_result S_kept_frames S_value_of S_membership S_aggregate S_made_row d_Frame____init__ d_arithmetic d_bounded d_combined d_compare d_disjunction d_grouped_frames d_is_among d_is_grouping d_item_name d_locate d_negation d_row_key d_table_result d_value_key d_without_repeats k_Frame z_len z_sorted z_sum z_tuple n
    have t_result_of : Def Pr w K mg base (12 + (n + 1)) "result_of" ["query", "outer", "world"] (sem_result_of (n + 1)) := def_tr S_result_of sc_result_of (b_result_of (sem_result_of n) (sem_select_result n) (sem_source_result n) (sem_kept_frames n) (sem_value_of n) (sem_membership n) (sem_aggregate n) (sem_made_row n)) (fun fa cdv A outer s H Ex hr tk hp => by
      have nd := sc_result_of.nd
      exact (rss_cons (rs_if (rt_cmp (op_eqD (Room_u64 hr)) og_eq (rx_sub (Room_u1 hr) (rx_var 0) rx_int) rx_str (nomark _)) (rss_one (rs_ret (rx_callP tk ih_select_result hr (Nat.le_refl _) (ra_cons (rx_var 0) (ra_cons (rx_var 1) (ra_cons (rx_var 2) ra_nil)))))) rss_nil)
 (rss_cons (rs_asg (is := [3, 4]) (rx_callP tk ih_result_of hr (Nat.le_refl _) (ra_cons (rx_sub (Room_u1 hr) (rx_var 0) rx_int) (ra_cons (rx_var 1) (ra_cons (rx_var 2) ra_nil)))) (rg_tup rfl (rgs_cons (rg_name (i := 3) nd) (rgs_cons (rg_name (i := 4) nd) rgs_nil)) 2))
 (rss_cons (rs_set (i := 5) nd (rx_sub (Room_u1 hr) (rx_callP tk ih_result_of hr (Nat.le_refl _) (ra_cons (rx_sub (Room_u1 hr) (rx_var 0) rx_int) (ra_cons (rx_var 1) (ra_cons (rx_var 2) ra_nil)))) rx_int))
 (rss_cons (rs_if (rt_cmp (op_eqD (Room_u64 hr)) og_eq (rx_sub (Room_u1 hr) (rx_var 0) rx_int) rx_str (nomark _)) (rss_one (rs_ret (rx_tup (ra_cons (rx_var 3) (ra_cons (rx_bin op_addA og_add (rx_var 4) (rx_var 5)) ra_nil))))) rss_nil)
 (rss_cons (rs_if (rt_cmp (op_eqD (Room_u64 hr)) og_eq (rx_sub (Room_u1 hr) (rx_var 0) rx_int) rx_str (nomark _)) (rss_one (rs_ret (rx_tup (ra_cons (rx_var 3) (ra_cons (rx_callP tk d_without_repeats hr (Nat.le_trans (show 3 ≤ 12 from by decide) (Nat.le_add_right 12 n)) (ra_cons (rx_bin op_addA og_add (rx_var 4) (rx_var 5)) ra_nil)) ra_nil))))) rss_nil)
 rss_no))))))
    have t_select_result : Def Pr w K mg base (12 + (n + 1)) "select_result" ["select", "outer", "world"] (sem_select_result (n + 1)) := def_tr S_select_result sc_select_result (b_select_result (sem_result_of n) (sem_select_result n) (sem_source_result n) (sem_kept_frames n) (sem_value_of n) (sem_membership n) (sem_aggregate n) (sem_made_row n)) (fun fa cdv A outer s H Ex hr tk hp => by
      have nd := sc_select_result.nd
      exact (rss_cons (rs_set (i := 3) nd (rx_lst false ra_nil))
 (rss_cons (rs_set (i := 4) nd (rx_lst false (ra_cons (rx_tup ra_nil) ra_nil)))
 (rss_cons (rs_if (rt_cmp op_isNotA og_is (rx_sub (Room_u1 hr) (rx_var 0) rx_int) rx_non (nomark _)) (rss_one (rs_asg (is := [3, 4]) (rx_callP tk ih_source_result hr (Nat.le_refl _) (ra_cons (rx_sub (Room_u1 hr) (rx_var 0) rx_int) (ra_cons (rx_var 1) (ra_cons (rx_var 2) ra_nil)))) (rg_tup rfl (rgs_cons (rg_name (i := 3) nd) (rgs_cons (rg_name (i := 4) nd) rgs_nil)) 2))) rss_nil)
 (rss_cons (rs_set (i := 5) nd (rx_callP tk ih_kept_frames hr (Nat.le_refl _) (ra_cons (rx_sub (Room_u1 hr) (rx_var 0) rx_int) (ra_cons (rx_lc false rfl nd [("row", 6)] (ri_items (rx_var 4)) (fun _ _ _ _ _ => (rg_name (i := 6) nd)) (fun _ _ _ _ _ => rts_nil) (fun _ _ _ _ _ => (rx_makeP (ps := ["self", "columns", "row", "members", "outer"]) takes0 k_Frame d_Frame____init__ hr (Nat.le_trans (show 1 + 1 ≤ 12 from by decide) (Nat.le_add_right 12 n)) (ra_cons (rx_var 3) (ra_cons (rx_var 6) (ra_cons rx_non (ra_cons (rx_var 1) ra_nil)))))) (blkOk_by (N := ["select", "outer", "world", "columns", "rows", "frames", "row", "frame", "names", "column", "made", "item"]) (sc := defScope s_select_result) (by decide +kernel))) (ra_cons (rx_var 2) ra_nil)))))
 (rss_cons (rs_if (rt_truth (rx_callP tk d_is_grouping hr (Nat.le_trans (show 11 ≤ 12 from by decide) (Nat.le_add_right 12 n)) (ra_cons (rx_var 0) ra_nil))) (rss_one (rs_set (i := 5) nd (rx_callP tk d_grouped_frames hr (Nat.le_trans (show 3 ≤ 12 from by decide) (Nat.le_add_right 12 n)) (ra_cons (rx_var 0) (ra_cons (rx_var 3) (ra_cons (rx_lc false rfl nd [("frame", 7)] (ri_items (rx_var 5)) (fun _ _ _ _ _ => (rg_name (i := 7) nd)) (fun _ _ _ _ _ => rts_nil) (fun _ _ _ _ _ => (rx_fld hT (rx_var 7))) (blkOk_by (N := ["select", "outer", "world", "columns", "rows", "frames", "row", "frame", "names", "column", "made", "item"]) (sc := defScope s_select_result) (by decide +kernel))) (ra_cons (rx_var 1) ra_nil))))))) rss_nil)
 (rss_cons (rs_set (i := 5) nd (rx_callP tk ih_kept_frames hr (Nat.le_refl _) (ra_cons (rx_sub (Room_u1 hr) (rx_var 0) rx_int) (ra_cons (rx_var 5) (ra_cons (rx_var 2) ra_nil)))))
 (rss_cons (rs_if (rt_cmp op_isA og_is (rx_sub (Room_u1 hr) (rx_var 0) rx_int) rx_non (nomark _)) (rss_cons (rs_setLc false (i := 8) rfl nd [("column", 9)] (ri_items (rx_var 3)) (fun _ _ _ _ _ => (rg_name (i := 9) nd)) (fun _ _ _ _ _ => rts_nil) (fun _ _ _ _ _ => (rx_sub (Room_u1 hr) (rx_var 9) rx_int)) (blkOk_by (N := ["select", "outer", "world", "columns", "rows", "frames", "row", "frame", "names", "column", "made", "item"]) (sc := defScope s_select_result) (by decide +kernel)) (sw_true rfl rfl rfl (by decide +kernel)))
 (rss_one (rs_setLc false (i := 10) rfl nd [("frame", 7)] (ri_items (rx_var 5)) (fun _ _ _ _ _ => (rg_name (i := 7) nd)) (fun _ _ _ _ _ => rts_nil) (fun _ _ _ _ _ => (rx_fld hT (rx_var 7))) (blkOk_by (N := ["select", "outer", "world", "columns", "rows", "frames", "row", "frame", "names", "column", "made", "item"]) (sc := defScope s_select_result) (by decide +kernel)) (sw_true rfl rfl rfl (by decide +kernel))))) (rss_cons (rs_setLc false (i := 8) rfl nd [("item", 11)] (ri_items (rx_sub (Room_u1 hr) (rx_var 0) rx_int)) (fun _ _ _ _ _ => (rg_name (i := 11) nd)) (fun _ _ _ _ _ => rts_nil) (fun _ _ _ _ _ => (rx_callP (ps := ["item"]) takes0 d_item_name hr (Nat.le_trans (show 1 ≤ 12 from by decide) (Nat.le_add_right 12 n)) (ra_cons (rx_var 11) ra_nil))) (blkOk_by (N := ["select", "outer", "world", "columns", "rows", "frames", "row", "frame", "names", "column", "made", "item"]) (sc := defScope s_select_result) (by decide +kernel)) (sw_true rfl rfl rfl (by decide +kernel)))
 (rss_one (rs_setLc false (i := 10) rfl nd [("frame", 7)] (ri_items (rx_var 5)) (fun _ _ _ _ _ => (rg_name (i := 7) nd)) (fun _ _ _ _ _ => rts_nil) (fun _ _ _ _ _ => (rx_callP (ps := ["items", "frame", "world"]) takes0 ih_made_row hr (Nat.le_refl _) (ra_cons (rx_sub (Room_u1 hr) (rx_var 0) rx_int) (ra_cons (rx_var 7) (ra_cons (rx_var 2) ra_nil))))) (blkOk_by (N := ["select", "outer", "world", "columns", "rows", "frames", "row", "frame", "names", "column", "made", "item"]) (sc := defScope s_select_result) (by decide +kernel)) (sw_true rfl rfl rfl (by decide +kernel))))))
 (rss_cons (rs_if (rt_truth (rx_sub (Room_u1 hr) (rx_var 0) rx_int)) (rss_one (rs_set (i := 10) nd (rx_callP tk d_without_repeats hr (Nat.le_trans (show 3 ≤ 12 from by decide) (Nat.le_add_right 12 n)) (ra_cons (rx_var 10) ra_nil)))) rss_nil)
 (rss_one (rs_ret (rx_tup (ra_cons (rx_var 8) (ra_cons (rx_var 10) ra_nil))))))))))))))
    have t_source_result : Def Pr w K mg base (12 + (n + 1)) "source_result" ["source", "outer", "world"] (sem_source_result (n + 1)) := def_tr S_source_result sc_source_result (b_source_result (sem_result_of n) (sem_select_result n) (sem_source_result n) (sem_kept_frames n) (sem_value_of n) (sem_membership n) (sem_aggregate n) (sem_made_row n)) (fun fa cdv A outer s H Ex hr tk hp => by
      have nd := sc_source_result.nd
      exact (rss_cons (rs_if (rt_cmp (op_eqD (Room_u64 hr)) og_eq (rx_sub (Room_u1 hr) (rx_var 0) rx_int) rx_str (nomark _)) (rss_one (rs_ret (rx_callP tk d_table_result hr (Nat.le_trans (show 2 ≤ 12 from by decide) (Nat.le_add_right 12 n)) (ra_cons (rx_var 0) (ra_cons (rx_var 2) ra_nil))))) rss_nil)
 (rss_cons (rs_if (rt_cmp (op_eqD (Room_u64 hr)) og_eq (rx_sub (Room_u1 hr) (rx_var 0) rx_int) rx_str (nomark _)) (rss_cons (rs_asg (is := [3, 4]) (rx_callP tk ih_result_of hr (Nat.le_refl _) (ra_cons (rx_sub (Room_u1 hr) (rx_var 0) rx_int) (ra_cons (rx_var 1) (ra_cons (rx_var 2) ra_nil)))) (rg_tup rfl (rgs_cons (rg_name (i := 3) nd) (rgs_cons (rg_name (i := 4) nd) rgs_nil)) 2))
 (rss_one (rs_ret (rx_tup (ra_cons (rx_lc false rfl nd [("name", 5)] (ri_items (rx_var 3)) (fun _ _ _ _ _ => (rg_name (i := 5) nd)) (fun _ _ _ _ _ => rts_nil) (fun _ _ _ _ _ => (rx_tup (ra_cons (rx_sub (Room_u1 hr) (rx_var 0) rx_int) (ra_cons (rx_var 5) ra_nil)))) (blkOk_by (N := ["source", "outer", "world", "names", "rows", "name", "left", "left_rows", "right", "right_rows", "columns", "joined", "row", "frames", "other", "matches", "frame", "_"]) (sc := defScope s_source_result) (by decide +kernel))) (ra_cons (rx_var 4) ra_nil)))))) rss_nil)
 (rss_cons (rs_asg (is := [6, 7]) (rx_callP tk ih_source_result hr (Nat.le_refl _) (ra_cons (rx_sub (Room_u1 hr) (rx_var 0) rx_int) (ra_cons (rx_var 1) (ra_cons (rx_var 2) ra_nil)))) (rg_tup rfl (rgs_cons (rg_name (i := 6) nd) (rgs_cons (rg_name (i := 7) nd) rgs_nil)) 2))
 (rss_cons (rs_asg (is := [8, 9]) (rx_callP tk ih_source_result hr (Nat.le_refl _) (ra_cons (rx_sub (Room_u1 hr) (rx_var 0) rx_int) (ra_cons (rx_var 1) (ra_cons (rx_var 2) ra_nil)))) (rg_tup rfl (rgs_cons (rg_name (i := 8) nd) (rgs_cons (rg_name (i := 9) nd) rgs_nil)) 2))
 (rss_cons (rs_set (i := 10) nd (rx_bin op_addA og_add (rx_var 6) (rx_var 8)))
 (rss_cons (rs_set (i := 11) nd (rx_lst true ra_nil))
 (rss_cons (rs_for (is := [12]) hp rfl (ri_items (rx_var 7)) (rg_name (i := 12) nd) (rss_cons (rs_setLc false (i := 13) rfl nd [("other", 14)] (ri_items (rx_var 9)) (fun _ _ _ _ _ => (rg_name (i := 14) nd)) (fun _ _ _ _ _ => rts_nil) (fun _ _ _ _ _ => (rx_makeP (ps := ["self", "columns", "row", "members", "outer"]) takes0 k_Frame d_Frame____init__ hr (Nat.le_trans (show 1 + 1 ≤ 12 from by decide) (Nat.le_add_right 12 n)) (ra_cons (rx_var 10) (ra_cons (rx_bin op_addA og_add (rx_var 12) (rx_var 14)) (ra_cons rx_non (ra_cons (rx_var 1) ra_nil)))))) (blkOk_by (N := ["source", "outer", "world", "names", "rows", "name", "left", "left_rows", "right", "right_rows", "columns", "joined", "row", "frames", "other", "matches", "frame", "_"]) (sc := defScope s_source_result) (by decide +kernel)) (sw_true rfl rfl rfl (by decide +kernel)))
 (rss_cons (rs_setLc false (i := 15) rfl nd [("frame", 16)] (ri_items (rx_callP tk ih_kept_frames hr (Nat.le_refl _) (ra_cons (rx_sub (Room_u1 hr) (rx_var 0) rx_int) (ra_cons (rx_var 13) (ra_cons (rx_var 2) ra_nil))))) (fun _ _ _ _ _ => (rg_name (i := 16) nd)) (fun _ _ _ _ _ => rts_nil) (fun _ _ _ _ _ => (rx_fld hT (rx_var 16))) (blkOk_by (N := ["source", "outer", "world", "names", "rows", "name", "left", "left_rows", "right", "right_rows", "columns", "joined", "row", "frames", "other", "matches", "frame", "_"]) (sc := defScope s_source_result) (by decide +kernel)) (sw_true rfl rfl rfl (by decide +kernel)))
 (rss_cons (rs_if (RWt.rt (rw_and (rt_truth (rx_sub (Room_u1 hr) (rx_var 0) rx_int)) (rw_and1 (rt_cmp (op_eqD (Room_u64 hr)) og_eq (rx_b1 call_len og_len (rx_var 15) z_len) rx_int (nomark _))))) (rss_one (rs_set (i := 15) nd (rx_lst false (ra_cons (rx_bin op_addA og_add (rx_var 12) (rx_t1 call_tuple_of og_tupOf (rx_lc false rfl nd [("_", 17)] (ri_items (rx_var 8)) (fun _ _ _ _ _ => (rg_name (i := 17) nd)) (fun _ _ _ _ _ => rts_nil) (fun _ _ _ _ _ => rx_non) (blkOk_by (N := ["source", "outer", "world", "names", "rows", "name", "left", "left_rows", "right", "right_rows", "columns", "joined", "row", "frames", "other", "matches", "frame", "_"]) (sc := defScope s_source_result) (by decide +kernel))) z_tuple)) ra_nil)))) rss_nil)
 (rss_one (rs_drop (rx_extend (rx_var 11) (rx_var 15))))))))
 (rss_one (rs_ret (rx_tup (ra_cons (rx_var 10) (ra_cons (rx_var 11) ra_nil)))))))))))))
    have t_kept_frames : Def Pr w K mg base (12 + (n + 1)) "kept_frames" ["condition", "frames", "world"] (sem_kept_frames (n + 1)) := def_tr S_kept_frames sc_kept_frames (b_kept_frames (sem_result_of n) (sem_select_result n) (sem_source_result n) (sem_kept_frames n) (sem_value_of n) (sem_membership n) (sem_aggregate n) (sem_made_row n)) (fun fa cdv A outer s H Ex hr tk hp => by
      have nd := sc_kept_frames.nd
      exact (rss_cons (rs_if (rt_cmp op_isA og_is (rx_var 0) rx_non (nomark _)) (rss_one (rs_ret (rx_var 1))) rss_nil)
 (rss_one (rs_ret (rx_lc false rfl nd [("frame", 3)] (ri_items (rx_var 1)) (fun _ _ _ _ _ => (rg_name (i := 3) nd)) (fun _ _ _ _ _ => (rts_one (rt_cmp op_isA og_is (rx_callP (ps := ["node", "frame", "world"]) takes0 ih_value_of hr (Nat.le_refl _) (ra_cons (rx_var 0) (ra_cons (rx_var 3) (ra_cons (rx_var 2) ra_nil)))) rx_bl (nomark _)))) (fun _ _ _ _ _ => (rx_var 3)) (blkOk_by (N := ["condition", "frames", "world", "frame"]) (sc := defScope s_kept_frames) (by decide +kernel)))))))
    have t_value_of : Def Pr w K mg base (12 + (n + 1)) "value_of" ["node", "frame", "world"] (sem_value_of (n + 1)) := def_tr S_value_of sc_value_of (b_value_of (sem_result_of n) (sem_select_result n) (sem_source_result n) (sem_kept_frames n) (sem_value_of n) (sem_membership n) (sem_aggregate n) (sem_made_row n)) (fun fa cdv A outer s H Ex hr tk hp => by
      have nd := sc_value_of.nd
      exact (rss_cons (rs_set (i := 3) nd (rx_sub (Room_u1 hr) (rx_var 0) rx_int))
 (rss_cons (rs_if (rt_cmp (op_eqD (Room_u64 hr)) og_eq (rx_var 3) rx_str (nomark _)) (rss_one (rs_ret (rx_sub (Room_u1 hr) (rx_var 0) rx_int))) rss_nil)
 (rss_cons (rs_if (rt_cmp (op_eqD (Room_u64 hr)) og_eq (rx_var 3) rx_str (nomark _)) (rss_one (rs_ret (rx_sub (Room_u1 hr) (rx_fld hT (rx_var 2)) (rx_bin op_sub og_sub (rx_sub (Room_u1 hr) (rx_var 0) rx_int) rx_int)))) rss_nil)
 (rss_cons (rs_if (rt_cmp (op_eqD (Room_u64 hr)) og_eq (rx_var 3) rx_str (nomark _)) (rss_cons (rs_asg (is := [4, 5]) (rx_callP tk d_locate hr (Nat.le_trans (show 2 ≤ 12 from by decide) (Nat.le_add_right 12 n)) (ra_cons (rx_var 1) (ra_cons (rx_sub (Room_u1 hr) (rx_var 0) rx_int) (ra_cons (rx_sub (Room_u1 hr) (rx_var 0) rx_int) ra_nil)))) (rg_tup rfl (rgs_cons (rg_name (i := 4) nd) (rgs_cons (rg_name (i := 5) nd) rgs_nil)) 2))
 (rss_one (rs_ret (rx_sub (Room_u1 hr) (rx_fld hT (rx_var 4)) (rx_var 5))))) rss_nil)
 (rss_cons (rs_if (rt_cmp (op_eqD (Room_u64 hr)) og_eq (rx_var 3) rx_str (nomark _)) (rss_one (rs_ret (rx_callP tk d_combined hr (Nat.le_trans (show 3 ≤ 12 from by decide) (Nat.le_add_right 12 n)) (ra_cons (rx_sub (Room_u1 hr) (rx_var 0) rx_int) (ra_cons (rx_callP tk ih_value_of hr (Nat.le_refl _) (ra_cons (rx_sub (Room_u1 hr) (rx_var 0) rx_int) (ra_cons (rx_var 1) (ra_cons (rx_var 2) ra_nil)))) (ra_cons (rx_callP tk ih_value_of hr (Nat.le_refl _) (ra_cons (rx_sub (Room_u1 hr) (rx_var 0) rx_int) (ra_cons (rx_var 1) (ra_cons (rx_var 2) ra_nil)))) ra_nil)))))) rss_nil)
 (rss_cons (rs_if (rt_cmp (op_eqD (Room_u64 hr)) og_eq (rx_var 3) rx_str (nomark _)) (rss_one (rs_ret (rx_callP tk d_negation hr (Nat.le_trans (show 1 ≤ 12 from by decide) (Nat.le_add_right 12 n)) (ra_cons (rx_callP tk ih_value_of hr (Nat.le_refl _) (ra_cons (rx_sub (Room_u1 hr) (rx_var 0) rx_int) (ra_cons (rx_var 1) (ra_cons (rx_var 2) ra_nil)))) ra_nil)))) rss_nil)
 (rss_cons (rs_if (rt_cmp (op_eqD (Room_u64 hr)) og_eq (rx_var 3) rx_str (nomark _)) (rss_one (rs_ret (rx_callP tk d_arithmetic hr (Nat.le_trans (show 2 ≤ 12 from by decide) (Nat.le_add_right 12 n)) (ra_cons rx_str (ra_cons rx_int (ra_cons (rx_callP tk ih_value_of hr (Nat.le_refl _) (ra_cons (rx_sub (Room_u1 hr) (rx_var 0) rx_int) (ra_cons (rx_var 1) (ra_cons (rx_var 2) ra_nil)))) ra_nil)))))) rss_nil)
 (rss_cons (rs_if (rt_cmp (op_eqD (Room_u64 hr)) og_eq (rx_var 3) rx_str (nomark _)) (rss_one (rs_ret (rx_cmp (op_neD (Room_u64 hr)) og_ne (rx_cmp op_isA og_is (rx_callP tk ih_value_of hr (Nat.le_refl _) (ra_cons (rx_sub (Room_u1 hr) (rx_var 0) rx_int) (ra_cons (rx_var 1) (ra_cons (rx_var 2) ra_nil)))) rx_non (nomark _)) (rx_sub (Room_u1 hr) (rx_var 0) rx_int) (nomark _)))) rss_nil)
 (rss_cons (rs_if (rt_cmp (op_inA (Room_u65 hr)) og_in (rx_var 3) (rx_tup (ra_cons rx_str (ra_cons rx_str ra_nil))) (by with_unfolding_all rfl)) (rss_one (rs_ret (rx_callP tk ih_membership hr (Nat.le_refl _) (ra_cons (rx_var 0) (ra_cons (rx_var 1) (ra_cons (rx_var 2) ra_nil)))))) rss_nil)
 (rss_cons (rs_if (rt_cmp (op_eqD (Room_u64 hr)) og_eq (rx_var 3) rx_str (nomark _)) (rss_one (rs_ret (rx_cmp op_gt og_gt (rx_b1 call_len og_len (rx_sub (Room_u1 hr) (rx_callP tk ih_result_of hr (Nat.le_refl _) (ra_cons (rx_sub (Room_u1 hr) (rx_var 0) rx_int) (ra_cons (rx_var 1) (ra_cons (rx_var 2) ra_nil)))) rx_int) z_len) rx_int (nomark _)))) rss_nil)
 (rss_cons (rs_if (rt_cmp (op_eqD (Room_u64 hr)) og_eq (rx_var 3) rx_str (nomark _)) (rss_one (rs_ret (rx_sub (Room_u1 hr) (rx_sub (Room_u1 hr) (rx_sub (Room_u1 hr) (rx_callP tk ih_result_of hr (Nat.le_refl _) (ra_cons (rx_sub (Room_u1 hr) (rx_var 0) rx_int) (ra_cons (rx_var 1) (ra_cons (rx_var 2) ra_nil)))) rx_int) rx_int) rx_int))) rss_nil)
 (rss_cons (rs_if (rt_cmp (op_eqD (Room_u64 hr)) og_eq (rx_var 3) rx_str (nomark _)) (rss_cons (rs_if (rt_cmp op_isA og_is (rx_callP tk ih_value_of hr (Nat.le_refl _) (ra_cons (rx_sub (Room_u1 hr) (rx_var 0) rx_int) (ra_cons (rx_var 1) (ra_cons (rx_var 2) ra_nil)))) rx_bl (nomark _)) (rss_one (rs_ret (rx_callP tk ih_value_of hr (Nat.le_refl _) (ra_cons (rx_sub (Room_u1 hr) (rx_var 0) rx_int) (ra_cons (rx_var 1) (ra_cons (rx_var 2) ra_nil)))))) rss_nil)
 (rss_one (rs_ret (rx_callP tk ih_value_of hr (Nat.le_refl _) (ra_cons (rx_sub (Room_u1 hr) (rx_var 0) rx_int) (ra_cons (rx_var 1) (ra_cons (rx_var 2) ra_nil))))))) rss_nil)
 (rss_one (rs_ret (rx_callP tk ih_aggregate hr (Nat.le_refl _) (ra_cons (rx_var 0) (ra_cons (rx_var 1) (ra_cons (rx_var 2) ra_nil)))))))))))))))))))
    have t_membership : Def Pr w K mg base (12 + (n + 1)) "membership" ["node", "frame", "world"] (sem_membership (n + 1)) := def_tr S_membership sc_membership (b_membership (sem_result_of n) (sem_select_result n) (sem_source_result n) (sem_kept_frames n) (sem_value_of n) (sem_membership n) (sem_aggregate n) (sem_made_row n)) (fun fa cdv A outer s H Ex hr tk hp => by
      have nd := sc_membership.nd
      exact (rss_cons (rs_set (i := 3) nd (rx_callP tk ih_value_of hr (Nat.le_refl _) (ra_cons (rx_sub (Room_u1 hr) (rx_var 0) rx_int) (ra_cons (rx_var 1) (ra_cons (rx_var 2) ra_nil)))))
 (rss_cons (rs_if (rt_cmp (op_eqD (Room_u64 hr)) og_eq (rx_sub (Room_u1 hr) (rx_var 0) rx_int) rx_str (nomark _)) (rss_cons (rs_set (i := 4) nd rx_bl)
 (rss_one (rs_for (is := [5]) hp rfl (ri_items (rx_sub (Room_u1 hr) (rx_var 0) rx_int)) (rg_name (i := 5) nd) (rss_one (rs_set (i := 4) nd (rx_callP tk d_disjunction hr (Nat.le_trans (show 1 ≤ 12 from by decide) (Nat.le_add_right 12 n)) (ra_cons (rx_var 4) (ra_cons (rx_callP tk d_compare hr (Nat.le_trans (show 2 ≤ 12 from by decide) (Nat.le_add_right 12 n)) (ra_cons rx_str (ra_cons (rx_var 3) (ra_cons (rx_callP tk ih_value_of hr (Nat.le_refl _) (ra_cons (rx_var 5) (ra_cons (rx_var 1) (ra_cons (rx_var 2) ra_nil)))) ra_nil)))) ra_nil)))))))) (rss_one (rs_set (i := 4) nd (rx_callP tk d_is_among hr (Nat.le_trans (show 3 ≤ 12 from by decide) (Nat.le_add_right 12 n)) (ra_cons (rx_var 3) (ra_cons (rx_lc false rfl nd [("row", 6)] (ri_items (rx_sub (Room_u1 hr) (rx_callP tk ih_result_of hr (Nat.le_refl _) (ra_cons (rx_sub (Room_u1 hr) (rx_var 0) rx_int) (ra_cons (rx_var 1) (ra_cons (rx_var 2) ra_nil)))) rx_int)) (fun _ _ _ _ _ => (rg_name (i := 6) nd)) (fun _ _ _ _ _ => rts_nil) (fun _ _ _ _ _ => (rx_sub (Room_u1 hr) (rx_var 6) rx_int)) (blkOk_by (N := ["node", "frame", "world", "value", "found", "item", "row"]) (sc := defScope s_membership) (by decide +kernel))) ra_nil))))))
 (rss_cons (rs_if (rt_truth (rx_sub (Room_u1 hr) (rx_var 0) rx_int)) (rss_one (rs_ret (rx_callP tk d_negation hr (Nat.le_trans (show 1 ≤ 12 from by decide) (Nat.le_add_right 12 n)) (ra_cons (rx_var 4) ra_nil)))) rss_nil)
 (rss_one (rs_ret (rx_var 4)))))))
    have t_aggregate : Def Pr w K mg base (12 + (n + 1)) "aggregate" ["node", "frame", "world"] (sem_aggregate (n + 1)) := def_tr S_aggregate sc_aggregate (b_aggregate (sem_result_of n) (sem_select_result n) (sem_source_result n) (sem_kept_frames n) (sem_value_of n) (sem_membership n) (sem_aggregate n) (sem_made_row n)) (fun fa cdv A outer s H Ex hr tk hp => by
      have nd := sc_aggregate.nd
      exact (rss_cons (rs_if (rt_cmp (op_eqD (Room_u64 hr)) og_eq (rx_sub (Room_u1 hr) (rx_var 0) rx_int) rx_str (nomark _)) (rss_one (rs_ret (rx_b1 call_len og_len (rx_fld hT (rx_var 1)) z_len))) rss_nil)
 (rss_cons (rs_set (i := 3) nd (rx_lst true ra_nil))
 (rss_cons (rs_for (is := [4]) hp rfl (ri_items (rx_fld hT (rx_var 1))) (rg_name (i := 4) nd) (rss_cons (rs_set (i := 5) nd (rx_callP tk ih_value_of hr (Nat.le_refl _) (ra_cons (rx_sub (Room_u1 hr) (rx_var 0) rx_int) (ra_cons (rx_makeP tk k_Frame d_Frame____init__ hr (Nat.le_trans (show 1 + 1 ≤ 12 from by decide) (Nat.le_add_right 12 n)) (ra_cons (rx_fld hT (rx_var 1)) (ra_cons (rx_var 4) (ra_cons rx_non (ra_cons (rx_fld hT (rx_var 1)) ra_nil))))) (ra_cons (rx_var 2) ra_nil)))))
 (rss_one (rs_if (rt_cmp op_isNotA og_is (rx_var 5) rx_non (nomark _)) (rss_one (rs_drop (rx_append (rx_var 3) (rx_var 5)))) rss_nil))))
 (rss_cons (rs_if (rt_cmp (op_eqD (Room_u64 hr)) og_eq (rx_sub (Room_u1 hr) (rx_var 0) rx_int) rx_str (nomark _)) (rss_one (rs_ret (rx_b1 call_len og_len (rx_var 3) z_len))) rss_nil)
 (rss_cons (rs_if (rt_cmp (op_eqD (Room_u64 hr)) og_eq (rx_b1 call_len og_len (rx_var 3) z_len) rx_int (nomark _)) (rss_one (rs_ret rx_non)) rss_nil)
 (rss_cons (rs_if (rt_cmp (op_eqD (Room_u64 hr)) og_eq (rx_sub (Room_u1 hr) (rx_var 0) rx_int) rx_str (nomark _)) (rss_one (rs_ret (rx_callP tk d_bounded hr (Nat.le_trans (show 1 ≤ 12 from by decide) (Nat.le_add_right 12 n)) (ra_cons (rx_sum rfl (rx_var 3) z_sum) ra_nil)))) rss_nil)
 (rss_cons (rs_set (i := 3) nd (rx_sortK true d_value_key hr (Nat.le_trans (show 1 + 2 ≤ 12 from by decide) (Nat.le_add_right 12 n)) (rx_var 3) z_sorted))
 (rss_cons (rs_if (rt_cmp (op_eqD (Room_u64 hr)) og_eq (rx_sub (Room_u1 hr) (rx_var 0) rx_int) rx_str (nomark _)) (rss_one (rs_ret (rx_sub (Room_u1 hr) (rx_var 3) rx_int))) rss_nil)
 (rss_one (rs_ret (rx_sub (Room_u1 hr) (rx_var 3) (rx_un un_neg og_neg rx_int)))))))))))))
    have t_made_row : Def Pr w K mg base (12 + (n + 1)) "made_row" ["items", "frame", "world"] (sem_made_row (n + 1)) := def_tr S_made_row sc_made_row (b_made_row (sem_result_of n) (sem_select_result n) (sem_source_result n) (sem_kept_frames n) (sem_value_of n) (sem_membership n) (sem_aggregate n) (sem_made_row n)) (fun fa cdv A outer s H Ex hr tk hp => by
      have nd := sc_made_row.nd
      exact (rss_one (rs_ret (rx_t1 call_tuple_of og_tupOf (rx_lc false rfl nd [("item", 3)] (ri_items (rx_var 0)) (fun _ _ _ _ _ => (rg_name (i := 3) nd)) (fun _ _ _ _ _ => rts_nil) (fun _ _ _ _ _ => (rx_callP (ps := ["node", "frame", "world"]) takes0 ih_value_of hr (Nat.le_refl _) (ra_cons (rx_sub (Room_u1 hr) (rx_var 3) rx_int) (ra_cons (rx_var 1) (ra_cons (rx_var 2) ra_nil))))) (blkOk_by (N := ["items", "frame", "world", "item"]) (sc := defScope s_made_row) (by decide +kernel))) z_tuple))))
    exact ⟨t_result_of, t_select_result, t_source_result, t_kept_frames, t_value_of, t_membership, t_aggregate, t_made_row⟩
theorem ok_World____init__ (hT : ClsT K FT) (S : SrcM K "World" "__init__" s_World____init__ ["self", "sources", "parameters"] "World.__init__")  : DefM Pr w K mg base 1 "World" "__init__" ["self", "sources", "parameters"] sem_World____init__ :=
  defM_tr S sc_World____init__ b_World____init__ (fun fa cdv A outer s H Ex hr tk hp => by
      have nd := sc_World____init__.nd
      exact (rss_cons (rs_setF hT (rx_var 0) (rx_var 1))
 (rss_one (rs_setF hT (rx_var 0) (rx_var 2)))))
theorem ok_query_rows (hT : ClsT K FT) (S : Src K mg "query_rows" s_query_rows ["query", "sources", "parameters"]) (d_World____init__ : DefM Pr w K mg base 1 "World" "__init__" ["self", "sources", "parameters"] sem_World____init__) (d_result_of : Def Pr w K mg base 32 "result_of" ["query", "outer", "world"] (sem_result_of 20)) (k_World : MkC K mg "World") : Def Pr w K mg base 33 "query_rows" ["query", "sources", "parameters"] sem_query_rows :=
  def_tr S sc_query_rows b_query_rows (fun fa cdv A outer s H Ex hr tk hp => by
      have nd := sc_query_rows.nd
      exact (rss_one (rs_ret (rx_sub (Room_u1 hr) (rx_callP tk d_result_of hr (by decide) (ra_cons (rx_var 0) (ra_cons rx_non (ra_cons (rx_makeP tk k_World d_World____init__ hr (by decide) (ra_cons (rx_var 1) (ra_cons (rx_var 2) ra_nil))) ra_nil)))) rx_int))))
theorem ok__law_asked (hT : ClsT K FT) (S : Src K mg "_law_asked" s__law_asked ["first", "second"]) (d_Source____init__ : DefM Pr w K mg base 1 "Source" "__init__" ["self", "name", "columns", "kinds", "rows"] sem_Source____init__) (d__law_bounded : Def Pr w K mg base 1 "_law_bounded" ["number"] sem__law_bounded) (d__law_due : Def Pr w K mg base 2 "_law_due" ["first", "second"] sem__law_due) (d__law_same : Def Pr w K mg base 9 "_law_same" ["actual", "expected"] (sem__law_same 8)) (d_query_rows : Def Pr w K mg base 33 "query_rows" ["query", "sources", "parameters"] sem_query_rows) (k_Source : MkC K mg "Source") (z_tuple : mg "tuple" = none) : Def Pr w K mg base 34 "_law_asked" ["first", "second"] sem__law_asked :=
  def_tr S sc__law_asked b__law_asked (fun fa cdv A outer s H Ex hr tk hp => by
      have nd := sc__law_asked.nd
      exact (rss_cons (rs_set (i := 2) nd (rx_lst false (ra_cons (rx_tup (ra_cons rx_str (ra_cons rx_non (ra_cons rx_str ra_nil)))) (ra_cons (rx_tup (ra_cons rx_str (ra_cons rx_non (ra_cons rx_str ra_nil)))) ra_nil))))
 (rss_cons (rs_setLc false (i := 3) rfl nd [("operator", 4)] (ri_items (rx_lst false (ra_cons rx_str (ra_cons rx_str (ra_cons rx_str (ra_cons rx_str (ra_cons rx_str ra_nil))))))) (fun _ _ _ _ _ => (rg_name (i := 4) nd)) (fun _ _ _ _ _ => rts_nil) (fun _ _ _ _ _ => (rx_tup (ra_cons (rx_tup (ra_cons rx_str (ra_cons (rx_var 4) (ra_cons (rx_sub (Room_u1 hr) (rx_var 2) rx_int) (ra_cons (rx_sub (Room_u1 hr) (rx_var 2) rx_int) ra_nil))))) (ra_cons rx_non ra_nil)))) (blkOk_by (N := ["first", "second", "columns", "items", "operator", "select", "rows", "sources", "total", "given"]) (sc := defScope s__law_asked) (by decide +kernel)) (sw_true rfl rfl rfl (by decide +kernel)))
 (rss_cons (rs_set (i := 3) nd (rx_bin op_addA og_add (rx_var 3) (rx_lst false (ra_cons (rx_tup (ra_cons (rx_tup (ra_cons rx_str (ra_cons (rx_sub (Room_u1 hr) (rx_var 2) rx_int) ra_nil))) (ra_cons rx_non ra_nil))) (ra_cons (rx_tup (ra_cons (rx_tup (ra_cons rx_str (ra_cons rx_str (ra_cons (rx_sub (Room_u1 hr) (rx_var 2) rx_int) (ra_cons (rx_tup (ra_cons rx_str (ra_cons rx_int ra_nil))) ra_nil))))) (ra_cons rx_non ra_nil))) ra_nil)))))
 (rss_cons (rs_set (i := 5) nd (rx_tup (ra_cons rx_str (ra_cons rx_bl (ra_cons (rx_t1 call_tuple_of og_tupOf (rx_var 3) z_tuple) (ra_cons (rx_tup (ra_cons rx_str (ra_cons rx_str (ra_cons rx_non ra_nil)))) (ra_cons rx_non (ra_cons rx_non (ra_cons rx_non ra_nil)))))))))
 (rss_cons (rs_set (i := 6) nd (rx_lst false (ra_cons (rx_tup (ra_cons rx_str (ra_cons (rx_var 0) (ra_cons (rx_var 1) ra_nil)))) (ra_cons (rx_tup (ra_cons rx_str (ra_cons (rx_var 1) (ra_cons (rx_var 0) ra_nil)))) ra_nil))))
 (rss_cons (rs_set (i := 7) nd (rx_dict (.cons (k := (.inr "s0_t")) pe_str (rx_makeP tk k_Source d_Source____init__ hr (by decide) (ra_cons rx_str (ra_cons (rx_lst false (ra_cons rx_str (ra_cons rx_str (ra_cons rx_str ra_nil)))) (ra_cons (rx_lst false (ra_cons rx_str (ra_cons rx_str (ra_cons rx_str ra_nil)))) (ra_cons (rx_var 6) ra_nil))))) .nil) (by decide +kernel)))
 (rss_cons (rs_set (i := 8) nd rx_non)
 (rss_cons (rs_if (rt_cmp op_isNotA og_is (rx_var 0) rx_non (nomark _)) (rss_one (rs_set (i := 8) nd (rx_callP tk d__law_bounded hr (by decide) (ra_cons (rx_var 0) ra_nil)))) rss_nil)
 (rss_cons (rs_set (i := 9) nd (rx_lst true (ra_cons (rx_t1 call_tuple_of og_tupOf (rx_bin op_addA og_add (rx_callP tk d__law_due hr (by decide) (ra_cons (rx_var 0) (ra_cons (rx_var 1) ra_nil))) (rx_lst false (ra_cons (rx_sub (Room_u1 hr) (rx_callP tk d__law_due hr (by decide) (ra_cons rx_int (ra_cons (rx_var 0) ra_nil))) rx_int) (ra_cons (rx_var 8) ra_nil)))) z_tuple) ra_nil)))
 (rss_cons (rs_set (i := 8) nd rx_non)
 (rss_cons (rs_if (rt_cmp op_isNotA og_is (rx_var 1) rx_non (nomark _)) (rss_one (rs_set (i := 8) nd (rx_callP tk d__law_bounded hr (by decide) (ra_cons (rx_var 1) ra_nil)))) rss_nil)
 (rss_cons (rs_drop (rx_append (rx_var 9) (rx_t1 call_tuple_of og_tupOf (rx_bin op_addA og_add (rx_callP tk d__law_due hr (by decide) (ra_cons (rx_var 1) (ra_cons (rx_var 0) ra_nil))) (rx_lst false (ra_cons (rx_sub (Room_u1 hr) (rx_callP tk d__law_due hr (by decide) (ra_cons rx_int (ra_cons (rx_var 1) ra_nil))) rx_int) (ra_cons (rx_var 8) ra_nil)))) z_tuple)))
 (rss_fz 7
 (rss_one (rs_ret (rx_callP tk d__law_same hr (by decide) (ra_cons (rx_callP tk d_query_rows hr (by decide) (ra_cons (rx_var 5) (ra_cons (rx_var 7) (ra_cons (rx_lst false ra_nil) ra_nil)))) (ra_cons (rx_var 9) ra_nil)))))))))))))))))))
theorem ok__law_char (hT : ClsT K FT) (S : Src K mg "_law_char" s__law_char ["index"]) (z_int : mg "int" = none) : Def Pr w K mg base 1 "_law_char" ["index"] sem__law_char :=
  def_tr S sc__law_char b__law_char (fun fa cdv A outer s H Ex hr tk hp => by
      have nd := sc__law_char.nd
      exact (rss_cons (rs_set (i := 1) nd rx_str)
 (rss_cons (rs_set (i := 1) nd (rx_bin op_addA og_add (rx_var 1) rx_str))
 (rss_one (rs_ret (rx_sub (Room_u1 hr) (rx_var 1) (rx_bin op_mod og_mod (rx_t1 call_int1 og_int (rx_var 0) z_int) rx_int)))))))
theorem ok__law_string (hT : ClsT K FT) (S : Src K mg "_law_string" s__law_string ["state"]) (d__law_char : Def Pr w K mg base 1 "_law_char" ["index"] sem__law_char) (d__law_next : Def Pr w K mg base 1 "_law_next" ["state", "limit"] sem__law_next) (z_range : mg "range" = none) : Def Pr w K mg base 2 "_law_string" ["state"] sem__law_string :=
  def_tr S sc__law_string b__law_string (fun fa cdv A outer s H Ex hr tk hp => by
      have nd := sc__law_string.nd
      exact (rss_cons (rs_set (i := 1) nd (rx_call tk d__law_next hr (by decide) (ra_cons (rx_var 0) (ra_cons rx_int ra_nil))))
 (rss_cons (rs_if (rt_cmp (op_eqD (Room_u64 hr)) og_eq (rx_var 1) rx_int (nomark _)) (rss_one (rs_ret rx_non)) rss_nil)
 (rss_cons (rs_set (i := 2) nd (rx_join rx_str (rx_lc false rfl nd [("k", 3)] (ri_range1 (rx_call tk d__law_next hr (by decide) (ra_cons (rx_var 0) (ra_cons rx_int ra_nil))) z_range) (fun _ _ _ _ _ => (rg_name (i := 3) nd)) (fun _ _ _ _ _ => rts_nil) (fun _ _ _ _ _ => (rx_callP (ps := ["index"]) takes0 d__law_char hr (by decide) (ra_cons (rx_call (ps := ["state", "limit"]) takes0 d__law_next hr (by decide) (ra_cons (rx_var 0) (ra_cons rx_int ra_nil))) ra_nil))) (blkOk_by (N := ["state", "pick", "text", "k"]) (sc := defScope s__law_string) (by decide +kernel)))))
 (rss_cons (rs_if (rt_cmp (op_eqD (Room_u64 hr)) og_eq (rx_var 1) rx_int (nomark _)) (rss_one (rs_ret (rx_bin op_addA og_add (rx_var 2) (rx_bin op_repS og_rep rx_str rx_int)))) rss_nil)
 (rss_cons (rs_if (rt_cmp (op_eqD (Room_u64 hr)) og_eq (rx_var 1) rx_int (nomark _)) (rss_one (rs_ret (rx_bin op_repS og_rep rx_str (rx_bin op_addA og_add rx_int (rx_call tk d__law_next hr (by decide) (ra_cons (rx_var 0) (ra_cons rx_int ra_nil))))))) rss_nil)
 (rss_one (rs_ret (rx_var 2)))))))))
theorem ok_law {fa : Addr} {fd : FuncData} (hT : ClsT K FT) (F : Fun K "law" "law" s_law fa fd) (d__law_asked : Def Pr w K mg base 34 "_law_asked" ["first", "second"] sem__law_asked) (d__law_due : Def Pr w K mg base 2 "_law_due" ["first", "second"] sem__law_due) (d__law_integer : Def Pr w K mg base 2 "_law_integer" ["state"] sem__law_integer) (d__law_same : Def Pr w K mg base 9 "_law_same" ["actual", "expected"] (sem__law_same 8)) (d__law_string : Def Pr w K mg base 2 "_law_string" ["state"] sem__law_string) (d_arithmetic : Def Pr w K mg base 2 "arithmetic" ["operator", "first", "second"] sem_arithmetic) (z_len : mg "len" = none) (z_list : mg "list" = none) : FnOk Pr w K mg base CX0 35 fa fd ["script"] (fun vs H Q _ => spQ K 1 sem_law vs H Q E0) :=
  fn_tr0 b_law F sc_law (fun _ _ _ h => h) (fun cdv A outer s H Ex hr tk hp => by
      have nd := sc_law.nd
      exact (rss_cons (rs_set (i := 1) nd (rx_lst true (ra_cons (rx_t1 call_list_of og_lstOf (rx_var 0) z_list) (ra_cons rx_int (ra_cons rx_int (ra_cons rx_int ra_nil))))))
 (rss_cons (rs_set (i := 2) nd (rx_call tk d__law_integer hr (by decide) (ra_cons (rx_var 1) ra_nil)))
 (rss_cons (rs_set (i := 3) nd (rx_call tk d__law_integer hr (by decide) (ra_cons (rx_var 1) ra_nil)))
 (rss_cons (rs_setLc false (i := 4) rfl nd [("operator", 5)] (ri_items (rx_lst false (ra_cons rx_str (ra_cons rx_str (ra_cons rx_str (ra_cons rx_str (ra_cons rx_str ra_nil))))))) (fun _ _ _ _ _ => (rg_name (i := 5) nd)) (fun _ _ _ _ _ => rts_nil) (fun _ _ _ _ _ => (rx_callP (ps := ["operator", "first", "second"]) takes0 d_arithmetic hr (by decide) (ra_cons (rx_var 5) (ra_cons (rx_var 2) (ra_cons (rx_var 3) ra_nil))))) (blkOk_by (N := ["script", "state", "first", "second", "told", "operator", "left", "right", "joined"]) (sc := defScope s_law) (by decide +kernel)) (sw_true rfl rfl rfl (by decide +kernel)))
 (rss_cons (rs_if (RWt.rt (rw_or (rt_not (rt_truth (rx_callP tk d__law_same hr (by decide) (ra_cons (rx_var 4) (ra_cons (rx_callP tk d__law_due hr (by decide) (ra_cons (rx_var 2) (ra_cons (rx_var 3) ra_nil))) ra_nil))))) (rw_or1 (rt_not (rt_truth (rx_callP tk d__law_asked hr (by decide) (ra_cons (rx_var 2) (ra_cons (rx_var 3) ra_nil)))))))) (rss_one (rs_ret rx_bl)) rss_nil)
 (rss_cons (rs_set (i := 6) nd (rx_call tk d__law_string hr (by decide) (ra_cons (rx_var 1) ra_nil)))
 (rss_cons (rs_set (i := 7) nd (rx_call tk d__law_string hr (by decide) (ra_cons (rx_var 1) ra_nil)))
 (rss_cons (rs_set (i := 8) nd rx_non)
 (rss_cons (rs_if (RWt.rt (rw_and (rt_cmp op_isNotA og_is (rx_var 6) rx_non (nomark _)) (rw_and (rt_cmp op_isNotA og_is (rx_var 7) rx_non (nomark _)) (rw_and1 (rt_cmp op_le og_le (rx_bin op_addA og_add (rx_b1 call_len og_len (rx_var 6) z_len) (rx_b1 call_len og_len (rx_var 7) z_len)) rx_int (nomark _)))))) (rss_one (rs_set (i := 8) nd (rx_bin op_addA og_add (rx_var 6) (rx_var 7)))) rss_nil)
 (rss_one (rs_ret (rx_callP tk d__law_same hr (by decide) (ra_cons (rx_callP tk d_arithmetic hr (by decide) (ra_cons rx_str (ra_cons (rx_var 6) (ra_cons (rx_var 7) ra_nil)))) (ra_cons (rx_var 8) ra_nil)))))))))))))))
end
/-! ### all defs -/
theorem all_mk {l : PySem.W.OpenLaw} {w : World} {K : PySem.W.Frag} {h : Heap} {mg : Str → Option Value} {fa : Addr} (X : K.In h) (G : h.Ns mainGlobals mg) (hfa : mg "law" = some (.ref fa))
    {f0 f1 f2 f3 f4 f5 f6 f7 f8 f9 f10 f11 f12 f13 f14 f15 f16 f17 f18 f19 f20 f21 f22 f23 f24 f25 f26 f27 f28 f29 f30 f31 f32 f33 f34 f35 f36 f37 f38 f39 f40 f41 f42 f43 C_World C_Frame C_Source : Addr} {od0 an0 od1 an1 od2 an2 od3 an3 od4 an4 od5 an5 od6 an6 od7 an7 od8 an8 od9 an9 od10 an10 od11 an11 od12 an12 od13 an13 od14 an14 od15 an15 od16 an16 od17 an17 od18 an18 od19 an19 od20 an20 od21 an21 od22 an22 od23 an23 od24 an24 od25 an25 od26 an26 od27 an27 od28 an28 od29 an29 od30 an30 od31 an31 od32 an32 od33 an33 od34 an34 od35 an35 od36 an36 od37 an37 od38 an38 od39 an39 od40 an40 od41 an41 od42 an42 od43 an43 : Option Addr} {sl0 sl1 sl2 sl3 sl4 sl5 sl6 sl7 sl8 sl9 sl10 sl11 sl12 sl13 sl14 sl15 sl16 sl17 sl18 sl19 sl20 sl21 sl22 sl23 sl24 sl25 sl26 sl27 sl28 sl29 sl30 sl31 sl32 sl33 sl34 sl35 sl36 sl37 sl38 sl39 sl40 sl41 sl42 sl43 : Array (Option Value)} {oc0 kV0 dc0 pm0 cd0 ct0 oc1 kV1 dc1 pm1 cd1 ct1 oc2 kV2 dc2 pm2 cd2 ct2 oc3 kV3 dc3 pm3 cd3 ct3 oc4 kV4 dc4 pm4 cd4 ct4 oc5 kV5 dc5 pm5 cd5 ct5 oc6 kV6 dc6 pm6 cd6 ct6 oc7 kV7 dc7 pm7 cd7 ct7 oc8 kV8 dc8 pm8 cd8 ct8 oc9 kV9 dc9 pm9 cd9 ct9 oc10 kV10 dc10 pm10 cd10 ct10 oc11 kV11 dc11 pm11 cd11 ct11 oc12 kV12 dc12 pm12 cd12 ct12 oc13 kV13 dc13 pm13 cd13 ct13 oc14 kV14 dc14 pm14 cd14 ct14 oc15 kV15 dc15 pm15 cd15 ct15 oc16 kV16 dc16 pm16 cd16 ct16 oc17 kV17 dc17 pm17 cd17 ct17 oc18 kV18 dc18 pm18 cd18 ct18 oc19 kV19 dc19 pm19 cd19 ct19 oc20 kV20 dc20 pm20 cd20 ct20 oc21 kV21 dc21 pm21 cd21 ct21 oc22 kV22 dc22 pm22 cd22 ct22 oc23 kV23 dc23 pm23 cd23 ct23 oc24 kV24 dc24 pm24 cd24 ct24 oc25 kV25 dc25 pm25 cd25 ct25 oc26 kV26 dc26 pm26 cd26 ct26 oc27 kV27 dc27 pm27 cd27 ct27 oc28 kV28 dc28 pm28 cd28 ct28 oc29 kV29 dc29 pm29 cd29 ct29 oc30 kV30 dc30 pm30 cd30 ct30 oc31 kV31 dc31 pm31 cd31 ct31 oc32 kV32 dc32 pm32 cd32 ct32 oc33 kV33 dc33 pm33 cd33 ct33 oc34 kV34 dc34 pm34 cd34 ct34 oc35 kV35 dc35 pm35 cd35 ct35 oc36 kV36 dc36 pm36 cd36 ct36 oc37 kV37 dc37 pm37 cd37 ct37 oc38 kV38 dc38 pm38 cd38 ct38 oc39 kV39 dc39 pm39 cd39 ct39 oc40 kV40 dc40 pm40 cd40 ct40 oc41 kV41 dc41 pm41 cd41 ct41 oc42 kV42 dc42 pm42 cd42 ct42 oc43 kV43 dc43 pm43 cd43 ct43 : Value} {tk_BOUND tk_LONGEST_TEXT : Tok}
    (a_World : PySem.W.nsIn K mainGlobals "World" = some (some (.ref C_World))) (pg_World : PySem.W.plainGet K C_World Str.empty = true) (hd_World : PySem.W.hasDictIn K C_World = true) (po_World : PySem.W.plainOver K C_World = true) (sa_World : PySem.W.findIn K (.ref C_World) "__setattr__" = some (some (.builtin "object.__setattr__")))
    (n_World_sources : PySem.W.findIn K (.ref C_World) "sources" = some none)
    (n_World_parameters : PySem.W.findIn K (.ref C_World) "parameters" = some none)
    (mk_World : PySem.W.makesIn K C_World = true) (kc_World : PySem.W.keepIn K (.ref C_World) = true)
    (a_Frame : PySem.W.nsIn K mainGlobals "Frame" = some (some (.ref C_Frame))) (pg_Frame : PySem.W.plainGet K C_Frame Str.empty = true) (hd_Frame : PySem.W.hasDictIn K C_Frame = true) (po_Frame : PySem.W.plainOver K C_Frame = true) (sa_Frame : PySem.W.findIn K (.ref C_Frame) "__setattr__" = some (some (.builtin "object.__setattr__")))
    (n_Frame_columns : PySem.W.findIn K (.ref C_Frame) "columns" = some none)
    (n_Frame_row : PySem.W.findIn K (.ref C_Frame) "row" = some none)
    (n_Frame_members : PySem.W.findIn K (.ref C_Frame) "members" = some none)
    (n_Frame_outer : PySem.W.findIn K (.ref C_Frame) "outer" = some none)
    (mk_Frame : PySem.W.makesIn K C_Frame = true) (kc_Frame : PySem.W.keepIn K (.ref C_Frame) = true)
    (a_Source : PySem.W.nsIn K mainGlobals "Source" = some (some (.ref C_Source))) (pg_Source : PySem.W.plainGet K C_Source Str.empty = true) (hd_Source : PySem.W.hasDictIn K C_Source = true) (po_Source : PySem.W.plainOver K C_Source = true) (sa_Source : PySem.W.findIn K (.ref C_Source) "__setattr__" = some (some (.builtin "object.__setattr__")))
    (n_Source_name : PySem.W.findIn K (.ref C_Source) "name" = some none)
    (n_Source_columns : PySem.W.findIn K (.ref C_Source) "columns" = some none)
    (n_Source_kinds : PySem.W.findIn K (.ref C_Source) "kinds" = some none)
    (n_Source_rows : PySem.W.findIn K (.ref C_Source) "rows" = some none)
    (mk_Source : PySem.W.makesIn K C_Source = true) (kc_Source : PySem.W.keepIn K (.ref C_Source) = true)
    (a0 : PySem.W.nsIn K mainGlobals "_law_next" = some (some (.ref f0)))
    (l0 : K.lookup f0 = some ⟨oc0, od0, .func (PySem.W.fnOf "_law_next" "_law_next" (defArgs s__law_next) (defBody s__law_next) (defScope s__law_next) .none kV0 dc0 pm0 an0 cd0 ct0), sl0⟩) (c0 : PySem.W.codeIn K cd0 "_law_next" = true) (k0 : PySem.W.keepIn K (.ref f0) = true)
    (a1 : PySem.W.nsIn K mainGlobals "_law_integer" = some (some (.ref f1)))
    (l1 : K.lookup f1 = some ⟨oc1, od1, .func (PySem.W.fnOf "_law_integer" "_law_integer" (defArgs s__law_integer) (defBody s__law_integer) (defScope s__law_integer) .none kV1 dc1 pm1 an1 cd1 ct1), sl1⟩) (c1 : PySem.W.codeIn K cd1 "_law_integer" = true) (k1 : PySem.W.keepIn K (.ref f1) = true)
    (a2 : PySem.W.nsIn K mainGlobals "bounded" = some (some (.ref f2)))
    (l2 : K.lookup f2 = some ⟨oc2, od2, .func (PySem.W.fnOf "bounded" "bounded" (defArgs s_bounded) (defBody s_bounded) (defScope s_bounded) .none kV2 dc2 pm2 an2 cd2 ct2), sl2⟩) (c2 : PySem.W.codeIn K cd2 "bounded" = true) (k2 : PySem.W.keepIn K (.ref f2) = true)
    (a3 : PySem.W.nsIn K mainGlobals "quotient" = some (some (.ref f3)))
    (l3 : K.lookup f3 = some ⟨oc3, od3, .func (PySem.W.fnOf "quotient" "quotient" (defArgs s_quotient) (defBody s_quotient) (defScope s_quotient) .none kV3 dc3 pm3 an3 cd3 ct3), sl3⟩) (c3 : PySem.W.codeIn K cd3 "quotient" = true) (k3 : PySem.W.keepIn K (.ref f3) = true)
    (a4 : PySem.W.nsIn K mainGlobals "arithmetic" = some (some (.ref f4)))
    (l4 : K.lookup f4 = some ⟨oc4, od4, .func (PySem.W.fnOf "arithmetic" "arithmetic" (defArgs s_arithmetic) (defBody s_arithmetic) (defScope s_arithmetic) .none kV4 dc4 pm4 an4 cd4 ct4), sl4⟩) (c4 : PySem.W.codeIn K cd4 "arithmetic" = true) (k4 : PySem.W.keepIn K (.ref f4) = true)
    (a5 : PySem.W.nsIn K mainGlobals "_law_same" = some (some (.ref f5)))
    (l5 : K.lookup f5 = some ⟨oc5, od5, .func (PySem.W.fnOf "_law_same" "_law_same" (defArgs s__law_same) (defBody s__law_same) (defScope s__law_same) .none kV5 dc5 pm5 an5 cd5 ct5), sl5⟩) (c5 : PySem.W.codeIn K cd5 "_law_same" = true) (k5 : PySem.W.keepIn K (.ref f5) = true)
    (a6 : PySem.W.nsIn K mainGlobals "_law_bounded" = some (some (.ref f6)))
    (l6 : K.lookup f6 = some ⟨oc6, od6, .func (PySem.W.fnOf "_law_bounded" "_law_bounded" (defArgs s__law_bounded) (defBody s__law_bounded) (defScope s__law_bounded) .none kV6 dc6 pm6 an6 cd6 ct6), sl6⟩) (c6 : PySem.W.codeIn K cd6 "_law_bounded" = true) (k6 : PySem.W.keepIn K (.ref f6) = true)
    (a7 : PySem.W.nsIn K mainGlobals "_law_due" = some (some (.ref f7)))
    (l7 : K.lookup f7 = some ⟨oc7, od7, .func (PySem.W.fnOf "_law_due" "_law_due" (defArgs s__law_due) (defBody s__law_due) (defScope s__law_due) .none kV7 dc7 pm7 an7 cd7 ct7), sl7⟩) (c7 : PySem.W.codeIn K cd7 "_law_due" = true) (k7 : PySem.W.keepIn K (.ref f7) = true)
    (a8 : PySem.W.findIn K (.ref C_Source) "__init__" = some (some (.ref f8))) (i8 : PySem.W.isFn K (.ref f8) = true)
    (l8 : K.lookup f8 = some ⟨oc8, od8, .func (PySem.W.fnOf "__init__" "Source.__init__" (defArgs s_Source____init__) (defBody s_Source____init__) (defScope s_Source____init__) .none kV8 dc8 pm8 an8 cd8 ct8), sl8⟩) (c8 : PySem.W.codeIn K cd8 "Source.__init__" = true) (k8 : PySem.W.keepIn K (.ref f8) = true)
    (a9 : PySem.W.nsIn K mainGlobals "known_as" = some (some (.ref f9)))
    (l9 : K.lookup f9 = some ⟨oc9, od9, .func (PySem.W.fnOf "known_as" "known_as" (defArgs s_known_as) (defBody s_known_as) (defScope s_known_as) .none kV9 dc9 pm9 an9 cd9 ct9), sl9⟩) (c9 : PySem.W.codeIn K cd9 "known_as" = true) (k9 : PySem.W.keepIn K (.ref f9) = true)
    (a10 : PySem.W.nsIn K mainGlobals "table_result" = some (some (.ref f10)))
    (l10 : K.lookup f10 = some ⟨oc10, od10, .func (PySem.W.fnOf "table_result" "table_result" (defArgs s_table_result) (defBody s_table_result) (defScope s_table_result) .none kV10 dc10 pm10 an10 cd10 ct10), sl10⟩) (c10 : PySem.W.codeIn K cd10 "table_result" = true) (k10 : PySem.W.keepIn K (.ref f10) = true)
    (a11 : PySem.W.findIn K (.ref C_Frame) "__init__" = some (some (.ref f11))) (i11 : PySem.W.isFn K (.ref f11) = true)
    (l11 : K.lookup f11 = some ⟨oc11, od11, .func (PySem.W.fnOf "__init__" "Frame.__init__" (defArgs s_Frame____init__) (defBody s_Frame____init__) (defScope s_Frame____init__) .none kV11 dc11 pm11 an11 cd11 ct11), sl11⟩) (c11 : PySem.W.codeIn K cd11 "Frame.__init__" = true) (k11 : PySem.W.keepIn K (.ref f11) = true)
    (a12 : PySem.W.nsIn K mainGlobals "named" = some (some (.ref f12)))
    (l12 : K.lookup f12 = some ⟨oc12, od12, .func (PySem.W.fnOf "named" "named" (defArgs s_named) (defBody s_named) (defScope s_named) .none kV12 dc12 pm12 an12 cd12 ct12), sl12⟩) (c12 : PySem.W.codeIn K cd12 "named" = true) (k12 : PySem.W.keepIn K (.ref f12) = true)
    (a13 : PySem.W.nsIn K mainGlobals "locate" = some (some (.ref f13)))
    (l13 : K.lookup f13 = some ⟨oc13, od13, .func (PySem.W.fnOf "locate" "locate" (defArgs s_locate) (defBody s_locate) (defScope s_locate) .none kV13 dc13 pm13 an13 cd13 ct13), sl13⟩) (c13 : PySem.W.codeIn K cd13 "locate" = true) (k13 : PySem.W.keepIn K (.ref f13) = true)
    (a14 : PySem.W.nsIn K mainGlobals "conjunction" = some (some (.ref f14)))
    (l14 : K.lookup f14 = some ⟨oc14, od14, .func (PySem.W.fnOf "conjunction" "conjunction" (defArgs s_conjunction) (defBody s_conjunction) (defScope s_conjunction) .none kV14 dc14 pm14 an14 cd14 ct14), sl14⟩) (c14 : PySem.W.codeIn K cd14 "conjunction" = true) (k14 : PySem.W.keepIn K (.ref f14) = true)
    (a15 : PySem.W.nsIn K mainGlobals "disjunction" = some (some (.ref f15)))
    (l15 : K.lookup f15 = some ⟨oc15, od15, .func (PySem.W.fnOf "disjunction" "disjunction" (defArgs s_disjunction) (defBody s_disjunction) (defScope s_disjunction) .none kV15 dc15 pm15 an15 cd15 ct15), sl15⟩) (c15 : PySem.W.codeIn K cd15 "disjunction" = true) (k15 : PySem.W.keepIn K (.ref f15) = true)
    (a16 : PySem.W.nsIn K mainGlobals "value_key" = some (some (.ref f16)))
    (l16 : K.lookup f16 = some ⟨oc16, od16, .func (PySem.W.fnOf "value_key" "value_key" (defArgs s_value_key) (defBody s_value_key) (defScope s_value_key) .none kV16 dc16 pm16 an16 cd16 ct16), sl16⟩) (c16 : PySem.W.codeIn K cd16 "value_key" = true) (k16 : PySem.W.keepIn K (.ref f16) = true)
    (a17 : PySem.W.nsIn K mainGlobals "compare" = some (some (.ref f17)))
    (l17 : K.lookup f17 = some ⟨oc17, od17, .func (PySem.W.fnOf "compare" "compare" (defArgs s_compare) (defBody s_compare) (defScope s_compare) .none kV17 dc17 pm17 an17 cd17 ct17), sl17⟩) (c17 : PySem.W.codeIn K cd17 "compare" = true) (k17 : PySem.W.keepIn K (.ref f17) = true)
    (a18 : PySem.W.nsIn K mainGlobals "combined" = some (some (.ref f18)))
    (l18 : K.lookup f18 = some ⟨oc18, od18, .func (PySem.W.fnOf "combined" "combined" (defArgs s_combined) (defBody s_combined) (defScope s_combined) .none kV18 dc18 pm18 an18 cd18 ct18), sl18⟩) (c18 : PySem.W.codeIn K cd18 "combined" = true) (k18 : PySem.W.keepIn K (.ref f18) = true)
    (a19 : PySem.W.nsIn K mainGlobals "negation" = some (some (.ref f19)))
    (l19 : K.lookup f19 = some ⟨oc19, od19, .func (PySem.W.fnOf "negation" "negation" (defArgs s_negation) (defBody s_negation) (defScope s_negation) .none kV19 dc19 pm19 an19 cd19 ct19), sl19⟩) (c19 : PySem.W.codeIn K cd19 "negation" = true) (k19 : PySem.W.keepIn K (.ref f19) = true)
    (a20 : PySem.W.nsIn K mainGlobals "same" = some (some (.ref f20)))
    (l20 : K.lookup f20 = some ⟨oc20, od20, .func (PySem.W.fnOf "same" "same" (defArgs s_same) (defBody s_same) (defScope s_same) .none kV20 dc20 pm20 an20 cd20 ct20), sl20⟩) (c20 : PySem.W.codeIn K cd20 "same" = true) (k20 : PySem.W.keepIn K (.ref f20) = true)
    (a21 : PySem.W.nsIn K mainGlobals "is_among" = some (some (.ref f21)))
    (l21 : K.lookup f21 = some ⟨oc21, od21, .func (PySem.W.fnOf "is_among" "is_among" (defArgs s_is_among) (defBody s_is_among) (defScope s_is_among) .none kV21 dc21 pm21 an21 cd21 ct21), sl21⟩) (c21 : PySem.W.codeIn K cd21 "is_among" = true) (k21 : PySem.W.keepIn K (.ref f21) = true)
    (a22 : PySem.W.nsIn K mainGlobals "operands" = some (some (.ref f22)))
    (l22 : K.lookup f22 = some ⟨oc22, od22, .func (PySem.W.fnOf "operands" "operands" (defArgs s_operands) (defBody s_operands) (defScope s_operands) .none kV22 dc22 pm22 an22 cd22 ct22), sl22⟩) (c22 : PySem.W.codeIn K cd22 "operands" = true) (k22 : PySem.W.keepIn K (.ref f22) = true)
    (a23 : PySem.W.nsIn K mainGlobals "has_aggregate" = some (some (.ref f23)))
    (l23 : K.lookup f23 = some ⟨oc23, od23, .func (PySem.W.fnOf "has_aggregate" "has_aggregate" (defArgs s_has_aggregate) (defBody s_has_aggregate) (defScope s_has_aggregate) .none kV23 dc23 pm23 an23 cd23 ct23), sl23⟩) (c23 : PySem.W.codeIn K cd23 "has_aggregate" = true) (k23 : PySem.W.keepIn K (.ref f23) = true)
    (a24 : PySem.W.nsIn K mainGlobals "is_grouping" = some (some (.ref f24)))
    (l24 : K.lookup f24 = some ⟨oc24, od24, .func (PySem.W.fnOf "is_grouping" "is_grouping" (defArgs s_is_grouping) (defBody s_is_grouping) (defScope s_is_grouping) .none kV24 dc24 pm24 an24 cd24 ct24), sl24⟩) (c24 : PySem.W.codeIn K cd24 "is_grouping" = true) (k24 : PySem.W.keepIn K (.ref f24) = true)
    (a25 : PySem.W.nsIn K mainGlobals "own_index" = some (some (.ref f25)))
    (l25 : K.lookup f25 = some ⟨oc25, od25, .func (PySem.W.fnOf "own_index" "own_index" (defArgs s_own_index) (defBody s_own_index) (defScope s_own_index) .none kV25 dc25 pm25 an25 cd25 ct25), sl25⟩) (c25 : PySem.W.codeIn K cd25 "own_index" = true) (k25 : PySem.W.keepIn K (.ref f25) = true)
    (a26 : PySem.W.nsIn K mainGlobals "row_key" = some (some (.ref f26)))
    (l26 : K.lookup f26 = some ⟨oc26, od26, .func (PySem.W.fnOf "row_key" "row_key" (defArgs s_row_key) (defBody s_row_key) (defScope s_row_key) .none kV26 dc26 pm26 an26 cd26 ct26), sl26⟩) (c26 : PySem.W.codeIn K cd26 "row_key" = true) (k26 : PySem.W.keepIn K (.ref f26) = true)
    (a27 : PySem.W.nsIn K mainGlobals "grouped_frames" = some (some (.ref f27)))
    (l27 : K.lookup f27 = some ⟨oc27, od27, .func (PySem.W.fnOf "grouped_frames" "grouped_frames" (defArgs s_grouped_frames) (defBody s_grouped_frames) (defScope s_grouped_frames) .none kV27 dc27 pm27 an27 cd27 ct27), sl27⟩) (c27 : PySem.W.codeIn K cd27 "grouped_frames" = true) (k27 : PySem.W.keepIn K (.ref f27) = true)
    (a28 : PySem.W.nsIn K mainGlobals "item_name" = some (some (.ref f28)))
    (l28 : K.lookup f28 = some ⟨oc28, od28, .func (PySem.W.fnOf "item_name" "item_name" (defArgs s_item_name) (defBody s_item_name) (defScope s_item_name) .none kV28 dc28 pm28 an28 cd28 ct28), sl28⟩) (c28 : PySem.W.codeIn K cd28 "item_name" = true) (k28 : PySem.W.keepIn K (.ref f28) = true)
    (a29 : PySem.W.nsIn K mainGlobals "without_repeats" = some (some (.ref f29)))
    (l29 : K.lookup f29 = some ⟨oc29, od29, .func (PySem.W.fnOf "without_repeats" "without_repeats" (defArgs s_without_repeats) (defBody s_without_repeats) (defScope s_without_repeats) .none kV29 dc29 pm29 an29 cd29 ct29), sl29⟩) (c29 : PySem.W.codeIn K cd29 "without_repeats" = true) (k29 : PySem.W.keepIn K (.ref f29) = true)
    (a30 : PySem.W.nsIn K mainGlobals "result_of" = some (some (.ref f30)))
    (l30 : K.lookup f30 = some ⟨oc30, od30, .func (PySem.W.fnOf "result_of" "result_of" (defArgs s_result_of) (defBody s_result_of) (defScope s_result_of) .none kV30 dc30 pm30 an30 cd30 ct30), sl30⟩) (c30 : PySem.W.codeIn K cd30 "result_of" = true) (k30 : PySem.W.keepIn K (.ref f30) = true)
    (a31 : PySem.W.nsIn K mainGlobals "select_result" = some (some (.ref f31)))
    (l31 : K.lookup f31 = some ⟨oc31, od31, .func (PySem.W.fnOf "select_result" "select_result" (defArgs s_select_result) (defBody s_select_result) (defScope s_select_result) .none kV31 dc31 pm31 an31 cd31 ct31), sl31⟩) (c31 : PySem.W.codeIn K cd31 "select_result" = true) (k31 : PySem.W.keepIn K (.ref f31) = true)
    (a32 : PySem.W.nsIn K mainGlobals "source_result" = some (some (.ref f32)))
    (l32 : K.lookup f32 = some ⟨oc32, od32, .func (PySem.W.fnOf "source_result" "source_result" (defArgs s_source_result) (defBody s_source_result) (defScope s_source_result) .none kV32 dc32 pm32 an32 cd32 ct32), sl32⟩) (c32 : PySem.W.codeIn K cd32 "source_result" = true) (k32 : PySem.W.keepIn K (.ref f32) = true)
    (a33 : PySem.W.nsIn K mainGlobals "kept_frames" = some (some (.ref f33)))
    (l33 : K.lookup f33 = some ⟨oc33, od33, .func (PySem.W.fnOf "kept_frames" "kept_frames" (defArgs s_kept_frames) (defBody s_kept_frames) (defScope s_kept_frames) .none kV33 dc33 pm33 an33 cd33 ct33), sl33⟩) (c33 : PySem.W.codeIn K cd33 "kept_frames" = true) (k33 : PySem.W.keepIn K (.ref f33) = true)
    (a34 : PySem.W.nsIn K mainGlobals "value_of" = some (some (.ref f34)))
    (l34 : K.lookup f34 = some ⟨oc34, od34, .func (PySem.W.fnOf "value_of" "value_of" (defArgs s_value_of) (defBody s_value_of) (defScope s_value_of) .none kV34 dc34 pm34 an34 cd34 ct34), sl34⟩) (c34 : PySem.W.codeIn K cd34 "value_of" = true) (k34 : PySem.W.keepIn K (.ref f34) = true)
    (a35 : PySem.W.nsIn K mainGlobals "membership" = some (some (.ref f35)))
    (l35 : K.lookup f35 = some ⟨oc35, od35, .func (PySem.W.fnOf "membership" "membership" (defArgs s_membership) (defBody s_membership) (defScope s_membership) .none kV35 dc35 pm35 an35 cd35 ct35), sl35⟩) (c35 : PySem.W.codeIn K cd35 "membership" = true) (k35 : PySem.W.keepIn K (.ref f35) = true)
    (a36 : PySem.W.nsIn K mainGlobals "aggregate" = some (some (.ref f36)))
    (l36 : K.lookup f36 = some ⟨oc36, od36, .func (PySem.W.fnOf "aggregate" "aggregate" (defArgs s_aggregate) (defBody s_aggregate) (defScope s_aggregate) .none kV36 dc36 pm36 an36 cd36 ct36), sl36⟩) (c36 : PySem.W.codeIn K cd36 "aggregate" = true) (k36 : PySem.W.keepIn K (.ref f36) = true)
    (a37 : PySem.W.nsIn K mainGlobals "made_row" = some (some (.ref f37)))
    (l37 : K.lookup f37 = some ⟨oc37, od37, .func (PySem.W.fnOf "made_row" "made_row" (defArgs s_made_row) (defBody s_made_row) (defScope s_made_row) .none kV37 dc37 pm37 an37 cd37 ct37), sl37⟩) (c37 : PySem.W.codeIn K cd37 "made_row" = true) (k37 : PySem.W.keepIn K (.ref f37) = true)
    (a38 : PySem.W.findIn K (.ref C_World) "__init__" = some (some (.ref f38))) (i38 : PySem.W.isFn K (.ref f38) = true)
    (l38 : K.lookup f38 = some ⟨oc38, od38, .func (PySem.W.fnOf "__init__" "World.__init__" (defArgs s_World____init__) (defBody s_World____init__) (defScope s_World____init__) .none kV38 dc38 pm38 an38 cd38 ct38), sl38⟩) (c38 : PySem.W.codeIn K cd38 "World.__init__" = true) (k38 : PySem.W.keepIn K (.ref f38) = true)
    (a39 : PySem.W.nsIn K mainGlobals "query_rows" = some (some (.ref f39)))
    (l39 : K.lookup f39 = some ⟨oc39, od39, .func (PySem.W.fnOf "query_rows" "query_rows" (defArgs s_query_rows) (defBody s_query_rows) (defScope s_query_rows) .none kV39 dc39 pm39 an39 cd39 ct39), sl39⟩) (c39 : PySem.W.codeIn K cd39 "query_rows" = true) (k39 : PySem.W.keepIn K (.ref f39) = true)
    (a40 : PySem.W.nsIn K mainGlobals "_law_asked" = some (some (.ref f40)))
    (l40 : K.lookup f40 = some ⟨oc40, od40, .func (PySem.W.fnOf "_law_asked" "_law_asked" (defArgs s__law_asked) (defBody s__law_asked) (defScope s__law_asked) .none kV40 dc40 pm40 an40 cd40 ct40), sl40⟩) (c40 : PySem.W.codeIn K cd40 "_law_asked" = true) (k40 : PySem.W.keepIn K (.ref f40) = true)
    (a41 : PySem.W.nsIn K mainGlobals "_law_char" = some (some (.ref f41)))
    (l41 : K.lookup f41 = some ⟨oc41, od41, .func (PySem.W.fnOf "_law_char" "_law_char" (defArgs s__law_char) (defBody s__law_char) (defScope s__law_char) .none kV41 dc41 pm41 an41 cd41 ct41), sl41⟩) (c41 : PySem.W.codeIn K cd41 "_law_char" = true) (k41 : PySem.W.keepIn K (.ref f41) = true)
    (a42 : PySem.W.nsIn K mainGlobals "_law_string" = some (some (.ref f42)))
    (l42 : K.lookup f42 = some ⟨oc42, od42, .func (PySem.W.fnOf "_law_string" "_law_string" (defArgs s__law_string) (defBody s__law_string) (defScope s__law_string) .none kV42 dc42 pm42 an42 cd42 ct42), sl42⟩) (c42 : PySem.W.codeIn K cd42 "_law_string" = true) (k42 : PySem.W.keepIn K (.ref f42) = true)
    (a43 : PySem.W.nsIn K mainGlobals "law" = some (some (.ref f43)))
    (l43 : K.lookup f43 = some ⟨oc43, od43, .func (PySem.W.fnOf "law" "law" (defArgs s_law) (defBody s_law) (defScope s_law) .none kV43 dc43 pm43 an43 cd43 ct43), sl43⟩) (c43 : PySem.W.codeIn K cd43 "law" = true) (k43 : PySem.W.keepIn K (.ref f43) = true)
    (y_BOUND : PySem.W.nsIn K mainGlobals "BOUND" = some (some (.int 10000000000000000000000000000000000000000 tk_BOUND)))
    (y_LONGEST_TEXT : PySem.W.nsIn K mainGlobals "LONGEST_TEXT" = some (some (.int 2000 tk_LONGEST_TEXT)))
    {tCOMPARISONS_0 : Addr} {oCOMPARISONS_0 : Option Addr} {nCOMPARISONS_0 : Nat} {sCOMPARISONS_0 : Array (Option Value)} {kCOMPARISONS_0 kCOMPARISONS_1 kCOMPARISONS_2 kCOMPARISONS_3 kCOMPARISONS_4 kCOMPARISONS_5 : Tok}
    (y_COMPARISONS : PySem.W.nsIn K mainGlobals "COMPARISONS" = some (some (.ref tCOMPARISONS_0)))
    (yCOMPARISONS_0 : K.lookup tCOMPARISONS_0 = some ⟨.type "tuple", oCOMPARISONS_0, .seq #[.str "=" kCOMPARISONS_0, .str "<>" kCOMPARISONS_1, .str "<" kCOMPARISONS_2, .str "<=" kCOMPARISONS_3, .str ">" kCOMPARISONS_4, .str ">=" kCOMPARISONS_5] nCOMPARISONS_0, sCOMPARISONS_0⟩)
    (y_abs : PySem.W.nsIn K mainGlobals "abs" = some none)
    (y_any : PySem.W.nsIn K mainGlobals "any" = some none)
    (y_bool : PySem.W.nsIn K mainGlobals "bool" = some none)
    (y_enumerate : PySem.W.nsIn K mainGlobals "enumerate" = some none)
    (y_int : PySem.W.nsIn K mainGlobals "int" = some none)
    (y_isinstance : PySem.W.nsIn K mainGlobals "isinstance" = some none)
    (y_len : PySem.W.nsIn K mainGlobals "len" = some none)
    (y_list : PySem.W.nsIn K mainGlobals "list" = some none)
    (y_range : PySem.W.nsIn K mainGlobals "range" = some none)
    (y_sorted : PySem.W.nsIn K mainGlobals "sorted" = some none)
    (y_str : PySem.W.nsIn K mainGlobals "str" = some none)
    (y_sum : PySem.W.nsIn K mainGlobals "sum" = some none)
    (y_tuple : PySem.W.nsIn K mainGlobals "tuple" = some none)
    : ∃ fd : FuncData, (∀ (s : Shared) (v : Value), BindsTo s fd ⟨[v], []⟩ [("script", v)]) ∧ ∀ base : Heap, K.In base → base.Ns mainGlobals mg → FnOk l.prog w K mg base CX0 35 fa fd ["script"] (fun vs H Q _ => spQ K 1 sem_law vs H Q E0) := by
  have e := hfa.symm.trans (PySem.W.mg_of X G a43)
  cases e
  have gl_World : glAt K "World" = some C_World := by unfold glAt; rw [a_World]
  have cl_World : Cls K C_World := ⟨pg_World, hd_World, po_World, sa_World⟩
  have gl_Frame : glAt K "Frame" = some C_Frame := by unfold glAt; rw [a_Frame]
  have cl_Frame : Cls K C_Frame := ⟨pg_Frame, hd_Frame, po_Frame, sa_Frame⟩
  have gl_Source : glAt K "Source" = some C_Source := by unfold glAt; rw [a_Source]
  have cl_Source : Cls K C_Source := ⟨pg_Source, hd_Source, po_Source, sa_Source⟩
  have hT : ClsT K FT := (clsT_cons gl_World cl_World (fun f hf => by
    simp only [List.mem_cons, List.not_mem_nil, or_false] at hf
    rcases hf with rfl | rfl
    · exact n_World_sources
    · exact n_World_parameters) (clsT_cons gl_Frame cl_Frame (fun f hf => by
    simp only [List.mem_cons, List.not_mem_nil, or_false] at hf
    rcases hf with rfl | rfl | rfl | rfl
    · exact n_Frame_columns
    · exact n_Frame_row
    · exact n_Frame_members
    · exact n_Frame_outer) (clsT_cons gl_Source cl_Source (fun f hf => by
    simp only [List.mem_cons, List.not_mem_nil, or_false] at hf
    rcases hf with rfl | rfl | rfl | rfl
    · exact n_Source_name
    · exact n_Source_columns
    · exact n_Source_kinds
    · exact n_Source_rows) clsT_nil)))
  have F0 := fun_mk (st := s__law_next) l0 c0 k0
  have S0 : Src K mg "_law_next" s__law_next ["state", "limit"] := ⟨_, _, F0, PySem.W.mg_of X G a0, F0.binds fun _ _ _ _ _ _ us hl => match us, hl with | [_, _], _ => rfl⟩
  have F1 := fun_mk (st := s__law_integer) l1 c1 k1
  have S1 : Src K mg "_law_integer" s__law_integer ["state"] := ⟨_, _, F1, PySem.W.mg_of X G a1, F1.binds fun _ _ _ _ _ _ us hl => match us, hl with | [_], _ => rfl⟩
  have F2 := fun_mk (st := s_bounded) l2 c2 k2
  have S2 : Src K mg "bounded" s_bounded ["number"] := ⟨_, _, F2, PySem.W.mg_of X G a2, F2.binds fun _ _ _ _ _ _ us hl => match us, hl with | [_], _ => rfl⟩
  have F3 := fun_mk (st := s_quotient) l3 c3 k3
  have S3 : Src K mg "quotient" s_quotient ["first", "second"] := ⟨_, _, F3, PySem.W.mg_of X G a3, F3.binds fun _ _ _ _ _ _ us hl => match us, hl with | [_, _], _ => rfl⟩
  have F4 := fun_mk (st := s_arithmetic) l4 c4 k4
  have S4 : Src K mg "arithmetic" s_arithmetic ["operator", "first", "second"] := ⟨_, _, F4, PySem.W.mg_of X G a4, F4.binds fun _ _ _ _ _ _ us hl => match us, hl with | [_, _, _], _ => rfl⟩
  have F5 := fun_mk (st := s__law_same) l5 c5 k5
  have S5 : Src K mg "_law_same" s__law_same ["actual", "expected"] := ⟨_, _, F5, PySem.W.mg_of X G a5, F5.binds fun _ _ _ _ _ _ us hl => match us, hl with | [_, _], _ => rfl⟩
  have F6 := fun_mk (st := s__law_bounded) l6 c6 k6
  have S6 : Src K mg "_law_bounded" s__law_bounded ["number"] := ⟨_, _, F6, PySem.W.mg_of X G a6, F6.binds fun _ _ _ _ _ _ us hl => match us, hl with | [_], _ => rfl⟩
  have F7 := fun_mk (st := s__law_due) l7 c7 k7
  have S7 : Src K mg "_law_due" s__law_due ["first", "second"] := ⟨_, _, F7, PySem.W.mg_of X G a7, F7.binds fun _ _ _ _ _ _ us hl => match us, hl with | [_, _], _ => rfl⟩
  have F8 := fun_mk (st := s_Source____init__) l8 c8 k8
  have S8 : SrcM K "Source" "__init__" s_Source____init__ ["self", "name", "columns", "kinds", "rows"] "Source.__init__" := ⟨_, _, _, gl_Source, cl_Source, ⟨a8, i8, k8⟩, F8, F8.binds fun _ _ _ _ _ _ us hl => match us, hl with | [_, _, _, _, _], _ => rfl⟩
  have F9 := fun_mk (st := s_known_as) l9 c9 k9
  have S9 : Src K mg "known_as" s_known_as ["source"] := ⟨_, _, F9, PySem.W.mg_of X G a9, F9.binds fun _ _ _ _ _ _ us hl => match us, hl with | [_], _ => rfl⟩
  have F10 := fun_mk (st := s_table_result) l10 c10 k10
  have S10 : Src K mg "table_result" s_table_result ["source", "world"] := ⟨_, _, F10, PySem.W.mg_of X G a10, F10.binds fun _ _ _ _ _ _ us hl => match us, hl with | [_, _], _ => rfl⟩
  have F11 := fun_mk (st := s_Frame____init__) l11 c11 k11
  have S11 : SrcM K "Frame" "__init__" s_Frame____init__ ["self", "columns", "row", "members", "outer"] "Frame.__init__" := ⟨_, _, _, gl_Frame, cl_Frame, ⟨a11, i11, k11⟩, F11, F11.binds fun _ _ _ _ _ _ us hl => match us, hl with | [_, _, _, _, _], _ => rfl⟩
  have F12 := fun_mk (st := s_named) l12 c12 k12
  have S12 : Src K mg "named" s_named ["columns", "source", "name"] := ⟨_, _, F12, PySem.W.mg_of X G a12, F12.binds fun _ _ _ _ _ _ us hl => match us, hl with | [_, _, _], _ => rfl⟩
  have F13 := fun_mk (st := s_locate) l13 c13 k13
  have S13 : Src K mg "locate" s_locate ["scope", "source", "name"] := ⟨_, _, F13, PySem.W.mg_of X G a13, F13.binds fun _ _ _ _ _ _ us hl => match us, hl with | [_, _, _], _ => rfl⟩
  have F14 := fun_mk (st := s_conjunction) l14 c14 k14
  have S14 : Src K mg "conjunction" s_conjunction ["first", "second"] := ⟨_, _, F14, PySem.W.mg_of X G a14, F14.binds fun _ _ _ _ _ _ us hl => match us, hl with | [_, _], _ => rfl⟩
  have F15 := fun_mk (st := s_disjunction) l15 c15 k15
  have S15 : Src K mg "disjunction" s_disjunction ["first", "second"] := ⟨_, _, F15, PySem.W.mg_of X G a15, F15.binds fun _ _ _ _ _ _ us hl => match us, hl with | [_, _], _ => rfl⟩
  have F16 := fun_mk (st := s_value_key) l16 c16 k16
  have S16 : Src K mg "value_key" s_value_key ["value"] := ⟨_, _, F16, PySem.W.mg_of X G a16, F16.binds fun _ _ _ _ _ _ us hl => match us, hl with | [_], _ => rfl⟩
  have F17 := fun_mk (st := s_compare) l17 c17 k17
  have S17 : Src K mg "compare" s_compare ["operator", "first", "second"] := ⟨_, _, F17, PySem.W.mg_of X G a17, F17.binds fun _ _ _ _ _ _ us hl => match us, hl with | [_, _, _], _ => rfl⟩
  have F18 := fun_mk (st := s_combined) l18 c18 k18
  have S18 : Src K mg "combined" s_combined ["operator", "first", "second"] := ⟨_, _, F18, PySem.W.mg_of X G a18, F18.binds fun _ _ _ _ _ _ us hl => match us, hl with | [_, _, _], _ => rfl⟩
  have F19 := fun_mk (st := s_negation) l19 c19 k19
  have S19 : Src K mg "negation" s_negation ["value"] := ⟨_, _, F19, PySem.W.mg_of X G a19, F19.binds fun _ _ _ _ _ _ us hl => match us, hl with | [_], _ => rfl⟩
  have F20 := fun_mk (st := s_same) l20 c20 k20
  have S20 : Src K mg "same" s_same ["first", "second"] := ⟨_, _, F20, PySem.W.mg_of X G a20, F20.binds fun _ _ _ _ _ _ us hl => match us, hl with | [_, _], _ => rfl⟩
  have F21 := fun_mk (st := s_is_among) l21 c21 k21
  have S21 : Src K mg "is_among" s_is_among ["value", "column"] := ⟨_, _, F21, PySem.W.mg_of X G a21, F21.binds fun _ _ _ _ _ _ us hl => match us, hl with | [_, _], _ => rfl⟩
  have F22 := fun_mk (st := s_operands) l22 c22 k22
  have S22 : Src K mg "operands" s_operands ["node"] := ⟨_, _, F22, PySem.W.mg_of X G a22, F22.binds fun _ _ _ _ _ _ us hl => match us, hl with | [_], _ => rfl⟩
  have F23 := fun_mk (st := s_has_aggregate) l23 c23 k23
  have S23 : Src K mg "has_aggregate" s_has_aggregate ["node"] := ⟨_, _, F23, PySem.W.mg_of X G a23, F23.binds fun _ _ _ _ _ _ us hl => match us, hl with | [_], _ => rfl⟩
  have F24 := fun_mk (st := s_is_grouping) l24 c24 k24
  have S24 : Src K mg "is_grouping" s_is_grouping ["select"] := ⟨_, _, F24, PySem.W.mg_of X G a24, F24.binds fun _ _ _ _ _ _ us hl => match us, hl with | [_], _ => rfl⟩
  have F25 := fun_mk (st := s_own_index) l25 c25 k25
  have S25 : Src K mg "own_index" s_own_index ["columns", "node"] := ⟨_, _, F25, PySem.W.mg_of X G a25, F25.binds fun _ _ _ _ _ _ us hl => match us, hl with | [_, _], _ => rfl⟩
  have F26 := fun_mk (st := s_row_key) l26 c26 k26
  have S26 : Src K mg "row_key" s_row_key ["row"] := ⟨_, _, F26, PySem.W.mg_of X G a26, F26.binds fun _ _ _ _ _ _ us hl => match us, hl with | [_], _ => rfl⟩
  have F27 := fun_mk (st := s_grouped_frames) l27 c27 k27
  have S27 : Src K mg "grouped_frames" s_grouped_frames ["select", "columns", "rows", "outer"] := ⟨_, _, F27, PySem.W.mg_of X G a27, F27.binds fun _ _ _ _ _ _ us hl => match us, hl with | [_, _, _, _], _ => rfl⟩
  have F28 := fun_mk (st := s_item_name) l28 c28 k28
  have S28 : Src K mg "item_name" s_item_name ["item"] := ⟨_, _, F28, PySem.W.mg_of X G a28, F28.binds fun _ _ _ _ _ _ us hl => match us, hl with | [_], _ => rfl⟩
  have F29 := fun_mk (st := s_without_repeats) l29 c29 k29
  have S29 : Src K mg "without_repeats" s_without_repeats ["rows"] := ⟨_, _, F29, PySem.W.mg_of X G a29, F29.binds fun _ _ _ _ _ _ us hl => match us, hl with | [_], _ => rfl⟩
  have F30 := fun_mk (st := s_result_of) l30 c30 k30
  have S30 : Src K mg "result_of" s_result_of ["query", "outer", "world"] := ⟨_, _, F30, PySem.W.mg_of X G a30, F30.binds fun _ _ _ _ _ _ us hl => match us, hl with | [_, _, _], _ => rfl⟩
  have F31 := fun_mk (st := s_select_result) l31 c31 k31
  have S31 : Src K mg "select_result" s_select_result ["select", "outer", "world"] := ⟨_, _, F31, PySem.W.mg_of X G a31, F31.binds fun _ _ _ _ _ _ us hl => match us, hl with | [_, _, _], _ => rfl⟩
  have F32 := fun_mk (st := s_source_result) l32 c32 k32
  have S32 : Src K mg "source_result" s_source_result ["source", "outer", "world"] := ⟨_, _, F32, PySem.W.mg_of X G a32, F32.binds fun _ _ _ _ _ _ us hl => match us, hl with | [_, _, _], _ => rfl⟩
  have F33 := fun_mk (st := s_kept_frames) l33 c33 k33
  have S33 : Src K mg "kept_frames" s_kept_frames ["condition", "frames", "world"] := ⟨_, _, F33, PySem.W.mg_of X G a33, F33.binds fun _ _ _ _ _ _ us hl => match us, hl with | [_, _, _], _ => rfl⟩
  have F34 := fun_mk (st := s_value_of) l34 c34 k34
  have S34 : Src K mg "value_of" s_value_of ["node", "frame", "world"] := ⟨_, _, F34, PySem.W.mg_of X G a34, F34.binds fun _ _ _ _ _ _ us hl => match us, hl with | [_, _, _], _ => rfl⟩
  have F35 := fun_mk (st := s_membership) l35 c35 k35
  have S35 : Src K mg "membership" s_membership ["node", "frame", "world"] := ⟨_, _, F35, PySem.W.mg_of X G a35, F35.binds fun _ _ _ _ _ _ us hl => match us, hl with | [_, _, _], _ => rfl⟩
  have F36 := fun_mk (st := s_aggregate) l36 c36 k36
  have S36 : Src K mg "aggregate" s_aggregate ["node", "frame", "world"] := ⟨_, _, F36, PySem.W.mg_of X G a36, F36.binds fun _ _ _ _ _ _ us hl => match us, hl with | [_, _, _], _ => rfl⟩
  have F37 := fun_mk (st := s_made_row) l37 c37 k37
  have S37 : Src K mg "made_row" s_made_row ["items", "frame", "world"] := ⟨_, _, F37, PySem.W.mg_of X G a37, F37.binds fun _ _ _ _ _ _ us hl => match us, hl with | [_, _, _], _ => rfl⟩
  have F38 := fun_mk (st := s_World____init__) l38 c38 k38
  have S38 : SrcM K "World" "__init__" s_World____init__ ["self", "sources", "parameters"] "World.__init__" := ⟨_, _, _, gl_World, cl_World, ⟨a38, i38, k38⟩, F38, F38.binds fun _ _ _ _ _ _ us hl => match us, hl with | [_, _, _], _ => rfl⟩
  have F39 := fun_mk (st := s_query_rows) l39 c39 k39
  have S39 : Src K mg "query_rows" s_query_rows ["query", "sources", "parameters"] := ⟨_, _, F39, PySem.W.mg_of X G a39, F39.binds fun _ _ _ _ _ _ us hl => match us, hl with | [_, _, _], _ => rfl⟩
  have F40 := fun_mk (st := s__law_asked) l40 c40 k40
  have S40 : Src K mg "_law_asked" s__law_asked ["first", "second"] := ⟨_, _, F40, PySem.W.mg_of X G a40, F40.binds fun _ _ _ _ _ _ us hl => match us, hl with | [_, _], _ => rfl⟩
  have F41 := fun_mk (st := s__law_char) l41 c41 k41
  have S41 : Src K mg "_law_char" s__law_char ["index"] := ⟨_, _, F41, PySem.W.mg_of X G a41, F41.binds fun _ _ _ _ _ _ us hl => match us, hl with | [_], _ => rfl⟩
  have F42 := fun_mk (st := s__law_string) l42 c42 k42
  have S42 : Src K mg "_law_string" s__law_string ["state"] := ⟨_, _, F42, PySem.W.mg_of X G a42, F42.binds fun _ _ _ _ _ _ us hl => match us, hl with | [_], _ => rfl⟩
  have F43 := fun_mk (st := s_law) l43 c43 k43
  have S43 : Src K mg "law" s_law ["script"] := ⟨_, _, F43, PySem.W.mg_of X G a43, F43.binds fun _ _ _ _ _ _ us hl => match us, hl with | [_], _ => rfl⟩
  have k_Frame : MkC K mg "Frame" := ⟨_, _, gl_Frame, PySem.W.mg_of X G a_Frame, ⟨mk_Frame, a11, i11, kc_Frame⟩, a11⟩
  have k_Source : MkC K mg "Source" := ⟨_, _, gl_Source, PySem.W.mg_of X G a_Source, ⟨mk_Source, a8, i8, kc_Source⟩, a8⟩
  have k_World : MkC K mg "World" := ⟨_, _, gl_World, PySem.W.mg_of X G a_World, ⟨mk_World, a38, i38, kc_World⟩, a38⟩
  have g_BOUND := PySem.W.mg_of X G y_BOUND
  have g_LONGEST_TEXT := PySem.W.mg_of X G y_LONGEST_TEXT
  have rCOMPARISONS_0 : ∀ B, Rp K B (.ref tCOMPARISONS_0) (.kt [.str "=", .str "<>", .str "<", .str "<=", .str ">", .str ">="]) := fun B => rp_kt (vs := [.str "=", .str "<>", .str "<", .str "<=", .str ">", .str ">="]) yCOMPARISONS_0 rfl (by simp [sizeLine]) (.cons ⟨_, rfl⟩ (.cons ⟨_, rfl⟩ (.cons ⟨_, rfl⟩ (.cons ⟨_, rfl⟩ (.cons ⟨_, rfl⟩ (.cons ⟨_, rfl⟩ .nil)))))) (.cons (.str _) (.cons (.str _) (.cons (.str _) (.cons (.str _) (.cons (.str _) (.cons (.str _) .nil))))))
  have q_COMPARISONS : GlT K mg "COMPARISONS" D_COMPARISONS := ⟨_, PySem.W.mg_of X G y_COMPARISONS, rCOMPARISONS_0⟩
  have z_abs := PySem.W.mg_none_of X G y_abs
  have z_any := PySem.W.mg_none_of X G y_any
  have z_bool := PySem.W.mg_none_of X G y_bool
  have z_enumerate := PySem.W.mg_none_of X G y_enumerate
  have z_int := PySem.W.mg_none_of X G y_int
  have z_isinstance := PySem.W.mg_none_of X G y_isinstance
  have z_len := PySem.W.mg_none_of X G y_len
  have z_list := PySem.W.mg_none_of X G y_list
  have z_range := PySem.W.mg_none_of X G y_range
  have z_sorted := PySem.W.mg_none_of X G y_sorted
  have z_str := PySem.W.mg_none_of X G y_str
  have z_sum := PySem.W.mg_none_of X G y_sum
  have z_tuple := PySem.W.mg_none_of X G y_tuple
  refine ⟨PySem.W.fnOf "law" "law" (defArgs s_law) (defBody s_law) (defScope s_law) .none kV43 dc43 pm43 an43 cd43 ct43, fun s v => .of_eq rfl, fun base _ _ => ?_⟩
  have d__law_next := ok__law_next (Pr := l.prog) (w := w) (mg := mg) (base := base) hT S0 z_int z_len
  have d__law_integer := ok__law_integer (Pr := l.prog) (w := w) (mg := mg) (base := base) hT S1 d__law_next
  have d_bounded := ok_bounded (Pr := l.prog) (w := w) (mg := mg) (base := base) hT S2 g_BOUND z_abs
  have d_quotient := ok_quotient (Pr := l.prog) (w := w) (mg := mg) (base := base) hT S3 z_abs
  have d_arithmetic := ok_arithmetic (Pr := l.prog) (w := w) (mg := mg) (base := base) hT S4 d_bounded d_quotient g_LONGEST_TEXT z_len
  have d__law_same := ok__law_same (Pr := l.prog) (w := w) (mg := mg) (base := base) hT S5 z_bool z_int z_isinstance z_len z_list z_range z_str z_tuple 8
  have d__law_bounded := ok__law_bounded (Pr := l.prog) (w := w) (mg := mg) (base := base) hT S6 z_abs
  have d__law_due := ok__law_due (Pr := l.prog) (w := w) (mg := mg) (base := base) hT S7 d__law_bounded z_abs
  have d_Source____init__ := ok_Source____init__ (Pr := l.prog) (w := w) (mg := mg) (base := base) hT S8 z_list
  have d_known_as := ok_known_as (Pr := l.prog) (w := w) (mg := mg) (base := base) hT S9 
  have d_table_result := ok_table_result (Pr := l.prog) (w := w) (mg := mg) (base := base) hT S10 d_known_as z_list
  have d_Frame____init__ := ok_Frame____init__ (Pr := l.prog) (w := w) (mg := mg) (base := base) hT S11 
  have d_named := ok_named (Pr := l.prog) (w := w) (mg := mg) (base := base) hT S12 z_enumerate
  have d_locate := ok_locate (Pr := l.prog) (w := w) (mg := mg) (base := base) hT S13 d_named z_len
  have d_conjunction := ok_conjunction (Pr := l.prog) (w := w) (mg := mg) (base := base) hT S14 
  have d_disjunction := ok_disjunction (Pr := l.prog) (w := w) (mg := mg) (base := base) hT S15 
  have d_value_key := ok_value_key (Pr := l.prog) (w := w) (mg := mg) (base := base) hT S16 z_bool z_int z_isinstance
  have d_compare := ok_compare (Pr := l.prog) (w := w) (mg := mg) (base := base) hT S17 d_value_key
  have d_combined := ok_combined (Pr := l.prog) (w := w) (mg := mg) (base := base) hT S18 d_arithmetic d_compare d_conjunction d_disjunction q_COMPARISONS
  have d_negation := ok_negation (Pr := l.prog) (w := w) (mg := mg) (base := base) hT S19 
  have d_same := ok_same (Pr := l.prog) (w := w) (mg := mg) (base := base) hT S20 d_value_key
  have d_is_among := ok_is_among (Pr := l.prog) (w := w) (mg := mg) (base := base) hT S21 d_same z_any z_len
  have d_operands := ok_operands (Pr := l.prog) (w := w) (mg := mg) (base := base) hT S22 
  have d_has_aggregate := ok_has_aggregate (Pr := l.prog) (w := w) (mg := mg) (base := base) hT S23 d_operands z_any 8
  have d_is_grouping := ok_is_grouping (Pr := l.prog) (w := w) (mg := mg) (base := base) hT S24 d_has_aggregate z_any
  have d_own_index := ok_own_index (Pr := l.prog) (w := w) (mg := mg) (base := base) hT S25 d_named z_len
  have d_row_key := ok_row_key (Pr := l.prog) (w := w) (mg := mg) (base := base) hT S26 d_value_key z_tuple
  have d_grouped_frames := ok_grouped_frames (Pr := l.prog) (w := w) (mg := mg) (base := base) hT S27 d_Frame____init__ d_own_index d_row_key k_Frame z_len
  have d_item_name := ok_item_name (Pr := l.prog) (w := w) (mg := mg) (base := base) hT S28 
  have d_without_repeats := ok_without_repeats (Pr := l.prog) (w := w) (mg := mg) (base := base) hT S29 d_row_key
  have dG_made_row := ok_made_row (Pr := l.prog) (w := w) (mg := mg) (base := base) hT S30 S31 S32 S33 S34 S35 S36 S37 d_Frame____init__ d_arithmetic d_bounded d_combined d_compare d_disjunction d_grouped_frames d_is_among d_is_grouping d_item_name d_locate d_negation d_row_key d_table_result d_value_key d_without_repeats k_Frame z_len z_sorted z_sum z_tuple 20
  obtain ⟨d_result_of, d_select_result, d_source_result, d_kept_frames, d_value_of, d_membership, d_aggregate, d_made_row⟩ := dG_made_row
  have d_World____init__ := ok_World____init__ (Pr := l.prog) (w := w) (mg := mg) (base := base) hT S38 
  have d_query_rows := ok_query_rows (Pr := l.prog) (w := w) (mg := mg) (base := base) hT S39 d_World____init__ d_result_of k_World
  have d__law_asked := ok__law_asked (Pr := l.prog) (w := w) (mg := mg) (base := base) hT S40 d_Source____init__ d__law_bounded d__law_due d__law_same d_query_rows k_Source z_tuple
  have d__law_char := ok__law_char (Pr := l.prog) (w := w) (mg := mg) (base := base) hT S41 z_int
  have d__law_string := ok__law_string (Pr := l.prog) (w := w) (mg := mg) (base := base) hT S42 d__law_char d__law_next z_range
  exact ok_law (Pr := l.prog) (w := w) (mg := mg) (base := base) hT F43 d__law_asked d__law_due d__law_integer d__law_same d__law_string d_arithmetic z_len z_list
end KK

set_option maxHeartbeats 1000000
namespace KK
open PySem PySem.Spec PyProof.Rows L2 Tq
/-! pure calls: sem at data gives data -/
def Gv (sem : Sem1) (xs : List D) (d : D) : Prop := ∃ w h', sem (xs.map A.d) [] = some (.ok w h') ∧ view h' w = some d
section
variable {sem : Sem1} {xs : List D} {d : D} {ws : List A} {mr : E (List A)} {τ τ1 : Sl} {h h1 h2 : Hq} {np n : Nat} {m m1 m2 : MS} {t : E Bool} {w : A} {R : Option So}
theorem x_F (e : mr τ h = some (.ok ws h1)) (g : Gv sem xs d) (q : allD ws = some xs) : mCallP sem mr τ h = some (.ok (.d d) h1) := by
  obtain ⟨w, h', s, v⟩ := g
  cases allD_of q
  exact x_CallP e q s v
theorem x_F1 {a : E A} {x : D} (g : Gv sem [x] d) (e : a τ h = some (.ok (.d x) h1)) : mCallP sem (lenIs 1 (maCons a maNil)) τ h = some (.ok (.d d) h1) := x_F (x_len (x_cons e x_nil) rfl) g rfl
theorem x_F2 {a b : E A} {x y : D} (g : Gv sem [x, y] d) (e : a τ h = some (.ok (.d x) h1)) (e2 : b τ h1 = some (.ok (.d y) h2)) : mCallP sem (lenIs 2 (maCons a (maCons b maNil))) τ h = some (.ok (.d d) h2) := x_F (x_len (x_cons e (x_cons e2 x_nil)) rfl) g rfl
theorem x_F3 {a b c : E A} {x y z : D} {h3 : Hq} (g : Gv sem [x, y, z] d) (e : a τ h = some (.ok (.d x) h1)) (e2 : b τ h1 = some (.ok (.d y) h2)) (e3 : c τ h2 = some (.ok (.d z) h3)) : mCallP sem (lenIs 3 (maCons a (maCons b (maCons c maNil)))) τ h = some (.ok (.d d) h3) := x_F (x_len (x_cons e (x_cons e2 (x_cons e3 x_nil))) rfl) g rfl
theorem x_F4 {a b c c' : E A} {x y z u : D} {h3 h4 : Hq} (g : Gv sem [x, y, z, u] d) (e : a τ h = some (.ok (.d x) h1)) (e2 : b τ h1 = some (.ok (.d y) h2)) (e3 : c τ h2 = some (.ok (.d z) h3)) (e4 : c' τ h3 = some (.ok (.d u) h4)) : mCallP sem (lenIs 4 (maCons a (maCons b (maCons c (maCons c' maNil))))) τ h = some (.ok (.d d) h4) := x_F (x_len (x_cons e (x_cons e2 (x_cons e3 (x_cons e4 x_nil)))) rfl) g rfl
theorem gv_run (hl : (xs.map A.d).length = np) (s : StartL n (xs.map A.d) τ) (e : m τ [] = some (.rt w h1)) (v : view h1 w = some d) : Gv (runB np n m) xs d := ⟨w, h1, x_run hl s e, v⟩
theorem gv_d (hl : (xs.map A.d).length = np) (s : StartL n (xs.map A.d) τ) (e : m τ [] = some (.rt (.d d) h1)) : Gv (runB np n m) xs d := gv_run hl s e view_d
theorem sk (e : t τ h = some (.ok false h1)) (q : m2 τ h1 = R) : mSeq (mIf t m1 mNx) m2 τ h = R := s_Seq (s_IfF e rfl s_Nx) q
theorem hit {m3 : MS} (e : t τ h = some (.ok true h1)) (q : m1 τ h1 = some (.rt w h2)) : mSeq (mIf t m1 m3) m2 τ h = some (.rt w h2) := s_SeqR (s_IfT e rfl q)
theorem x_gett {a b : E A} {ds : List D} {z : Int} {n : Nat} {x : D} (e1 : a τ h = some (.ok (.d (.tup ds)) h1)) (e2 : b τ h1 = some (.ok (.d (.int z)) h2)) (e : ixN ds.length z = some n) (e3 : ds[n]? = some x) : mBin gGet a b τ h = some (.ok (.d x) h2) := x_Bin e1 e2 (g_gettd e e3)
theorem x_getl {a b : E A} {ds : List D} {z : Int} {n : Nat} {x : D} (e1 : a τ h = some (.ok (.d (.lst ds)) h1)) (e2 : b τ h1 = some (.ok (.d (.int z)) h2)) (e : ixN ds.length z = some n) (e3 : ds[n]? = some x) : mBin gGet a b τ h = some (.ok (.d x) h2) := x_Bin e1 e2 (g_getld e e3)
end
/-! ### _law_same -/
inductive Sm : Nat → D → Prop
  | non {n : Nat} : Sm (n + 1) .non
  | bl {n : Nat} (b : Bool) : Sm (n + 1) (.bl b)
  | int {n : Nat} (i : Int) : Sm (n + 1) (.int i)
  | str {n : Nat} {x : Str} : PyData.strOk x = true → Sm (n + 1) (.str x)
  | tup {n : Nat} {ds : List D} : (∀ d ∈ ds, Sm n d) → ds.length ≤ LIM → Sm (n + 1) (.tup ds)
  | lst {n : Nat} {ds : List D} : (∀ d ∈ ds, Sm n d) → ds.length ≤ LIM → Sm (n + 1) (.lst ds)
abbrev RR (d : D) (k : Option A) : Sl := [some (.d d), some (.d d), k]
section
variable {d : D} {h : Hq} {sem : Sem1} {k : Option A} {n : String}
theorem t_isi {T : String} {i : Nat} (e : (RR d k)[i]? = some (some (.d d))) (t : tyD d = some n) : mUn (gIsi T) (mVar i) (RR d k) h = some (.ok (.d (.bl (isiN T n))) h) := x_Un (x_Var e) (g_isi (a := .d d) t)
theorem t_non (hd : d ≠ .non) {i : Nat} (e : (RR d k)[i]? = some (some (.d d))) : mTB (mBin (gIs false) (mVar i) (mC .non)) (RR d k) h = some (.ok false h) := x_TB (x_Bin (x_Var e) x_C (g_isn false (by cases d <;> first | rfl | exact absurd rfl hd)))
theorem t_eq (hs : d.shp = true) : mBin (gEq false) (mVar 0) (mVar 1) (RR d k) h = some (.ok (.d (.bl true)) h) := x_Bin (x_Var rfl) (x_Var rfl) (g_eqv view_d view_d (eqD_same hs))
theorem seq_same {ds : List D} (t : tyD d = some n) (ht : (n = "tuple" ∨ n = "list")) (hd : lenA [] (.d d) = some ds.length) (hg : ∀ (i : Nat) (x : D), ds[i]? = some x → gGet (.d d) (.d (.int (i : Nat))) [] = some (.ok (.d x) [])) (hl : ds.length ≤ LIM)
    (ih : ∀ x ∈ ds, Gv sem [x, x] (.bl true)) : b__law_same sem (RR d none) [] = some (.rt (.d (.bl true)) []) := by
  have hn : d ≠ .non := fun e => by subst e; cases t; rcases ht with q | q <;> exact absurd q (by decide)
  have k1 : isiN "bool" n = false := by rcases ht with rfl | rfl <;> decide +kernel
  have k2 : isiN "int" n = false := by rcases ht with rfl | rfl <;> decide +kernel
  have k3 : isiN "str" n = false := by rcases ht with rfl | rfl <;> decide +kernel
  have el : ∀ (i : Nat) (k : Option A), (RR d k)[i]? = some (some (.d d)) → mUn gLen (mVar i) (RR d k) [] = some (.ok (.d (.int (ds.length : Nat))) []) := fun i k e => x_Un (x_Var e) (by unfold gLen; rw [hd])
  obtain ⟨τ', h', ⟨⟨k, rfl⟩, rfl⟩, e⟩ := for_inv (gg := mgName 2) (mb := B1__law_same sem) (τ := RR d none) (h := []) (xs := List.range ds.length) iD (fun n τ h => (∃ k, τ = RR d k) ∧ h = []) ⟨⟨_, rfl⟩, rfl⟩ (by rw [List.length_range]; exact hl) (fun n w τ h hw i => by
    obtain ⟨⟨k, rfl⟩, rfl⟩ := i
    obtain ⟨hn, rfl⟩ := rangeget hw
    have ez : ds[w]? = some ds[w] := List.getElem?_eq_getElem hn
    have hx := ih _ (List.getElem_mem hn)
    have hg' := hg w _ ez
    refine ⟨RR d (some (iD w)), rfl, RR d (some (iD w)), [], ⟨⟨_, rfl⟩, rfl⟩, .inl ?_⟩
    unfold B1__law_same
    exact s_IfF (x_NotT (x_Tru (a := .d (.bl true)) (x_F2 hx (x_Bin (x_Var rfl) (x_Var rfl) hg') (x_Bin (x_Var rfl) (x_Var rfl) hg')) rfl)) rfl s_Nx)
  unfold b__law_same
  refine sk (t_non hn rfl) (sk (x_Tru (t_isi (n := n) rfl t) (by rw [k1]; rfl)) (sk (x_Tru (t_isi (n := n) rfl t) (by rw [k2]; rfl)) (sk (x_Tru (t_isi (n := n) rfl t) (by rw [k3]; rfl)) (sk (h1 := []) ?_ (sk (h1 := []) ?_ (sk (h1 := []) ?_ (s_Seq (τ1 := RR d k) (h1 := []) ?_ (s_Ret x_C))))))))
  · rcases ht with rfl | rfl
    · exact x_AndT1 (x_Tru (t_isi (n := "tuple") rfl t) rfl) (x_NotT (j := true) (x_Tru (t_isi (n := "tuple") rfl t) rfl))
    · exact x_AndT0 (x_Tru (t_isi (n := "list") rfl t) rfl)
  · rcases ht with rfl | rfl
    · exact x_AndT0 (x_Tru (t_isi (n := "tuple") rfl t) rfl)
    · exact x_AndT1 (x_Tru (t_isi (n := "list") rfl t) rfl) (x_NotT (j := true) (x_Tru (t_isi (n := "list") rfl t) rfl))
  · exact x_TB (by rw [x_Bin (el 0 none rfl) (el 1 none rfl) g_nei, decide_eq_true rfl]; rfl)
  · unfold L1__law_same
    refine s_For (x_Rg (q := ds.length) (el 1 none rfl) hl) e
theorem gget_lst {ds : List D} {i : Nat} {x : D} (e : ds[i]? = some x) : gGet (.d (.lst ds)) (.d (.int (i : Nat))) [] = some (.ok (.d x) []) := g_getld (ix_nat (List.getElem?_eq_some_iff.mp e).1) e
theorem gget_tup {ds : List D} {i : Nat} {x : D} (e : ds[i]? = some x) : gGet (.d (.tup ds)) (.d (.int (i : Nat))) [] = some (.ok (.d x) []) := g_gettd (ix_nat (List.getElem?_eq_some_iff.mp e).1) e
end
theorem same_ok : ∀ {n : Nat} {d : D}, Sm n d → Gv (sem__law_same n) [d, d] (.bl true) := by
  intro n
  induction n with
  | zero => intro d s; cases s
  | succ n ih =>
    intro d s
    refine gv_d (τ := RR d none) (h1 := []) rfl (.s (.s (.n .z))) ?_
    cases s with
    | non => unfold b__law_same; exact hit (x_TB rfl) (s_Ret rfl)
    | bl b =>
      unfold b__law_same
      exact sk (t_non (by simp) rfl) (hit (x_Tru (t_isi (n := "bool") rfl rfl) rfl) (s_Ret (x_AndV1 (t_isi (n := "bool") rfl rfl) (t_eq (shp_fok rfl)))))
    | int i =>
      unfold b__law_same
      exact sk (t_non (by simp) rfl) (sk (x_Tru (t_isi (n := "int") rfl rfl) rfl) (hit (x_Tru (t_isi (n := "int") rfl rfl) rfl) (s_Ret (x_AndV1 (t_isi (n := "int") rfl rfl) (x_AndV1 (x_NotV (j := false) (t_isi (n := "int") rfl rfl)) (t_eq (shp_fok rfl)))))))
    | str hx =>
      unfold b__law_same
      exact sk (t_non (by simp) rfl) (sk (x_Tru (t_isi (n := "str") rfl rfl) rfl) (sk (x_Tru (t_isi (n := "str") rfl rfl) rfl) (hit (x_Tru (t_isi (n := "str") rfl rfl) rfl) (s_Ret (x_AndV1 (t_isi (n := "str") rfl rfl) (t_eq (shp_fok hx)))))))
    | tup h1 h2 => exact seq_same (n := "tuple") rfl (.inl rfl) (by show some ((List.map A.d _).length) = _; rw [List.length_map]) (fun i x e => gget_tup e) h2 fun x hx => ih (h1 x hx)
    | lst h1 h2 => exact seq_same (n := "list") rfl (.inr rfl) (by show some ((List.map A.d _).length) = _; rw [List.length_map]) (fun i x e => gget_lst e) h2 fun x hx => ih (h1 x hx)
end KK

set_option maxHeartbeats 1000000
namespace KK
open PySem PySem.Spec PyProof.Rows L2 Tq
/-! columns and frames -/
def oS : Option Str → D
  | none => .non
  | some s => .str s
def cD (c : Str × Str) : D := .tup [.str c.1, .str c.2]
def csD (cs : List (Str × Str)) : D := .lst (cs.map cD)
abbrev frD (cols row mem out : D) : D := .nd (.ins "Frame" ["columns", "row", "members", "outer"]) [cols, row, mem, out]
abbrev woD (src par : D) : D := .nd (.ins "World" ["sources", "parameters"]) [src, par]
def colOk (c : Str × Str) : Prop := PyData.strOk c.1 = true ∧ PyData.strOk c.2 = true
def hitS : Option Str → Str → Bool
  | none, _ => true
  | some s, c => decide (c = s)
def hitC (src : Option Str) (nm : Str) (c : Str × Str) : Bool := decide (c.2 = nm) && hitS src c.1
def namedL (src : Option Str) (nm : Str) : Nat → List (Str × Str) → List Nat
  | _, [] => []
  | i, c :: r => if hitC src nm c then i :: namedL src nm (i + 1) r else namedL src nm (i + 1) r
theorem namedL_snoc (src : Option Str) (nm : Str) (c : Str × Str) : ∀ (cs : List (Str × Str)) (i : Nat), namedL src nm i (cs ++ [c]) = namedL src nm i cs ++ (if hitC src nm c then [i + cs.length] else [])
  | [], i => by
    show (if _ then _ else _) = _
    split <;> rfl
  | d :: r, i => by
    rw [List.cons_append]
    unfold namedL
    rw [namedL_snoc src nm c r (i + 1), List.length_cons, show i + 1 + r.length = i + (r.length + 1) by omega]
    split <;> rfl
theorem namedL_len (src : Option Str) (nm : Str) : ∀ (cs : List (Str × Str)) (i : Nat), (namedL src nm i cs).length ≤ cs.length
  | [], _ => Nat.le_refl _
  | c :: r, i => by
    have := namedL_len src nm r (i + 1)
    unfold namedL
    split
    · rw [List.length_cons, List.length_cons]; omega
    · rw [List.length_cons]; omega
theorem eqS {p q : Str} {h : Hq} (hp : PyData.strOk p = true) (hq : PyData.strOk q = true) : gEq false (.d (.str p)) (.d (.str q)) h = some (.ok (.d (.bl (decide (p = q)))) h) := g_eqv view_d view_d (eqD_str (n := false) hp hq)
def nD (l : List Nat) : D := .lst (l.map fun i => .int (i : Nat))
theorem named_ok {cs : List (Str × Str)} {src : Option Str} {nm : Str} (hc : ∀ c ∈ cs, colOk c) (hn : PyData.strOk nm = true) (hs : ∀ s, src = some s → PyData.strOk s = true) (hl : cs.length ≤ 16777216) : Gv sem_named [csD cs, oS src, .str nm] (nD (namedL src nm 0 cs)) := by
  let τ : Option A → Option A → Option A → Sl := fun a b c => [some (.d (csD cs)), some (.d (oS src)), some (.d (.str nm)), a, b, c]
  obtain ⟨τ', h', ⟨⟨u, v, rfl⟩, rfl⟩, e⟩ := for_inv (gg := mgTup 2 (mgCons (mgName 4) (mgCons (mgName 5) mgNil))) (mb := B1_named) (τ := τ (some (.r 0)) none none) (h := [.lst []]) (xs := List.range cs.length) (fun i => .d (.tup [.int (i : Nat), cD (cs.getD i ("", ""))]))
    (fun n t h => (∃ u v, t = τ (some (.r 0)) u v) ∧ h = [.lst ((namedL src nm 0 (cs.take n)).map iD)]) ⟨⟨_, _, rfl⟩, rfl⟩ (by rw [List.length_range]; exact hl) (fun n w t h hw i => by
    obtain ⟨⟨u, v, rfl⟩, rfl⟩ := i
    obtain ⟨hn', rfl⟩ := rangeget hw
    have ec : cs[w]? = some cs[w] := List.getElem?_eq_getElem hn'
    have eg : cs.getD w ("", "") = cs[w] := by rw [List.getD_eq_getElem?_getD, ec]; rfl
    obtain ⟨o1, o2⟩ := hc _ (List.getElem_mem hn')
    rw [eg, List.take_add_one, ec, Option.toList_some, namedL_snoc, List.length_take, Nat.min_eq_left (Nat.le_of_lt hn'), Nat.zero_add]
    have hk : (namedL src nm 0 (cs.take w)).length ≤ w := Nat.le_trans (namedL_len _ _ _ _) (by rw [List.length_take]; omega)
    generalize cs[w] = c at *
    obtain ⟨c1, c2⟩ := c
    dsimp only at o1 o2
    generalize namedL src nm 0 (cs.take w) = l at *
    refine ⟨τ (some (.r 0)) (some (iD w)) (some (.d (cD (c1, c2)))), mg_T2 (mg_Cons (mg_Name rfl) (mg_Cons (mg_Name rfl) mg_Nil)), τ (some (.r 0)) (some (iD w)) (some (.d (cD (c1, c2)))), _, ⟨⟨some (iD w), some (.d (cD (c1, c2))), rfl⟩, rfl⟩, .inl ?_⟩
    have t : (mAndT (mTB (mBin (gEq false) (mBin gGet (mVar 5) (mC (.int 1))) (mVar 2))) (mOrT (mTB (mBin (gIs false) (mVar 1) (mC .non))) (mTB (mBin (gEq false) (mBin gGet (mVar 5) (mC (.int 0))) (mVar 1))))) (τ (some (.r 0)) (some (iD w)) (some (.d (cD (c1, c2))))) [.lst (l.map iD)] = some (.ok (hitC src nm (c1, c2)) [.lst (l.map iD)]) := by
      refine x_AndT (j := decide (c2 = nm)) (l := hitS src c1) ?_ fun _ => ?_
      · exact x_TB (x_Bin (x_gett (x_Var rfl) x_C (n := 1) rfl rfl) (x_Var rfl) (eqS o2 hn))
      cases src with
      | none => exact x_OrT1 (x_TB (x_Bin (x_Var rfl) x_C g_isnn0))
      | some s => exact x_OrT0 (x_TB (x_Bin (x_Var rfl) x_C (g_isn false rfl))) (x_TB (x_Bin (x_gett (x_Var rfl) x_C (n := 0) rfl rfl) (x_Var rfl) (eqS o1 (hs s rfl))))
    unfold B1_named
    cases hh : hitC src nm (c1, c2) with
    | true =>
      rw [hh] at t
      refine s_IfT t rfl (s_Drop (x_M1 (x_Var rfl) (tokL_r rfl) (x_Var rfl) (g_app rfl (by rw [List.length_map]; show _ < 16777216; omega) ?_)))
      rw [if_pos rfl, List.map_append]
      rfl
    | false =>
      rw [hh] at t
      refine (s_IfF t rfl s_Nx).trans ?_
      rw [if_neg (by decide), List.append_nil])
  refine gv_run (τ := τ none none none) (w := .r 0) (h1 := [.lst ((namedL src nm 0 cs).map iD)]) rfl (.s (.s (.s (.n (.n (.n .z)))))) ?_ ?_
  · rw [List.length_range, List.take_length] at e
    unfold b_named
    refine s_Seq (s_Set (x_Lst x_nil (x_mkC0 (by decide))) rfl) (s_Seq (τ1 := τ (some (.r 0)) u v) (h1 := [.lst ((namedL src nm 0 cs).map iD)]) ?_ (s_Ret (x_Var rfl)))
    unfold L1_named
    refine s_For (nx := nxL ((List.range cs.length).map fun i => .d (.tup [.int (i : Nat), cD (cs.getD i ("", ""))]))) (h1 := [.lst []]) ?_ e
    unfold mEnum
    rw [x_Var (w := .d (csD cs)) rfl, bd_ok]
    show some (Rs.ok (nxL (enA (cs.map cD))) [O.lst []]) = _
    have : enA (cs.map cD) = (List.range cs.length).map fun i => A.d (.tup [.int (i : Nat), cD (cs.getD i ("", ""))]) := by
      refine List.ext_getElem? fun i => ?_
      unfold enA
      rw [List.getElem?_mapIdx, List.getElem?_map, List.getElem?_map]
      rcases Nat.lt_or_ge i cs.length with z | z
      · rw [List.getElem?_range z, List.getElem?_eq_getElem z]
        show some (A.d (.tup [_, cD cs[i]])) = some (A.d (.tup [_, cD (cs.getD i _)]))
        rw [List.getD_eq_getElem?_getD, List.getElem?_eq_getElem z]
        rfl
      · rw [List.getElem?_eq_none z, List.getElem?_eq_none (by rw [List.length_range]; exact z)]
        rfl
    rw [this]
  · refine view_l rfl ?_
    exact allD_mapf (fun i : Nat => D.int (i : Nat)) _
theorem while_rt {t : E Bool} {mb : MS} {n : Nat} {τ : Sl} {h h1 h2 : Hq} {w : A} (e : t τ h = some (.ok true h1)) (e2 : mb τ h1 = some (.rt w h2)) : mWhile t mb (n + 1) τ h = some (.rt w h2) := by
  unfold mWhile
  rw [e, sb_ok]
  dsimp only
  rw [e2]
/-- found in the frame itself -/
theorem locate_own {cs : List (Str × Str)} {row mem out : D} {src : Option Str} {nm : Str} {i : Nat} (g : Gv sem_named [csD cs, oS src, .str nm] (nD [i])) :
    Gv sem_locate [frD (csD cs) row mem out, oS src, .str nm] (.tup [frD (csD cs) row mem out, .int (i : Nat)]) := by
  let F := frD (csD cs) row mem out
  let τ : Option A → Option A → Sl := fun a b => [some (.d F), some (.d (oS src)), some (.d (.str nm)), a, b]
  refine gv_d (τ := τ none none) (h1 := []) rfl (.s (.s (.s (.n (.n .z))))) ?_
  unfold b_locate
  refine s_Seq (τ1 := τ (some (.d F)) none) (h1 := []) (s_Set (x_Var rfl) rfl) (s_SeqR ?_)
  unfold L1_locate
  refine while_rt (h1 := []) ?_ ?_
  · unfold W1_locate
    exact x_TB (x_Bin (x_Var rfl) x_C (g_isn true rfl))
  · unfold B1_locate
    refine s_Seq (τ1 := τ (some (.d F)) (some (.d (nD [i])))) (h1 := []) (s_Set (x_F3 g (x_Un (x_Var rfl) (g_fldd (by decide +kernel) rfl)) (x_Var rfl) (x_Var rfl)) rfl) ?_
    refine s_Seq (s_IfF (x_TB (x_Bin (x_Un (x_Var rfl) g_lenld) x_C g_gt)) rfl s_Nx) ?_
    exact hit (x_TB (x_Bin (x_Un (x_Var rfl) g_lenld) x_C (by rw [g_eqi]; rfl))) (s_Ret (x_Tup (x_cons (x_Var rfl) (x_cons (x_getl (x_Var rfl) x_C (n := 0) rfl rfl) x_nil)) (x_mkT rfl (show 2 ≤ 16777216 by decide))))
end KK

set_option maxHeartbeats 1000000
namespace KK
open PySem PySem.Spec PyProof.Rows L2 Tq
/-! frames, worlds, tables -/
section
variable {ma mb mc md : E A} {τ : Sl} {h h1 h2 h3 h4 : Hq} {a b c d : D}
theorem x_Frame (e1 : ma τ h = some (.ok (.d a) h1)) (e2 : mb τ h1 = some (.ok (.d b) h2)) (e3 : mc τ h2 = some (.ok (.d c) h3)) (e4 : md τ h3 = some (.ok (.d d) h4)) :
    mMakeP "Frame" 5 sem_Frame____init__ (maCons ma (maCons mb (maCons mc (maCons md maNil)))) τ h = some (.ok (.d (frD a b c d)) h4) :=
  x_MakeP (ds := [a, b, c, d]) (h2 := [.nd (.ins "Frame" ["columns", "row", "members", "outer"]) [.d a, .d b, .d c, .d d]]) (x_cons e1 (x_cons e2 (x_cons e3 (x_cons e4 x_nil)))) rfl rfl (by with_unfolding_all rfl) (view_n rfl rfl)
theorem x_World (e1 : ma τ h = some (.ok (.d a) h1)) (e2 : mb τ h1 = some (.ok (.d b) h2)) :
    mMakeP "World" 3 sem_World____init__ (maCons ma (maCons mb maNil)) τ h = some (.ok (.d (woD a b)) h2) :=
  x_MakeP (ds := [a, b]) (h2 := [.nd (.ins "World" ["sources", "parameters"]) [.d a, .d b]]) (x_cons e1 (x_cons e2 x_nil)) rfl rfl (by with_unfolding_all rfl) (view_n rfl rfl)
end
abbrev soD (nm cols kinds rows : D) : D := .nd (.ins "Source" ["name", "columns", "kinds", "rows"]) [nm, cols, kinds, rows]
theorem f_cols {τ : Sl} {h h1 : Hq} {m : E A} {a b c d : D} (e : m τ h = some (.ok (.d (frD a b c d)) h1)) : mUn (gFld FT "columns") m τ h = some (.ok (.d a) h1) := x_Un e (g_fldd (by decide +kernel) rfl)
theorem f_row {τ : Sl} {h h1 : Hq} {m : E A} {a b c d : D} (e : m τ h = some (.ok (.d (frD a b c d)) h1)) : mUn (gFld FT "row") m τ h = some (.ok (.d b) h1) := x_Un e (g_fldd (by decide +kernel) (by with_unfolding_all rfl))
theorem f_mem {τ : Sl} {h h1 : Hq} {m : E A} {a b c d : D} (e : m τ h = some (.ok (.d (frD a b c d)) h1)) : mUn (gFld FT "members") m τ h = some (.ok (.d c) h1) := x_Un e (g_fldd (by decide +kernel) (by with_unfolding_all rfl))
theorem f_out {τ : Sl} {h h1 : Hq} {m : E A} {a b c d : D} (e : m τ h = some (.ok (.d (frD a b c d)) h1)) : mUn (gFld FT "outer") m τ h = some (.ok (.d d) h1) := x_Un e (g_fldd (by decide +kernel) (by with_unfolding_all rfl))
theorem f_src {τ : Sl} {h h1 : Hq} {m : E A} {a b : D} (e : m τ h = some (.ok (.d (woD a b)) h1)) : mUn (gFld FT "sources") m τ h = some (.ok (.d a) h1) := x_Un e (g_fldd (by decide +kernel) (by with_unfolding_all rfl))
theorem f_par {τ : Sl} {h h1 : Hq} {m : E A} {a b : D} (e : m τ h = some (.ok (.d (woD a b)) h1)) : mUn (gFld FT "parameters") m τ h = some (.ok (.d b) h1) := x_Un e (g_fldd (by decide +kernel) (by with_unfolding_all rfl))
theorem f_scol {τ : Sl} {h h1 : Hq} {m : E A} {a b c d : D} (e : m τ h = some (.ok (.d (soD a b c d)) h1)) : mUn (gFld FT "columns") m τ h = some (.ok (.d b) h1) := x_Un e (g_fldd (by decide +kernel) (by with_unfolding_all rfl))
theorem f_srow {τ : Sl} {h h1 : Hq} {m : E A} {a b c d : D} (e : m τ h = some (.ok (.d (soD a b c d)) h1)) : mUn (gFld FT "rows") m τ h = some (.ok (.d d) h1) := x_Un e (g_fldd (by decide +kernel) (by with_unfolding_all rfl))
theorem known_some {t n : D} {s : Str} : Gv sem_known_as [.tup [t, n, .str s]] (.str s) := by
  refine gv_d (τ := [some (.d (.tup [t, n, .str s]))]) (h1 := []) rfl (.s .z) ?_
  unfold b_known_as
  exact sk (x_TB (x_Bin (x_gett (x_Var rfl) x_C (n := 2) rfl rfl) x_C (g_isn false rfl))) (s_Ret (x_gett (x_Var rfl) x_C (n := 2) rfl rfl))
theorem known_none {t n : D} : Gv sem_known_as [.tup [t, n, .non]] n := by
  refine gv_d (τ := [some (.d (.tup [t, n, .non]))]) (h1 := []) rfl (.s .z) ?_
  unfold b_known_as
  exact hit (x_TB (x_Bin (x_gett (x_Var rfl) x_C (n := 2) rfl rfl) x_C g_isnn0)) (s_Ret (x_gett (x_Var rfl) x_C (n := 1) rfl rfl))
/-- a table by its name -/
theorem table_ok {t nm al srcs par a k : D} {kn : Str} {cols : List Str} {rows : List D} (hk : Gv sem_known_as [.tup [t, nm, al]] (.str kn)) (hs : ∀ h, gGet (.d srcs) (.d nm) h = some (.ok (.d (soD a (.lst (cols.map D.str)) k (.lst rows))) h)) (h1 : cols.length ≤ 16777216) (h2 : rows.length ≤ 16777216) :
    Gv sem_table_result [.tup [t, nm, al], woD srcs par] (.tup [csD (cols.map fun c => (kn, c)), .lst rows]) := by
  let S := soD a (.lst (cols.map D.str)) k (.lst rows)
  let τ : Option A → Option A → Sl := fun u v => [some (.d (.tup [t, nm, al])), some (.d (woD srcs par)), u, v]
  refine gv_d (τ := τ none none) (h1 := []) rfl (.s (.s (.n (.n .z)))) ?_
  unfold b_table_result
  refine s_Seq (τ1 := τ (some (.d S)) none) (h1 := []) (s_Set (x_Bin (f_src (x_Var rfl)) (x_gett (x_Var rfl) x_C (n := 1) rfl rfl) (hs [])) rfl) (s_Ret ?_)
  refine x_Tup (x_cons (a := .d (csD (cols.map fun c => (kn, c)))) (h1 := []) ?_ (x_cons (a := .d (.lst rows)) (x_Un (f_srow (x_Var rfl)) (g_lstl (x_mkL (allD_map rows) h2))) x_nil)) (x_mkT rfl (show 2 ≤ 16777216 by decide))
  unfold C1_table_result
  rw [lc_map (h1 := []) (xs := cols) (fun c => A.d (.str c)) (fun c => A.d (cD (kn, c))) (by rw [x_It (f_scol (x_Var rfl)), List.map_map]; rfl) h1 fun n c e => ⟨τ (some (.d S)) (some (.d (.str c))), rfl, by
    unfold E1_table_result
    exact x_Tup (x_cons (x_F1 hk (x_Var rfl)) (x_cons (x_Var rfl) x_nil)) (x_mkT rfl (show 2 ≤ 16777216 by decide))⟩]
  rw [x_mkL (allD_mapf (fun c => cD (kn, c)) cols) (by rw [List.length_map]; exact h1)]
  unfold csD
  rw [List.map_map]
  rfl
theorem source_table {n : Nat} {nm al srcs par a k out : D} {kn : Str} {cols : List Str} {rows : List D} (hk : Gv sem_known_as [.tup [.str "table", nm, al]] (.str kn)) (hs : ∀ h, gGet (.d srcs) (.d nm) h = some (.ok (.d (soD a (.lst (cols.map D.str)) k (.lst rows))) h)) (h1 : cols.length ≤ 16777216) (h2 : rows.length ≤ 16777216) :
    Gv (sem_source_result (n + 1)) [.tup [.str "table", nm, al], out, woD srcs par] (.tup [csD (cols.map fun c => (kn, c)), .lst rows]) := by
  refine gv_d (τ := [some (.d (.tup [.str "table", nm, al])), some (.d out), some (.d (woD srcs par)), none, none, none, none, none, none, none, none, none, none, none, none, none, none, none]) (h1 := []) rfl (.s (.s (.s (.n (.n (.n (.n (.n (.n (.n (.n (.n (.n (.n (.n (.n (.n (.n .z)))))))))))))))))) ?_
  unfold b_source_result
  exact hit (x_TB (by with_unfolding_all rfl)) (s_Ret (x_F2 (table_ok hk hs h1 h2) (x_Var rfl) (x_Var rfl)))
/-! frames that are kept -/
abbrev FrT := D × D
def fr1 (cs out : D) (f : FrT) : D := frD cs f.1 f.2 out
def isT : D → Bool
  | .bl true => true
  | _ => false
theorem g_isT {d : D} {h : Hq} : gIs false (.d d) (.d (.bl true)) h = some (.ok (.d (.bl (isT d))) h) := by
  cases d with
  | bl b => cases b <;> rfl
  | _ => rfl
theorem kept_non {n : Nat} {fs w : D} : Gv (sem_kept_frames (n + 1)) [.non, fs, w] fs := by
  refine gv_d (τ := [some (.d .non), some (.d fs), some (.d w), none]) (h1 := []) rfl (.s (.s (.s (.n .z)))) ?_
  unfold b_kept_frames
  exact hit (x_TB (x_Bin (x_Var rfl) x_C g_isnn0)) (s_Ret (x_Var rfl))
theorem kept_if {n : Nat} {cs out w : D} {ns : List D} {fs : List FrT} (v : FrT → D) (hv : ∀ f ∈ fs, Gv (sem_value_of n) [.tup ns, fr1 cs out f, w] (v f)) (hl : fs.length ≤ 16777216) :
    Gv (sem_kept_frames (n + 1)) [.tup ns, .lst (fs.map (fr1 cs out)), w] (.lst ((fs.filter fun f => isT (v f)).map (fr1 cs out))) := by
  let τ : Option A → Sl := fun u => [some (.d (.tup ns)), some (.d (.lst (fs.map (fr1 cs out)))), some (.d w), u]
  refine gv_d (τ := τ none) (h1 := []) rfl (.s (.s (.s (.n .z)))) ?_
  unfold b_kept_frames
  refine sk (x_TB (x_Bin (x_Var rfl) x_C (g_isn false rfl))) (s_Ret ?_)
  unfold C1_kept_frames
  rw [lc_filter (h1 := []) (xs := fs) (fun f => A.d (fr1 cs out f)) (fun f => isT (v f)) (fun f => A.d (fr1 cs out f)) (by rw [x_It (x_Var rfl), List.map_map]; rfl) hl fun i f e => ⟨τ (some (.d (fr1 cs out f))), rfl, by
    unfold T1_kept_frames
    exact x_TB (x_Bin (x_F3 (hv f (List.mem_of_getElem? e)) (x_Var rfl) (x_Var rfl) (x_Var rfl)) x_C g_isT), fun _ => by unfold E1_kept_frames; exact x_Var rfl⟩]
  rw [x_mkL (allD_mapf (fr1 cs out) _) (by rw [List.length_map]; exact Nat.le_trans (List.length_filter_le _ _) hl)]
/-! select -/
abbrev S12 (a b c : D) (x3 x4 x5 x6 x7 x8 x9 x10 x11 : Option A) : Sl := [some (.d a), some (.d b), some (.d c), x3, x4, x5, x6, x7, x8, x9, x10, x11]
theorem select_ok {n : Nat} {dist its src wh grp hav out w : D} {cs : List (Str × Str)} {rs names res : List D} {fs1 fs2 fs3 : List FrT} {made : List D} {g : Bool} (hsrc : src ≠ .non)
    (hs : Gv (sem_source_result n) [src, out, w] (.tup [csD cs, .lst rs]))
    (hw : Gv (sem_kept_frames n) [wh, .lst ((rs.map fun r => (r, D.non)).map (fr1 (csD cs) out)), w] (.lst (fs1.map (fr1 (csD cs) out))))
    (hg : Gv sem_is_grouping [.tup [.str "select", dist, its, src, wh, grp, hav]] (.bl g))
    (hg0 : g = false → fs2 = fs1) (hg1 : g = true → Gv sem_grouped_frames [.tup [.str "select", dist, its, src, wh, grp, hav], csD cs, .lst (fs1.map (·.1)), out] (.lst (fs2.map (fr1 (csD cs) out))))
    (hh : Gv (sem_kept_frames n) [hav, .lst (fs2.map (fr1 (csD cs) out)), w] (.lst (fs3.map (fr1 (csD cs) out))))
    (hi : (its = .non ∧ names = cs.map (fun c => .str c.2) ∧ made = fs3.map (·.1)) ∨ ∃ (is : List D) (f : FrT → D) (nf : D → D), its = .tup is ∧ is.length ≤ 16777216 ∧ names = is.map nf ∧ made = fs3.map f ∧ (∀ i ∈ is, Gv sem_item_name [i] (nf i)) ∧ ∀ x ∈ fs3, Gv (sem_made_row n) [.tup is, fr1 (csD cs) out x, w] (f x))
    (hd : (dist = .bl false ∧ res = made) ∨ (dist = .bl true ∧ Gv sem_without_repeats [.lst made] (.lst res)))
    (l1 : cs.length ≤ 16777216) (l2 : rs.length ≤ 16777216) (l3 : fs1.length ≤ 16777216) (l4 : fs3.length ≤ 16777216) :
    Gv (sem_select_result (n + 1)) [.tup [.str "select", dist, its, src, wh, grp, hav], out, w] (.tup [.lst names, .lst res]) := by
  let N : D := .tup [.str "select", dist, its, src, wh, grp, hav]
  have gt : ∀ {τ : Sl} {h : Hq} (i : Nat) (x : D), τ[0]? = some (some (.d N)) → [D.str "select", dist, its, src, wh, grp, hav][i]? = some x → mBin gGet (mVar 0) (mC (.int (i : Nat))) τ h = some (.ok (.d x) h) := fun i x e e2 => x_gett (x_Var e) x_C (ix_nat (List.getElem?_eq_some_iff.mp e2).1) e2
  have rows_ : ∀ (fs : List FrT) (sl : List Nat) (x3 x4 x6 x8 x9 x10 x11 : Option A), fs.length ≤ 16777216 → mLC false (mItems (mVar 5)) (mgName 7) mYes (mUn (gFld FT "row") (mVar 7)) [7] (S12 N out w x3 x4 (some (.d (.lst (fs.map (fr1 (csD cs) out))))) x6 none x8 x9 x10 x11) [] = some (.ok (.d (.lst (fs.map (·.1)))) []) := fun fs _ x3 x4 x6 x8 x9 x10 x11 hl => by
    rw [lc_map (h1 := []) (xs := fs) (fun f => A.d (fr1 (csD cs) out f)) (fun f => A.d f.1) (by rw [x_It (x_Var rfl), List.map_map]; rfl) hl fun i f e => ⟨S12 N out w x3 x4 (some (.d (.lst (fs.map (fr1 (csD cs) out))))) x6 (some (.d (fr1 (csD cs) out f))) x8 x9 x10 x11, rfl, f_row (x_Var rfl)⟩]
    exact x_mkL (allD_mapf (fun f : FrT => f.1) fs) (by rw [List.length_map]; exact hl)
  refine gv_d (τ := S12 N out w none none none none none none none none none) (h1 := []) rfl (.s (.s (.s (.n (.n (.n (.n (.n (.n (.n (.n (.n .z)))))))))))) ?_
  unfold b_select_result
  refine s_Seq (τ1 := S12 N out w (some (.d (.lst []))) none none none none none none none none) (h1 := []) (s_Set (x_Lst x_nil (x_mkL rfl (Nat.zero_le _))) rfl) ?_
  refine s_Seq (τ1 := S12 N out w (some (.d (.lst []))) (some (.d (.lst [.tup []]))) none none none none none none none) (h1 := []) (s_Set (x_Lst (x_cons (x_Tup x_nil (x_mkT rfl (Nat.zero_le _))) x_nil) (x_mkL rfl (show 1 ≤ 16777216 by decide))) rfl) ?_
  refine s_Seq (τ1 := S12 N out w (some (.d (csD cs))) (some (.d (.lst rs))) none none none none none none none) (h1 := []) ?_ ?_
  · refine s_IfT (x_TB (x_Bin (gt 3 src rfl rfl) x_C (g_isn true (by cases src <;> first | rfl | exact absurd rfl hsrc)))) rfl ?_
    exact s_Asg (x_F3 hs (gt 3 src rfl rfl) (x_Var rfl) (x_Var rfl)) (mg_T2 (mg_Cons (mg_Name rfl) (mg_Cons (mg_Name rfl) mg_Nil)))
  refine s_Seq (τ1 := S12 N out w (some (.d (csD cs))) (some (.d (.lst rs))) (some (.d (.lst (fs1.map (fr1 (csD cs) out))))) none none none none none none) (h1 := []) (s_Set (x_F3 hw (gt 4 wh rfl rfl) ?_ (x_Var rfl)) rfl) ?_
  · unfold C1_select_result
    rw [lc_map (h1 := []) (xs := rs) A.d (fun r => A.d (fr1 (csD cs) out (r, .non))) (x_It (x_Var rfl)) l2 fun i r e => ⟨S12 N out w (some (.d (csD cs))) (some (.d (.lst rs))) none (some (.d r)) none none none none none, rfl, by
      unfold E1_select_result
      exact x_Frame (x_Var rfl) (x_Var rfl) x_C (x_Var rfl)⟩]
    rw [x_mkL (allD_mapf (fun r => fr1 (csD cs) out (r, .non)) rs) (by rw [List.length_map]; exact l2), List.map_map]
    rfl
  refine s_Seq (τ1 := S12 N out w (some (.d (csD cs))) (some (.d (.lst rs))) (some (.d (.lst (fs2.map (fr1 (csD cs) out))))) none none none none none none) (h1 := []) ?_ ?_
  · cases g with
    | false =>
      rw [hg0 rfl]
      exact s_IfF (x_Tru (a := .d (.bl false)) (x_F1 hg (x_Var rfl)) rfl) rfl s_Nx
    | true =>
      refine s_IfT (x_Tru (a := .d (.bl true)) (x_F1 hg (x_Var rfl)) rfl) rfl (s_Set (x_F4 (hg1 rfl) (x_Var rfl) (x_Var rfl) ?_ (x_Var rfl)) rfl)
      unfold C2_select_result E2_select_result
      exact rows_ fs1 [] _ _ _ _ _ _ _ l3
  refine s_Seq (τ1 := S12 N out w (some (.d (csD cs))) (some (.d (.lst rs))) (some (.d (.lst (fs3.map (fr1 (csD cs) out))))) none none none none none none) (h1 := []) (s_Set (x_F3 hh (gt 6 hav rfl rfl) (x_Var rfl) (x_Var rfl)) rfl) ?_
  have lm : made.length ≤ 16777216 := by
    rcases hi with ⟨_, _, rfl⟩ | ⟨_, _, _, _, _, _, rfl, _⟩ <;> (rw [List.length_map]; exact l4)
  refine s_Seq (τ1 := S12 N out w (some (.d (csD cs))) (some (.d (.lst rs))) (some (.d (.lst (fs3.map (fr1 (csD cs) out))))) none none (some (.d (.lst names))) none (some (.d (.lst made))) none) (h1 := []) ?_ ?_
  · rcases hi with ⟨rfl, rfl, rfl⟩ | ⟨is, f, nf, rfl, li, rfl, rfl, hn, hm⟩
    · refine s_IfT (x_TB (x_Bin (gt 2 .non rfl rfl) x_C g_isnn0)) rfl (s_Seq (τ1 := S12 N out w (some (.d (csD cs))) (some (.d (.lst rs))) (some (.d (.lst (fs3.map (fr1 (csD cs) out))))) none none (some (.d (.lst (cs.map fun c => .str c.2)))) none none none) (h1 := []) (s_Set ?_ rfl) (s_Set ?_ rfl))
      · unfold C3_select_result
        rw [lc_map (h1 := []) (xs := cs) (fun c => A.d (cD c)) (fun c => A.d (.str c.2)) (by rw [x_It (x_Var rfl), List.map_map]; rfl) l1 fun i c e => ⟨S12 N out w (some (.d (csD cs))) (some (.d (.lst rs))) (some (.d (.lst (fs3.map (fr1 (csD cs) out))))) none none none (some (.d (cD c))) none none, rfl, by
          unfold E3_select_result
          exact x_gett (x_Var rfl) x_C (n := 1) rfl rfl⟩]
        exact x_mkL (allD_mapf (fun c : Str × Str => D.str c.2) cs) (by rw [List.length_map]; exact l1)
      · unfold C4_select_result E4_select_result
        exact rows_ fs3 [] _ _ _ _ _ _ _ l4
    · refine s_IfF (x_TB (x_Bin (gt 2 (.tup is) rfl rfl) x_C (g_isn false rfl))) rfl (s_Seq (τ1 := S12 N out w (some (.d (csD cs))) (some (.d (.lst rs))) (some (.d (.lst (fs3.map (fr1 (csD cs) out))))) none none (some (.d (.lst (is.map nf)))) none none none) (h1 := []) (s_Set ?_ rfl) (s_Set ?_ rfl))
      · unfold C5_select_result
        refine (lc_map (h1 := []) (xs := is) A.d (fun i => A.d (nf i)) (x_ItT (gt 2 (.tup is) rfl rfl)) li fun j i e => ⟨S12 N out w (some (.d (csD cs))) (some (.d (.lst rs))) (some (.d (.lst (fs3.map (fr1 (csD cs) out))))) none none none none none (some (.d i)), rfl, by
          unfold E5_select_result
          exact x_F1 (hn i (List.mem_of_getElem? e)) (x_Var rfl)⟩).trans ?_
        exact x_mkL (allD_mapf nf is) (by rw [List.length_map]; exact li)
      · unfold C6_select_result
        rw [lc_map (h1 := []) (xs := fs3) (fun x => A.d (fr1 (csD cs) out x)) (fun x => A.d (f x)) (by rw [x_It (x_Var rfl), List.map_map]; rfl) l4 fun j x e => ⟨S12 N out w (some (.d (csD cs))) (some (.d (.lst rs))) (some (.d (.lst (fs3.map (fr1 (csD cs) out))))) none (some (.d (fr1 (csD cs) out x))) (some (.d (.lst (is.map nf)))) none none none, rfl, by
          unfold E6_select_result
          exact x_F3 (hm x (List.mem_of_getElem? e)) (gt 2 (.tup is) rfl rfl) (x_Var rfl) (x_Var rfl)⟩]
        exact x_mkL (allD_mapf f fs3) (by rw [List.length_map]; exact l4)
  rcases hd with ⟨rfl, rfl⟩ | ⟨rfl, hd⟩
  · refine sk (x_Tru (a := .d (.bl false)) (gt 1 (.bl false) rfl rfl) rfl) (s_Ret (x_Tup (x_cons (x_Var rfl) (x_cons (x_Var rfl) x_nil)) (x_mkT rfl (show 2 ≤ 16777216 by decide))))
  · refine s_Seq (τ1 := S12 N out w (some (.d (csD cs))) (some (.d (.lst rs))) (some (.d (.lst (fs3.map (fr1 (csD cs) out))))) none none (some (.d (.lst names))) none (some (.d (.lst res))) none) (h1 := []) (s_IfT (x_Tru (a := .d (.bl true)) (gt 1 (.bl true) rfl rfl) rfl) rfl (s_Set (x_F1 hd (x_Var rfl)) rfl)) (s_Ret (x_Tup (x_cons (x_Var rfl) (x_cons (x_Var rfl) x_nil)) (x_mkT rfl (show 2 ≤ 16777216 by decide))))
end KK

set_option maxHeartbeats 1000000
namespace KK
open PySem PySem.Spec PyProof.Rows L2 Tq
/-! values of nodes, a lemma per form (printed by gene4.py) -/
abbrev V6 (a b c : D) (x3 x4 x5 : Option A) : Sl := [some (.d a), some (.d b), some (.d c), x3, x4, x5]
instance : Decidable (d = D.non) := match d with
  | .non => .isTrue rfl
  | .bl _ => .isFalse (fun e => by cases e) | .int _ => .isFalse (fun e => by cases e) | .str _ => .isFalse (fun e => by cases e) | .tup _ => .isFalse (fun e => by cases e) | .kt _ => .isFalse (fun e => by cases e)
  | .lst _ => .isFalse (fun e => by cases e) | .scr _ => .isFalse (fun e => by cases e) | .fn _ => .isFalse (fun e => by cases e) | .nd _ _ => .isFalse (fun e => by cases e)
theorem g_isx (x : D) {h : Hq} : gIs false (.d x) (.d .non) h = some (.ok (.d (.bl (decide (x = .non)))) h) := by
  cases x <;> rfl
theorem g_neb (p q : Bool) {h : Hq} : gEq true (.d (.bl p)) (.d (.bl q)) h = some (.ok (.d (.bl (xor p q))) h) := by
  rw [g_eqv view_d view_d (eqD_bl (n := true))]
  cases p <;> cases q <;> rfl
section
variable {n : Nat} {f w v a b r op : D}
theorem v_lit  : Gv (sem_value_of (n + 1)) [.tup [.str "literal", v], f, w] v := by
  refine gv_d (τ := V6 (.tup [.str "literal", v]) f w none none none) (h1 := []) rfl (.s (.s (.s (.n (.n (.n .z)))))) ?_
  unfold b_value_of
  refine s_Seq (τ1 := V6 (.tup [.str "literal", v]) f w (some (.d (.str "literal"))) none none) (h1 := []) (s_Set (x_gett (x_Var rfl) x_C (n := 0) rfl rfl) rfl) ?_
  exact (hit (x_TB (by with_unfolding_all rfl)) (s_Ret (x_gett (x_Var rfl) x_C (n := 1) rfl rfl)))
theorem v_par {i : Int} {src par : D} (g : ∀ h, gGet (.d par) (.d (.int (i - 1))) h = some (.ok (.d v) h)) (hw : w = woD src par) : Gv (sem_value_of (n + 1)) [.tup [.str "parameter", .int i], f, w] v := by
  refine gv_d (τ := V6 (.tup [.str "parameter", .int i]) f w none none none) (h1 := []) rfl (.s (.s (.s (.n (.n (.n .z)))))) ?_
  unfold b_value_of
  refine s_Seq (τ1 := V6 (.tup [.str "parameter", .int i]) f w (some (.d (.str "parameter"))) none none) (h1 := []) (s_Set (x_gett (x_Var rfl) x_C (n := 0) rfl rfl) rfl) ?_
  exact (sk (x_TB (by with_unfolding_all rfl)) (hit (x_TB (by with_unfolding_all rfl)) (by subst hw; exact (s_Ret (x_Bin (f_par (x_Var rfl)) (x_Bin (x_gett (x_Var rfl) x_C (n := 1) rfl rfl) x_C g_sub) (g _))))))
theorem v_col {s nm c m o : D} {i : Nat} {rs : List D} (g : Gv sem_locate [f, s, nm] (.tup [frD c (.tup rs) m o, .int (i : Nat)])) (e : rs[i]? = some v) : Gv (sem_value_of (n + 1)) [.tup [.str "column", s, nm], f, w] v := by
  refine gv_d (τ := V6 (.tup [.str "column", s, nm]) f w none none none) (h1 := []) rfl (.s (.s (.s (.n (.n (.n .z)))))) ?_
  unfold b_value_of
  refine s_Seq (τ1 := V6 (.tup [.str "column", s, nm]) f w (some (.d (.str "column"))) none none) (h1 := []) (s_Set (x_gett (x_Var rfl) x_C (n := 0) rfl rfl) rfl) ?_
  exact (sk (x_TB (by with_unfolding_all rfl)) (sk (x_TB (by with_unfolding_all rfl)) (hit (x_TB (by with_unfolding_all rfl)) (s_Seq (τ1 := V6 (.tup [.str "column", s, nm]) f w (some (.d (.str "column"))) (some (.d (frD c (.tup rs) m o))) (some (.d (.int (i : Nat))))) (h1 := []) (s_Asg (x_F3 g (x_Var rfl) (x_gett (x_Var rfl) x_C (n := 1) rfl rfl) (x_gett (x_Var rfl) x_C (n := 2) rfl rfl)) (mg_T2 (mg_Cons (mg_Name rfl) (mg_Cons (mg_Name rfl) mg_Nil)))) (s_Ret (x_gett (f_row (x_Var rfl)) (x_Var rfl) (n := i) (ix_nat (List.getElem?_eq_some_iff.mp e).1) e))))))
theorem v_bin {x y : D} (g1 : Gv (sem_value_of n) [a, f, w] x) (g2 : Gv (sem_value_of n) [b, f, w] y) (g : Gv sem_combined [op, x, y] r) : Gv (sem_value_of (n + 1)) [.tup [.str "binary", op, a, b], f, w] r := by
  refine gv_d (τ := V6 (.tup [.str "binary", op, a, b]) f w none none none) (h1 := []) rfl (.s (.s (.s (.n (.n (.n .z)))))) ?_
  unfold b_value_of
  refine s_Seq (τ1 := V6 (.tup [.str "binary", op, a, b]) f w (some (.d (.str "binary"))) none none) (h1 := []) (s_Set (x_gett (x_Var rfl) x_C (n := 0) rfl rfl) rfl) ?_
  exact (sk (x_TB (by with_unfolding_all rfl)) (sk (x_TB (by with_unfolding_all rfl)) (sk (x_TB (by with_unfolding_all rfl)) (hit (x_TB (by with_unfolding_all rfl)) (s_Ret (x_F3 g (x_gett (x_Var rfl) x_C (n := 1) rfl rfl) (x_F3 g1 (x_gett (x_Var rfl) x_C (n := 2) rfl rfl) (x_Var rfl) (x_Var rfl)) (x_F3 g2 (x_gett (x_Var rfl) x_C (n := 3) rfl rfl) (x_Var rfl) (x_Var rfl))))))))
theorem v_not {x : D} (g1 : Gv (sem_value_of n) [a, f, w] x) (g : Gv sem_negation [x] r) : Gv (sem_value_of (n + 1)) [.tup [.str "not", a], f, w] r := by
  refine gv_d (τ := V6 (.tup [.str "not", a]) f w none none none) (h1 := []) rfl (.s (.s (.s (.n (.n (.n .z)))))) ?_
  unfold b_value_of
  refine s_Seq (τ1 := V6 (.tup [.str "not", a]) f w (some (.d (.str "not"))) none none) (h1 := []) (s_Set (x_gett (x_Var rfl) x_C (n := 0) rfl rfl) rfl) ?_
  exact (sk (x_TB (by with_unfolding_all rfl)) (sk (x_TB (by with_unfolding_all rfl)) (sk (x_TB (by with_unfolding_all rfl)) (sk (x_TB (by with_unfolding_all rfl)) (hit (x_TB (by with_unfolding_all rfl)) (s_Ret (x_F1 g (x_F3 g1 (x_gett (x_Var rfl) x_C (n := 1) rfl rfl) (x_Var rfl) (x_Var rfl)))))))))
theorem v_neg {x : D} (g1 : Gv (sem_value_of n) [a, f, w] x) (g : Gv sem_arithmetic [.str "-", .int 0, x] r) : Gv (sem_value_of (n + 1)) [.tup [.str "negate", a], f, w] r := by
  refine gv_d (τ := V6 (.tup [.str "negate", a]) f w none none none) (h1 := []) rfl (.s (.s (.s (.n (.n (.n .z)))))) ?_
  unfold b_value_of
  refine s_Seq (τ1 := V6 (.tup [.str "negate", a]) f w (some (.d (.str "negate"))) none none) (h1 := []) (s_Set (x_gett (x_Var rfl) x_C (n := 0) rfl rfl) rfl) ?_
  exact (sk (x_TB (by with_unfolding_all rfl)) (sk (x_TB (by with_unfolding_all rfl)) (sk (x_TB (by with_unfolding_all rfl)) (sk (x_TB (by with_unfolding_all rfl)) (sk (x_TB (by with_unfolding_all rfl)) (hit (x_TB (by with_unfolding_all rfl)) (s_Ret (x_F3 g x_C x_C (x_F3 g1 (x_gett (x_Var rfl) x_C (n := 1) rfl rfl) (x_Var rfl) (x_Var rfl))))))))))
theorem v_null {x : D} {q : Bool} (g1 : Gv (sem_value_of n) [a, f, w] x) : Gv (sem_value_of (n + 1)) [.tup [.str "is_null", a, .bl q], f, w] (.bl (xor (decide (x = .non)) q)) := by
  refine gv_d (τ := V6 (.tup [.str "is_null", a, .bl q]) f w none none none) (h1 := []) rfl (.s (.s (.s (.n (.n (.n .z)))))) ?_
  unfold b_value_of
  refine s_Seq (τ1 := V6 (.tup [.str "is_null", a, .bl q]) f w (some (.d (.str "is_null"))) none none) (h1 := []) (s_Set (x_gett (x_Var rfl) x_C (n := 0) rfl rfl) rfl) ?_
  exact (sk (x_TB (by with_unfolding_all rfl)) (sk (x_TB (by with_unfolding_all rfl)) (sk (x_TB (by with_unfolding_all rfl)) (sk (x_TB (by with_unfolding_all rfl)) (sk (x_TB (by with_unfolding_all rfl)) (sk (x_TB (by with_unfolding_all rfl)) (hit (x_TB (by with_unfolding_all rfl)) (s_Ret (x_Bin (x_Bin (x_F3 g1 (x_gett (x_Var rfl) x_C (n := 1) rfl rfl) (x_Var rfl) (x_Var rfl)) x_C (g_isx x)) (x_gett (x_Var rfl) x_C (n := 2) rfl rfl) (g_neb _ _))))))))))
theorem v_inl {xs : D} {q : D} (g : Gv (sem_membership n) [.tup [.str "in_list", a, xs, q], f, w] r) : Gv (sem_value_of (n + 1)) [.tup [.str "in_list", a, xs, q], f, w] r := by
  refine gv_d (τ := V6 (.tup [.str "in_list", a, xs, q]) f w none none none) (h1 := []) rfl (.s (.s (.s (.n (.n (.n .z)))))) ?_
  unfold b_value_of
  refine s_Seq (τ1 := V6 (.tup [.str "in_list", a, xs, q]) f w (some (.d (.str "in_list"))) none none) (h1 := []) (s_Set (x_gett (x_Var rfl) x_C (n := 0) rfl rfl) rfl) ?_
  exact (sk (x_TB (by with_unfolding_all rfl)) (sk (x_TB (by with_unfolding_all rfl)) (sk (x_TB (by with_unfolding_all rfl)) (sk (x_TB (by with_unfolding_all rfl)) (sk (x_TB (by with_unfolding_all rfl)) (sk (x_TB (by with_unfolding_all rfl)) (sk (x_TB (by with_unfolding_all rfl)) (hit (x_TB (by with_unfolding_all rfl)) (s_Ret (x_F3 g (x_Var rfl) (x_Var rfl) (x_Var rfl)))))))))))
theorem v_inq {xs : D} {q : D} (g : Gv (sem_membership n) [.tup [.str "in_query", a, xs, q], f, w] r) : Gv (sem_value_of (n + 1)) [.tup [.str "in_query", a, xs, q], f, w] r := by
  refine gv_d (τ := V6 (.tup [.str "in_query", a, xs, q]) f w none none none) (h1 := []) rfl (.s (.s (.s (.n (.n (.n .z)))))) ?_
  unfold b_value_of
  refine s_Seq (τ1 := V6 (.tup [.str "in_query", a, xs, q]) f w (some (.d (.str "in_query"))) none none) (h1 := []) (s_Set (x_gett (x_Var rfl) x_C (n := 0) rfl rfl) rfl) ?_
  exact (sk (x_TB (by with_unfolding_all rfl)) (sk (x_TB (by with_unfolding_all rfl)) (sk (x_TB (by with_unfolding_all rfl)) (sk (x_TB (by with_unfolding_all rfl)) (sk (x_TB (by with_unfolding_all rfl)) (sk (x_TB (by with_unfolding_all rfl)) (sk (x_TB (by with_unfolding_all rfl)) (hit (x_TB (by with_unfolding_all rfl)) (s_Ret (x_F3 g (x_Var rfl) (x_Var rfl) (x_Var rfl)))))))))))
theorem v_exi {nms : D} {rs : List D} (g : Gv (sem_result_of n) [a, f, w] (.tup [nms, .lst rs])) : Gv (sem_value_of (n + 1)) [.tup [.str "exists", a], f, w] (.bl (decide ((0 : Int) < (rs.length : Nat)))) := by
  refine gv_d (τ := V6 (.tup [.str "exists", a]) f w none none none) (h1 := []) rfl (.s (.s (.s (.n (.n (.n .z)))))) ?_
  unfold b_value_of
  refine s_Seq (τ1 := V6 (.tup [.str "exists", a]) f w (some (.d (.str "exists"))) none none) (h1 := []) (s_Set (x_gett (x_Var rfl) x_C (n := 0) rfl rfl) rfl) ?_
  exact (sk (x_TB (by with_unfolding_all rfl)) (sk (x_TB (by with_unfolding_all rfl)) (sk (x_TB (by with_unfolding_all rfl)) (sk (x_TB (by with_unfolding_all rfl)) (sk (x_TB (by with_unfolding_all rfl)) (sk (x_TB (by with_unfolding_all rfl)) (sk (x_TB (by with_unfolding_all rfl)) (sk (x_TB (by with_unfolding_all rfl)) (hit (x_TB (by with_unfolding_all rfl)) (s_Ret (x_Bin (x_Un (x_gett (x_F3 g (x_gett (x_Var rfl) x_C (n := 1) rfl rfl) (x_Var rfl) (x_Var rfl)) x_C (n := 1) rfl rfl) g_lenld) x_C g_gt)))))))))))
theorem v_sca {nms : D} {rs1 : List D} {us : List D} (g : Gv (sem_result_of n) [a, f, w] (.tup [nms, .lst (.tup (v :: us) :: rs1)])) : Gv (sem_value_of (n + 1)) [.tup [.str "scalar", a], f, w] v := by
  refine gv_d (τ := V6 (.tup [.str "scalar", a]) f w none none none) (h1 := []) rfl (.s (.s (.s (.n (.n (.n .z)))))) ?_
  unfold b_value_of
  refine s_Seq (τ1 := V6 (.tup [.str "scalar", a]) f w (some (.d (.str "scalar"))) none none) (h1 := []) (s_Set (x_gett (x_Var rfl) x_C (n := 0) rfl rfl) rfl) ?_
  exact (sk (x_TB (by with_unfolding_all rfl)) (sk (x_TB (by with_unfolding_all rfl)) (sk (x_TB (by with_unfolding_all rfl)) (sk (x_TB (by with_unfolding_all rfl)) (sk (x_TB (by with_unfolding_all rfl)) (sk (x_TB (by with_unfolding_all rfl)) (sk (x_TB (by with_unfolding_all rfl)) (sk (x_TB (by with_unfolding_all rfl)) (sk (x_TB (by with_unfolding_all rfl)) (hit (x_TB (by with_unfolding_all rfl)) (s_Ret (x_gett (x_getl (x_gett (x_F3 g (x_gett (x_Var rfl) x_C (n := 1) rfl rfl) (x_Var rfl) (x_Var rfl)) x_C (n := 1) rfl rfl) x_C (n := 0) (ix_nat (Nat.succ_pos _)) rfl) x_C (n := 0) (ix_nat (Nat.succ_pos _)) rfl))))))))))))
theorem v_casT {c x : D} (g1 : Gv (sem_value_of n) [c, f, w] x) (hx : isT x = true) (g : Gv (sem_value_of n) [a, f, w] r) : Gv (sem_value_of (n + 1)) [.tup [.str "case", c, a, b], f, w] r := by
  refine gv_d (τ := V6 (.tup [.str "case", c, a, b]) f w none none none) (h1 := []) rfl (.s (.s (.s (.n (.n (.n .z)))))) ?_
  unfold b_value_of
  refine s_Seq (τ1 := V6 (.tup [.str "case", c, a, b]) f w (some (.d (.str "case"))) none none) (h1 := []) (s_Set (x_gett (x_Var rfl) x_C (n := 0) rfl rfl) rfl) ?_
  exact (sk (x_TB (by with_unfolding_all rfl)) (sk (x_TB (by with_unfolding_all rfl)) (sk (x_TB (by with_unfolding_all rfl)) (sk (x_TB (by with_unfolding_all rfl)) (sk (x_TB (by with_unfolding_all rfl)) (sk (x_TB (by with_unfolding_all rfl)) (sk (x_TB (by with_unfolding_all rfl)) (sk (x_TB (by with_unfolding_all rfl)) (sk (x_TB (by with_unfolding_all rfl)) (sk (x_TB (by with_unfolding_all rfl)) (hit (x_TB (by with_unfolding_all rfl)) (hit (x_TB ((x_Bin (x_F3 g1 (x_gett (x_Var rfl) x_C (n := 1) rfl rfl) (x_Var rfl) (x_Var rfl)) x_C g_isT).trans (by rw [hx]))) (s_Ret (x_F3 g (x_gett (x_Var rfl) x_C (n := 2) rfl rfl) (x_Var rfl) (x_Var rfl)))))))))))))))
theorem v_casF {c x : D} (g1 : Gv (sem_value_of n) [c, f, w] x) (hx : isT x = false) (g : Gv (sem_value_of n) [b, f, w] r) : Gv (sem_value_of (n + 1)) [.tup [.str "case", c, a, b], f, w] r := by
  refine gv_d (τ := V6 (.tup [.str "case", c, a, b]) f w none none none) (h1 := []) rfl (.s (.s (.s (.n (.n (.n .z)))))) ?_
  unfold b_value_of
  refine s_Seq (τ1 := V6 (.tup [.str "case", c, a, b]) f w (some (.d (.str "case"))) none none) (h1 := []) (s_Set (x_gett (x_Var rfl) x_C (n := 0) rfl rfl) rfl) ?_
  exact (sk (x_TB (by with_unfolding_all rfl)) (sk (x_TB (by with_unfolding_all rfl)) (sk (x_TB (by with_unfolding_all rfl)) (sk (x_TB (by with_unfolding_all rfl)) (sk (x_TB (by with_unfolding_all rfl)) (sk (x_TB (by with_unfolding_all rfl)) (sk (x_TB (by with_unfolding_all rfl)) (sk (x_TB (by with_unfolding_all rfl)) (sk (x_TB (by with_unfolding_all rfl)) (sk (x_TB (by with_unfolding_all rfl)) (hit (x_TB (by with_unfolding_all rfl)) (sk (x_TB ((x_Bin (x_F3 g1 (x_gett (x_Var rfl) x_C (n := 1) rfl rfl) (x_Var rfl) (x_Var rfl)) x_C g_isT).trans (by rw [hx]))) (s_Ret (x_F3 g (x_gett (x_Var rfl) x_C (n := 3) rfl rfl) (x_Var rfl) (x_Var rfl)))))))))))))))
theorem v_cnt (g : Gv (sem_aggregate n) [.tup [.str "count_all"], f, w] r) : Gv (sem_value_of (n + 1)) [.tup [.str "count_all"], f, w] r := by
  refine gv_d (τ := V6 (.tup [.str "count_all"]) f w none none none) (h1 := []) rfl (.s (.s (.s (.n (.n (.n .z)))))) ?_
  unfold b_value_of
  refine s_Seq (τ1 := V6 (.tup [.str "count_all"]) f w (some (.d (.str "count_all"))) none none) (h1 := []) (s_Set (x_gett (x_Var rfl) x_C (n := 0) rfl rfl) rfl) ?_
  exact (sk (x_TB (by with_unfolding_all rfl)) (sk (x_TB (by with_unfolding_all rfl)) (sk (x_TB (by with_unfolding_all rfl)) (sk (x_TB (by with_unfolding_all rfl)) (sk (x_TB (by with_unfolding_all rfl)) (sk (x_TB (by with_unfolding_all rfl)) (sk (x_TB (by with_unfolding_all rfl)) (sk (x_TB (by with_unfolding_all rfl)) (sk (x_TB (by with_unfolding_all rfl)) (sk (x_TB (by with_unfolding_all rfl)) (sk (x_TB (by with_unfolding_all rfl)) ((s_Ret (x_F3 g (x_Var rfl) (x_Var rfl) (x_Var rfl)))))))))))))))
theorem v_agg (g : Gv (sem_aggregate n) [.tup [.str "aggregate", op, a], f, w] r) : Gv (sem_value_of (n + 1)) [.tup [.str "aggregate", op, a], f, w] r := by
  refine gv_d (τ := V6 (.tup [.str "aggregate", op, a]) f w none none none) (h1 := []) rfl (.s (.s (.s (.n (.n (.n .z)))))) ?_
  unfold b_value_of
  refine s_Seq (τ1 := V6 (.tup [.str "aggregate", op, a]) f w (some (.d (.str "aggregate"))) none none) (h1 := []) (s_Set (x_gett (x_Var rfl) x_C (n := 0) rfl rfl) rfl) ?_
  exact (sk (x_TB (by with_unfolding_all rfl)) (sk (x_TB (by with_unfolding_all rfl)) (sk (x_TB (by with_unfolding_all rfl)) (sk (x_TB (by with_unfolding_all rfl)) (sk (x_TB (by with_unfolding_all rfl)) (sk (x_TB (by with_unfolding_all rfl)) (sk (x_TB (by with_unfolding_all rfl)) (sk (x_TB (by with_unfolding_all rfl)) (sk (x_TB (by with_unfolding_all rfl)) (sk (x_TB (by with_unfolding_all rfl)) (sk (x_TB (by with_unfolding_all rfl)) ((s_Ret (x_F3 g (x_Var rfl) (x_Var rfl) (x_Var rfl)))))))))))))))
end
end KK

set_option maxHeartbeats 1000000
namespace KK
open PySem PySem.Spec PyProof.Rows L2 Tq
/-! made rows, names of items, groups, queries -/
section
variable {n : Nat} {f w v a b r op : D}
theorem x_get0 {τ : Sl} {h h1 : Hq} {m : E A} {x : D} {xs : List D} (e1 : m τ h = some (.ok (.d (.tup (x :: xs))) h1)) : mBin gGet m (mC (.int 0)) τ h = some (.ok (.d x) h1) := x_gett e1 x_C (n := 0) (ix_nat (l := xs.length + 1) (i := 0) (Nat.succ_pos _)) rfl
theorem made_ok {is : List D} (g : D → D) (hi : ∀ i ∈ is, ∃ e nm, i = .tup [e, nm] ∧ Gv (sem_value_of n) [e, f, w] (g i)) (hl : is.length ≤ 16777216) : Gv (sem_made_row (n + 1)) [.tup is, f, w] (.tup (is.map g)) := by
  refine gv_d (τ := [some (.d (.tup is)), some (.d f), some (.d w), none]) (h1 := []) rfl (.s (.s (.s (.n .z)))) ?_
  unfold b_made_row
  refine s_Ret (x_Un (a := .d (.lst (is.map g))) (h1 := []) ?_ (g_tupl (by rw [List.length_map]; exact hl)))
  unfold C1_made_row
  rw [lc_map (h1 := []) (xs := is) A.d (fun i => A.d (g i)) (x_ItT (x_Var rfl)) hl fun j i e => ⟨[some (.d (.tup is)), some (.d f), some (.d w), some (.d i)], rfl, by
    obtain ⟨e, nm, rfl, h⟩ := hi i (List.mem_of_getElem? e)
    unfold E1_made_row
    exact x_F3 h (x_gett (x_Var rfl) x_C (n := 0) rfl rfl) (x_Var rfl) (x_Var rfl)⟩]
  exact x_mkL (allD_mapf g is) (by rw [List.length_map]; exact hl)
theorem name_some {e : D} {s : Str} : Gv sem_item_name [.tup [e, .str s]] (.str s) := by
  refine gv_d (τ := [some (.d (.tup [e, .str s])), none, none]) (h1 := []) rfl (.s (.n (.n .z))) ?_
  unfold b_item_name
  refine s_Seq (τ1 := [some (.d (.tup [e, .str s])), some (.d e), some (.d (.str s))]) (h1 := []) (s_Asg (x_Var rfl) (mg_T2 (mg_Cons (mg_Name rfl) (mg_Cons (mg_Name rfl) mg_Nil)))) ?_
  exact hit (x_TB (x_Bin (x_Var rfl) x_C (g_isn true rfl))) (s_Ret (x_Var rfl))
theorem name_col {s nm : D} : Gv sem_item_name [.tup [.tup [.str "column", s, nm], .non]] nm := by
  refine gv_d (τ := [some (.d (.tup [.tup [.str "column", s, nm], .non])), none, none]) (h1 := []) rfl (.s (.n (.n .z))) ?_
  unfold b_item_name
  refine s_Seq (τ1 := [some (.d (.tup [.tup [.str "column", s, nm], .non])), some (.d (.tup [.str "column", s, nm])), some (.d .non)]) (h1 := []) (s_Asg (x_Var rfl) (mg_T2 (mg_Cons (mg_Name rfl) (mg_Cons (mg_Name rfl) mg_Nil)))) ?_
  exact sk (x_TB (x_Bin (x_Var rfl) x_C g_isnn1)) (hit (x_TB (by with_unfolding_all rfl)) (s_Ret (x_gett (x_Var rfl) x_C (n := 2) rfl rfl)))
theorem name_oth {fm : Str} {xs : List D} (h1 : PyData.strOk fm = true) (h2 : decide (fm = "column") = false) : Gv sem_item_name [.tup [.tup (.str fm :: xs), .non]] (.str "") := by
  refine gv_d (τ := [some (.d (.tup [.tup (.str fm :: xs), .non])), none, none]) (h1 := []) rfl (.s (.n (.n .z))) ?_
  unfold b_item_name
  refine s_Seq (τ1 := [some (.d (.tup [.tup (.str fm :: xs), .non])), some (.d (.tup (.str fm :: xs))), some (.d .non)]) (h1 := []) (s_Asg (x_Var rfl) (mg_T2 (mg_Cons (mg_Name rfl) (mg_Cons (mg_Name rfl) mg_Nil)))) ?_
  exact sk (x_TB (x_Bin (x_Var rfl) x_C g_isnn1)) (sk (x_TB ((x_Bin (x_get0 (x_Var rfl)) x_C (eqS h1 (by decide +kernel))).trans (by rw [h2]))) (s_Ret x_C))
theorem result_sel {xs : List D} {out r : D} (g : Gv (sem_select_result n) [.tup (.str "select" :: xs), out, w] r) : Gv (sem_result_of (n + 1)) [.tup (.str "select" :: xs), out, w] r := by
  refine gv_d (τ := [some (.d (.tup (.str "select" :: xs))), some (.d out), some (.d w), none, none, none, none, none, none]) (h1 := []) rfl (.s (.s (.s (.n (.n (.n (.n (.n (.n .z))))))))) ?_
  unfold b_result_of
  exact hit (x_TB ((x_Bin (x_get0 (x_Var rfl)) x_C (eqS (by decide +kernel) (by decide +kernel))).trans (by rw [decide_eq_true rfl]))) (s_Ret (x_F3 g (x_Var rfl) (x_Var rfl) (x_Var rfl)))
theorem query_ok {q src par nms rs : D} (g : Gv (sem_result_of 20) [q, .non, woD src par] (.tup [nms, rs])) : Gv sem_query_rows [q, src, par] rs := by
  refine gv_d (τ := [some (.d q), some (.d src), some (.d par)]) (h1 := []) rfl (.s (.s (.s .z))) ?_
  unfold b_query_rows
  exact s_Ret (x_gett (x_F3 g (x_Var rfl) x_C (x_World (x_Var rfl) (x_Var rfl))) x_C (n := 1) rfl rfl)
/-! aggregates within -/
theorem bls_map {α : Type} (p : α → Bool) : ∀ xs : List α, mapMn blA ((xs.map fun x => D.bl (p x)).map A.d) = some (xs.map p)
  | [] => rfl
  | x :: r => by
    rw [List.map_cons, List.map_cons]
    unfold mapMn
    dsimp only [blA]
    rw [bls_map p r]
    rfl
theorem any_ok {τ : Sl} {h h1 : Hq} {m : E A} {α : Type} {p : α → Bool} {xs : List α} (e : m τ h = some (.ok (.d (.lst (xs.map fun x => .bl (p x)))) h1)) : mUn gAny m τ h = some (.ok (.d (.bl (xs.any p))) h1) := by
  refine x_Un e ?_
  unfold gAny lstOf
  dsimp only
  rw [bls_map]
  dsimp only
  rw [List.any_map]
  rfl
theorem any_none {node : D} {n : Nat} {os : List D} (hn : mTB (mBin (g2V (inD false)) (mBin gGet (mVar 0) (mC (.int 0))) (mTup (maCons (mC (.str "count_all")) (maCons (mC (.str "aggregate")) maNil)))) [some (.d node), none] [] = some (.ok false []))
    (ho : Gv sem_operands [node] (.lst os)) (hl : os.length ≤ 16777216) (ih : ∀ o ∈ os, Gv (sem_has_aggregate n) [o] (.bl false)) : Gv (sem_has_aggregate (n + 1)) [node] (.bl false) := by
  refine gv_d (τ := [some (.d node), none]) (h1 := []) rfl (.s (.n .z)) ?_
  unfold b_has_aggregate
  refine sk hn (s_Ret ?_)
  have : mUn gAny (C1_has_aggregate (sem_has_aggregate n)) [some (.d node), none] [] = some (.ok (.d (.bl (os.any fun _ => false))) []) := by
    refine any_ok ?_
    unfold C1_has_aggregate
    rw [lc_map (h1 := []) (xs := os) A.d (fun _ => A.d (.bl false)) (x_It (x_F1 ho (x_Var rfl))) hl fun j i e => ⟨[some (.d node), some (.d i)], rfl, by
      unfold E1_has_aggregate
      exact x_F1 (ih i (List.mem_of_getElem? e)) (x_Var rfl)⟩]
    exact x_mkL (allD_mapf (fun _ => D.bl false) os) (by rw [List.length_map]; exact hl)
  rw [this]
  rw [show (os.any fun _ => false) = false by rw [List.any_eq_false]; intro x _; decide]
theorem any_yes {node : D} {n : Nat} (hn : mTB (mBin (g2V (inD false)) (mBin gGet (mVar 0) (mC (.int 0))) (mTup (maCons (mC (.str "count_all")) (maCons (mC (.str "aggregate")) maNil)))) [some (.d node), none] [] = some (.ok true [])) : Gv (sem_has_aggregate (n + 1)) [node] (.bl true) := by
  refine gv_d (τ := [some (.d node), none]) (h1 := []) rfl (.s (.n .z)) ?_
  unfold b_has_aggregate
  exact hit hn (s_Ret x_C)
theorem agg_col {s nm : D} {n : Nat} : Gv (sem_has_aggregate (n + 1)) [.tup [.str "column", s, nm]] (.bl false) := any_none (os := []) (by with_unfolding_all rfl) ⟨.d (.lst []), [], by with_unfolding_all rfl, view_d⟩ (by decide) fun _ h => by cases h
theorem agg_lit {v : D} {n : Nat} : Gv (sem_has_aggregate (n + 1)) [.tup [.str "literal", v]] (.bl false) := any_none (os := []) (by with_unfolding_all rfl) ⟨.d (.lst []), [], by with_unfolding_all rfl, view_d⟩ (by decide) fun _ h => by cases h
theorem agg_par {v : D} {n : Nat} : Gv (sem_has_aggregate (n + 1)) [.tup [.str "parameter", v]] (.bl false) := any_none (os := []) (by with_unfolding_all rfl) ⟨.d (.lst []), [], by with_unfolding_all rfl, view_d⟩ (by decide) fun _ h => by cases h
theorem agg_bin {op a b : D} {n : Nat} (ha : Gv (sem_has_aggregate n) [a] (.bl false)) (hb : Gv (sem_has_aggregate n) [b] (.bl false)) : Gv (sem_has_aggregate (n + 1)) [.tup [.str "binary", op, a, b]] (.bl false) := any_none (os := [a, b]) (by with_unfolding_all rfl) ⟨.d (.lst [a, b]), [], by with_unfolding_all rfl, view_d⟩ (show 2 ≤ 16777216 by decide) fun o h => by
  rcases List.mem_cons.mp h with rfl | h
  · exact ha
  · rcases List.mem_cons.mp h with rfl | h
    · exact hb
    · cases h
theorem agg_neg {a : D} {n : Nat} (ha : Gv (sem_has_aggregate n) [a] (.bl false)) : Gv (sem_has_aggregate (n + 1)) [.tup [.str "negate", a]] (.bl false) := any_none (os := [a]) (by with_unfolding_all rfl) ⟨.d (.lst [a]), [], by with_unfolding_all rfl, view_d⟩ (show 1 ≤ 16777216 by decide) fun o h => by
  rcases List.mem_cons.mp h with rfl | h
  · exact ha
  · cases h
theorem agg_not {a : D} {n : Nat} (ha : Gv (sem_has_aggregate n) [a] (.bl false)) : Gv (sem_has_aggregate (n + 1)) [.tup [.str "not", a]] (.bl false) := any_none (os := [a]) (by with_unfolding_all rfl) ⟨.d (.lst [a]), [], by with_unfolding_all rfl, view_d⟩ (show 1 ≤ 16777216 by decide) fun o h => by
  rcases List.mem_cons.mp h with rfl | h
  · exact ha
  · cases h
theorem grp_non {d src wh : D} : Gv sem_is_grouping [.tup [.str "select", d, .non, src, wh, .non, .non]] (.bl false) := ⟨.d (.bl false), [], by with_unfolding_all rfl, view_d⟩
theorem grp_its {d src wh : D} {is : List D} (hl : is.length ≤ 16777216) (hi : ∀ i ∈ is, ∃ e nm, i = .tup [e, nm] ∧ Gv (sem_has_aggregate 8) [e] (.bl false)) : Gv sem_is_grouping [.tup [.str "select", d, .tup is, src, wh, .non, .non]] (.bl false) := by
  refine gv_d (τ := [some (.d (.tup [.str "select", d, .tup is, src, wh, .non, .non])), none]) (h1 := []) rfl (.s (.n .z)) ?_
  unfold b_is_grouping
  refine sk (x_OrT0 (x_TB (x_Bin (x_gett (x_Var rfl) x_C (n := 5) rfl rfl) x_C g_isnn1)) (x_TB (x_Bin (x_gett (x_Var rfl) x_C (n := 6) rfl rfl) x_C g_isnn1))) (s_Ret (x_AndV1 (x_Bin (x_gett (x_Var rfl) x_C (n := 2) rfl rfl) x_C (g_isn true rfl)) ?_))
  have : mUn gAny C1_is_grouping [some (.d (.tup [.str "select", d, .tup is, src, wh, .non, .non])), none] [] = some (.ok (.d (.bl (is.any fun _ => false))) []) := by
    refine any_ok ?_
    unfold C1_is_grouping
    rw [lc_map (h1 := []) (xs := is) A.d (fun _ => A.d (.bl false)) (x_ItT (x_gett (x_Var rfl) x_C (n := 2) rfl rfl)) hl fun j i e => ⟨[some (.d (.tup [.str "select", d, .tup is, src, wh, .non, .non])), some (.d i)], rfl, by
      obtain ⟨e, nm, rfl, h⟩ := hi i (List.mem_of_getElem? e)
      unfold E1_is_grouping
      exact x_F1 h (x_gett (x_Var rfl) x_C (n := 0) rfl rfl)⟩]
    exact x_mkL (allD_mapf (fun _ => D.bl false) is) (by rw [List.length_map]; exact hl)
  rw [this]
  rw [show (is.any fun _ => false) = false by rw [List.any_eq_false]; intro x _; decide]
end
end KK

set_option maxHeartbeats 1000000
namespace KK
open PySem PySem.Spec PyProof.Rows L2 Tq
/-! joins -/
theorem view_t2 {h : Hq} {k : Nat} {x : D} {ws : List A} {ds : List D} (e : h[k]? = some (.lst ws)) (q : allD ws = some ds) : view h (.tup [.d x, .r k]) = some (.tup [x, .lst ds]) := by
  have : vw 31 h (.r k) = some (.lst ds) := by
    cases allD_of q
    unfold vw
    rw [e]
    dsimp only
    rw [mapMn_d _ _ (vw_d 30 h)]
    rfl
  show (mapMn (vw 31 h) [.d x, .r k]).map D.tup = _
  rw [views_cons (vw_d 31 h x) (views_cons this views_nil)]
  rfl
/-- the rows of one left row -/
def join1 (v : List D → D) (outer : Bool) (k : Nat) (rs : List (List D)) (a : List D) : List (List D) :=
  let m := (rs.map (a ++ ·)).filter fun r => isT (v r)
  if outer && m.isEmpty then [a ++ List.replicate k .non] else m
abbrev S18 (a b c x6 x7 x8 x9 x10 : D) (x11 x12 x13 x14 x15 x16 x17 : Option A) : Sl := [some (.d a), some (.d b), some (.d c), none, none, none, some (.d x6), some (.d x7), some (.d x8), some (.d x9), some (.d x10), x11, x12, x13, x14, x15, x16, x17]
theorem join_ok {n : Nat} {lsrc rsrc w out : D} {cond : List D} {outer : Bool} {cl cr : List (Str × Str)} {ls rs : List (List D)} (v : List D → D)
    (hl : Gv (sem_source_result (n + 1)) [lsrc, out, w] (.tup [csD cl, .lst (ls.map .tup)])) (hr : Gv (sem_source_result (n + 1)) [rsrc, out, w] (.tup [csD cr, .lst (rs.map .tup)]))
    (hv : ∀ a ∈ ls, ∀ b ∈ rs, Gv (sem_value_of n) [.tup cond, frD (csD (cl ++ cr)) (.tup (a ++ b)) .non out, w] (v (a ++ b)))
    (l1 : (cl ++ cr).length ≤ 16777216) (l2 : ls.length ≤ 16777216) (l3 : rs.length ≤ 16777216) (l4 : ∀ a ∈ ls, ∀ b ∈ rs, (a ++ b).length ≤ 16777216) (l5 : ∀ a ∈ ls, a.length + cr.length ≤ 16777216) (l6 : (ls.flatMap (join1 v outer cr.length rs)).length ≤ 16777216) :
    Gv (sem_source_result (n + 2)) [.tup [.str "join", lsrc, rsrc, .tup cond, .bl outer], out, w] (.tup [csD (cl ++ cr), .lst ((ls.flatMap (join1 v outer cr.length rs)).map .tup)]) := by
  let N : D := .tup [.str "join", lsrc, rsrc, .tup cond, .bl outer]
  let T : (x11 x12 x13 x14 x15 x16 x17 : Option A) → Sl := fun a b c d e f g => S18 N out w (csD cl) (.lst (ls.map .tup)) (csD cr) (.lst (rs.map .tup)) (csD (cl ++ cr)) a b c d e f g
  have lcr : cr.length ≤ 16777216 := by rw [List.length_append] at l1; omega
  obtain ⟨τ', h', ⟨⟨y12, y13, y15, rfl⟩, rfl⟩, e⟩ := for_inv (gg := mgName 12) (mb := B1_source_result (sem_result_of (n + 1)) (sem_select_result (n + 1)) (sem_source_result (n + 1)) (sem_kept_frames (n + 1)) (sem_value_of (n + 1)) (sem_membership (n + 1)) (sem_aggregate (n + 1)) (sem_made_row (n + 1)))
    (τ := T (some (.r 0)) none none none none none none) (h := [.lst []]) (xs := ls) (fun a => .d (.tup a))
    (fun i t h => (∃ y12 y13 y15, t = T (some (.r 0)) y12 y13 none y15 none none) ∧ h = [.lst (((ls.take i).flatMap (join1 v outer cr.length rs)).map fun r => A.d (.tup r))]) ⟨⟨none, none, none, rfl⟩, rfl⟩ l2 (fun i a t h ha inv => by
    obtain ⟨⟨y12, y13, y15, rfl⟩, rfl⟩ := inv
    have ma := List.mem_of_getElem? ha
    have tk : (ls.take (i + 1)).flatMap (join1 v outer cr.length rs) = (ls.take i).flatMap (join1 v outer cr.length rs) ++ join1 v outer cr.length rs a := by
      rw [List.take_add_one, ha, Option.toList_some, List.flatMap_append, List.flatMap_cons, List.flatMap_nil, List.append_nil]
    have lt : ((ls.take i).flatMap (join1 v outer cr.length rs)).length + (join1 v outer cr.length rs a).length ≤ 16777216 := by
      rw [← List.length_append, ← tk]
      refine Nat.le_trans ?_ l6
      conv => rhs; rw [← List.take_append_drop (i + 1) ls, List.flatMap_append, List.length_append]
      exact Nat.le_add_right _ _
    rw [tk]
    generalize (ls.take i).flatMap (join1 v outer cr.length rs) = acc at *
    let fs : List FrT := rs.map fun b => (.tup (a ++ b), .non)
    let M := (rs.map (a ++ ·)).filter fun r => isT (v r)
    have hM : (fs.filter fun f => isT (match f.1 with | .tup r => v r | _ => .non)).map (·.1) = M.map D.tup := by
      show List.map _ (List.filter _ (rs.map fun b => ((D.tup (a ++ b), D.non) : FrT))) = List.map D.tup (List.filter _ (rs.map (a ++ ·)))
      rw [List.filter_map, List.filter_map, List.map_map, List.map_map]
      rfl
    have lM : M.length ≤ 16777216 := Nat.le_trans (List.length_filter_le _ _) (by rw [List.length_map]; exact l3)
    let H : Hq := [.lst (acc.map fun r => A.d (.tup r))]
    let F : D := .lst (fs.map (fr1 (csD (cl ++ cr)) out))
    let t1 := T (some (.r 0)) (some (.d (.tup a))) (some (.d F)) none y15 none none
    let t2 := T (some (.r 0)) (some (.d (.tup a))) (some (.d F)) none (some (.d (.lst (M.map .tup)))) none none
    let J := join1 v outer cr.length rs a
    let t3 := T (some (.r 0)) (some (.d (.tup a))) (some (.d F)) none (some (.d (.lst (J.map .tup)))) none none
    refine ⟨T (some (.r 0)) (some (.d (.tup a))) y13 none y15 none none, rfl, t3, _, ⟨⟨_, _, _, rfl⟩, rfl⟩, .inl ?_⟩
    unfold B1_source_result
    refine s_Seq (τ1 := t1) (h1 := H) (s_Set ?_ rfl) (s_Seq (τ1 := t2) (h1 := H) (s_Set ?_ rfl) (s_Seq (τ1 := t3) (h1 := H) ?_ (s_Drop (x_M1 (x_Var rfl) (tokL_r rfl) (x_Var rfl) (g_ext (us := J.map fun r => A.d (.tup r)) rfl ?_ ?_ ?_)))))
    · unfold C2_source_result
      rw [lc_map (h1 := H) (xs := rs) (fun b => A.d (.tup b)) (fun b => A.d (fr1 (csD (cl ++ cr)) out (.tup (a ++ b), .non))) (by rw [x_It (x_Var rfl), List.map_map]; rfl) l3 fun j b e => ⟨T (some (.r 0)) (some (.d (.tup a))) y13 (some (.d (.tup b))) y15 none none, rfl, by
        unfold E2_source_result
        exact x_Frame (x_Var rfl) (x_Bin (x_Var rfl) (x_Var rfl) (g_catt (l4 a ma b (List.mem_of_getElem? e)))) x_C (x_Var rfl)⟩]
      rw [x_mkL (allD_mapf (fun b => fr1 (csD (cl ++ cr)) out (.tup (a ++ b), .non)) rs) (by rw [List.length_map]; exact l3)]
      show some (Rs.ok (A.d (.lst _)) H) = some (Rs.ok (A.d (.lst ((rs.map _).map _))) H)
      rw [List.map_map]
      rfl
    · unfold C3_source_result
      have hk := kept_if (n := n) (cs := csD (cl ++ cr)) (out := out) (w := w) (ns := cond) (fs := fs) (fun f => match f.1 with | .tup r => v r | _ => .non) (fun f hf => by
        obtain ⟨b, hb, rfl⟩ := List.mem_map.mp hf
        exact hv a ma b hb) (by show (rs.map _).length ≤ _; rw [List.length_map]; exact l3)
      rw [lc_map (h1 := H) (xs := fs.filter fun f => isT (match f.1 with | .tup r => v r | _ => .non)) (fun f => A.d (fr1 (csD (cl ++ cr)) out f)) (fun f => A.d f.1) (by rw [x_It (x_F3 hk (x_gett (x_Var rfl) x_C (n := 3) rfl rfl) (x_Var rfl) (x_Var rfl)), List.map_map]; rfl)
        (Nat.le_trans (List.length_filter_le _ _) (by show (rs.map _).length ≤ _; rw [List.length_map]; exact l3)) fun j f e => ⟨T (some (.r 0)) (some (.d (.tup a))) (some (.d F)) none y15 (some (.d (fr1 (csD (cl ++ cr)) out f))) none, rfl, by
        unfold E3_source_result
        exact f_row (x_Var rfl)⟩]
      rw [x_mkL (allD_mapf (fun f : FrT => f.1) _) (by rw [List.length_map]; exact Nat.le_trans (List.length_filter_le _ _) (by show (rs.map _).length ≤ _; rw [List.length_map]; exact l3)), hM]
    · have tl : mTB (mBin (gEq false) (mUn gLen (mVar 15)) (mC (.int 0))) t2 H = some (.ok M.isEmpty H) := by
        refine x_TB ((x_Bin (x_Un (x_Var rfl) g_lenld) x_C g_eqi).trans ?_)
        rw [List.length_map]
        cases M with
        | nil => rfl
        | cons x r => rw [decide_eq_false (by rw [List.length_cons]; omega)]; rfl
      have to : mTru (mBin gGet (mVar 0) (mC (.int 4))) t2 H = some (.ok outer H) := x_Tru (a := .d (.bl outer)) (x_gett (x_Var rfl) x_C (n := 4) rfl rfl) rfl
      have hJ : J = if outer && M.isEmpty then [a ++ List.replicate cr.length .non] else M := rfl
      cases outer with
      | false => exact s_IfF (x_AndT0 to) rfl (by rw [show t3 = t2 by show T _ _ _ _ (some (.d (.lst (J.map .tup)))) _ _ = _; rw [hJ]; rfl]; rfl)
      | true =>
        cases hE : M.isEmpty with
        | false =>
          rw [hE] at tl
          exact s_IfF (x_AndT1 to tl) rfl (by rw [show t3 = t2 by show T _ _ _ _ (some (.d (.lst (J.map .tup)))) _ _ = _; rw [hJ, hE]; rfl]; rfl)
        | true =>
          rw [hE] at tl
          refine s_IfT (x_AndT1 to tl) rfl (s_Set (w := .d (.lst [.tup (a ++ List.replicate cr.length .non)])) (x_Lst (x_cons (x_Bin (x_Var rfl) (x_Un (a := .d (.lst (List.replicate cr.length .non))) ?_ (g_tupl (by rw [List.length_replicate]; exact lcr))) (g_catt (by rw [List.length_append, List.length_replicate]; exact l5 a ma))) x_nil) (x_mkL rfl (show 1 ≤ 16777216 by decide))) ?_)
          · unfold C4_source_result
            rw [lc_map (h1 := H) (xs := cr) (fun c => A.d (cD c)) (fun _ => A.d .non) (by rw [x_It (x_Var rfl), List.map_map]; rfl) lcr fun j c e => ⟨T (some (.r 0)) (some (.d (.tup a))) (some (.d F)) none (some (.d (.lst (M.map .tup)))) none (some (.d (cD c))), rfl, by unfold E4_source_result; exact x_C⟩]
            rw [x_mkL (allD_mapf (fun _ => D.non) cr) (by rw [List.length_map]; exact lcr), List.map_const']
          · show _ = T _ _ _ _ (some (.d (.lst (J.map .tup)))) _ _
            rw [hJ, hE]
            rfl
    · show lstOf H (.d (.lst (J.map .tup))) = _
      show some _ = some _
      rw [List.map_map]
      rfl
    · rw [List.length_map, List.length_map]; exact lt
    · show [O.lst _] = [O.lst _]
      rw [List.map_append])
  rw [List.take_length] at e
  refine gv_run (τ := [some (.d N), some (.d out), some (.d w), none, none, none, none, none, none, none, none, none, none, none, none, none, none, none]) (w := .tup [.d (csD (cl ++ cr)), .r 0]) (h1 := [.lst ((ls.flatMap (join1 v outer cr.length rs)).map fun r => A.d (.tup r))]) rfl (.s (.s (.s (.n (.n (.n (.n (.n (.n (.n (.n (.n (.n (.n (.n (.n (.n (.n .z)))))))))))))))))) ?_ (view_t2 rfl (allD_mapf D.tup _))
  unfold b_source_result
  refine sk (x_TB (by with_unfolding_all rfl)) (sk (x_TB (by with_unfolding_all rfl)) ?_)
  refine s_Seq (τ1 := [some (.d N), some (.d out), some (.d w), none, none, none, some (.d (csD cl)), some (.d (.lst (ls.map .tup))), none, none, none, none, none, none, none, none, none, none]) (h1 := []) (s_Asg (x_F3 hl (x_gett (x_Var rfl) x_C (n := 1) rfl rfl) (x_Var rfl) (x_Var rfl)) (mg_T2 (mg_Cons (mg_Name rfl) (mg_Cons (mg_Name rfl) mg_Nil)))) ?_
  refine s_Seq (τ1 := [some (.d N), some (.d out), some (.d w), none, none, none, some (.d (csD cl)), some (.d (.lst (ls.map .tup))), some (.d (csD cr)), some (.d (.lst (rs.map .tup))), none, none, none, none, none, none, none, none]) (h1 := []) (s_Asg (x_F3 hr (x_gett (x_Var rfl) x_C (n := 2) rfl rfl) (x_Var rfl) (x_Var rfl)) (mg_T2 (mg_Cons (mg_Name rfl) (mg_Cons (mg_Name rfl) mg_Nil)))) ?_
  refine s_Seq (τ1 := T none none none none none none none) (h1 := []) (s_Set (x_Bin (x_Var rfl) (x_Var rfl) (g_cat (x_mkL (allD_map _) (by rw [List.length_append, List.length_map, List.length_map, ← List.length_append]; exact l1)))) ?_) ?_
  · show _ = T none none none none none none none
    rw [show cl.map cD ++ cr.map cD = (cl ++ cr).map cD from List.map_append.symm]
    rfl
  refine s_Seq (τ1 := T (some (.r 0)) none none none none none none) (h1 := [.lst []]) (s_Set (x_Lst x_nil (x_mkC0 (by decide))) rfl) ?_
  refine s_Seq (τ1 := T (some (.r 0)) y12 y13 none y15 none none) (h1 := [.lst ((ls.flatMap (join1 v outer cr.length rs)).map fun r => A.d (.tup r))]) ?_ (s_Ret (x_Tup (x_cons (x_Var rfl) (x_cons (x_Var rfl) x_nil)) (x_mkTc rfl (show 2 ≤ 16777216 by decide))))
  unfold L1_source_result
  exact s_For (nx := nxL (ls.map fun a => .d (.tup a))) (h1 := [.lst []]) (by rw [x_It (x_Var rfl), List.map_map]; rfl) e
end KK

set_option maxHeartbeats 1000000
namespace KK
open PySem PySem.Spec PyProof.Rows L2 Tq
/-! three truths; numbers compared -/
def oB : Option Bool → D
  | none => .non
  | some b => .bl b
def oI : Option Int → D
  | none => .non
  | some i => .int i
def conjB : Option Bool → Option Bool → Option Bool
  | some false, _ => some false
  | none, some false => some false
  | some true, some false => some false
  | none, _ => none
  | some true, none => none
  | some true, some true => some true
def disjB : Option Bool → Option Bool → Option Bool
  | some true, _ => some true
  | none, some true => some true
  | some false, some true => some true
  | none, _ => none
  | some false, none => none
  | some false, some false => some false
theorem conj_ok (a b : Option Bool) : Gv sem_conjunction [oB a, oB b] (oB (conjB a b)) := by
  rcases a with _ | _ | _ <;> rcases b with _ | _ | _ <;> exact ⟨_, [], by with_unfolding_all rfl, view_d⟩
theorem disj_ok (a b : Option Bool) : Gv sem_disjunction [oB a, oB b] (oB (disjB a b)) := by
  rcases a with _ | _ | _ <;> rcases b with _ | _ | _ <;> exact ⟨_, [], by with_unfolding_all rfl, view_d⟩
theorem neg_ok (a : Option Bool) : Gv sem_negation [oB a] (oB (a.map (!·))) := by
  rcases a with _ | _ | _ <;> exact ⟨_, [], by with_unfolding_all rfl, view_d⟩
theorem comb_and {a b r : D} (g : Gv sem_conjunction [a, b] r) : Gv sem_combined [.str "and", a, b] r := by
  refine gv_d (τ := [some (.d (.str "and")), some (.d a), some (.d b)]) (h1 := []) rfl (.s (.s (.s .z))) ?_
  unfold b_combined
  exact hit (x_TB (by with_unfolding_all rfl)) (s_Ret (x_F2 g (x_Var rfl) (x_Var rfl)))
theorem comb_or {a b r : D} (g : Gv sem_disjunction [a, b] r) : Gv sem_combined [.str "or", a, b] r := by
  refine gv_d (τ := [some (.d (.str "or")), some (.d a), some (.d b)]) (h1 := []) rfl (.s (.s (.s .z))) ?_
  unfold b_combined
  exact sk (x_TB (by with_unfolding_all rfl)) (hit (x_TB (by with_unfolding_all rfl)) (s_Ret (x_F2 g (x_Var rfl) (x_Var rfl))))
def opS (o : Nat) : Str := (["=", "=", "<>", "<", "<=", ">", ">="] : List Str).getD o "="
theorem comb_cmp {o : Nat} (ho : o < 7) {a b r : D} (g : Gv sem_compare [.str (opS o), a, b] r) : Gv sem_combined [.str (opS o), a, b] r := by
  refine gv_d (τ := [some (.d (.str (opS o))), some (.d a), some (.d b)]) (h1 := []) rfl (.s (.s (.s .z))) ?_
  unfold b_combined
  have : o = 0 ∨ o = 1 ∨ o = 2 ∨ o = 3 ∨ o = 4 ∨ o = 5 ∨ o = 6 := by omega
  rcases this with rfl | rfl | rfl | rfl | rfl | rfl | rfl <;> exact sk (x_TB (by with_unfolding_all rfl)) (sk (x_TB (by with_unfolding_all rfl)) (hit (x_TB (by with_unfolding_all rfl)) (s_Ret (x_F3 g (x_Var rfl) (x_Var rfl) (x_Var rfl)))))
abbrev kI (i : Int) : D := .tup [.int 2, .int i]
theorem key_int (i : Int) : Gv sem_value_key [.int i] (kI i) := ⟨.d (kI i), [], by with_unfolding_all rfl, view_d⟩
theorem pe_int' (i j : Int) : PyData.eqv (.int i) (.int j) = decide (i = j) := by
  rw [Bool.eq_iff_iff, decide_eq_true_eq]
  simp [PyData.eqv]
theorem shp_kI (i : Int) : (kI i).shp = true := by with_unfolding_all rfl
theorem eqK (n : Bool) (i j : Int) : eqD n (kI i) (kI j) = some (if n then !decide (i = j) else decide (i = j)) := by
  unfold eqD
  rw [shp_kI, shp_kI, show D.eqv (kI i) (kI j) = decide (i = j) from by
    show PyData.eqv (.tuple [.int 2, .int i]) (.tuple [.int 2, .int j]) = _
    rw [Bool.eq_iff_iff, decide_eq_true_eq]
    simp [PyData.eqv, PyData.eqvAll]]
  rfl
theorem ordK {op : CmpOp} (h4 : TrO.Four op) (i j : Int) {h : Hq} : gOrdO op (.d (kI i)) (.d (kI j)) h = some (.ok (.d (.bl (TrO.cmpI op i j))) h) := by
  have : ordD op (kI i) (kI j) = some (TrO.cmpI op i j) := by
    unfold ordD
    rw [shp_kI, shp_kI]
    show TrO.ordPs op [.int 2, .int i] [.int 2, .int j] = _
    unfold TrO.ordPs
    rw [pe_int', if_pos (by rw [decide_eq_true rfl])]
    unfold TrO.ordPs
    rw [pe_int']
    by_cases z : i = j
    · subst z
      rw [if_pos (by rw [decide_eq_true rfl])]
      rcases h4 with rfl | rfl | rfl | rfl <;> simp [TrO.ordPs, TrO.szO, TrO.cmpI]
    · rw [if_neg (by rw [decide_eq_false z]; decide)]
      rfl
  show g2V (ordD op) _ _ _ = _
  unfold g2V
  rw [view_d, view_d]
  dsimp only
  rw [this]
def cmpV (o : Nat) (i j : Int) : Bool := if o < 2 then decide (i = j) else if o = 2 then !decide (i = j) else if o = 3 then decide (i < j) else if o = 4 then decide (i ≤ j) else if o = 5 then decide (j < i) else decide (j ≤ i)
def cmpO (o : Nat) : Option Int → Option Int → Option Bool
  | some i, some j => some (cmpV o i j)
  | _, _ => none
theorem cmp_nonL {op y : D} : Gv sem_compare [op, .non, y] .non := by
  refine gv_d (τ := [some (.d op), some (.d .non), some (.d y), none, none]) (h1 := []) rfl (.s (.s (.s (.n (.n .z))))) ?_
  unfold b_compare
  exact hit (x_OrT1 (x_TB (x_Bin (x_Var rfl) x_C g_isnn0))) (s_Ret x_C)
theorem cmp_nonR {op x : D} : Gv sem_compare [op, x, .non] .non := by
  refine gv_d (τ := [some (.d op), some (.d x), some (.d .non), none, none]) (h1 := []) rfl (.s (.s (.s (.n (.n .z))))) ?_
  unfold b_compare
  exact hit ((x_OrT (j := decide (x = .non)) (l := true) (x_TB (x_Bin (x_Var rfl) x_C (g_isx x))) fun _ => x_TB (x_Bin (x_Var rfl) x_C g_isnn0)).trans (by rw [Bool.or_true])) (s_Ret x_C)
theorem cmp_int {o : Nat} (ho : o < 7) (i j : Int) : Gv sem_compare [.str (opS o), .int i, .int j] (.bl (cmpV o i j)) := by
  refine gv_d (τ := [some (.d (.str (opS o))), some (.d (.int i)), some (.d (.int j)), none, none]) (h1 := []) rfl (.s (.s (.s (.n (.n .z))))) ?_
  unfold b_compare
  refine sk (x_OrT0 (x_TB (x_Bin (x_Var rfl) x_C (g_isn false rfl))) (x_TB (x_Bin (x_Var rfl) x_C (g_isn false rfl)))) ?_
  refine s_Seq (τ1 := [some (.d (.str (opS o))), some (.d (.int i)), some (.d (.int j)), some (.d (kI i)), none]) (h1 := []) (s_Set (x_F1 (key_int i) (x_Var rfl)) rfl) ?_
  refine s_Seq (τ1 := [some (.d (.str (opS o))), some (.d (.int i)), some (.d (.int j)), some (.d (kI i)), some (.d (kI j))]) (h1 := []) (s_Set (x_F1 (key_int j) (x_Var rfl)) rfl) ?_
  have : o = 0 ∨ o = 1 ∨ o = 2 ∨ o = 3 ∨ o = 4 ∨ o = 5 ∨ o = 6 := by omega
  rcases this with rfl | rfl | rfl | rfl | rfl | rfl | rfl
  · exact hit (x_TB (by with_unfolding_all rfl)) (s_Ret (x_Bin (x_Var rfl) (x_Var rfl) (g_eqv view_d view_d (eqK false i j))))
  · exact hit (x_TB (by with_unfolding_all rfl)) (s_Ret (x_Bin (x_Var rfl) (x_Var rfl) (g_eqv view_d view_d (eqK false i j))))
  · exact sk (x_TB (by with_unfolding_all rfl)) (hit (x_TB (by with_unfolding_all rfl)) (s_Ret (x_Bin (x_Var rfl) (x_Var rfl) (g_eqv view_d view_d (eqK true i j)))))
  · exact sk (x_TB (by with_unfolding_all rfl)) (sk (x_TB (by with_unfolding_all rfl)) (hit (x_TB (by with_unfolding_all rfl)) (s_Ret (x_Bin (x_Var rfl) (x_Var rfl) (ordK (.inl rfl) i j)))))
  · exact sk (x_TB (by with_unfolding_all rfl)) (sk (x_TB (by with_unfolding_all rfl)) (sk (x_TB (by with_unfolding_all rfl)) (hit (x_TB (by with_unfolding_all rfl)) (s_Ret (x_Bin (x_Var rfl) (x_Var rfl) (ordK (.inr (.inl rfl)) i j))))))
  · exact sk (x_TB (by with_unfolding_all rfl)) (sk (x_TB (by with_unfolding_all rfl)) (sk (x_TB (by with_unfolding_all rfl)) (sk (x_TB (by with_unfolding_all rfl)) (hit (x_TB (by with_unfolding_all rfl)) (s_Ret (x_Bin (x_Var rfl) (x_Var rfl) (ordK (.inr (.inr (.inl rfl))) i j)))))))
  · exact sk (x_TB (by with_unfolding_all rfl)) (sk (x_TB (by with_unfolding_all rfl)) (sk (x_TB (by with_unfolding_all rfl)) (sk (x_TB (by with_unfolding_all rfl)) (sk (x_TB (by with_unfolding_all rfl)) (s_Ret (x_Bin (x_Var rfl) (x_Var rfl) (ordK (.inr (.inr (.inr rfl))) i j)))))))
theorem cmp_ok {o : Nat} (ho : o < 7) (a b : Option Int) : Gv sem_compare [.str (opS o), oI a, oI b] (oB (cmpO o a b)) := by
  cases a with
  | none => exact cmp_nonL
  | some i => cases b with
    | none => exact cmp_nonR
    | some j => exact cmp_int ho i j
end KK

set_option maxHeartbeats 1000000
namespace KK
open PySem PySem.Spec PyProof.Rows L2 Tq
/-! _law_next: the state of the draws in a cell -/
structure Nx where
  ns : List Int
  i : Nat
  c : Int
  s : Int
def Nx.ok (x : Nx) : Prop := 0 ≤ x.c ∧ 0 ≤ x.s ∧ x.s < 2147483647
abbrev SL (x : Nx) : List A := [.d (.lst (x.ns.map D.int)), .d (.int (x.i : Nat)), .d (.int x.c), .d (.int x.s)]
def At (H : Hq) (k : Nat) (x : Nx) : Prop := H[k]? = some (.lst (SL x))
theorem at_set {H : Hq} {k : Nat} {x : Nx} {o : O} (a : At H k x) : (H.set k o)[k]? = some o := List.getElem?_set_self (List.getElem?_eq_some_iff.mp a).1
theorem set_same {α : Type} {l : List α} {k : Nat} {o : α} (e : l[k]? = some o) : l.set k o = l := by
  refine List.ext_getElem? fun i => ?_
  rw [List.getElem?_set]
  split
  · rename_i q
    subst q
    split
    · exact e.symm
    · rename_i z; exact absurd (List.getElem?_eq_some_iff.mp e).1 z
  · rfl
section
variable {H : Hq} {k : Nat} {x : Nx} {lim : Int} {a b : Option A}
abbrev N4 (k : Nat) (lim : Int) (a b : Option A) : Sl := [some (.r k), some (.d (.int lim)), a, b]
theorem rd0 (e : At H k x) : mBin gGet (mVar 0) (mC (.int 0)) (N4 k lim a b) H = some (.ok (.d (.lst (x.ns.map D.int))) H) := x_Bin (x_Var rfl) x_C (g_getc e (n := 0) rfl rfl)
theorem rd1 (e : At H k x) : mBin gGet (mVar 0) (mC (.int 1)) (N4 k lim a b) H = some (.ok (.d (.int (x.i : Nat))) H) := x_Bin (x_Var rfl) x_C (g_getc e (n := 1) rfl rfl)
theorem rd2 (e : At H k x) : mBin gGet (mVar 0) (mC (.int 2)) (N4 k lim a b) H = some (.ok (.d (.int x.c)) H) := x_Bin (x_Var rfl) x_C (g_getc e (n := 2) rfl rfl)
theorem rd3 (e : At H k x) : mBin gGet (mVar 0) (mC (.int 3)) (N4 k lim a b) H = some (.ok (.d (.int x.s)) H) := x_Bin (x_Var rfl) x_C (g_getc e (n := 3) rfl rfl)
theorem g_pow1018 {H : Hq} : gPow (.d (.int 10)) (.d (.int 18)) H = some (.ok (.d (.int 1000000000000000000)) H) := by with_unfolding_all rfl
def nxA (x : Nx) : Nx := if x.c = 0 ∧ x.i < x.ns.length then (if 1000000000000000000 ≤ x.ns.getD x.i 0 then ⟨x.ns, x.i + 1, x.ns.getD x.i 0, x.s⟩ else ⟨x.ns, x.i + 1, x.c, (x.s * 48271 + x.ns.getD x.i 0 % 2147483647 + 7) % 2147483647⟩) else x
def nxV (x : Nx) (lim : Int) : Int := if 0 < x.c then x.c % lim else (x.s * 69621 + 12345) % 2147483647 / 7 % lim
def nxB (x : Nx) (lim : Int) : Nx := if 0 < x.c then ⟨x.ns, x.i, x.c / lim, x.s⟩ else ⟨x.ns, x.i, x.c, (x.s * 69621 + 12345) % 2147483647⟩
theorem nxA_ok (h : x.ok) : (nxA x).ok ∧ (nxA x).ns = x.ns := by
  obtain ⟨h1, h2, h3⟩ := h
  unfold nxA
  split
  · split
    · exact ⟨⟨by dsimp only; omega, h2, h3⟩, rfl⟩
    · exact ⟨⟨h1, Int.emod_nonneg _ (by decide), Int.emod_lt_of_pos _ (by decide)⟩, rfl⟩
  · exact ⟨⟨h1, h2, h3⟩, rfl⟩
theorem nxB_ok (h : x.ok) (hl : 0 < lim) : (nxB x lim).ok ∧ (nxB x lim).ns = x.ns ∧ 0 ≤ nxV x lim ∧ nxV x lim < lim := by
  obtain ⟨h1, h2, h3⟩ := h
  unfold nxB nxV
  split
  · exact ⟨⟨Int.ediv_nonneg (by omega) (by omega), h2, h3⟩, rfl, Int.emod_nonneg _ (by omega), Int.emod_lt_of_pos _ hl⟩
  · exact ⟨⟨h1, Int.emod_nonneg _ (by decide), Int.emod_lt_of_pos _ (by decide)⟩, rfl, Int.emod_nonneg _ (by omega), Int.emod_lt_of_pos _ hl⟩
/-- the next draw -/
theorem next_ok (e : At H k x) (hx : x.ok) (hl : 0 < lim) (hb : lim.natAbs < 2 ^ 8000) : sem__law_next [.r k, .d (.int lim)] H = some (.ok (.d (.int (nxV (nxA x) lim))) (H.set k (.lst (SL (nxB (nxA x) lim))))) := by
  have hmu : ∀ (q j : Int), 0 ≤ q → q < 2147483647 → j.natAbs < 2 ^ 100 → mulOk q j = true := fun q j h0 h1 h2 => mulOk_of (a := 31) (b := 100) (by omega) h2 (by decide) (by decide) (by decide)
  obtain ⟨h1, h2, h3⟩ := hx
  have first : ∃ a', (mIf (mAndT (mTB (mBin (gEq false) (mBin gGet (mVar 0) (mC (.int 2))) (mC (.int 0)))) (mTB (mBin gLt (mBin gGet (mVar 0) (mC (.int 1))) (mUn gLen (mBin gGet (mVar 0) (mC (.int 0))))))) (mSeq (mSet 2 (mBin gGet (mBin gGet (mVar 0) (mC (.int 0))) (mBin gGet (mVar 0) (mC (.int 1)))))
 (mSeq (mAugI true gIAdd (mVar 0) (mC (.int 1)) (mC (.int 1)))
 (mIf (mTB (mBin gGe (mVar 2) (mBin gPow (mC (.int 10)) (mC (.int 18))))) (mSetI true (mVar 0) (mC (.int 2)) (mVar 2)) (mSetI true (mVar 0) (mC (.int 3)) (mBin gMod (mUn gInt (mBin (gAdd false) (mBin (gAdd false) (mBin gMul (mBin gGet (mVar 0) (mC (.int 3))) (mC (.int 48271))) (mBin gMod (mUn gInt (mVar 2)) (mC (.int 2147483647)))) (mC (.int 7)))) (mC (.int 2147483647))))))) mNx) (N4 k lim none none) H = some (.nx (N4 k lim a' none) (H.set k (.lst (SL (nxA x))))) := by
    by_cases hA : x.c = 0 ∧ x.i < x.ns.length
    · obtain ⟨hc, hi⟩ := hA
      have eg : x.ns[x.i]? = some (x.ns.getD x.i 0) := by rw [List.getD_eq_getElem?_getD, List.getElem?_eq_getElem hi]; rfl
      generalize hz : x.ns.getD x.i 0 = z at *
      have em : (x.ns.map D.int)[x.i]? = some (.int z) := by rw [List.getElem?_map, eg]; rfl
      let x1 : Nx := ⟨x.ns, x.i + 1, x.c, x.s⟩
      have e1 : At (H.set k (.lst (SL x1))) k x1 := at_set e
      refine ⟨some (.d (.int z)), s_IfT (x_AndT1 (x_TB ((x_Bin (rd2 e) x_C g_eqi).trans (by rw [hc]; rfl))) (x_TB (x_Bin (rd1 e) (x_Un (rd0 e) g_lenld) g_lt))) (by rw [List.length_map]; exact decide_eq_true (by omega)) ?_⟩
      refine s_Seq (τ1 := N4 k lim (some (.d (.int z))) none) (h1 := H) (s_Set (x_Bin (rd0 e) (rd1 e) (g_getld (ix_nat (by rw [List.length_map]; exact hi)) em)) rfl) ?_
      refine s_Seq (τ1 := N4 k lim (some (.d (.int z))) none) (h1 := H.set k (.lst (SL x1))) (s_AugI (x_Var rfl) x_C e (n := 1) rfl rfl x_C g_iadd e rfl) ?_
      by_cases hC : 1000000000000000000 ≤ z
      · refine (s_IfT (x_TB (x_Bin (x_Var rfl) (x_Bin x_C x_C g_pow1018) g_ge)) (decide_eq_true hC) (s_SetI (x_Var rfl) (x_Var rfl) x_C e1 (n := 2) rfl rfl)).trans ?_
        rw [List.set_set]
        unfold nxA
        rw [if_pos ⟨hc, hi⟩, hz, if_pos hC]
        rfl
      · refine (s_IfF (x_TB (x_Bin (x_Var rfl) (x_Bin x_C x_C g_pow1018) g_ge)) (decide_eq_false hC) (s_SetI (x_Bin (x_Un (x_Bin (x_Bin (x_Bin (rd3 e1) x_C (g_mul (hmu _ _ h2 h3 (by decide)))) (x_Bin (x_Un (x_Var rfl) g_int) x_C (g_mod (by decide))) g_add) x_C g_add) g_int) x_C (g_mod (by decide))) (x_Var rfl) x_C e1 (n := 3) rfl rfl)).trans ?_
        rw [List.set_set]
        unfold nxA
        rw [if_pos ⟨hc, hi⟩, hz, if_neg hC]
        rfl
    · refine ⟨none, ?_⟩
      have hn : nxA x = x := if_neg hA
      rw [hn, show H.set k (.lst (SL x)) = H from set_same e]
      by_cases hc : x.c = 0
      · have hi : ¬ x.i < x.ns.length := fun q => hA ⟨hc, q⟩
        exact s_IfF (x_AndT1 (x_TB ((x_Bin (rd2 e) x_C g_eqi).trans (by rw [hc]; rfl))) (x_TB (x_Bin (rd1 e) (x_Un (rd0 e) g_lenld) g_lt))) (by rw [List.length_map]; exact decide_eq_false (by omega)) s_Nx
      · exact s_IfF (x_AndT0 (x_TB ((x_Bin (rd2 e) x_C g_eqi).trans (by rw [decide_eq_false hc])))) rfl s_Nx
  obtain ⟨a', first⟩ := first
  obtain ⟨⟨q1, q2, q3⟩, _⟩ := nxA_ok ⟨h1, h2, h3⟩
  have e2 : At (H.set k (.lst (SL (nxA x)))) k (nxA x) := at_set e
  have hdv : ∀ q, divOk q lim = true := fun q => divOk_of hl hb (by decide) (by decide)
  rw [show H.set k (.lst (SL (nxB (nxA x) lim))) = (H.set k (.lst (SL (nxA x)))).set k (.lst (SL (nxB (nxA x) lim))) from (List.set_set ..).symm]
  generalize nxA x = y at *
  generalize H.set k (.lst (SL y)) = G at *
  refine x_run (τ := N4 k lim none none) rfl (.s (.s (.n (.n .z)))) ?_
  unfold b__law_next
  refine s_Seq first ?_
  have t : mTB (mBin gGt (mBin gGet (mVar 0) (mC (.int 2))) (mC (.int 0))) (N4 k lim a' none) G = some (.ok (decide (0 < y.c)) G) := x_TB (x_Bin (rd2 e2) x_C g_gt)
  by_cases hc : 0 < y.c
  · rw [show nxV y lim = y.c % lim from if_pos hc, show nxB y lim = ⟨y.ns, y.i, y.c / lim, y.s⟩ from if_pos hc]
    refine s_SeqR (s_IfT t (decide_eq_true hc) (s_Seq (τ1 := N4 k lim a' (some (.d (.int (y.c % lim))))) (h1 := G) (s_Set (x_Bin (x_Un (rd2 e2) g_int) (x_Var rfl) (g_mod hl)) rfl) (s_Seq (τ1 := N4 k lim a' (some (.d (.int (y.c % lim))))) (s_SetI (x_Bin (rd2 e2) (x_Var rfl) (g_div (hdv _))) (x_Var rfl) x_C e2 (n := 2) rfl rfl) (s_Ret (x_Var rfl)))))
  · rw [show nxV y lim = (y.s * 69621 + 12345) % 2147483647 / 7 % lim from if_neg hc, show nxB y lim = ⟨y.ns, y.i, y.c, (y.s * 69621 + 12345) % 2147483647⟩ from if_neg hc]
    let y2 : Nx := ⟨y.ns, y.i, y.c, (y.s * 69621 + 12345) % 2147483647⟩
    have e3 : At (G.set k (.lst (SL y2))) k y2 := at_set e2
    refine s_Seq (s_IfF t (decide_eq_false hc) s_Nx) (s_Seq (τ1 := N4 k lim a' none) (h1 := G.set k (.lst (SL y2))) (s_SetI (x_Bin (x_Un (x_Bin (x_Bin (rd3 e2) x_C (g_mul (hmu _ _ q2 q3 (by decide)))) x_C g_add) g_int) x_C (g_mod (by decide))) (x_Var rfl) x_C e2 (n := 3) rfl rfl) (s_Ret (x_Bin (x_Un (x_Bin (rd3 e3) x_C (g_div (divOk_of (b := 10) (by decide) (by decide) (by decide) (by decide)))) g_int) (x_Var rfl) (g_mod hl))))
end
end KK

set_option maxHeartbeats 1000000
namespace KK
open PySem PySem.Spec PyProof.Rows L2 Tq
/-! draws from the state at k -/
def Hs (H : Hq) (k : Nat) (x : Nx) : Hq := H.set k (.lst (SL x))
theorem hs_at {H : Hq} {k : Nat} (hk : k < H.length) (x : Nx) : At (Hs H k x) k x := List.getElem?_set_self hk
theorem hs_hs (H : Hq) (k : Nat) (x y : Nx) : (Hs H k x).set k (.lst (SL y)) = Hs H k y := List.set_set ..
theorem hs_len (H : Hq) (k : Nat) (x : Nx) : (Hs H k x).length = H.length := List.length_set
theorem draw_ {H : Hq} {k : Nat} (hk : k < H.length) {x : Nx} (hx : x.ok) {lim : Int} (hl : 0 < lim) (hb : lim.natAbs < 2 ^ 8000) : ∃ v x', Nx.ok x' ∧ 0 ≤ v ∧ v < lim ∧ sem__law_next [.r k, .d (.int lim)] (Hs H k x) = some (.ok (.d (.int v)) (Hs H k x')) := by
  have e := next_ok (hs_at hk x) hx hl hb
  rw [hs_hs] at e
  obtain ⟨a1, a2⟩ := nxA_ok hx
  obtain ⟨b1, b2, b3, b4⟩ := nxB_ok a1 hl
  exact ⟨_, _, b1, b3, b4, e⟩
/-- the next draw as an expression -/
theorem nx_ {H : Hq} {k j : Nat} (hk : k < H.length) {x : Nx} (hx : x.ok) {τ : Sl} {ml : E A} {lim : Int} {G : Hq} (hl : 0 < lim) (hb : lim.natAbs < 2 ^ 8000) (e : τ[j]? = some (some (.r k))) (el : ml τ G = some (.ok (.d (.int lim)) (Hs H k x))) :
    ∃ v x', Nx.ok x' ∧ 0 ≤ v ∧ v < lim ∧ mCall sem__law_next (lenIs 2 (maCons (mVar j) (maCons ml maNil))) τ G = some (.ok (.d (.int v)) (Hs H k x')) := by
  obtain ⟨v, x', h1, h2, h3, h4⟩ := draw_ hk hx hl hb
  exact ⟨v, x', h1, h2, h3, x_Call (x_len (x_cons (x_Var e) (x_cons el x_nil)) rfl) h4⟩
/-- the next draw below a number -/
theorem nxN {H : Hq} {k j : Nat} (hk : k < H.length) {x : Nx} (hx : x.ok) {τ : Sl} {ml : E A} {lim : Nat} {G : Hq} (hl : 0 < lim) (hb : lim < 2 ^ 64) (e : τ[j]? = some (some (.r k))) (el : ml τ G = some (.ok (.d (.int (lim : Nat))) (Hs H k x))) :
    ∃ (v : Nat) (x' : Nx), Nx.ok x' ∧ v < lim ∧ mCall sem__law_next (lenIs 2 (maCons (mVar j) (maCons ml maNil))) τ G = some (.ok (.d (.int (v : Nat))) (Hs H k x')) := by
  have hb' : (lim : Int).natAbs < 2 ^ 8000 := by
    rw [Int.natAbs_natCast]
    exact Nat.lt_of_lt_of_le hb (Nat.pow_le_pow_right (by decide) (by decide))
  obtain ⟨v, x', h1, h2, h3, h4⟩ := nx_ hk hx (by omega) hb' e el
  obtain ⟨v, rfl⟩ := Int.eq_ofNat_of_zero_le h2
  exact ⟨v, x', h1, by omega, h4⟩
end KK

set_option maxHeartbeats 1000000
namespace KK
open PySem PySem.Spec PyProof.Rows L2 Tq
/-! what may be compared; names with numbers -/
def Shp (n : Nat) (d : D) : Prop := d.toP.canLay0 = true ∧ d.toP.depth ≤ n
theorem Shp.fok {n : Nat} {d : D} (h : d.fok = true) : Shp n d := by
  obtain ⟨h1, h2⟩ := lay_fok h
  exact ⟨h1, by omega⟩
theorem shps {n : Nat} : ∀ {ds : List D}, (∀ d ∈ ds, Shp n d) → PyData.canLayAll0 (D.toPs ds) = true ∧ PyData.depthAll (D.toPs ds) ≤ n
  | [], _ => ⟨rfl, Nat.zero_le _⟩
  | d :: r, h => by
    obtain ⟨h1, h2⟩ := h d (List.mem_cons_self ..)
    obtain ⟨h3, h4⟩ := shps fun x hx => h x (List.mem_cons_of_mem _ hx)
    constructor
    · show (d.toP.canLay0 && PyData.canLayAll0 (D.toPs r)) = true
      rw [h1, h3]
      rfl
    · show max d.toP.depth (PyData.depthAll (D.toPs r)) ≤ n
      exact Nat.max_le.mpr ⟨h2, h4⟩
theorem Shp.tup {n : Nat} {ds : List D} (h : ∀ d ∈ ds, Shp n d) : Shp (n + 1) (.tup ds) := by
  obtain ⟨h1, h2⟩ := shps h
  exact ⟨h1, Nat.succ_le_succ h2⟩
theorem Shp.lst {n : Nat} {ds : List D} (h : ∀ d ∈ ds, Shp n d) : Shp (n + 1) (.lst ds) := by
  obtain ⟨h1, h2⟩ := shps h
  exact ⟨h1, Nat.succ_le_succ h2⟩
theorem Shp.shp {n : Nat} {d : D} (h : Shp n d) (hn : n ≤ 64) : d.shp = true := by
  show (d.toP.canLay0 && decide (d.toP.depth ≤ 64)) = true
  rw [h.1, decide_eq_true (Nat.le_trans h.2 hn)]
  rfl
/-- a row: what needs no look within -/
def RowF (r : List D) : Prop := ∀ d ∈ r, d.fok = true
theorem rowF_app {a b : List D} (h1 : RowF a) (h2 : RowF b) : RowF (a ++ b) := fun d h => (List.mem_append.mp h).elim (h1 d) (h2 d)
theorem rows_shp {rs : List (List D)} (h : ∀ r ∈ rs, RowF r) : (D.lst (rs.map .tup)).shp = true := Shp.shp (n := 2) (Shp.lst fun d hd => by
  obtain ⟨r, hr, rfl⟩ := List.mem_map.mp hd
  exact Shp.tup fun d hd => Shp.fok (h r hr d hd)) (by decide)
/-- xs == [] -/
theorem eq_nil {ds : List D} (h : (D.lst ds).shp = true) {H : Hq} : gEq false (.d (.lst ds)) (.d (.lst [])) H = some (.ok (.d (.bl ds.isEmpty)) H) := by
  refine g_eqv view_d view_d ?_
  unfold eqD
  rw [h, show (D.lst []).shp = true from rfl]
  cases ds with
  | nil => rfl
  | cons x r => rfl
theorem sm_fok {n : Nat} {d : D} (h : d.fok = true) : Sm (n + 1) d := by
  cases d with
  | non => exact .non
  | bl b => exact .bl b
  | int i => exact .int i
  | str s => exact .str h
  | _ => cases h
theorem sm_rows {n : Nat} {rs : List (List D)} (h : ∀ r ∈ rs, RowF r) (h2 : ∀ r ∈ rs, r.length ≤ 16777216) (h3 : rs.length ≤ 16777216) : Sm (n + 3) (.lst (rs.map .tup)) := .lst (fun d hd => by
  obtain ⟨r, hr, rfl⟩ := List.mem_map.mp hd
  exact .tup (fun d hd => sm_fok (h r hr d hd)) (h2 r hr)) (by rw [List.length_map]; exact h3)
theorem fok_oI (a : Option Int) : (oI a).fok = true := by cases a <;> rfl
def numS (n : Nat) : Str := ((toString ((n : Nat) : Int) : String) : Str)
def numC (n : Nat) : Bool := decide ((numS n).cps.size ≤ 3) && PyData.strOk (numS n)
theorem numC_ok : ∀ n < 1000, numC n = true := by decide +kernel
theorem num_ok {n : Nat} (h : n < 1000) : (numS n).length ≤ 3 ∧ PyData.strOk (numS n) = true := by
  have := numC_ok n h
  unfold numC at this
  rw [Bool.and_eq_true, decide_eq_true_eq] at this
  exact this
theorem strOk_app {a b : Str} (ha : PyData.strOk a = true) (hb : PyData.strOk b = true) : PyData.strOk (a ++ b) = true := by
  unfold PyData.strOk at *
  have e : (a ++ b).cps = a.cps ++ b.cps := rfl
  rw [e, Array.all_append, ha, hb]
  rfl
def idS (p : Str) (n : Nat) (q : Str) : Str := (p ++ numS n) ++ q
theorem idS_ok {p q : Str} {n : Nat} (hp : PyData.strOk p = true) (hq : PyData.strOk q = true) (hn : n < 1000) : PyData.strOk (idS p n q) = true := strOk_app (strOk_app hp (num_ok hn).2) hq
theorem len_app (a b : Str) : (a ++ b).length = a.length + b.length := by
  show (a.cps ++ b.cps).size = _
  rw [Array.size_append]
  rfl
theorem g_id {p q : Str} {n : Nat} {m : E A} {τ : Sl} {h : Hq} (hp : p.length ≤ 10) (hq : q.length ≤ 10) (hn : n < 1000) (e : m τ h = some (.ok (.d (.int (n : Nat))) h)) : mBin (gAdd false) (mBin (gAdd false) (mC (.str p)) (mUn gStrI m)) (mC (.str q)) τ h = some (.ok (.d (.str (idS p n q))) h) := by
  have l := (num_ok hn).1
  refine x_Bin (x_Bin x_C (x_Un (r := some (.ok (.d (.str (numS n))) h)) e ?_) (g_cats ?_)) x_C (g_cats ?_)
  · unfold gStrI
    dsimp only
    rw [if_pos]
    · rfl
    · exact Nat.lt_of_le_of_lt (Nat.log2_le_self _) (by omega)
  · show _ ≤ 16777216; omega
  · rw [len_app]; show _ ≤ 16777216; omega
/-! a cell behind the state -/
theorem hs_app {H g : Hq} {k : Nat} (hk : k < H.length) (x : Nx) : Hs (H ++ g) k x = Hs H k x ++ g := by
  unfold Hs
  rw [List.set_append_left _ _ hk]
theorem hs_last {H : Hq} {o : O} {k : Nat} (hk : k < H.length) (x : Nx) : (Hs (H ++ [o]) k x)[H.length]? = some o := by
  rw [hs_app hk, List.getElem?_append_right (by rw [hs_len]; exact Nat.le_refl _), hs_len, Nat.sub_self]
  rfl
theorem hs_set {H : Hq} {o o' : O} {k : Nat} (hk : k < H.length) (x : Nx) : (Hs (H ++ [o]) k x).set H.length o' = Hs (H ++ [o']) k x := by
  rw [hs_app hk, hs_app hk, List.set_append_right _ _ (by rw [hs_len]; exact Nat.le_refl _), hs_len, Nat.sub_self]
  rfl
theorem lt_app {H : Hq} {o : O} {k : Nat} (hk : k < H.length) : k < (H ++ [o]).length := by rw [List.length_append]; exact Nat.lt_add_right _ hk
end KK

set_option maxHeartbeats 1000000
namespace KK
open PySem PySem.Spec PyProof.Rows L2 Tq
/-! sources made; dicts set -/
theorem s_SetD {mo mi mv : E A} {τ : Sl} {h h1 h2 h3 h4 : Hq} {k : Nat} {w kd : A} {hd hd' : Hd} {ws ws' : List A} (e1 : mv τ h = some (.ok w h1)) (e2 : mo τ h1 = some (.ok (.r k) h2)) (e3 : mi τ h2 = some (.ok kd h3)) (e : h3[k]? = some (.nd hd ws)) (p : hPut hd ws kd w = some (hd', ws')) (s : h3.set k (.nd hd' ws') = h4) : mSetI false mo mi mv τ h = some (.nx τ h4) := by
  unfold mSetI
  rw [e1, sb_ok, e2, sb_ok, e3, sb_ok]
  rw [if_pos (by unfold isLst; dsimp only; rw [e])]
  unfold putA
  dsimp only
  rw [e]
  dsimp only
  rw [p]
  dsimp only
  rw [s]
theorem source_init {nm : D} {cs ks rs : List D} (l1 : cs.length ≤ 16777216) (l2 : ks.length ≤ 16777216) (l3 : rs.length ≤ 16777216) :
    sem_Source____init__ [.r 0, .d nm, .d (.lst cs), .d (.lst ks), .d (.lst rs)] [.nd (.ins "Source" []) []] = some (.ok (.d .non) [.nd (.ins "Source" ["name", "columns", "kinds", "rows"]) [.d nm, .d (.lst cs), .d (.lst ks), .d (.lst rs)]]) := by
  let τ : Sl := [some (.r 0), some (.d nm), some (.d (.lst cs)), some (.d (.lst ks)), some (.d (.lst rs))]
  refine x_runN (τ := τ) (τ1 := τ) rfl (.s (.s (.s (.s (.s .z))))) ?_
  unfold b_Source____init__
  refine s_Seq (τ1 := τ) (h1 := [.nd (.ins "Source" ["name"]) [.d nm]]) (s_SetF (x_Var rfl) (x_Var rfl) rfl (by decide +kernel) (by decide) (by with_unfolding_all rfl) rfl) ?_
  refine s_Seq (τ1 := τ) (h1 := [.nd (.ins "Source" ["name", "columns"]) [.d nm, .d (.lst cs)]]) (s_SetF (x_Un (x_Var rfl) (g_lstl (x_mkL (allD_map cs) l1))) (x_Var rfl) rfl (by decide +kernel) (by decide) (by with_unfolding_all rfl) rfl) ?_
  refine s_Seq (τ1 := τ) (h1 := [.nd (.ins "Source" ["name", "columns", "kinds"]) [.d nm, .d (.lst cs), .d (.lst ks)]]) (s_SetF (x_Un (x_Var rfl) (g_lstl (x_mkL (allD_map ks) l2))) (x_Var rfl) rfl (by decide +kernel) (by decide) (by with_unfolding_all rfl) rfl) ?_
  exact s_SetF (x_Un (x_Var rfl) (g_lstl (x_mkL (allD_map rs) l3))) (x_Var rfl) rfl (by decide +kernel) (by decide) (by with_unfolding_all rfl) rfl
theorem x_Source {ma mb mc md : E A} {τ : Sl} {h h1 h2 h3 h4 : Hq} {nm : D} {cs ks rs : List D} (l1 : cs.length ≤ 16777216) (l2 : ks.length ≤ 16777216) (l3 : rs.length ≤ 16777216) (e1 : ma τ h = some (.ok (.d nm) h1)) (e2 : mb τ h1 = some (.ok (.d (.lst cs)) h2)) (e3 : mc τ h2 = some (.ok (.d (.lst ks)) h3)) (e4 : md τ h3 = some (.ok (.d (.lst rs)) h4)) :
    mMakeP "Source" 5 sem_Source____init__ (maCons ma (maCons mb (maCons mc (maCons md maNil)))) τ h = some (.ok (.d (soD nm (.lst cs) (.lst ks) (.lst rs))) h4) :=
  x_MakeP (ds := [nm, .lst cs, .lst ks, .lst rs]) (x_cons e1 (x_cons e2 (x_cons e3 (x_cons e4 x_nil)))) rfl rfl (source_init l1 l2 l3) (view_n rfl rfl)
/-- all rows of a table or a join, nothing else asked -/
theorem sel_all {n : Nat} {src out w : D} {cs : List (Str × Str)} {rs : List D} (hsrc : src ≠ .non) (hs : Gv (sem_source_result (n + 1)) [src, out, w] (.tup [csD cs, .lst rs])) (l1 : cs.length ≤ 16777216) (l2 : rs.length ≤ 16777216) :
    Gv (sem_result_of (n + 3)) [.tup [.str "select", .bl false, .non, src, .non, .non, .non], out, w] (.tup [.lst (cs.map fun c => .str c.2), .lst rs]) := by
  have e : (rs.map fun r => (r, D.non)).map (fun f : FrT => f.1) = rs := by rw [List.map_map]; exact List.map_id'' (fun _ => rfl) rs
  refine result_sel (select_ok (fs1 := rs.map fun r => (r, D.non)) (fs2 := rs.map fun r => (r, D.non)) (fs3 := rs.map fun r => (r, D.non)) (made := rs) (g := false) hsrc hs kept_non grp_non (fun _ => rfl) (fun h => by cases h) kept_non (.inl ⟨rfl, rfl, e.symm⟩) (.inl ⟨rfl, rfl⟩) l1 l2 (by rw [List.length_map]; exact l2) (by rw [List.length_map]; exact l2))
end KK

set_option maxHeartbeats 1000000
namespace KK
open PySem PySem.Spec PyProof.Rows L2 Tq
/-! lists of draws -/
theorem lc_draw {α : Type} {B : Hq} {k : Nat} {P : α → D → Prop} {xs : List α} {x : Nx} {mi : E Nxt} {gg : A → Sl → Hq → Option Sl} {me : E A} {sl : List Nat} {τ : Sl} {h : Hq} (ι : α → A) (hx : x.ok) (e : mi τ h = some (.ok (nxL (xs.map ι)) (Hs B k x))) (hl : xs.length ≤ 16777216)
    (hs : ∀ (j : Nat) (a : α) (y : Nx), xs[j]? = some a → y.ok → ∃ τ1, gg (ι a) (wipeT τ sl) (Hs B k y) = some τ1 ∧ ∃ v y', Nx.ok y' ∧ P a v ∧ me τ1 (Hs B k y) = some (.ok (.d v) (Hs B k y'))) :
    ∃ (vs : List D) (x' : Nx), Nx.ok x' ∧ vs.length = xs.length ∧ (∀ (i : Nat) (a : α), xs[i]? = some a → ∃ v, vs[i]? = some v ∧ P a v) ∧ mLC false mi gg mYes me sl τ h = some (.ok (.d (.lst vs)) (Hs B k x')) := by
  unfold mLC
  rw [e, bd_ok]
  obtain ⟨as, h', e2, x', vs, o', rfl, rfl, lv, pv⟩ := compL_inv (g := gg) (mt := mYes) (me := me) (τw := wipeT τ sl) (h := Hs B k x) (ws := xs.map ι) (fun n h as => ∃ x' vs, Nx.ok x' ∧ h = Hs B k x' ∧ as = vs.map A.d ∧ vs.length = n ∧ ∀ (i : Nat) (a : α), i < n → xs[i]? = some a → ∃ v, vs[i]? = some v ∧ P a v) ⟨x, [], hx, rfl, rfl, rfl, fun i a hi => absurd hi (Nat.not_lt_zero i)⟩ (fun n w h as hw i => by
    obtain ⟨y, vs, oy, rfl, rfl, lv, pv⟩ := i
    obtain ⟨a, ea, rfl⟩ := map_get hw
    obtain ⟨τ1, e1, v, y', oy', pa, e2⟩ := hs n a y ea oy
    refine ⟨τ1, e1, .inl ⟨_, _, _, rfl, e2, y', vs ++ [v], oy', rfl, by rw [List.map_append]; rfl, by rw [List.length_append, lv]; rfl, fun i b hi eb => ?_⟩⟩
    rcases Nat.lt_or_ge i n with z | z
    · obtain ⟨u, e3, p3⟩ := pv i b z eb
      exact ⟨u, by rw [List.getElem?_append_left (by omega)]; exact e3, p3⟩
    · have : i = n := by omega
      subst this
      rw [ea] at eb
      cases eb
      exact ⟨v, by rw [List.getElem?_append_right (by omega), lv, Nat.sub_self]; rfl, pa⟩) (by rw [List.length_map]; exact hl)
  rw [List.length_map] at lv pv
  refine ⟨vs, x', o', lv, fun i a e => pv i a (List.getElem?_eq_some_iff.mp e).1 e, ?_⟩
  rw [e2]
  dsimp only
  rw [if_pos (by rw [List.length_map, lv]; exact hl)]
  exact x_mkL (allD_map vs) (by rw [lv]; exact hl)
/-! _law_char -/
def chars : Str := (" '!\"#$&()*+,-./0123456789:;<=>?@ABCDEFGHIJKLMNOPQRSTUVWXYZ[\\]^_`" : Str) ++ ("abcdefghijklmnopqrstuvwxyz{|}~\n" : Str)
theorem chars_len : chars.cps.toList.length = 95 := by decide +kernel
theorem chars_ok : ∀ c ∈ chars.cps.toList, c < 0x110000 := by decide +kernel
/-- a text of one sign -/
structure Sg (s : Str) : Prop where
  l : s.length = 1
  o : PyData.strOk s = true
theorem char_ok {v : Nat} (hv : v < 95) : ∃ s, Sg s ∧ Gv sem__law_char [.int (v : Nat)] (.str s) := by
  obtain ⟨c, hc⟩ : ∃ c, chars.cps.toList[v]? = some c := ⟨_, List.getElem?_eq_getElem (by rw [chars_len]; exact hv)⟩
  have ho : c < 0x110000 := chars_ok c (List.mem_of_getElem? hc)
  refine ⟨⟨#[c]⟩, ⟨rfl, ?_⟩, ?_⟩
  · unfold PyData.strOk
    simpa using ho
  · refine gv_d (τ := [some (.d (.int (v : Nat))), none]) (h1 := []) rfl (.s (.n .z)) ?_
    unfold b__law_char
    refine s_Seq (τ1 := [some (.d (.int (v : Nat))), some (.d (.str " '!\"#$&()*+,-./0123456789:;<=>?@ABCDEFGHIJKLMNOPQRSTUVWXYZ[\\]^_`"))]) (h1 := []) (s_Set x_C rfl) ?_
    refine s_Seq (τ1 := [some (.d (.int (v : Nat))), some (.d (.str chars))]) (h1 := []) (s_Set (x_Bin (x_Var rfl) x_C (g_cats (by decide +kernel))) rfl) (s_Ret (x_Bin (x_Var rfl) (x_Bin (x_Un (x_Var rfl) g_int) x_C (g_mod (by decide))) ?_))
    rw [show ((v : Nat) : Int) % 95 = (v : Nat) by omega, gGet_of rfl]
    unfold gIx
    dsimp only
    rw [if_pos (show chars.length ≤ LIM by decide +kernel), atI_ix (ix_nat (i := v) (by rw [chars_len]; exact hv)) hc]
end KK

set_option maxHeartbeats 1000000
namespace KK
open PySem PySem.Spec PyProof.Rows L2 Tq
/-! a few signs joined -/
theorem strsA_map : ∀ ys : List Str, strsA ((ys.map D.str).map A.d) = some ys
  | [] => rfl
  | y :: r => by
    have ih := strsA_map r
    unfold strsA at ih ⊢
    rw [List.map_cons, List.map_cons]
    unfold mapMn
    rw [ih]
theorem strs_of : ∀ {vs : List D}, (∀ v ∈ vs, ∃ s, v = .str s ∧ Sg s) → ∃ ys : List Str, vs = ys.map D.str ∧ ∀ s ∈ ys, Sg s
  | [], _ => ⟨[], rfl, fun s h => absurd h List.not_mem_nil⟩
  | v :: r, h => by
    obtain ⟨s, rfl, hs⟩ := h v (List.mem_cons_self ..)
    obtain ⟨ys, rfl, hy⟩ := strs_of fun u hu => h u (List.mem_cons_of_mem _ hu)
    exact ⟨s :: ys, rfl, fun t ht => by
      rcases List.mem_cons.mp ht with rfl | ht
      · exact hs
      · exact hy t ht⟩
theorem join_txt {ys : List Str} (h : ∀ s ∈ ys, Sg s) (hl : ys.length ≤ 3) : PyData.strOk (Txt.join "" ys) = true ∧ (Txt.join "" ys).length ≤ 3 := by
  have e0 : ∀ a b : Str, a.cps ++ ("" : Str).cps ++ b.cps = (a ++ b).cps := fun a b => by
    show a.cps ++ #[] ++ b.cps = a.cps ++ b.cps
    rw [Array.append_empty]
  match ys, h, hl with
  | [], _, _ => exact ⟨by decide +kernel, by decide +kernel⟩
  | [a], h, _ =>
    have ha := h a (by simp)
    exact ⟨ha.o, by show a.length ≤ 3; rw [ha.l]; omega⟩
  | [a, b], h, _ =>
    have ha := h a (by simp)
    have hb := h b (by simp)
    have : Txt.join "" [a, b] = a ++ b := by
      show (⟨a.cps ++ ("" : Str).cps ++ b.cps⟩ : Str) = a ++ b
      rw [e0]
    rw [this]
    exact ⟨strOk_app ha.o hb.o, by rw [len_app, ha.l, hb.l]; omega⟩
  | [a, b, c], h, _ =>
    have ha := h a (by simp)
    have hb := h b (by simp)
    have hc := h c (by simp)
    have : Txt.join "" [a, b, c] = a ++ b ++ c := by
      show (⟨a.cps ++ ("" : Str).cps ++ b.cps ++ ("" : Str).cps ++ c.cps⟩ : Str) = ⟨a.cps ++ b.cps ++ c.cps⟩
      have z : ("" : Str).cps = #[] := rfl
      rw [z, Array.append_empty, Array.append_empty]
    rw [this]
    exact ⟨strOk_app (strOk_app ha.o hb.o) hc.o, by rw [len_app, len_app, ha.l, hb.l, hc.l]; omega⟩
  | _ :: _ :: _ :: _ :: _, _, hl => exact absurd hl (by simp)
end KK

set_option maxHeartbeats 1000000
namespace KK
open PySem PySem.Spec PyProof.Rows L2 Tq
theorem x_Fv {sem : Sem1} {xs : List D} {d : D} {ws : List A} {mr : E (List A)} {τ : Sl} {h h1 : Hq} (e : mr τ h = some (.ok ws h1)) (g : Gv sem xs d) (q : mapMn (view h1) ws = some xs) (f : d.flat = true) : mCallP sem mr τ h = some (.ok (.d d) h1) := by
  obtain ⟨w, h', s, v⟩ := g
  exact x_CallPv e q rfl s v f
theorem xp_nil {τ : Sl} {h : Hq} : mPairs [] [] τ h = some (.ok [] h) := rfl
theorem xp_cons {τ : Sl} {h h1 h2 : Hq} {k : Key} {ks : List Key} {m : E A} {ms : List (E A)} {w : A} {ws : List A} (e : m τ h = some (.ok w h1)) (e2 : mPairs ks ms τ h1 = some (.ok ws h2)) : mPairs (k :: ks) (m :: ms) τ h = some (.ok (w :: ws) h2) := by
  show bd (m τ h) _ = _
  rw [e, bd_ok, e2]
  rfl
theorem x_Dict {τ : Sl} {h h1 : Hq} {ks : List Key} {ms : List (E A)} {ws : List A} (e : mPairs ks ms τ h = some (.ok ws h1)) (hl : ws.length = ks.length) : mDict ks ms τ h = some (.ok (.r h1.length) (h1 ++ [.nd (.dic ks) ws])) := by
  unfold mDict
  rw [e, bd_ok, if_pos hl]
/-- a made row, place by place -/
theorem made_z {n : Nat} {f w : D} {is vs : List D} (hl : is.length = vs.length) (h : ∀ (j : Nat) (i v : D), is[j]? = some i → vs[j]? = some v → ∃ e nm, i = .tup [e, nm] ∧ Gv (sem_value_of n) [e, f, w] v) (hl2 : is.length ≤ 16777216) : Gv (sem_made_row (n + 1)) [.tup is, f, w] (.tup vs) := by
  refine gv_d (τ := [some (.d (.tup is)), some (.d f), some (.d w), none]) (h1 := []) rfl (.s (.s (.s (.n .z)))) ?_
  unfold b_made_row
  have mr : ∀ us : List D, (List.range us.length).map (fun j => us.getD j .non) = us := fun us => by
    refine List.ext_getElem? fun j => ?_
    rw [List.getElem?_map]
    rcases Nat.lt_or_ge j us.length with z | z
    · rw [List.getElem?_range z, List.getElem?_eq_getElem z]
      show some (us.getD j .non) = _
      rw [List.getD_eq_getElem?_getD, List.getElem?_eq_getElem z]
      rfl
    · rw [List.getElem?_eq_none (by rw [List.length_range]; exact z), List.getElem?_eq_none z]
      rfl
  refine s_Ret (x_Un (a := .d (.lst vs)) (h1 := []) ?_ (g_tupl (by rw [← hl]; exact hl2)))
  unfold C1_made_row
  rw [lc_map (h1 := []) (xs := List.range is.length) (fun j => A.d (is.getD j .non)) (fun j => A.d (vs.getD j .non)) (by
    rw [x_ItT (x_Var rfl)]
    conv => lhs; rw [← mr is]
    rw [List.map_map]
    rfl) (by rw [List.length_range]; exact hl2) fun k j e => ⟨[some (.d (.tup is)), some (.d f), some (.d w), some (.d (is.getD j .non))], rfl, by
    obtain ⟨hj, _⟩ := rangeget e
    have hjj : j < is.length := by
      have := List.mem_of_getElem? e
      rwa [List.mem_range] at this
    have h1 : is[j]? = some (is.getD j .non) := by rw [List.getD_eq_getElem?_getD, List.getElem?_eq_getElem hjj]; rfl
    have h2 : vs[j]? = some (vs.getD j .non) := by rw [List.getD_eq_getElem?_getD, List.getElem?_eq_getElem (hl ▸ hjj)]; rfl
    obtain ⟨e, nm, ei, g⟩ := h j _ _ h1 h2
    unfold E1_made_row
    rw [ei]
    exact x_F3 g (x_gett (x_Var rfl) x_C (n := 0) rfl rfl) (x_Var rfl) (x_Var rfl)⟩]
  rw [x_mkL (allD_mapf (fun j => vs.getD j .non) _) (by rw [List.length_map, List.length_range]; exact hl2), hl, mr vs]
end KK

set_option maxHeartbeats 1000000
set_option exponentiation.threshold 2000
namespace KK
open PySem PySem.Spec PyProof.Rows L2 Tq
/-! arithmetic -/
def B40 : Int := 10000000000000000000000000000000000000000
def absI (z : Int) : Int := if z < 0 then -z else z
def bnd (z : Int) : Option Int := if B40 ≤ absI z then none else some z
def quo (a b : Int) : Int := if (decide (a < 0) != decide (b < 0)) then -(absI a / absI b) else absI a / absI b
def Sz (z : Int) : Prop := z.natAbs < 2 ^ 210
theorem absI_nat (z : Int) : absI z = (z.natAbs : Int) := by unfold absI; split <;> omega
theorem bounded_ok (z : Int) : Gv sem_bounded [.int z] (oI (bnd z)) := by
  refine gv_d (τ := [some (.d (.int z))]) (h1 := []) rfl (.s .z) ?_
  unfold b_bounded
  have t : mTB (mBin gGe (mUn gAbs (mVar 0)) (mC (.int 10000000000000000000000000000000000000000))) [some (.d (.int z))] [] = some (.ok (decide (B40 ≤ absI z)) []) := x_TB (x_Bin (x_Un (x_Var rfl) g_abs) x_C g_ge)
  by_cases h : B40 ≤ absI z
  · rw [show bnd z = none from if_pos h]
    exact hit (t.trans (by rw [decide_eq_true h])) (s_Ret x_C)
  · rw [show bnd z = some z from if_neg h]
    exact sk (t.trans (by rw [decide_eq_false h])) (s_Ret (x_Var rfl))
theorem g_p40 {H : Hq} : gPow (.d (.int 10)) (.d (.int 40)) H = some (.ok (.d (.int B40)) H) := by with_unfolding_all rfl
theorem lbounded_ok (z : Int) : Gv sem__law_bounded [.int z] (oI (bnd z)) := by
  refine gv_d (τ := [some (.d (.int z))]) (h1 := []) rfl (.s .z) ?_
  unfold b__law_bounded
  have t : mTB (mBin gGe (mUn gAbs (mVar 0)) (mBin gPow (mC (.int 10)) (mC (.int 40)))) [some (.d (.int z))] [] = some (.ok (decide (B40 ≤ absI z)) []) := x_TB (x_Bin (x_Un (x_Var rfl) g_abs) (x_Bin x_C x_C g_p40) g_ge)
  by_cases h : B40 ≤ absI z
  · rw [show bnd z = none from if_pos h]
    exact hit (t.trans (by rw [decide_eq_true h])) (s_Ret x_C)
  · rw [show bnd z = some z from if_neg h]
    exact sk (t.trans (by rw [decide_eq_false h])) (s_Ret (x_Var rfl))
theorem div_abs {a b : Int} (hb : Sz b) (h0 : b ≠ 0) : divOk (absI a) (absI b) = true := by
  refine divOk_of (b := 210) (by rw [absI_nat]; omega) ?_ (by decide) (by decide)
  rw [absI_nat, Int.natAbs_natCast]
  exact hb
theorem g_neb' {p q : Bool} {H : Hq} : gEq true (.d (.bl p)) (.d (.bl q)) H = some (.ok (.d (.bl (p != q))) H) := by
  rw [g_neb]
theorem quotient_ok {a b : Int} (hb : Sz b) (h0 : b ≠ 0) : Gv sem_quotient [.int a, .int b] (.int (quo a b)) := by
  refine gv_d (τ := [some (.d (.int a)), some (.d (.int b)), none]) (h1 := []) rfl (.s (.s (.n .z))) ?_
  unfold b_quotient
  refine s_Seq (τ1 := [some (.d (.int a)), some (.d (.int b)), some (.d (.int (absI a / absI b)))]) (h1 := []) (s_Set (x_Bin (x_Un (x_Var rfl) g_abs) (x_Un (x_Var rfl) g_abs) (g_div (div_abs hb h0))) rfl) ?_
  have t : mTB (mBin (gEq true) (mBin gLt (mVar 0) (mC (.int 0))) (mBin gLt (mVar 1) (mC (.int 0)))) [some (.d (.int a)), some (.d (.int b)), some (.d (.int (absI a / absI b)))] [] = some (.ok (decide (a < 0) != decide (b < 0)) []) := x_TB (x_Bin (x_Bin (x_Var rfl) x_C g_lt) (x_Bin (x_Var rfl) x_C g_lt) g_neb')
  unfold quo
  cases h : (decide (a < 0) != decide (b < 0)) with
  | true => exact hit (t.trans (by rw [h])) (s_Ret (x_Un (x_Var rfl) g_neg))
  | false => exact sk (t.trans (by rw [h])) (s_Ret (x_Var rfl))
/-- the five -/
def arI (o : Nat) (a b : Int) : Option Int := if o = 0 then bnd (a + b) else if o = 1 then bnd (a - b) else if o = 2 then bnd (a * b) else if b = 0 then none else if o = 3 then bnd (quo a b) else bnd (a - quo a b * b)
def arV (o : Nat) : Option Int → Option Int → Option Int
  | some a, some b => arI o a b
  | _, _ => none
def aS (o : Nat) : Str := (["+", "-", "*", "/", "mod"] : List Str).getD o "+"
theorem quo_sz {a b : Int} (ha : Sz a) : (quo a b).natAbs < 2 ^ 210 := by
  have h1 : (absI a / absI b).natAbs ≤ a.natAbs := by
    rw [absI_nat, absI_nat, ← Int.natCast_ediv, Int.natAbs_natCast]
    exact Nat.div_le_self _ _
  have h2 : (quo a b).natAbs = (absI a / absI b).natAbs := by
    unfold quo
    split
    · exact Int.natAbs_neg _
    · rfl
  rw [h2]
  exact Nat.lt_of_le_of_lt h1 ha
theorem mul_sz {a b : Int} (ha : a.natAbs < 2 ^ 210) (hb : b.natAbs < 2 ^ 210) : mulOk a b = true := mulOk_of (a := 210) (b := 210) ha hb (by decide) (by decide) (by decide)
theorem ar_non {op a b : D} (h : a = .non ∨ b = .non) : Gv sem_arithmetic [op, a, b] .non := by
  refine gv_d (τ := [some (.d op), some (.d a), some (.d b), none]) (h1 := []) rfl (.s (.s (.s (.n .z)))) ?_
  unfold b_arithmetic
  refine hit ((x_OrT (j := decide (a = .non)) (l := decide (b = .non)) (x_TB (x_Bin (x_Var rfl) x_C (g_isx a))) fun _ => x_TB (x_Bin (x_Var rfl) x_C (g_isx b))).trans ?_) (s_Ret x_C)
  rcases h with h | h
  · rw [decide_eq_true h]; rfl
  · rw [decide_eq_true h, Bool.or_true]
theorem ar_int {o : Nat} (ho : o < 5) {a b : Int} (ha : Sz a) (hb : Sz b) : Gv sem_arithmetic [.str (aS o), .int a, .int b] (oI (arI o a b)) := by
  let τ : Sl := [some (.d (.str (aS o))), some (.d (.int a)), some (.d (.int b)), none]
  refine gv_d (τ := τ) (h1 := []) rfl (.s (.s (.s (.n .z)))) ?_
  unfold b_arithmetic
  refine sk (x_OrT0 (x_TB (x_Bin (x_Var rfl) x_C (g_isn false rfl))) (x_TB (x_Bin (x_Var rfl) x_C (g_isn false rfl)))) ?_
  have t : mTB (mBin (gEq false) (mVar 2) (mC (.int 0))) τ [] = some (.ok (decide (b = 0)) []) := x_TB (x_Bin (x_Var rfl) x_C g_eqi)
  have : o = 0 ∨ o = 1 ∨ o = 2 ∨ o = 3 ∨ o = 4 := by omega
  rcases this with rfl | rfl | rfl | rfl | rfl
  · exact sk (x_TB (by with_unfolding_all rfl)) (hit (x_TB (by with_unfolding_all rfl)) (s_Ret (x_F1 (bounded_ok (a + b)) (x_Bin (x_Var rfl) (x_Var rfl) g_add))))
  · exact sk (x_TB (by with_unfolding_all rfl)) (sk (x_TB (by with_unfolding_all rfl)) (hit (x_TB (by with_unfolding_all rfl)) (s_Ret (x_F1 (bounded_ok (a - b)) (x_Bin (x_Var rfl) (x_Var rfl) g_sub)))))
  · exact sk (x_TB (by with_unfolding_all rfl)) (sk (x_TB (by with_unfolding_all rfl)) (sk (x_TB (by with_unfolding_all rfl)) (hit (x_TB (by with_unfolding_all rfl)) (s_Ret (x_F1 (bounded_ok (a * b)) (x_Bin (x_Var rfl) (x_Var rfl) (g_mul (mul_sz ha hb))))))))
  · refine sk (x_TB (by with_unfolding_all rfl)) (sk (x_TB (by with_unfolding_all rfl)) (sk (x_TB (by with_unfolding_all rfl)) (sk (x_TB (by with_unfolding_all rfl)) ?_)))
    by_cases h0 : b = 0
    · rw [show arI 3 a b = none from if_pos h0]
      exact hit (t.trans (by rw [decide_eq_true h0])) (s_Ret x_C)
    · rw [show arI 3 a b = bnd (quo a b) from if_neg h0]
      exact sk (t.trans (by rw [decide_eq_false h0])) (hit (x_TB (by with_unfolding_all rfl)) (s_Ret (x_F1 (bounded_ok _) (x_F2 (quotient_ok hb h0) (x_Var rfl) (x_Var rfl)))))
  · refine sk (x_TB (by with_unfolding_all rfl)) (sk (x_TB (by with_unfolding_all rfl)) (sk (x_TB (by with_unfolding_all rfl)) (sk (x_TB (by with_unfolding_all rfl)) ?_)))
    by_cases h0 : b = 0
    · rw [show arI 4 a b = none from if_pos h0]
      exact hit (t.trans (by rw [decide_eq_true h0])) (s_Ret x_C)
    · rw [show arI 4 a b = bnd (a - quo a b * b) from if_neg h0]
      exact sk (t.trans (by rw [decide_eq_false h0])) (sk (x_TB (by with_unfolding_all rfl)) (s_Ret (x_F1 (bounded_ok _) (x_Bin (x_Var rfl) (x_Bin (x_F2 (quotient_ok hb h0) (x_Var rfl) (x_Var rfl)) (x_Var rfl) (g_mul (mul_sz (quo_sz ha) hb))) g_sub))))
def SzO (a : Option Int) : Prop := ∀ z, a = some z → Sz z
theorem ar_ok {o : Nat} (ho : o < 5) {a b : Option Int} (ha : SzO a) (hb : SzO b) : Gv sem_arithmetic [.str (aS o), oI a, oI b] (oI (arV o a b)) := by
  cases a with
  | none => cases b <;> exact ar_non (.inl rfl)
  | some a => cases b with
    | none => exact ar_non (.inr rfl)
    | some b => exact ar_int ho (ha a rfl) (hb b rfl)
theorem due_ok {a b : Option Int} (ha : SzO a) (hb : SzO b) : Gv sem__law_due [oI a, oI b] (.lst [oI (arV 0 a b), oI (arV 1 a b), oI (arV 2 a b), oI (arV 3 a b), oI (arV 4 a b)]) := by
  have l5 : ∀ {x1 x2 x3 x4 x5 : D}, ([x1, x2, x3, x4, x5] : List D).length ≤ LIM := show 5 ≤ 16777216 by decide
  cases a with
  | none =>
    have : ∀ o, arV o none b = none := fun o => by cases b <;> rfl
    rw [this, this, this, this, this]
    refine gv_d (τ := [some (.d .non), some (.d (oI b)), none, none]) (h1 := []) rfl (.s (.s (.n (.n .z)))) ?_
    unfold b__law_due
    exact hit (x_OrT1 (x_TB (x_Bin (x_Var rfl) x_C g_isnn0))) (s_Ret (x_Lst (x_cons x_C (x_cons x_C (x_cons x_C (x_cons x_C (x_cons x_C x_nil))))) (x_mkL rfl l5)))
  | some a => cases b with
    | none =>
      refine gv_d (τ := [some (.d (.int a)), some (.d .non), none, none]) (h1 := []) rfl (.s (.s (.n (.n .z)))) ?_
      unfold b__law_due
      exact hit (x_OrT0 (x_TB (x_Bin (x_Var rfl) x_C (g_isn false rfl))) (x_TB (x_Bin (x_Var rfl) x_C g_isnn0))) (s_Ret (x_Lst (x_cons x_C (x_cons x_C (x_cons x_C (x_cons x_C (x_cons x_C x_nil))))) (x_mkL rfl l5)))
    | some b =>
      have hb' := hb b rfl
      have ha' := ha a rfl
      let W : D := .lst [oI (bnd (a + b)), oI (bnd (a - b)), oI (bnd (a * b))]
      refine gv_d (τ := [some (.d (.int a)), some (.d (.int b)), none, none]) (h1 := []) rfl (.s (.s (.n (.n .z)))) ?_
      unfold b__law_due
      refine sk (x_OrT0 (x_TB (x_Bin (x_Var rfl) x_C (g_isn false rfl))) (x_TB (x_Bin (x_Var rfl) x_C (g_isn false rfl)))) ?_
      refine s_Seq (τ1 := [some (.d (.int a)), some (.d (.int b)), some (.d W), none]) (h1 := []) (s_Set (x_Lst (x_cons (x_F1 (lbounded_ok _) (x_Bin (x_Var rfl) (x_Var rfl) g_add)) (x_cons (x_F1 (lbounded_ok _) (x_Bin (x_Var rfl) (x_Var rfl) g_sub)) (x_cons (x_F1 (lbounded_ok _) (x_Bin (x_Var rfl) (x_Var rfl) (g_mul (mul_sz ha' hb')))) x_nil))) (x_mkL rfl (show 3 ≤ 16777216 by decide))) rfl) ?_
      have t : mTB (mBin (gEq false) (mVar 1) (mC (.int 0))) [some (.d (.int a)), some (.d (.int b)), some (.d W), none] [] = some (.ok (decide (b = 0)) []) := x_TB (x_Bin (x_Var rfl) x_C g_eqi)
      by_cases h0 : b = 0
      · rw [show arV 3 (some a) (some b) = none from if_pos h0, show arV 4 (some a) (some b) = none from if_pos h0]
        exact hit (t.trans (by rw [decide_eq_true h0])) (s_Ret (x_Bin (x_Var rfl) (x_Lst (x_cons x_C (x_cons x_C x_nil)) (x_mkL rfl (show 2 ≤ 16777216 by decide))) (g_cat (x_mkL rfl l5))))
      · rw [show arV 3 (some a) (some b) = bnd (quo a b) from if_neg h0, show arV 4 (some a) (some b) = bnd (a - quo a b * b) from if_neg h0]
        refine sk (t.trans (by rw [decide_eq_false h0])) ?_
        refine s_Seq (τ1 := [some (.d (.int a)), some (.d (.int b)), some (.d W), some (.d (.int (absI a / absI b)))]) (h1 := []) (s_Set (x_Bin (x_Un (x_Var rfl) g_abs) (x_Un (x_Var rfl) g_abs) (g_div (div_abs hb' h0))) rfl) ?_
        have t2 : mTB (mBin (gEq true) (mBin gLt (mVar 0) (mC (.int 0))) (mBin gLt (mVar 1) (mC (.int 0)))) [some (.d (.int a)), some (.d (.int b)), some (.d W), some (.d (.int (absI a / absI b)))] [] = some (.ok (decide (a < 0) != decide (b < 0)) []) := x_TB (x_Bin (x_Bin (x_Var rfl) x_C g_lt) (x_Bin (x_Var rfl) x_C g_lt) g_neb')
        refine s_Seq (τ1 := [some (.d (.int a)), some (.d (.int b)), some (.d W), some (.d (.int (quo a b)))]) (h1 := []) ?_ ?_
        · unfold quo
          cases h : (decide (a < 0) != decide (b < 0)) with
          | true => exact s_IfT (t2.trans (by rw [h])) rfl (s_Set (x_Bin x_C (x_Var rfl) (g_sub.trans (by rw [Int.zero_sub]; rfl))) rfl)
          | false => exact s_IfF (t2.trans (by rw [h])) rfl s_Nx
        · exact s_Ret (x_Bin (x_Var rfl) (x_Lst (x_cons (x_F1 (lbounded_ok _) (x_Var rfl)) (x_cons (x_F1 (lbounded_ok _) (x_Bin (x_Var rfl) (x_Bin (x_Var rfl) (x_Var rfl) (g_mul (mul_sz (quo_sz ha') hb'))) g_sub)) x_nil)) (x_mkL rfl (show 2 ≤ 16777216 by decide))) (g_cat (x_mkL rfl l5)))
theorem quo_one (a : Int) : quo a 1 = a := by
  unfold quo
  rw [show absI 1 = 1 from rfl, Int.ediv_one]
  unfold absI
  by_cases h : a < 0
  · rw [decide_eq_true h, if_pos h]
    show -(-a) = a
    omega
  · rw [decide_eq_false h, if_neg h]
    rfl
end KK

set_option maxHeartbeats 1000000
set_option exponentiation.threshold 10000
namespace KK
open PySem PySem.Spec PyProof.Rows L2 Tq
/-! _law_integer -/
theorem sg_mul {sg w : Int} (h : sg = 1 ∨ sg = -1) (hw : w.natAbs < 2 ^ 205) : mulOk sg w = true ∧ Sz (sg * w) := by
  refine ⟨mulOk_of (a := 2) (b := 205) (by omega) hw (by decide) (by decide) (by decide), ?_⟩
  unfold Sz
  have : (sg * w).natAbs = w.natAbs := by
    rcases h with rfl | rfl
    · rw [Int.one_mul]
    · rw [Int.neg_mul, Int.one_mul, Int.natAbs_neg]
  rw [this]
  exact Nat.lt_of_lt_of_le hw (Nat.pow_le_pow_right (by decide) (by decide))
theorem p20 {H : Hq} : gPow (.d (.int 10)) (.d (.int 20)) H = some (.ok (.d (.int (10 ^ 20))) H) := by with_unfolding_all rfl
theorem p39 {H : Hq} : gPow (.d (.int 10)) (.d (.int 39)) H = some (.ok (.d (.int (10 ^ 39))) H) := by with_unfolding_all rfl
theorem p40 {H : Hq} : gPow (.d (.int 10)) (.d (.int 40)) H = some (.ok (.d (.int (10 ^ 40))) H) := by with_unfolding_all rfl
theorem p60 {H : Hq} : gPow (.d (.int 10)) (.d (.int 60)) H = some (.ok (.d (.int (10 ^ 60))) H) := by with_unfolding_all rfl
theorem p6 {H : Hq} : gPow (.d (.int 10)) (.d (.int 6)) H = some (.ok (.d (.int (10 ^ 6))) H) := by with_unfolding_all rfl
theorem p21 {H : Hq} : gPow (.d (.int 10)) (.d (.int 21)) H = some (.ok (.d (.int (10 ^ 21))) H) := by with_unfolding_all rfl
theorem integer_ok {H : Hq} {k : Nat} {x : Nx} (hk : k < H.length) (hx : x.ok) : ∃ (v : Option Int) (x' : Nx), Nx.ok x' ∧ SzO v ∧ sem__law_integer [.r k] (Hs H k x) = some (.ok (.d (oI v)) (Hs H k x')) := by
  obtain ⟨v0, x1, o1, b0, e0⟩ := nxN (lim := 2) (j := 0) (τ := [some (.r k), none, none]) hk hx (by decide) (by decide) rfl x_C
  obtain ⟨sg, hsg, es⟩ : ∃ sg : Int, (sg = 1 ∨ sg = -1) ∧ mSet 1 (mBin gSub (mC (.int 1)) (mBin gMul (mC (.int 2)) (mCall sem__law_next (lenIs 2 (maCons (mVar 0) (maCons (mC (.int 2)) maNil)))))) [some (.r k), none, none] (Hs H k x) = some (.nx [some (.r k), some (.d (.int sg)), none] (Hs H k x1)) :=
    ⟨1 - 2 * (v0 : Nat), by omega, s_Set (x_Bin x_C (x_Bin x_C e0 (g_mul (mulOk_of (a := 2) (b := 2) (by decide) (by omega) (by decide) (by decide) (by decide)))) g_sub) rfl⟩
  obtain ⟨p, x2, o2, b2, e2⟩ := nxN (lim := 8) (j := 0) (τ := [some (.r k), some (.d (.int sg)), none]) hk o1 (by decide) (by decide) rfl x_C
  let τ : Sl := [some (.r k), some (.d (.int sg)), some (.d (.int (p : Nat)))]
  have fin : ∀ (v : Option Int) (x' : Nx) (m : MS), Nx.ok x' → SzO v → m τ (Hs H k x2) = some (.rt (.d (oI v)) (Hs H k x')) → mSeq (mSet 1 (mBin gSub (mC (.int 1)) (mBin gMul (mC (.int 2)) (mCall sem__law_next (lenIs 2 (maCons (mVar 0) (maCons (mC (.int 2)) maNil))))))) (mSeq (mSet 2 (mCall sem__law_next (lenIs 2 (maCons (mVar 0) (maCons (mC (.int 8)) maNil))))) m) = b__law_integer → ∃ (v : Option Int) (x' : Nx), Nx.ok x' ∧ SzO v ∧ sem__law_integer [.r k] (Hs H k x) = some (.ok (.d (oI v)) (Hs H k x')) := fun v x' m h1 h2 h3 h4 => by
    refine ⟨v, x', h1, h2, x_run (τ := [some (.r k), none, none]) rfl (.s (.n (.n .z))) ?_⟩
    rw [← h4]
    exact s_Seq es (s_Seq (τ1 := τ) (s_Set e2 rfl) h3)
  have mul : ∀ (w : Int) (x' : Nx) (m : E A), w.natAbs < 2 ^ 205 → m τ (Hs H k x2) = some (.ok (.d (.int w)) (Hs H k x')) → mRet (mBin gMul (mVar 1) m) τ (Hs H k x2) = some (.rt (.d (oI (some (sg * w)))) (Hs H k x')) := fun w x' m hw e => s_Ret (x_Bin (x_Var rfl) e (g_mul (sg_mul hsg hw).1))
  have szs : ∀ w : Int, w.natAbs < 2 ^ 205 → SzO (some (sg * w)) := fun w hw z e => by
    cases e
    exact (sg_mul hsg hw).2
  have : p = 0 ∨ (p = 1 ∨ p = 2) ∨ p = 3 ∨ p = 4 ∨ p = 5 ∨ p = 6 ∨ p = 7 := by omega
  rcases this with rfl | h12 | rfl | rfl | rfl | rfl | rfl
  · exact fin none x2 _ o2 (fun z e => by cases e) (hit (x_TB rfl) (s_Ret x_C)) rfl
  · obtain ⟨w, x3, o3, b3, e3⟩ := nxN (lim := 12) (j := 0) (τ := τ) hk o2 (by decide) (by decide) rfl x_C
    have hw : ((w : Nat) : Int).natAbs < 2 ^ 205 := by
      rw [Int.natAbs_natCast]
      exact Nat.lt_trans b3 (by decide)
    rcases h12 with rfl | rfl
    · exact fin _ x3 _ o3 (szs _ hw) (sk (x_TB rfl) (hit (x_TB rfl) (mul _ x3 _ hw e3))) rfl
    · exact fin _ x3 _ o3 (szs _ hw) (sk (x_TB rfl) (hit (x_TB rfl) (mul _ x3 _ hw e3))) rfl
  · obtain ⟨w, x3, o3, b3, e3⟩ := nxN (lim := 3) (j := 0) (τ := τ) hk o2 (by decide) (by decide) rfl x_C
    have hw : ((10 : Int) ^ 20 + (w : Nat) - 1).natAbs < 2 ^ 205 := by omega
    exact fin _ x3 _ o3 (szs _ hw) (sk (x_TB rfl) (sk (x_TB rfl) (hit (x_TB rfl) (mul _ x3 _ hw (x_Bin (x_Bin (x_Bin x_C x_C p20) e3 g_add) x_C g_sub))))) rfl
  · obtain ⟨w, x3, o3, b3, e3⟩ := nxN (lim := 3) (j := 0) (τ := τ) hk o2 (by decide) (by decide) rfl x_C
    have hw : ((10 : Int) ^ 40 - 1 - (w : Nat)).natAbs < 2 ^ 205 := by omega
    exact fin _ x3 _ o3 (szs _ hw) (sk (x_TB rfl) (sk (x_TB rfl) (sk (x_TB rfl) (hit (x_TB rfl) (mul _ x3 _ hw (x_Bin (x_Bin (x_Bin x_C x_C p40) x_C g_sub) e3 g_sub)))))) rfl
  · obtain ⟨w, x3, o3, b3, e3⟩ := nxN (lim := 3) (j := 0) (τ := τ) hk o2 (by decide) (by decide) rfl x_C
    have hw : (5 * (10 : Int) ^ 39 + (w : Nat) - 1).natAbs < 2 ^ 205 := by omega
    exact fin _ x3 _ o3 (szs _ hw) (sk (x_TB rfl) (sk (x_TB rfl) (sk (x_TB rfl) (sk (x_TB rfl) (hit (x_TB rfl) (mul _ x3 _ hw (x_Bin (x_Bin (x_Bin x_C (x_Bin x_C x_C p39) (g_mul (by decide))) e3 g_add) x_C g_sub))))))) rfl
  · obtain ⟨w1, x3, o3, b3, c3, e3⟩ := nx_ (lim := 10 ^ 40) (j := 0) (τ := τ) (ml := mBin gPow (mC (.int 10)) (mC (.int 40))) hk o2 (by decide) (by decide) rfl (x_Bin x_C x_C p40)
    obtain ⟨w2, x4, o4, b4, c4, e4⟩ := nx_ (lim := 10 ^ 60) (j := 0) (τ := τ) (ml := mBin gPow (mC (.int 10)) (mC (.int 60))) hk o3 (by decide) (by decide) rfl (x_Bin x_C x_C p60)
    obtain ⟨i, x5, o5, b5, e5⟩ := nxN (lim := 4) (j := 0) (τ := τ) hk o4 (by decide) (by decide) rfl x_C
    obtain ⟨w, hw, ew⟩ : ∃ w : Int, w.natAbs < 2 ^ 205 ∧ [D.int (10 ^ 40), .int (2 * 10 ^ 40), .int (10 ^ 40 + w1), .int w2][i]? = some (.int w) := by
      rcases (show i = 0 ∨ i = 1 ∨ i = 2 ∨ i = 3 by omega) with rfl | rfl | rfl | rfl
      · exact ⟨10 ^ 40, by decide, rfl⟩
      · exact ⟨2 * 10 ^ 40, by decide, rfl⟩
      · exact ⟨10 ^ 40 + w1, by omega, rfl⟩
      · exact ⟨w2, by omega, rfl⟩
    exact fin _ x5 _ o5 (szs _ hw) (sk (x_TB rfl) (sk (x_TB rfl) (sk (x_TB rfl) (sk (x_TB rfl) (sk (x_TB rfl) (hit (x_TB rfl) (mul _ x5 _ hw (x_Bin (a := .d (.lst [D.int (10 ^ 40), .int (2 * 10 ^ 40), .int (10 ^ 40 + w1), .int w2])) (x_Lst (x_cons (x_Bin x_C x_C p40) (x_cons (x_Bin x_C (x_Bin x_C x_C p40) (g_mul (by decide))) (x_cons (x_Bin (x_Bin x_C x_C p40) e3 g_add) (x_cons e4 x_nil)))) (x_mkL rfl (show 4 ≤ 16777216 by decide))) e5 (g_getld (ix_nat b5) ew))))))))) rfl
  · obtain ⟨i, x3, o3, b3, e3⟩ := nxN (lim := 3) (j := 0) (τ := τ) hk o2 (by decide) (by decide) rfl x_C
    obtain ⟨l, hl0, hl, el⟩ : ∃ l : Int, 0 < l ∧ l.natAbs < 2 ^ 200 ∧ [D.int (10 ^ 6), .int (10 ^ 21), .int (10 ^ 40)][i]? = some (.int l) := by
      rcases (show i = 0 ∨ i = 1 ∨ i = 2 by omega) with rfl | rfl | rfl
      · exact ⟨10 ^ 6, by decide, by decide, rfl⟩
      · exact ⟨10 ^ 21, by decide, by decide, rfl⟩
      · exact ⟨10 ^ 40, by decide, by decide, rfl⟩
    obtain ⟨w, x4, o4, b4, c4, e4⟩ := nx_ (lim := l) (j := 0) (τ := τ) (G := Hs H k x2) (ml := mBin gGet (mLst false (maCons (mBin gPow (mC (.int 10)) (mC (.int 6))) (maCons (mBin gPow (mC (.int 10)) (mC (.int 21))) (maCons (mBin gPow (mC (.int 10)) (mC (.int 40))) maNil)))) (mCall sem__law_next (lenIs 2 (maCons (mVar 0) (maCons (mC (.int 3)) maNil))))) hk o3 hl0 (Nat.lt_of_lt_of_le hl (Nat.pow_le_pow_right (by decide) (by decide))) rfl
      (x_Bin (x_Lst (x_cons (x_Bin x_C x_C p6) (x_cons (x_Bin x_C x_C p21) (x_cons (x_Bin x_C x_C p40) x_nil))) (x_mkL rfl (show 3 ≤ 16777216 by decide))) e3 (g_getld (ix_nat b3) el))
    have hw : w.natAbs < 2 ^ 205 := by omega
    exact fin _ x4 _ o4 (szs _ hw) (sk (x_TB rfl) (sk (x_TB rfl) (sk (x_TB rfl) (sk (x_TB rfl) (sk (x_TB rfl) (sk (x_TB rfl) (mul _ x4 _ hw e4))))))) rfl
end KK

set_option maxHeartbeats 1000000
namespace KK
open PySem PySem.Spec PyProof.Rows L2 Tq
/-! _law_string -/
def TxO (v : Option Str) : Prop := ∀ s, v = some s → PyData.strOk s = true ∧ s.length ≤ 3000
theorem g_rep {z : Str} {n : Nat} {H : Hq} (h : z.length * n ≤ 16777216) (h2 : n < 2 ^ 60) : gRep (.d (.str z)) (.d (.int (n : Nat))) H = some (.ok (.d (.str (repS z n))) H) := by
  unfold gRep
  dsimp only
  rw [Int.toNat_natCast, if_pos ⟨h, by omega, by omega⟩]
theorem string_ok {H : Hq} {k : Nat} {x : Nx} (hk : k < H.length) (hx : x.ok) : ∃ (v : Option Str) (x' : Nx), Nx.ok x' ∧ TxO v ∧ sem__law_string [.r k] (Hs H k x) = some (.ok (.d (oS v)) (Hs H k x')) := by
  obtain ⟨p, x1, o1, b1, e1⟩ := nxN (lim := 6) (j := 0) (τ := [some (.r k), none, none, none]) hk hx (by decide) (by decide) rfl x_C
  let τ : Option A → Sl := fun t => [some (.r k), some (.d (.int (p : Nat))), t, none]
  have t : ∀ (j : Nat) (u : Option A) (G : Hq), mTB (mBin (gEq false) (mVar 1) (mC (.int (j : Nat)))) (τ u) G = some (.ok (decide (p = j)) G) := fun j u G => x_TB ((x_Bin (x_Var rfl) x_C g_eqi).trans (by
    rw [show decide (((p : Nat) : Int) = (j : Nat)) = decide (p = j) from by rw [decide_eq_decide]; omega]))
  by_cases h0 : p = 0
  · refine ⟨none, x1, o1, (fun s e => by cases e), x_run (τ := [some (.r k), none, none, none]) rfl (.s (.n (.n (.n .z)))) ?_⟩
    unfold b__law_string
    exact s_Seq (τ1 := τ none) (s_Set e1 rfl) (hit ((t 0 none _).trans (by rw [decide_eq_true h0])) (s_Ret x_C))
  · obtain ⟨n, x2, o2, b2, e2⟩ := nxN (lim := 4) (j := 0) (τ := τ none) hk o1 (by decide) (by decide) rfl x_C
    obtain ⟨vs, x3, o3, lv, pv, e3⟩ := lc_draw (B := H) (k := k) (P := fun (_ : Nat) v => ∃ s, v = D.str s ∧ Sg s) (xs := List.range n) (x := x2) (mi := mRange1 (mCall sem__law_next (lenIs 2 (maCons (mVar 0) (maCons (mC (.int 4)) maNil))))) (gg := mgName 3) (me := E1__law_string) (sl := [3]) (τ := τ none) (h := Hs H k x1) iD o2 (x_Rg (q := n) e2 (show _ ≤ 16777216 by omega)) (by rw [List.length_range]; omega) (fun j a y ea oy => by
      obtain ⟨v, y', oy', bv, ev⟩ := nxN (H := H) (k := k) (lim := 95) (j := 0) (τ := [some (.r k), some (.d (.int (p : Nat))), none, some (iD a)]) hk oy (by decide) (by decide) rfl x_C
      obtain ⟨s, hs, gs⟩ := char_ok bv
      refine ⟨_, rfl, .str s, y', oy', ⟨s, rfl, hs⟩, ?_⟩
      unfold E1__law_string
      exact x_F1 gs ev)
    rw [List.length_range] at lv
    obtain ⟨ys, rfl, hys⟩ := strs_of (vs := vs) fun v hv => by
      obtain ⟨i, hi, rfl⟩ := List.mem_iff_getElem.mp hv
      obtain ⟨u, e4, h4⟩ := pv i i (List.getElem?_range (by omega))
      rw [List.getElem?_eq_getElem hi] at e4
      cases e4
      exact h4
    rw [List.length_map] at lv
    obtain ⟨j1, j2⟩ := join_txt hys (by omega)
    have ej : mM1 tokS gJoin (mC (.str "")) C1__law_string (τ none) (Hs H k x1) = some (.ok (.d (.str (Txt.join "" ys))) (Hs H k x3)) := by
      refine x_M1 x_C rfl (b := .d (.lst (ys.map D.str))) (h2 := Hs H k x3) e3 ?_
      unfold gJoin lstOf tupOf
      dsimp only
      rw [strsA_map]
      dsimp only
      rw [if_pos]
      have : (ys.map (·.length)).sum ≤ 3 := by
        have : ∀ ys : List Str, (∀ s ∈ ys, Sg s) → (ys.map (·.length)).sum = ys.length := by
          intro ys
          induction ys with
          | nil => intro _; rfl
          | cons a r ih => intro h; rw [List.map_cons, List.sum_cons, ih fun s hs => h s (List.mem_cons_of_mem _ hs), (h a (List.mem_cons_self ..)).l, List.length_cons]; omega
        rw [this ys hys]; omega
      show _ + ys.length * 0 ≤ 16777216
      omega
    generalize hJ : Txt.join "" ys = J at *
    have s2 : b__law_string [some (.r k), none, none, none] (Hs H k x) = (mSeq (mIf (mTB (mBin (gEq false) (mVar 1) (mC (.int 1)))) (mRet (mBin (gAdd false) (mVar 2) (mBin gRep (mC (.str "ab")) (mC (.int 500))))) mNx)
 (mSeq (mIf (mTB (mBin (gEq false) (mVar 1) (mC (.int 2)))) (mRet (mBin gRep (mC (.str "y")) (mBin (gAdd false) (mC (.int 990)) (mCall sem__law_next (lenIs 2 (maCons (mVar 0) (maCons (mC (.int 1011)) maNil))))))) mNx)
 (mRet (mVar 2)))) (τ (some (.d (.str J)))) (Hs H k x3) := by
      unfold b__law_string
      exact s_Seq (τ1 := τ none) (s_Set e1 rfl) (sk ((t 0 none _).trans (by rw [decide_eq_false h0])) (s_Seq (τ1 := τ (some (.d (.str J)))) (s_Set ej rfl) rfl))
    have fin : ∀ (v : Option Str) (x' : Nx), x'.ok → TxO v → (mSeq (mIf (mTB (mBin (gEq false) (mVar 1) (mC (.int 1)))) (mRet (mBin (gAdd false) (mVar 2) (mBin gRep (mC (.str "ab")) (mC (.int 500))))) mNx)
 (mSeq (mIf (mTB (mBin (gEq false) (mVar 1) (mC (.int 2)))) (mRet (mBin gRep (mC (.str "y")) (mBin (gAdd false) (mC (.int 990)) (mCall sem__law_next (lenIs 2 (maCons (mVar 0) (maCons (mC (.int 1011)) maNil))))))) mNx)
 (mRet (mVar 2)))) (τ (some (.d (.str J)))) (Hs H k x3) = some (.rt (.d (oS v)) (Hs H k x')) → ∃ (v : Option Str) (x' : Nx), Nx.ok x' ∧ TxO v ∧ sem__law_string [.r k] (Hs H k x) = some (.ok (.d (oS v)) (Hs H k x')) := fun v x' h1 h2 h3 => ⟨v, x', h1, h2, x_run (τ := [some (.r k), none, none, none]) rfl (.s (.n (.n (.n .z)))) (s2.trans h3)⟩
    by_cases h1 : p = 1
    · have e500 : mBin gRep (mC (.str "ab")) (mC (.int 500)) (τ (some (.d (.str J)))) (Hs H k x3) = some (.ok (.d (.str (repS "ab" 500))) (Hs H k x3)) := x_Bin x_C x_C (g_rep (n := 500) (by decide +kernel) (by decide))
      have l500 : (repS "ab" 500).length = 500 * 2 := repS_len "ab" 500
      have o500 : PyData.strOk (repS "ab" 500) = true := repS_ok (by decide +kernel) 500
      generalize repS "ab" 500 = S at *
      have lS : (J ++ S).length ≤ 3000 := by rw [len_app, l500]; omega
      refine fin (some (J ++ S)) x3 o3 (fun s e => ?_) (hit ((t 1 _ _).trans (by rw [decide_eq_true h1])) (s_Ret (x_Bin (x_Var rfl) e500 (g_cats ?_))))
      · cases e
        exact ⟨strOk_app j1 o500, lS⟩
      · rw [l500]; show _ ≤ 16777216; omega
    · by_cases h2 : p = 2
      · obtain ⟨w, x4, o4, b4, e4⟩ := nxN (lim := 1011) (j := 0) (τ := τ (some (.d (.str J)))) hk o3 (by decide) (by decide) rfl x_C
        have lr : (repS "y" (990 + w)).length = (990 + w) * 1 := repS_len "y" (990 + w)
        refine fin (some (repS "y" (990 + w))) x4 o4 (fun s e => ?_) (sk ((t 1 _ _).trans (by rw [decide_eq_false h1])) (hit ((t 2 _ _).trans (by rw [decide_eq_true h2])) (s_Ret (x_Bin x_C (x_Bin x_C e4 g_add) ?_))))
        · cases e
          exact ⟨repS_ok (by decide +kernel) _, by rw [lr]; omega⟩
        · rw [show (990 : Int) + (w : Nat) = ((990 + w : Nat) : Int) by omega]
          exact g_rep (by show 1 * (990 + w) ≤ 16777216; omega) (by omega)
      · exact fin (some J) x3 o3 (fun s e => by cases e; exact ⟨j1, by omega⟩) (sk ((t 1 _ _).trans (by rw [decide_eq_false h1])) (sk ((t 2 _ _).trans (by rw [decide_eq_false h2])) (s_Ret (x_Var rfl))))
end KK

set_option maxHeartbeats 1000000
namespace KK
open PySem PySem.Spec PyProof.Rows L2 Tq
/-! asked of the engine -/
abbrev ccD : D := .tup [.str "column", .non, .str "c"]
abbrev cdD : D := .tup [.str "column", .non, .str "d"]
def itO (o : Str) : D := .tup [.tup [.str "binary", .str o, ccD, cdD], .non]
def opsL : List Str := ["+", "-", "*", "/", "mod"]
def itsL : List D := opsL.map itO ++ [.tup [.tup [.str "negate", ccD], .non], .tup [.tup [.str "binary", .str "/", ccD, .tup [.str "literal", .int 1]], .non]]
def vsL (a b : Option Int) : List D := [oI (arV 0 a b), oI (arV 1 a b), oI (arV 2 a b), oI (arV 3 a b), oI (arV 4 a b), oI (arV 1 (some 0) a), oI (arV 3 a (some 1))]
def rwL (s : Str) (a b : Option Int) : D := .tup [.str s, oI a, oI b]
def cs30 : List (Str × Str) := [("s0_t", "id"), ("s0_t", "c"), ("s0_t", "d")]
theorem comb_ar {o : Nat} (ho : o < 5) {a b r : D} (g : Gv sem_arithmetic [.str (aS o), a, b] r) : Gv sem_combined [.str (aS o), a, b] r := by
  refine gv_d (τ := [some (.d (.str (aS o))), some (.d a), some (.d b)]) (h1 := []) rfl (.s (.s (.s .z))) ?_
  unfold b_combined
  have : o = 0 ∨ o = 1 ∨ o = 2 ∨ o = 3 ∨ o = 4 := by omega
  rcases this with rfl | rfl | rfl | rfl | rfl <;> exact sk (x_TB (by with_unfolding_all rfl)) (sk (x_TB (by with_unfolding_all rfl)) (sk (x_TB (by with_unfolding_all rfl)) (s_Ret (x_F3 g (x_Var rfl) (x_Var rfl) (x_Var rfl)))))
theorem cs30_ok : ∀ c ∈ cs30, colOk c := by
  intro c hc
  simp only [cs30, List.mem_cons, List.not_mem_nil, or_false] at hc
  rcases hc with rfl | rfl | rfl <;> exact ⟨by decide +kernel, by decide +kernel⟩
section
variable {a b : Option Int} {s : Str} {w : D} {n : Nat}
theorem colc : Gv (sem_value_of (n + 1)) [ccD, frD (csD cs30) (rwL s a b) .non .non, w] (oI a) := by
  have g := named_ok (cs := cs30) (src := none) (nm := "c") cs30_ok (by decide +kernel) (fun s e => by cases e) (by decide)
  rw [show namedL none "c" 0 cs30 = [1] from by decide +kernel] at g
  have g := locate_own (row := .tup [.str s, oI a, oI b]) (mem := .non) (out := .non) g
  unfold rwL
  generalize csD cs30 = C at *
  exact v_col (rs := [.str s, oI a, oI b]) g (show [D.str s, oI a, oI b][1]? = some (oI a) from rfl)
theorem cold : Gv (sem_value_of (n + 1)) [cdD, frD (csD cs30) (rwL s a b) .non .non, w] (oI b) := by
  have g := named_ok (cs := cs30) (src := none) (nm := "d") cs30_ok (by decide +kernel) (fun s e => by cases e) (by decide)
  rw [show namedL none "d" 0 cs30 = [2] from by decide +kernel] at g
  have g := locate_own (row := .tup [.str s, oI a, oI b]) (mem := .non) (out := .non) g
  unfold rwL
  generalize csD cs30 = C at *
  exact v_col (rs := [.str s, oI a, oI b]) g (show [D.str s, oI a, oI b][2]? = some (oI b) from rfl)
theorem sz0 : SzO (some 0) := fun z e => by cases e; unfold Sz; decide
theorem sz1 : SzO (some 1) := fun z e => by cases e; unfold Sz; decide
theorem made_30 (ha : SzO a) (hb : SzO b) : Gv (sem_made_row (n + 3)) [.tup itsL, frD (csD cs30) (rwL s a b) .non .non, w] (.tup (vsL a b)) := by
  refine made_z rfl (fun j i v e1 e2 => ?_) (by decide)
  have hj : j < 7 := (List.getElem?_eq_some_iff.mp e2).1
  have : j = 0 ∨ j = 1 ∨ j = 2 ∨ j = 3 ∨ j = 4 ∨ j = 5 ∨ j = 6 := by omega
  rcases this with rfl | rfl | rfl | rfl | rfl | rfl | rfl <;> (obtain rfl := Option.some.inj e1; obtain rfl := Option.some.inj e2)
  · exact ⟨_, _, rfl, v_bin colc cold (comb_ar (o := 0) (by decide) (ar_ok (by decide) ha hb))⟩
  · exact ⟨_, _, rfl, v_bin colc cold (comb_ar (o := 1) (by decide) (ar_ok (by decide) ha hb))⟩
  · exact ⟨_, _, rfl, v_bin colc cold (comb_ar (o := 2) (by decide) (ar_ok (by decide) ha hb))⟩
  · exact ⟨_, _, rfl, v_bin colc cold (comb_ar (o := 3) (by decide) (ar_ok (by decide) ha hb))⟩
  · exact ⟨_, _, rfl, v_bin colc cold (comb_ar (o := 4) (by decide) (ar_ok (by decide) ha hb))⟩
  · exact ⟨_, _, rfl, v_neg colc (ar_ok (o := 1) (by decide) sz0 ha)⟩
  · exact ⟨_, _, rfl, v_bin colc v_lit (comb_ar (o := 3) (by decide) (ar_ok (by decide) ha sz1))⟩
end
theorem its_mem {i : D} (h : i ∈ itsL) : i = itO "+" ∨ i = itO "-" ∨ i = itO "*" ∨ i = itO "/" ∨ i = itO "mod" ∨ i = .tup [.tup [.str "negate", ccD], .non] ∨ i = .tup [.tup [.str "binary", .str "/", ccD, .tup [.str "literal", .int 1]], .non] := by
  simpa [itsL, opsL] using h
abbrev sel30 : D := .tup [.str "select", .bl false, .tup itsL, .tup [.str "table", .str "s0_t", .non], .non, .non, .non]
theorem grp_30 : Gv sem_is_grouping [sel30] (.bl false) := grp_its (by decide) fun i h => by
  rcases its_mem h with rfl | rfl | rfl | rfl | rfl | rfl | rfl
  · exact ⟨_, _, rfl, agg_bin agg_col agg_col⟩
  · exact ⟨_, _, rfl, agg_bin agg_col agg_col⟩
  · exact ⟨_, _, rfl, agg_bin agg_col agg_col⟩
  · exact ⟨_, _, rfl, agg_bin agg_col agg_col⟩
  · exact ⟨_, _, rfl, agg_bin agg_col agg_col⟩
  · exact ⟨_, _, rfl, agg_neg agg_col⟩
  · exact ⟨_, _, rfl, agg_bin agg_col agg_lit⟩
theorem nam_30 {i : D} (h : i ∈ itsL) : Gv sem_item_name [i] (.str "") := by
  rcases its_mem h with rfl | rfl | rfl | rfl | rfl | rfl | rfl <;> exact name_oth (by decide +kernel) (by decide +kernel)
def cell (r : D) (j : Nat) : D := match r with | .tup xs => xs.getD j .non | _ => .non
def oi : D → Option Int | .int z => some z | _ => none
theorem oi_oI (a : Option Int) : oi (oI a) = a := by cases a <;> rfl
def f30 (x : FrT) : D := .tup (vsL (oi (cell x.1 1)) (oi (cell x.1 2)))
theorem f30_ok {s : Str} {a b : Option Int} : f30 (rwL s a b, .non) = .tup (vsL a b) := by
  show D.tup (vsL (oi (oI a)) (oi (oI b))) = _
  rw [oi_oI, oi_oI]
def rows30 (a b : Option Int) : List D := [rwL "0.1.0" a b, rwL "0.2.0" b a]
def src30 (a b : Option Int) : D := .nd (.dic [.inr "s0_t"]) [soD (.str "s0_t") (.lst (([("id" : Str), "c", "d"] : List Str).map D.str)) (.lst [.str "text", .str "integer", .str "integer"]) (.lst (rows30 a b))]
theorem query_30 {a b : Option Int} (ha : SzO a) (hb : SzO b) : Gv sem_query_rows [sel30, src30 a b, .lst []] (.lst [.tup (vsL a b), .tup (vsL b a)]) := by
  have hs : Gv (sem_source_result 18) [.tup [.str "table", .str "s0_t", .non], .non, woD (src30 a b) (.lst [])] (.tup [csD cs30, .lst (rows30 a b)]) :=
    source_table (cols := [("id" : Str), "c", "d"]) (kn := "s0_t") known_none (fun h => by with_unfolding_all rfl) (by decide) (by show 2 ≤ 16777216; decide)
  let fs : List FrT := (rows30 a b).map fun r => (r, D.non)
  have := select_ok (n := 18) (w := woD (src30 a b) (.lst [])) (out := .non) (dist := .bl false) (its := .tup itsL) (wh := .non) (grp := .non) (hav := .non) (rs := rows30 a b) (cs := cs30) (fs1 := fs) (fs2 := fs) (fs3 := fs) (names := itsL.map fun _ => .str "") (made := [.tup (vsL a b), .tup (vsL b a)]) (res := [.tup (vsL a b), .tup (vsL b a)]) (g := false) (fun e => D.noConfusion e) hs kept_non grp_30 (fun _ => rfl) (fun h => by cases h) kept_non
    (.inr ⟨itsL, f30, fun _ => .str "", rfl, by decide, rfl, by show _ = [f30 (rwL "0.1.0" a b, .non), f30 (rwL "0.2.0" b a, .non)]; rw [f30_ok, f30_ok], fun i h => nam_30 h, fun x hx => by
      have hx : x = (rwL "0.1.0" a b, .non) ∨ x = (rwL "0.2.0" b a, .non) := by simpa [fs, rows30] using hx
      rcases hx with rfl | rfl
      · rw [f30_ok]; exact made_30 ha hb
      · rw [f30_ok]; exact made_30 hb ha⟩) (.inl ⟨rfl, rfl⟩) (by decide) (show 2 ≤ 16777216 by decide) (show 2 ≤ 16777216 by decide) (show 2 ≤ 16777216 by decide)
  exact query_ok (result_sel this)
end KK

set_option maxHeartbeats 1000000
namespace KK
open PySem PySem.Spec PyProof.Rows L2 Tq
abbrev S10 (a b : D) (x2 x3 x4 x5 x6 x7 x8 x9 : Option A) : Sl := [some (.d a), some (.d b), x2, x3, x4, x5, x6, x7, x8, x9]
theorem ar3_one (a : Option Int) : arV 3 a (some 1) = a.bind bnd := by
  cases a with
  | none => rfl
  | some z =>
    show bnd (quo z 1) = bnd z
    rw [quo_one]
theorem sm_vs {a b : Option Int} : Sm 7 (.tup (vsL a b)) := .tup (fun d hd => by
  simp only [vsL, List.mem_cons, List.not_mem_nil, or_false] at hd
  rcases hd with rfl | rfl | rfl | rfl | rfl | rfl | rfl <;> exact sm_fok (fok_oI _)) (show 7 ≤ 16777216 by decide)
section
variable {a b : Option Int} {τ : Sl} {H : Hq}
/-- total -/
theorem tot_ok {d : D} {x2 x3 x4 x5 x6 x7 x9 : Option A} {y : D} (j : Nat) (hj : S10 d y x2 x3 x4 x5 x6 x7 (some (.d .non)) x9 = τ) (ej : τ[j]? = some (some (.d (oI a)))) : mIf (mTB (mBin (gIs true) (mVar j) (mC .non))) (mSet 8 (mCallP sem__law_bounded (lenIs 1 (maCons (mVar j) maNil)))) mNx τ H = some (.nx (S10 d y x2 x3 x4 x5 x6 x7 (some (.d (oI (arV 3 a (some 1))))) x9) H) := by
  subst hj
  rw [ar3_one]
  cases a with
  | none => exact s_IfF (x_TB (x_Bin (x_Var ej) x_C g_isnn1)) rfl s_Nx
  | some z => exact s_IfT (x_TB (x_Bin (x_Var ej) x_C (g_isn true rfl))) rfl (s_Set (x_F1 (lbounded_ok z) (x_Var ej)) rfl)
/-- a row of what is due -/
theorem row_ok (ha : SzO a) (hb : SzO b) (i j : Nat) (ei : τ[i]? = some (some (.d (oI a)))) (ej : τ[j]? = some (some (.d (oI b)))) (e8 : τ[8]? = some (some (.d (oI (arV 3 a (some 1)))))) : mUn gTupOf (mBin (gAdd false) (mCallP sem__law_due (lenIs 2 (maCons (mVar i) (maCons (mVar j) maNil)))) (mLst false (maCons (mBin gGet (mCallP sem__law_due (lenIs 2 (maCons (mC (.int 0)) (maCons (mVar i) maNil)))) (mC (.int 1))) (maCons (mVar 8) maNil)))) τ H = some (.ok (.d (.tup (vsL a b))) H) :=
  x_Un (x_Bin (x_F2 (due_ok ha hb) (x_Var ei) (x_Var ej)) (x_Lst (x_cons (x_getl (x_F2 (due_ok (a := some 0) sz0 ha) x_C (x_Var ei)) x_C (n := 1) rfl rfl) (x_cons (x_Var e8) x_nil)) (x_mkL rfl (show 2 ≤ 16777216 by decide))) (g_cat (x_mkL rfl (show 7 ≤ 16777216 by decide)))) (g_tupl (show 7 ≤ 16777216 by decide))
end
theorem asked_ok {a b : Option Int} (ha : SzO a) (hb : SzO b) : Gv sem__law_asked [oI a, oI b] (.bl true) := by
  let T := S10 (oI a) (oI b)
  let C : Option A := some (.d (.lst [ccD, cdD]))
  let I1 : D := .lst (opsL.map itO)
  let H1 : Hq := [.nd (.dic [.inr "s0_t"]) [.d (soD (.str "s0_t") (.lst (([("id" : Str), "c", "d"] : List Str).map D.str)) (.lst [.str "text", .str "integer", .str "integer"]) (.lst (rows30 a b)))]]
  let H2 : Hq := H1 ++ [.lst [.d (.tup (vsL a b))]]
  let H3 : Hq := H1 ++ [.lst [.d (.tup (vsL a b)), .d (.tup (vsL b a))]]
  let H4 : Hq := [.dead, .lst [.d (.tup (vsL a b)), .d (.tup (vsL b a))]]
  let R : Option A := some (.d (.lst (rows30 a b)))
  let Z : Option A := some (.d sel30)
  let I2 : Option A := some (.d (.lst itsL))
  refine gv_d (τ := T none none none none none none none none) (h1 := H4) rfl (.s (.s (.n (.n (.n (.n (.n (.n (.n (.n .z)))))))))) ?_
  unfold b__law_asked
  refine s_Seq (τ1 := T C none none none none none none none) (h1 := []) (s_Set (x_Lst (x_cons (x_Tup (x_cons x_C (x_cons x_C (x_cons x_C x_nil))) (x_mkT rfl (show 3 ≤ 16777216 by decide))) (x_cons (x_Tup (x_cons x_C (x_cons x_C (x_cons x_C x_nil))) (x_mkT rfl (show 3 ≤ 16777216 by decide))) x_nil)) (x_mkL rfl (show 2 ≤ 16777216 by decide))) rfl) ?_
  refine s_Seq (τ1 := T C (some (.d I1)) none none none none none none) (h1 := []) (s_Set ?_ rfl) ?_
  · unfold C1__law_asked
    rw [lc_map (h1 := []) (xs := opsL) (fun o => A.d (.str o)) (fun o => A.d (itO o)) (x_It (xs := opsL.map D.str) (x_Lst (x_cons x_C (x_cons x_C (x_cons x_C (x_cons x_C (x_cons x_C x_nil))))) (x_mkL rfl (show 5 ≤ 16777216 by decide)))) (by decide) fun j o e => ⟨T C none (some (.d (.str o))) none none none none none, rfl, by
      unfold E1__law_asked
      exact x_Tup (x_cons (x_Tup (x_cons x_C (x_cons (x_Var rfl) (x_cons (x_getl (x_Var rfl) x_C (n := 0) rfl rfl) (x_cons (x_getl (x_Var rfl) x_C (n := 1) rfl rfl) x_nil)))) (x_mkT rfl (show 4 ≤ 16777216 by decide))) (x_cons x_C x_nil)) (x_mkT rfl (show 2 ≤ 16777216 by decide))⟩]
    exact x_mkL (allD_mapf itO opsL) (by decide)
  refine s_Seq (τ1 := T C I2 none none none none none none) (h1 := []) (s_Set (x_Bin (x_Var rfl) (x_Lst (x_cons (x_Tup (x_cons (x_Tup (x_cons x_C (x_cons (x_getl (x_Var rfl) x_C (n := 0) rfl rfl) x_nil)) (x_mkT rfl (show 2 ≤ 16777216 by decide))) (x_cons x_C x_nil)) (x_mkT rfl (show 2 ≤ 16777216 by decide))) (x_cons (x_Tup (x_cons (x_Tup (x_cons x_C (x_cons x_C (x_cons (x_getl (x_Var rfl) x_C (n := 0) rfl rfl) (x_cons (x_Tup (x_cons x_C (x_cons x_C x_nil)) (x_mkT rfl (show 2 ≤ 16777216 by decide))) x_nil)))) (x_mkT rfl (show 4 ≤ 16777216 by decide))) (x_cons x_C x_nil)) (x_mkT rfl (show 2 ≤ 16777216 by decide))) x_nil)) (x_mkL rfl (show 2 ≤ 16777216 by decide))) (g_cat (x_mkL (allD_map _) (by decide)))) rfl) ?_
  refine s_Seq (τ1 := T C I2 none Z none none none none) (h1 := []) (s_Set (x_Tup (x_cons x_C (x_cons x_C (x_cons (x_Un (x_Var rfl) (g_tupl (by decide))) (x_cons (x_Tup (x_cons x_C (x_cons x_C (x_cons x_C x_nil))) (x_mkT rfl (show 3 ≤ 16777216 by decide))) (x_cons x_C (x_cons x_C (x_cons x_C x_nil))))))) (x_mkT rfl (show 7 ≤ 16777216 by decide))) rfl) ?_
  refine s_Seq (τ1 := T C I2 none Z R none none none) (h1 := []) (s_Set (x_Lst (x_cons (x_Tup (x_cons x_C (x_cons (x_Var rfl) (x_cons (x_Var rfl) x_nil))) (x_mkT rfl (show 3 ≤ 16777216 by decide))) (x_cons (x_Tup (x_cons x_C (x_cons (x_Var rfl) (x_cons (x_Var rfl) x_nil))) (x_mkT rfl (show 3 ≤ 16777216 by decide))) x_nil)) (x_mkL rfl (show 2 ≤ 16777216 by decide))) rfl) ?_
  refine s_Seq (τ1 := T C I2 none Z R (some (.r 0)) none none) (h1 := H1) (s_Set ?_ rfl) ?_
  · exact x_Dict (xp_cons (x_Source (nm := .str "s0_t") (cs := ([("id" : Str), "c", "d"] : List Str).map D.str) (ks := [.str "text", .str "integer", .str "integer"]) (rs := rows30 a b) (h1 := []) (h2 := []) (h3 := []) (h4 := []) (by decide) (show 3 ≤ 16777216 by decide) (show 2 ≤ 16777216 by decide) x_C (x_Lst (x_cons x_C (x_cons x_C (x_cons x_C x_nil))) (x_mkL rfl (show 3 ≤ 16777216 by decide))) (x_Lst (x_cons x_C (x_cons x_C (x_cons x_C x_nil))) (x_mkL rfl (show 3 ≤ 16777216 by decide))) (x_Var rfl)) xp_nil) rfl
  refine s_Seq (τ1 := T C I2 none Z R (some (.r 0)) (some (.d .non)) none) (h1 := H1) (s_Set x_C rfl) ?_
  refine s_Seq (tot_ok (a := a) 0 rfl rfl) ?_
  refine s_Seq (τ1 := T C I2 none Z R (some (.r 0)) (some (.d (oI (arV 3 a (some 1))))) (some (.r 1))) (h1 := H2) (s_Set (x_Lst (x_cons (row_ok ha hb 0 1 rfl rfl rfl) x_nil) (x_mkC1 (show 1 ≤ 16777216 by decide))) rfl) ?_
  refine s_Seq (τ1 := T C I2 none Z R (some (.r 0)) (some (.d .non)) (some (.r 1))) (h1 := H2) (s_Set x_C rfl) ?_
  refine s_Seq (tot_ok (a := b) 1 rfl rfl) ?_
  refine s_Seq (τ1 := T C I2 none Z R (some (.r 0)) (some (.d (oI (arV 3 b (some 1))))) (some (.r 1))) (h1 := H3) (s_Drop (x_M1 (x_Var rfl) (tokL_r rfl) (row_ok hb ha 1 0 rfl rfl rfl) (g_app rfl (show 1 < 16777216 by decide) rfl))) ?_
  refine s_Seq (τ1 := T C I2 none Z R (some (.d (src30 a b))) (some (.d (oI (arV 3 b (some 1))))) (some (.r 1))) (h1 := H4) (s_Fz (c := .nd (.dic [.inr "s0_t"]) [.d (soD (.str "s0_t") (.lst (([("id" : Str), "c", "d"] : List Str).map D.str)) (.lst [.str "text", .str "integer", .str "integer"]) (.lst (rows30 a b)))]) (d := src30 a b) rfl rfl rfl rfl rfl) (s_Ret ?_)
  exact x_Fv (xs := [.lst [.tup (vsL a b), .tup (vsL b a)], .lst [.tup (vsL a b), .tup (vsL b a)]]) (x_len (x_cons (x_F3 (query_30 ha hb) (x_Var rfl) (x_Var rfl) (x_Lst x_nil (x_mkL rfl (Nat.zero_le _)))) (x_cons (x_Var rfl) x_nil)) rfl) (same_ok (.lst (fun d hd => by
    simp only [List.mem_cons, List.not_mem_nil, or_false] at hd
    rcases hd with rfl | rfl <;> exact sm_vs) (show 2 ≤ 16777216 by decide))) (views_cons view_d (views_cons (view_l rfl rfl) views_nil)) rfl
end KK

set_option maxHeartbeats 1000000
namespace KK
open PySem PySem.Spec PyProof.Rows L2 Tq
/-! the law -/
def catV : Option Str → Option Str → Option Str
  | some l, some r => if l.length + r.length ≤ 2000 then some (l ++ r) else none
  | _, _ => none
theorem cat_ok {l r : Option Str} (hl : TxO l) (hr : TxO r) : Gv sem_arithmetic [.str "||", oS l, oS r] (oS (catV l r)) := by
  cases l with
  | none => cases r <;> exact ar_non (.inl rfl)
  | some l => cases r with
    | none => exact ar_non (.inr rfl)
    | some r =>
      obtain ⟨_, l1⟩ := hl l rfl
      obtain ⟨_, l2⟩ := hr r rfl
      let τ : Option A → Sl := fun j => [some (.d (.str "||")), some (.d (.str l)), some (.d (.str r)), j]
      refine gv_d (τ := τ none) (h1 := []) rfl (.s (.s (.s (.n .z)))) ?_
      unfold b_arithmetic
      refine sk (x_OrT0 (x_TB (x_Bin (x_Var rfl) x_C (g_isn false rfl))) (x_TB (x_Bin (x_Var rfl) x_C (g_isn false rfl)))) (hit (x_TB (by with_unfolding_all rfl)) (s_Seq (τ1 := τ (some (.d (.str (l ++ r))))) (h1 := []) (s_Set (x_Bin (x_Var rfl) (x_Var rfl) (g_cats (by show _ ≤ 16777216; omega))) rfl) ?_))
      have t : mTB (mBin gGt (mUn gLen (mVar 3)) (mC (.int 2000))) (τ (some (.d (.str (l ++ r))))) [] = some (.ok (decide ((2000 : Int) < ((l ++ r).length : Nat))) []) := x_TB (x_Bin (x_Un (r := some (.ok (.d (.int ((l ++ r).length : Nat))) [])) (x_Var rfl) (by
        unfold gLen lenA
        dsimp only
        rw [if_pos (by rw [len_app]; show _ ≤ 16777216; omega)])) x_C g_gt)
      rw [len_app] at t
      by_cases h : l.length + r.length ≤ 2000
      · rw [show catV (some l) (some r) = some (l ++ r) from if_pos h]
        exact sk (t.trans (by rw [decide_eq_false (by omega)])) (s_Ret (x_Var rfl))
      · rw [show catV (some l) (some r) = none from if_neg h]
        exact hit (t.trans (by rw [decide_eq_true (by omega)])) (s_Ret x_C)
abbrev S9 (ns : List Int) (x2 x3 x4 x5 x6 x7 x8 : Option A) : Sl := [some (.d (.scr ns)), some (.r 0), x2, x3, x4, x5, x6, x7, x8]
theorem law_ok {ns : List Int} (hl : ns.length ≤ 63) (hb : ∀ z ∈ ns, Builtin.Int.intBits z ≤ 1048576) : ∃ h', sem_law [.d (.scr ns)] [] = some (.ok (.d (.bl true)) h') := by
  let x0 : Nx := ⟨ns, 0, 0, 1⟩
  have o0 : x0.ok := ⟨Int.le_refl 0, (show (0 : Int) ≤ 1 by decide), (show (1 : Int) < 2147483647 by decide)⟩
  let B : Hq := [.dead]
  obtain ⟨a, x1, o1, ha, e1⟩ := integer_ok (H := B) (k := 0) (by decide) o0
  obtain ⟨b, x2, o2, hb2, e2⟩ := integer_ok (H := B) (k := 0) (by decide) o1
  obtain ⟨l, x3, o3, hl3, e3⟩ := string_ok (H := B) (k := 0) (by decide) o2
  obtain ⟨r, x4, o4, hr4, e4⟩ := string_ok (H := B) (k := 0) (by decide) o3
  let T := S9 ns
  let A2 : Option A := some (.d (oI a))
  let A3 : Option A := some (.d (oI b))
  let DU : D := .lst [oI (arV 0 a b), oI (arV 1 a b), oI (arV 2 a b), oI (arV 3 a b), oI (arV 4 a b)]
  refine ⟨Hs B 0 x4, x_run (τ := [some (.d (.scr ns)), none, none, none, none, none, none, none, none]) rfl (.s (.n (.n (.n (.n (.n (.n (.n (.n .z))))))))) ?_⟩
  unfold b_law
  refine s_Seq (τ1 := T none none none none none none none) (h1 := Hs B 0 x0) (s_Set ?_ rfl) ?_
  · refine (x_Lst (x_cons (a := .d (.lst (ns.map D.int))) (x_Un (x_Var rfl) ?_) (x_cons x_C (x_cons x_C (x_cons x_C x_nil)))) (x_mkC0 (show 4 ≤ 16777216 by decide)))
    show mkL false (ns.map fun i => A.d (.int i)) [] = _
    exact x_mkL (allD_mapf D.int ns) (by rw [List.length_map]; show _ ≤ 16777216; omega)
  refine s_Seq (τ1 := T A2 none none none none none none) (h1 := Hs B 0 x1) (s_Set (x_Call (x_len (x_cons (x_Var rfl) x_nil) rfl) e1) rfl) ?_
  refine s_Seq (τ1 := T A2 A3 none none none none none) (h1 := Hs B 0 x2) (s_Set (x_Call (x_len (x_cons (x_Var rfl) x_nil) rfl) e2) rfl) ?_
  refine s_Seq (τ1 := T A2 A3 (some (.d DU)) none none none none) (h1 := Hs B 0 x2) (s_Set ?_ rfl) ?_
  · unfold C1_law
    rw [lc_map (h1 := Hs B 0 x2) (xs := List.range 5) (fun o => A.d (.str (aS o))) (fun o => A.d (oI (arV o a b))) (x_It (xs := [.str "+", .str "-", .str "*", .str "/", .str "mod"]) (x_Lst (x_cons x_C (x_cons x_C (x_cons x_C (x_cons x_C (x_cons x_C x_nil))))) (x_mkL rfl (show 5 ≤ 16777216 by decide)))) (by decide) fun j o e => ⟨T A2 A3 none (some (.d (.str (aS o)))) none none none, rfl, by
      have ho : o < 5 := List.mem_range.mp (List.mem_of_getElem? e)
      unfold E1_law
      exact x_F3 (ar_ok ho ha hb2) (x_Var rfl) (x_Var rfl) (x_Var rfl)⟩]
    exact x_mkL (ds := [oI (arV 0 a b), oI (arV 1 a b), oI (arV 2 a b), oI (arV 3 a b), oI (arV 4 a b)]) rfl (show 5 ≤ 16777216 by decide)
  have sd : Sm 8 DU := .lst (fun d hd => by
    simp only [List.mem_cons, List.not_mem_nil, or_false] at hd
    rcases hd with rfl | rfl | rfl | rfl | rfl <;> exact sm_fok (fok_oI _)) (show 5 ≤ 16777216 by decide)
  refine sk (h1 := Hs B 0 x2) (x_OrT0 (x_NotT (j := true) (x_Tru (a := .d (.bl true)) (x_F2 (same_ok sd) (x_Var rfl) (x_F2 (due_ok ha hb2) (x_Var rfl) (x_Var rfl))) rfl)) (x_NotT (j := true) (x_Tru (a := .d (.bl true)) (x_F2 (asked_ok ha hb2) (x_Var rfl) (x_Var rfl)) rfl))) ?_
  let A4 : Option A := some (.d DU)
  let A6 : Option A := some (.d (oS l))
  let A7 : Option A := some (.d (oS r))
  refine s_Seq (τ1 := T A2 A3 A4 none A6 none none) (h1 := Hs B 0 x3) (s_Set (x_Call (x_len (x_cons (x_Var rfl) x_nil) rfl) e3) rfl) ?_
  refine s_Seq (τ1 := T A2 A3 A4 none A6 A7 none) (h1 := Hs B 0 x4) (s_Set (x_Call (x_len (x_cons (x_Var rfl) x_nil) rfl) e4) rfl) ?_
  refine s_Seq (τ1 := T A2 A3 A4 none A6 A7 (some (.d .non))) (h1 := Hs B 0 x4) (s_Set x_C rfl) ?_
  refine s_Seq (τ1 := T A2 A3 A4 none A6 A7 (some (.d (oS (catV l r))))) (h1 := Hs B 0 x4) ?_ (s_Ret (x_F2 (same_ok (n := 8) (d := oS (catV l r)) ?_) (x_F3 (cat_ok hl3 hr4) x_C (x_Var rfl) (x_Var rfl)) (x_Var rfl)))
  · cases l with
    | none => exact s_IfF (x_AndT0 (x_TB (x_Bin (x_Var rfl) x_C g_isnn1))) rfl (by cases r <;> rfl)
    | some l => cases r with
      | none => exact s_IfF (x_AndT1 (x_TB (x_Bin (x_Var rfl) x_C (g_isn true rfl))) (x_AndT0 (x_TB (x_Bin (x_Var rfl) x_C g_isnn1)))) rfl rfl
      | some r =>
        obtain ⟨_, l1⟩ := hl3 l rfl
        obtain ⟨_, l2⟩ := hr4 r rfl
        have gl : ∀ (s : Str) (j : Nat), s.length ≤ 3000 → (T A2 A3 A4 none (some (.d (.str l))) (some (.d (.str r))) (some (.d .non)))[j]? = some (some (.d (.str s))) → mUn gLen (mVar j) (T A2 A3 A4 none (some (.d (.str l))) (some (.d (.str r))) (some (.d .non))) (Hs B 0 x4) = some (.ok (.d (.int (s.length : Nat))) (Hs B 0 x4)) := fun s j hs e => x_Un (x_Var e) (by
          unfold gLen lenA
          dsimp only
          rw [if_pos (by show _ ≤ 16777216; omega)])
        have t : mTB (mBin gLe (mBin (gAdd false) (mUn gLen (mVar 6)) (mUn gLen (mVar 7))) (mC (.int 2000))) (T A2 A3 A4 none (some (.d (.str l))) (some (.d (.str r))) (some (.d .non))) (Hs B 0 x4) = some (.ok (decide (((l.length : Nat) : Int) + (r.length : Nat) ≤ 2000)) (Hs B 0 x4)) := x_TB (x_Bin (x_Bin (gl l 6 l1 rfl) (gl r 7 l2 rfl) g_add) x_C g_le)
        by_cases h : l.length + r.length ≤ 2000
        · rw [show catV (some l) (some r) = some (l ++ r) from if_pos h]
          exact s_IfT (x_AndT1 (x_TB (x_Bin (x_Var rfl) x_C (g_isn true rfl))) (x_AndT1 (x_TB (x_Bin (x_Var rfl) x_C (g_isn true rfl))) (t.trans (by rw [decide_eq_true (by omega)])))) rfl (s_Set (x_Bin (x_Var rfl) (x_Var rfl) (g_cats (by show _ ≤ 16777216; omega))) rfl)
        · rw [show catV (some l) (some r) = none from if_neg h]
          exact s_IfF (x_AndT1 (x_TB (x_Bin (x_Var rfl) x_C (g_isn true rfl))) (x_AndT1 (x_TB (x_Bin (x_Var rfl) x_C (g_isn true rfl))) (t.trans (by rw [decide_eq_false (by omega)])))) rfl s_Nx
  · cases l with
    | none => cases r <;> exact .non
    | some l => cases r with
      | none => exact .non
      | some r =>
        show Sm 8 (oS (if _ then _ else _))
        split
        · exact .str (strOk_app (hl3 l rfl).1 (hr4 r rfl).1)
        · exact .non
end KK

open PySem PySem.W PyProof.Rows
set_option maxHeartbeats 0 in
theorem PySem.Challenge.cw_kithwhole_k30_arithmetic_holds : PySem.Challenge.rw_kithwhole_k30_arithmetic.Holds := by
  w_on; o_law; k_head; (case hw => w_witness2)
  k_fill
  refine L2.walk_ofB (l := PySem.Challenge.rw_kithwhole_k30_arithmetic) (n := 63) (k := 35) (x := "script") (CX := fun _ => L2.CX0) (sp := fun w => (fun vs H Q _ => Tq.spQ _ 1 KK.sem_law vs H Q L2.E0)) rfl (by decide) rfl ⟨rfl, by decide, by decide⟩ (fun w h Y => PySem.W.kIn_of Y) ?F (fun _ _ _ ns hl hb _ hS => Tq.sp_law hS (KK.law_ok hl hb)) (fun _ _ _ _ _ h => h)
  case F =>
    intro w mg fa h KX G hmg
    refine' KK.all_mk KX G hmg ?a_World ?pg_World ?hd_World ?po_World ?sa_World ?n_World_sources ?n_World_parameters ?mk_World ?kc_World ?a_Frame ?pg_Frame ?hd_Frame ?po_Frame ?sa_Frame ?n_Frame_columns ?n_Frame_row ?n_Frame_members ?n_Frame_outer ?mk_Frame ?kc_Frame ?a_Source ?pg_Source ?hd_Source ?po_Source ?sa_Source ?n_Source_name ?n_Source_columns ?n_Source_kinds ?n_Source_rows ?mk_Source ?kc_Source ?a0 ?l0 ?c0 ?k0 ?a1 ?l1 ?c1 ?k1 ?a2 ?l2 ?c2 ?k2 ?a3 ?l3 ?c3 ?k3 ?a4 ?l4 ?c4 ?k4 ?a5 ?l5 ?c5 ?k5 ?a6 ?l6 ?c6 ?k6 ?a7 ?l7 ?c7 ?k7 ?a8 ?i8 ?l8 ?c8 ?k8 ?a9 ?l9 ?c9 ?k9 ?a10 ?l10 ?c10 ?k10 ?a11 ?i11 ?l11 ?c11 ?k11 ?a12 ?l12 ?c12 ?k12 ?a13 ?l13 ?c13 ?k13 ?a14 ?l14 ?c14 ?k14 ?a15 ?l15 ?c15 ?k15 ?a16 ?l16 ?c16 ?k16 ?a17 ?l17 ?c17 ?k17 ?a18 ?l18 ?c18 ?k18 ?a19 ?l19 ?c19 ?k19 ?a20 ?l20 ?c20 ?k20 ?a21 ?l21 ?c21 ?k21 ?a22 ?l22 ?c22 ?k22 ?a23 ?l23 ?c23 ?k23 ?a24 ?l24 ?c24 ?k24 ?a25 ?l25 ?c25 ?k25 ?a26 ?l26 ?c26 ?k26 ?a27 ?l27 ?c27 ?k27 ?a28 ?l28 ?c28 ?k28 ?a29 ?l29 ?c29 ?k29 ?a30 ?l30 ?c30 ?k30 ?a31 ?l31 ?c31 ?k31 ?a32 ?l32 ?c32 ?k32 ?a33 ?l33 ?c33 ?k33 ?a34 ?l34 ?c34 ?k34 ?a35 ?l35 ?c35 ?k35 ?a36 ?l36 ?c36 ?k36 ?a37 ?l37 ?c37 ?k37 ?a38 ?i38 ?l38 ?c38 ?k38 ?a39 ?l39 ?c39 ?k39 ?a40 ?l40 ?c40 ?k40 ?a41 ?l41 ?c41 ?k41 ?a42 ?l42 ?c42 ?k42 ?a43 ?l43 ?c43 ?k43 ?y_BOUND ?y_LONGEST_TEXT ?y_COMPARISONS ?yCOMPARISONS_0 ?y_abs ?y_any ?y_bool ?y_enumerate ?y_int ?y_isinstance ?y_len ?y_list ?y_range ?y_sorted ?y_str ?y_sum ?y_tuple
    (case a_World => k_is); (case pg_World => k_is); (case hd_World => k_is); (case po_World => k_is); (case sa_World => k_is); (case n_World_sources => k_is); (case n_World_parameters => k_is); (case mk_World => k_is); (case kc_World => k_is); (case a_Frame => k_is); (case pg_Frame => k_is); (case hd_Frame => k_is); (case po_Frame => k_is); (case sa_Frame => k_is); (case n_Frame_columns => k_is); (case n_Frame_row => k_is); (case n_Frame_members => k_is); (case n_Frame_outer => k_is); (case mk_Frame => k_is); (case kc_Frame => k_is); (case a_Source => k_is); (case pg_Source => k_is); (case hd_Source => k_is); (case po_Source => k_is); (case sa_Source => k_is); (case n_Source_name => k_is); (case n_Source_columns => k_is); (case n_Source_kinds => k_is); (case n_Source_rows => k_is); (case mk_Source => k_is); (case kc_Source => k_is); (case a0 => k_is); (case l0 => k_is); (case c0 => k_is); (case k0 => k_is); (case a1 => k_is); (case l1 => k_is); (case c1 => k_is); (case k1 => k_is); (case a2 => k_is); (case l2 => k_is); (case c2 => k_is); (case k2 => k_is); (case a3 => k_is); (case l3 => k_is); (case c3 => k_is); (case k3 => k_is); (case a4 => k_is); (case l4 => k_is); (case c4 => k_is); (case k4 => k_is); (case a5 => k_is); (case l5 => k_is); (case c5 => k_is); (case k5 => k_is); (case a6 => k_is); (case l6 => k_is); (case c6 => k_is); (case k6 => k_is); (case a7 => k_is); (case l7 => k_is); (case c7 => k_is); (case k7 => k_is); (case a8 => k_is); (case i8 => k_is); (case l8 => k_is); (case c8 => k_is); (case k8 => k_is); (case a9 => k_is); (case l9 => k_is); (case c9 => k_is); (case k9 => k_is); (case a10 => k_is); (case l10 => k_is); (case c10 => k_is); (case k10 => k_is); (case a11 => k_is); (case i11 => k_is); (case l11 => k_is); (case c11 => k_is); (case k11 => k_is); (case a12 => k_is); (case l12 => k_is); (case c12 => k_is); (case k12 => k_is); (case a13 => k_is); (case l13 => k_is); (case c13 => k_is); (case k13 => k_is); (case a14 => k_is); (case l14 => k_is); (case c14 => k_is); (case k14 => k_is); (case a15 => k_is); (case l15 => k_is); (case c15 => k_is); (case k15 => k_is); (case a16 => k_is); (case l16 => k_is); (case c16 => k_is); (case k16 => k_is); (case a17 => k_is); (case l17 => k_is); (case c17 => k_is); (case k17 => k_is); (case a18 => k_is); (case l18 => k_is); (case c18 => k_is); (case k18 => k_is); (case a19 => k_is); (case l19 => k_is); (case c19 => k_is); (case k19 => k_is); (case a20 => k_is); (case l20 => k_is); (case c20 => k_is); (case k20 => k_is); (case a21 => k_is); (case l21 => k_is); (case c21 => k_is); (case k21 => k_is); (case a22 => k_is); (case l22 => k_is); (case c22 => k_is); (case k22 => k_is); (case a23 => k_is); (case l23 => k_is); (case c23 => k_is); (case k23 => k_is); (case a24 => k_is); (case l24 => k_is); (case c24 => k_is); (case k24 => k_is); (case a25 => k_is); (case l25 => k_is); (case c25 => k_is); (case k25 => k_is); (case a26 => k_is); (case l26 => k_is); (case c26 => k_is); (case k26 => k_is); (case a27 => k_is); (case l27 => k_is); (case c27 => k_is); (case k27 => k_is); (case a28 => k_is); (case l28 => k_is); (case c28 => k_is); (case k28 => k_is); (case a29 => k_is); (case l29 => k_is); (case c29 => k_is); (case k29 => k_is); (case a30 => k_is); (case l30 => k_is); (case c30 => k_is); (case k30 => k_is); (case a31 => k_is); (case l31 => k_is); (case c31 => k_is); (case k31 => k_is); (case a32 => k_is); (case l32 => k_is); (case c32 => k_is); (case k32 => k_is); (case a33 => k_is); (case l33 => k_is); (case c33 => k_is); (case k33 => k_is); (case a34 => k_is); (case l34 => k_is); (case c34 => k_is); (case k34 => k_is); (case a35 => k_is); (case l35 => k_is); (case c35 => k_is); (case k35 => k_is); (case a36 => k_is); (case l36 => k_is); (case c36 => k_is); (case k36 => k_is); (case a37 => k_is); (case l37 => k_is); (case c37 => k_is); (case k37 => k_is); (case a38 => k_is); (case i38 => k_is); (case l38 => k_is); (case c38 => k_is); (case k38 => k_is); (case a39 => k_is); (case l39 => k_is); (case c39 => k_is); (case k39 => k_is); (case a40 => k_is); (case l40 => k_is); (case c40 => k_is); (case k40 => k_is); (case a41 => k_is); (case l41 => k_is); (case c41 => k_is); (case k41 => k_is); (case a42 => k_is); (case l42 => k_is); (case c42 => k_is); (case k42 => k_is); (case a43 => k_is); (case l43 => k_is); (case c43 => k_is); (case k43 => k_is); (case y_BOUND => k_is); (case y_LONGEST_TEXT => k_is); (case y_COMPARISONS => k_is); (case yCOMPARISONS_0 => k_is); (case y_abs => k_is); (case y_any => k_is); (case y_bool => k_is); (case y_enumerate => k_is); (case y_int => k_is); (case y_isinstance => k_is); (case y_len => k_is); (case y_list => k_is); (case y_range => k_is); (case y_sorted => k_is); (case y_str => k_is); (case y_sum => k_is); (case y_tuple => k_is)

