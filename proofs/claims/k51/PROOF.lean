import PyProof.Rows.All
import Wide.All
import OpenK.AllK
import Wide.FinOn
import HandS.ForMost
import HandS.Wide
import HandS.Evl
import HandS.TupAny
import HandS.IsInst
import HandS.Exc
import HandS.TryOnly
import HandS.ExcOwn
import HandS.CallSlots
import HandS.WordsExc
import HandS.Dict
import HandS.More
import HandS.TupLe
import HandS.Deep
import HandS.Words
import HandS.Text
import PyProof.P3Eq
import HandS.EndBits
import PySem.Challenge.RW_kithwhole_k51_file_keeps_a_prefix
set_option Elab.async false
set_option linter.all false
set_option maxRecDepth 100000
/-! Tq1: data as trees, cells that may turn, the state's truth in the heap. -/
namespace Tq
open PySem PySem.Spec PyProof.Rows L2

/-- other objects with parts: a dict by ints and texts, a dict by tuples of these, an instance of the class under a global name -/
inductive Hd where
  | dic (ks : List Key) | dit (ks : List (List Key)) | ins (C : Str) (fs : List Str)
/-- data that nobody changes -/
inductive D where
  | non | bl (b : Bool) | int (i : Int) | str (x : Str) | tup (xs : List D) | kt (xs : List D) | lst (xs : List D) | scr (ns : List Int) | fn (x : Str) | nd (h : Hd) (xs : List D)
/-- values: data, a cell, a tuple with cells in it -/
inductive A where
  | d (x : D) | r (k : Nat) | tup (ws : List A)
/-- what a cell holds -/
inductive O where
  | lst (ws : List A) | nd (h : Hd) (ws : List A) | dead
abbrev Hq := List O
abbrev Sl := List (Option A)
/-- an exception: of an own class, bare or with one field; of a built-in class -/
inductive Xc where
  | own (C : Str) | fld (C f : Str) (w : A) | blt (T : String)

def glAt (K : PySem.W.Frag) (C : Str) : Option Addr := match PySem.W.nsIn K mainGlobals C with | some (some (.ref c)) => some c | _ => none
inductive HdAt (K : PySem.W.Frag) (H : Hp) (a : Addr) : Hd → List V → List Addr → Prop
  | dic {ks : List Key} {vs : List V} : H a = some (.dK (ks.zip vs)) → ks.length = vs.length → HdAt K H a (.dic ks) vs [a]
  | dit {ks : List (List Key)} {vs : List V} : H a = some (.dT (ks.zip vs)) → ks.length = vs.length → HdAt K H a (.dit ks) vs [a]
  | ins {C : Str} {ca dx : Addr} {fs : List Str} {vs : List V} : glAt K C = some ca → H a = some (.ins ca dx (fs.zip vs)) → H dx = some (.own a) → fs.length = vs.length → HdAt K H a (.ins C fs) vs [a, dx]
theorem HdAt.to {K : PySem.W.Frag} {H H' : Hp} {a : Addr} {h : Hd} {vs : List V} {own : List Addr} (x : HdAt K H a h vs own) (e : ∀ b ∈ own, ∀ o, H b = some o → H' b = some o) : HdAt K H' a h vs own := by
  cases x with
  | dic h1 h2 => exact .dic (e _ (by simp) _ h1) h2
  | dit h1 h2 => exact .dit (e _ (by simp) _ h1) h2
  | ins h0 h1 h2 h4 => exact .ins h0 (e _ (by simp) _ h1) (e _ (by simp) _ h2) h4
theorem HdAt.own_or {K : PySem.W.Frag} {H : Hp} {a : Addr} {h : Hd} {vs : List V} {own : List Addr} (x : HdAt K H a h vs own) : a ∈ own ∧ (∀ b ∈ own, b = a ∨ H b = some (.own a)) ∧ (∀ b ∈ own, H b ≠ none) ∧ H a ≠ none ∧ ∀ z, H a ≠ some (.own z) := by
  cases x with
  | dic h1 h2 => exact ⟨by simp, by simp, by simp [h1], by simp [h1], by simp [h1]⟩
  | dit h1 h2 => exact ⟨by simp, by simp, by simp [h1], by simp [h1], by simp [h1]⟩
  | ins h0 h1 h2 h4 => exact ⟨by simp, by simp [h2], by simp [h1, h2], by simp [h1], by simp [h1]⟩
theorem sqt_of {K : PySem.W.Frag} {B : Hp} {a : Addr} {xs : List V} (h : B a = some (.tup xs)) : SqT K B a xs := .inl (.inl h)
theorem sqt_mono {K : PySem.W.Frag} {B B' : Hp} {a : Addr} {xs : List V} (e : Same B B') (h : SqT K B a xs) : SqT K B' a xs := by
  rcases h with (h | ⟨o, h⟩) | h
  · exact .inl (.inl (e _ _ h))
  · exact .inl (.inr ⟨o, e _ _ h⟩)
  · exact .inr h
mutual
inductive Rp (K : PySem.W.Frag) (B : Hp) : V → D → Prop
  | non : Rp K B .non .non
  | bl (b : Bool) : Rp K B (.bl b) (.bl b)
  | int (i : Int) : Rp K B (.int i) (.int i)
  | str (x : Str) : Rp K B (.str x) (.str x)
  | tup {a : Addr} {vs : List V} {ds : List D} : B a = some (.tup vs) → RpL K B vs ds → Rp K B (.ref a) (.tup ds)
  | kt {a : Addr} {vs : List V} {ds : List D} : SqT K B a vs → RpL K B vs ds → Rp K B (.ref a) (.kt ds)
  | lst {a : Addr} {vs : List V} {ds : List D} : B a = some (.lst vs) → RpL K B vs ds → Rp K B (.ref a) (.lst ds)
  | scr {a : Addr} {ns : List Int} : SqL K B a (ns.map V.int) → Rp K B (.ref a) (.scr ns)
  | fn {a : Addr} {x : Str} : glAt K x = some a → Rp K B (.ref a) (.fn x)
  | nd {a : Addr} {h : Hd} {vs : List V} {ds : List D} {own : List Addr} : HdAt K B a h vs own → RpL K B vs ds → Rp K B (.ref a) (.nd h ds)
inductive RpL (K : PySem.W.Frag) (B : Hp) : List V → List D → Prop
  | nil : RpL K B [] []
  | cons {v : V} {vs : List V} {d : D} {ds : List D} : Rp K B v d → RpL K B vs ds → RpL K B (v :: vs) (d :: ds)
end
section
variable {K : PySem.W.Frag} {B B' H H' : Hp}
mutual
theorem Rp.mono (e : Same B B') : ∀ {v : V} {d : D}, Rp K B v d → Rp K B' v d
  | _, _, .non => .non
  | _, _, .bl b => .bl b
  | _, _, .int i => .int i
  | _, _, .str x => .str x
  | _, _, .tup h r => .tup (e _ _ h) (RpL.mono e r)
  | _, _, .kt h r => .kt (sqt_mono e h) (RpL.mono e r)
  | _, _, .lst h r => .lst (e _ _ h) (RpL.mono e r)
  | _, _, .scr h => .scr (e.seq h)
  | _, _, .fn h => .fn h
  | _, _, .nd h r => .nd (h.to fun _ _ _ z => e _ _ z) (RpL.mono e r)
theorem RpL.mono (e : Same B B') : ∀ {vs : List V} {ds : List D}, RpL K B vs ds → RpL K B' vs ds
  | _, _, .nil => .nil
  | _, _, .cons h r => .cons (Rp.mono e h) (RpL.mono e r)
end
theorem RpL.length : ∀ {vs : List V} {ds : List D}, RpL K B vs ds → vs.length = ds.length
  | _, _, .nil => rfl
  | _, _, .cons _ r => congrArg (· + 1) r.length
theorem RpL.get : ∀ {vs : List V} {ds : List D} {i : Nat} {d : D}, RpL K B vs ds → ds[i]? = some d → ∃ v, vs[i]? = some v ∧ Rp K B v d
  | _, _, _, _, .nil, e => by simp at e
  | _, _, 0, _, .cons r _, e => by simp at e; subst e; exact ⟨_, rfl, r⟩
  | _, _, i + 1, d, .cons _ t, e => by
    obtain ⟨u, h1, h2⟩ := RpL.get (i := i) (d := d) t (by simpa using e)
    exact ⟨u, by simpa using h1, h2⟩
theorem RpL.append : ∀ {vs ws : List V} {ds es : List D}, RpL K B vs ds → RpL K B ws es → RpL K B (vs ++ ws) (ds ++ es)
  | _, _, _, _, .nil, s => s
  | _, _, _, _, .cons r t, s => .cons r (RpL.append t s)
end
mutual
inductive RA (K : PySem.W.Frag) (B : Hp) (ρ : Nat → Option Addr) : V → A → Prop
  | d {v : V} {x : D} : Rp K B v x → RA K B ρ v (.d x)
  | r {k : Nat} {a : Addr} : ρ k = some a → RA K B ρ (.ref a) (.r k)
  | tup {a : Addr} {vs : List V} {ws : List A} : B a = some (.tup vs) → RAL K B ρ vs ws → RA K B ρ (.ref a) (.tup ws)
inductive RAL (K : PySem.W.Frag) (B : Hp) (ρ : Nat → Option Addr) : List V → List A → Prop
  | nil : RAL K B ρ [] []
  | cons {v : V} {vs : List V} {w : A} {ws : List A} : RA K B ρ v w → RAL K B ρ vs ws → RAL K B ρ (v :: vs) (w :: ws)
end
/-- from state to state, while Z stands aside -/
structure Gr (Z B : Hp) (ρ : Nat → Option Addr) (B' : Hp) (ρ' : Nat → Option Addr) : Prop where
  bb : Same B B'
  rr : ∀ k a, ρ k = some a → ρ' k = some a
  fz : ∀ a, B a = none → B' a ≠ none → Z a = none
section
variable {K : PySem.W.Frag} {Z B B' B'' H H' : Hp} {ρ ρ' ρ'' : Nat → Option Addr}
theorem Gr.refl : Gr Z B ρ B ρ := ⟨fun _ _ h => h, fun _ _ h => h, fun a h h' => absurd h h'⟩
theorem Gr.trans (f : Gr Z B ρ B' ρ') (g : Gr Z B' ρ' B'' ρ'') : Gr Z B ρ B'' ρ'' := by
  refine ⟨fun a o h => g.bb a o (f.bb a o h), fun k a h => g.rr k a (f.rr k a h), fun a h h' => ?_⟩
  by_cases e : B' a = none
  · exact g.fz a e h'
  · exact f.fz a h e
mutual
theorem RA.mono (g : Gr Z B ρ B' ρ') : ∀ {v : V} {w : A}, RA K B ρ v w → RA K B' ρ' v w
  | _, _, .d r => .d (r.mono g.bb)
  | _, _, .r h => .r (g.rr _ _ h)
  | _, _, .tup h r => .tup (g.bb _ _ h) (RAL.mono g r)
theorem RAL.mono (g : Gr Z B ρ B' ρ') : ∀ {vs : List V} {ws : List A}, RAL K B ρ vs ws → RAL K B' ρ' vs ws
  | _, _, .nil => .nil
  | _, _, .cons h r => .cons (RA.mono g h) (RAL.mono g r)
end
theorem RAL.length : ∀ {vs : List V} {ws : List A}, RAL K B ρ vs ws → vs.length = ws.length
  | _, _, .nil => rfl
  | _, _, .cons _ r => congrArg (· + 1) r.length
theorem RAL.get : ∀ {vs : List V} {ds : List A} {i : Nat} {d : A}, RAL K B ρ vs ds → ds[i]? = some d → ∃ v, vs[i]? = some v ∧ RA K B ρ v d
  | _, _, _, _, .nil, e => by simp at e
  | _, _, 0, _, .cons r _, e => by simp at e; subst e; exact ⟨_, rfl, r⟩
  | _, _, i + 1, d, .cons _ t, e => by
    obtain ⟨u, h1, h2⟩ := RAL.get (i := i) (d := d) t (by simpa using e)
    exact ⟨u, by simpa using h1, h2⟩
theorem RAL.append : ∀ {vs ws : List V} {ds es : List A}, RAL K B ρ vs ds → RAL K B ρ ws es → RAL K B ρ (vs ++ ws) (ds ++ es)
  | _, _, _, _, .nil, s => s
  | _, _, _, _, .cons r t, s => .cons r (RAL.append t s)
theorem RAL.take : ∀ {vs : List V} {ds : List A} (n : Nat), RAL K B ρ vs ds → RAL K B ρ (vs.take n) (ds.take n)
  | _, _, 0, _ => by simpa using RAL.nil
  | _, _, _ + 1, .nil => .nil
  | _, _, n + 1, .cons r t => .cons r (RAL.take n t)
theorem RAL.drop : ∀ {vs : List V} {ds : List A} (n : Nat), RAL K B ρ vs ds → RAL K B ρ (vs.drop n) (ds.drop n)
  | _, _, 0, r => by simpa using r
  | _, _, _ + 1, .nil => .nil
  | _, _, n + 1, .cons _ t => RAL.drop n t
theorem RAL.set : ∀ {vs : List V} {ds : List A} (n : Nat) {v : V} {w : A}, RAL K B ρ vs ds → RA K B ρ v w → RAL K B ρ (vs.set n v) (ds.set n w)
  | _, _, _, _, _, .nil, _ => by simpa using RAL.nil
  | _, _, 0, _, _, .cons _ t, w => .cons w t
  | _, _, n + 1, _, _, .cons r t, w => .cons r (RAL.set n t w)
theorem RAL.reverse {vs : List V} {ds : List A} (h : RAL K B ρ vs ds) : RAL K B ρ vs.reverse ds.reverse := by
  induction vs generalizing ds with
  | nil => cases h; exact .nil
  | cons v vs ih =>
    cases h with
    | cons r t =>
      rw [List.reverse_cons, List.reverse_cons]
      exact (ih t).append (.cons r .nil)
theorem ral_ds : ∀ {vs : List V} {ds : List D}, RpL K B vs ds → RAL K B ρ vs (ds.map A.d)
  | _, _, .nil => .nil
  | _, _, .cons r t => .cons (.d r) (ral_ds t)
theorem ral_rpl : ∀ {ds : List D} {vs : List V}, RAL K B ρ vs (ds.map A.d) → RpL K B vs ds
  | [], _, h => by cases h; exact .nil
  | d :: r, _, h => by
    cases h with
    | cons h t =>
      cases h with
      | d h => exact .cons h (ral_rpl t)
theorem rpl_ints : ∀ (ns : List Int), RpL K B (ns.map V.int) (ns.map D.int)
  | [] => .nil
  | n :: r => .cons (.int n) (rpl_ints r)
end

/-! ### cells -/
inductive CeAt (K : PySem.W.Frag) (Z B H : Hp) (ρ : Nat → Option Addr) (a : Addr) : O → Prop
  | lst {vs : List V} {ws : List A} : H a = some (.lst vs) → RAL K B ρ vs ws → B a = none → Z a = none → CeAt K Z B H ρ a (.lst ws)
  | nd {hd : Hd} {vs : List V} {ws : List A} {own : List Addr} : HdAt K H a hd vs own → RAL K B ρ vs ws → (∀ b ∈ own, B b = none ∧ Z b = none) → CeAt K Z B H ρ a (.nd hd ws)
  | dead : Z a = none → CeAt K Z B H ρ a .dead
structure Ok (K : PySem.W.Frag) (Z B : Hp) (ρ : Nat → Option Addr) (H : Hp) (h : Hq) : Prop where
  ex : Same B H
  zz : Same Z H
  ce : ∀ (k : Nat) (o : O), h[k]? = some o → ∃ a, ρ k = some a ∧ CeAt K Z B H ρ a o
  nj : ∀ i j a, ρ i = some a → ρ j = some a → i = j
  al : ∀ k a, ρ k = some a → H a ≠ none
  up : ∀ k, h.length ≤ k → ρ k = none
section
variable {K : PySem.W.Frag} {Z B B' H H' : Hp} {ρ ρ' : Nat → Option Addr} {h : Hq} {σ : L2.St} {τ : Sl}
/-- a new object that nobody changes -/
theorem Ok.newB {q : Addr} {o : HO} (ok : Ok K Z B ρ H h) (hq : H q = none) : Ok K Z (upd B q o) ρ (upd H q o) h ∧ Gr Z B ρ (upd B q o) ρ := by
  have hb : B q = none := by
    cases z : B q with
    | none => rfl
    | some u => rw [ok.ex q u z] at hq; cases hq
  have hz : Z q = none := by
    cases z : Z q with
    | none => rfl
    | some u => rw [ok.zz q u z] at hq; cases hq
  have g : Gr Z B ρ (upd B q o) ρ := ⟨fun a u e => by rw [upd_ne (ne_of_none e hb)]; exact e, fun _ _ e => e, fun a e e' => by
    by_cases z : a = q
    · rw [z]; exact hz
    · rw [upd_ne z] at e'; exact absurd e e'⟩
  refine ⟨⟨fun a u e => ?_, fun a u e => ?_, fun k c e => ?_, ok.nj, fun k a e => ?_, ok.up⟩, g⟩
  · by_cases z : a = q
    · subst z; rw [upd_same] at e ⊢; exact e
    · rw [upd_ne z] at e ⊢; exact ok.ex a u e
  · rw [upd_ne (ne_of_none e hz)]; exact ok.zz a u e
  · obtain ⟨a, h1, h2⟩ := ok.ce k c e
    refine ⟨a, h1, ?_⟩
    cases h2 with
    | lst e1 e2 e3 e4 =>
      have n : a ≠ q := fun z => by subst z; rw [hq] at e1; cases e1
      exact .lst (by rw [upd_ne n]; exact e1) (e2.mono g) (by rw [upd_ne n]; exact e3) e4
    | nd e1 e2 e3 =>
      have n : ∀ b ∈ _, b ≠ q := fun b hb' z => e1.own_or.2.2.1 b hb' (by rw [z]; exact hq)
      exact .nd (e1.to fun b hb' u e => by rw [upd_ne (n b hb')]; exact e) (e2.mono g) fun b hb' => ⟨by rw [upd_ne (n b hb')]; exact (e3 b hb').1, (e3 b hb').2⟩
    | dead ed => exact .dead ed
  · by_cases z : a = q
    · subst z; rw [upd_same]; simp
    · rw [upd_ne z]; exact ok.al k a e
/-- a new cell -/
theorem Ok.newC {q : Addr} {o : O} (ok : Ok K Z B ρ H h) (hq : H q = none) (hh : ∀ b u, H b = some u → H' b = some u) (hq' : H' q ≠ none) (c : CeAt K Z B H' ρ q o) :
    Ok K Z B (fun k => if k = h.length then some q else ρ k) H' (h ++ [o]) ∧ Gr Z B ρ B (fun k => if k = h.length then some q else ρ k) := by
  have g : Gr Z B ρ B (fun k => if k = h.length then some q else ρ k) := ⟨fun _ _ e => e, fun k a e => by
    have : k ≠ h.length := fun z => by rw [ok.up k (by omega)] at e; cases e
    show (if k = h.length then some q else ρ k) = some a
    rw [if_neg this]; exact e, fun a e e' => absurd e e'⟩
  refine ⟨⟨fun a u e => hh _ _ (ok.ex a u e), fun a u e => hh _ _ (ok.zz a u e), fun k c' e => ?_, fun i j a e1 e2 => ?_, fun k a e => ?_, fun k e => ?_⟩, g⟩
  · by_cases z : k = h.length
    · subst z
      rw [List.getElem?_append_right (by omega), Nat.sub_self] at e
      cases e
      refine ⟨q, if_pos rfl, ?_⟩
      cases c with
      | lst e1 e2 e3 e4 => exact .lst e1 (e2.mono g) e3 e4
      | nd e1 e2 e3 => exact .nd e1 (e2.mono g) e3
      | dead ed => exact .dead ed
    · have hk : k < h.length := by
        have := (List.getElem?_eq_some_iff.mp e).1
        rw [List.length_append, List.length_singleton] at this
        omega
      rw [List.getElem?_append_left hk] at e
      obtain ⟨a, h1, h2⟩ := ok.ce k c' e
      refine ⟨a, g.rr k a h1, ?_⟩
      cases h2 with
      | lst e1 e2 e3 e4 => exact .lst (hh _ _ e1) (e2.mono g) e3 e4
      | nd e1 e2 e3 => exact .nd (e1.to fun b _ u e => hh _ _ e) (e2.mono g) e3
      | dead ed => exact .dead ed
  · have e1 : (if i = h.length then some q else ρ i) = some a := e1
    have e2 : (if j = h.length then some q else ρ j) = some a := e2
    split at e1 <;> split at e2
    · omega
    · cases e1; exact absurd hq (ok.al _ _ e2)
    · cases e2; exact absurd hq (ok.al _ _ e1)
    · exact ok.nj i j a e1 e2
  · have e : (if k = h.length then some q else ρ k) = some a := e
    split at e
    · cases e; exact hq'
    · have := ok.al k a e
      cases z : H a with
      | none => exact absurd z this
      | some u => rw [hh _ _ z]; simp
  · rw [List.length_append, List.length_singleton] at e
    show (if k = h.length then some q else ρ k) = none
    rw [if_neg (by omega)]
    exact ok.up k (by omega)
/-- a cell turns -/
theorem Ok.mut {k : Nat} {a : Addr} {o o' : O} {ob : HO} (ok : Ok K Z B ρ H h) (e : h[k]? = some o) (hr : ρ k = some a) (hn : ∀ z, H a ≠ some (.own z)) (hb : B a = none) (hz : Z a = none) (c : CeAt K Z B (upd H a ob) ρ a o') : Ok K Z B ρ (upd H a ob) (h.set k o') := by
  have hk : k < h.length := (List.getElem?_eq_some_iff.mp e).1
  refine ⟨fun b u q => ?_, fun b u q => ?_, fun j c' q => ?_, ok.nj, fun j b q => ?_, fun j q => ok.up j (by rwa [List.length_set] at q)⟩
  · rw [upd_ne (ne_of_none q hb)]; exact ok.ex b u q
  · rw [upd_ne (ne_of_none q hz)]; exact ok.zz b u q
  · by_cases z : j = k
    · subst z
      rw [List.getElem?_set_self hk] at q
      cases q
      exact ⟨a, hr, c⟩
    · rw [List.getElem?_set_ne (Ne.symm z)] at q
      obtain ⟨b, h1, h2⟩ := ok.ce j c' q
      have nab : b ≠ a := fun y => z (ok.nj j k a (by rw [← y]; exact h1) hr)
      refine ⟨b, h1, ?_⟩
      cases h2 with
      | lst e1 e2 e3 e4 => exact .lst (by rw [upd_ne nab]; exact e1) e2 e3 e4
      | nd e1 e2 e3 =>
        refine .nd (e1.to fun y hy u eu => ?_) e2 e3
        rcases e1.own_or.2.1 y hy with w | w
        · subst w; rw [upd_ne nab]; exact eu
        · rw [upd_ne fun v => hn b (by rw [← v]; exact w)]; exact eu
      | dead ed => exact .dead ed
  · by_cases z : b = a
    · subst z; rw [upd_same]; simp
    · rw [upd_ne z]; exact ok.al j b q
/-- other heaps that agree where it counts -/
theorem Ok.grow {H' : Hp} (ok : Ok K Z B ρ H h) (hh : ∀ b u, H b = some u → H' b = some u) : Ok K Z B ρ H' h := by
  refine ⟨fun a u e => hh _ _ (ok.ex a u e), fun a u e => hh _ _ (ok.zz a u e), fun k c e => ?_, ok.nj, fun k a e => ?_, ok.up⟩
  · obtain ⟨a, h1, h2⟩ := ok.ce k c e
    refine ⟨a, h1, ?_⟩
    cases h2 with
    | lst e1 e2 e3 e4 => exact .lst (hh _ _ e1) e2 e3 e4
    | nd e1 e2 e3 => exact .nd (e1.to fun b _ u e => hh _ _ e) e2 e3
    | dead ed => exact .dead ed
  · have := ok.al k a e
    cases z : H a with
    | none => exact absurd z this
    | some u => rw [hh _ _ z]; simp

/-! ### slots -/
structure SlOk (K : PySem.W.Frag) (B : Hp) (ρ : Nat → Option Addr) (σ : L2.St) (τ : Sl) : Prop where
  ln : σ.length = τ.length
  at_ : ∀ (i : Nat) (w : A), τ[i]? = some (some w) → ∃ v, σ[i]? = some (some v) ∧ RA K B ρ v w
theorem SlOk.mono (s : SlOk K B ρ σ τ) (g : Gr Z B ρ B' ρ') : SlOk K B' ρ' σ τ := ⟨s.ln, fun i w e => let ⟨v, h1, h2⟩ := s.at_ i w e; ⟨v, h1, h2.mono g⟩⟩
theorem SlOk.put (s : SlOk K B ρ σ τ) {i : Nat} {v : V} {w : A} (r : RA K B ρ v w) : SlOk K B ρ (σ.set i (some v)) (τ.set i (some w)) := by
  refine ⟨by rw [List.length_set, List.length_set]; exact s.ln, fun j u e => ?_⟩
  by_cases z : i = j
  · subst z
    have hi : i < τ.length := by
      have := (List.getElem?_eq_some_iff.mp e).1
      rwa [List.length_set] at this
    rw [List.getElem?_set_self hi] at e
    cases e
    exact ⟨v, List.getElem?_set_self (by rw [s.ln]; exact hi), r⟩
  · rw [List.getElem?_set_ne z] at e
    obtain ⟨x, h1, h2⟩ := s.at_ j u e
    exact ⟨x, by rw [List.getElem?_set_ne z]; exact h1, h2⟩
end

/-! ### trees of values -/
def mapMn {α β : Type} (f : α → Option β) : List α → Option (List β)
  | [] => some []
  | a :: r => match f a with | some b => (match mapMn f r with | some bs => some (b :: bs) | none => none) | none => none
def vw : Nat → Hq → A → Option D
  | _, _, .d x => some x
  | 0, _, _ => none
  | n + 1, h, .r k => match h[k]? with
    | some (.lst ws) => (mapMn (vw n h) ws).map .lst
    | some (.nd hd ws) => (mapMn (vw n h) ws).map (.nd hd)
    | _ => none
  | n + 1, h, .tup ws => (mapMn (vw n h) ws).map .tup
abbrev view (h : Hq) (w : A) : Option D := vw 32 h w
@[simp] theorem vw_d (n : Nat) (h : Hq) (x : D) : vw n h (.d x) = some x := by cases n <;> rfl
theorem mapMn_d : ∀ (f : A → Option D) (ds : List D), (∀ x, f (.d x) = some x) → mapMn f (ds.map A.d) = some ds
  | _, [], _ => rfl
  | f, d :: r, h => by
    rw [List.map_cons]
    unfold mapMn
    rw [h, mapMn_d f r h]
theorem vw_cell {n : Nat} {h : Hq} {k : Nat} {ds : List D} (e : h[k]? = some (.lst (ds.map A.d))) : vw (n + 1) h (.r k) = some (.lst ds) := by
  unfold vw
  rw [e]
  dsimp only
  rw [mapMn_d _ _ (vw_d n h)]
  rfl
section
variable {K : PySem.W.Frag} {Z B H : Hp} {ρ : Nat → Option Addr} {h : Hq}
theorem vws_of {f : A → Option D} {P : Hp} (hf : ∀ v w d, RA K B ρ v w → f w = some d → Rp K P v d) : ∀ {vs : List V} {ws : List A} {ds : List D}, RAL K B ρ vs ws → mapMn f ws = some ds → RpL K P vs ds
  | _, _, _, .nil, e => by cases e; exact .nil
  | _, w :: r, ds, .cons ra ral, e => by
    unfold mapMn at e
    split at e
    · rename_i b e1
      split at e
      · rename_i bs e2
        cases e
        exact .cons (hf _ _ _ ra e1) (vws_of hf ral e2)
      · cases e
    · cases e
/-- seen at a heap that holds what is frozen and the cells -/
theorem vw_at {P : Hp} (ok : Ok K Z B ρ H h) (e1 : Same B P) (e2 : ∀ b, Z b = none → B b = none → ∀ u, H b = some u → P b = some u) : ∀ (n : Nat) (v : V) (w : A) (d : D), RA K B ρ v w → vw n h w = some d → Rp K P v d
  | n, _, .d x, d, .d r, e => by rw [vw_d] at e; cases e; exact r.mono e1
  | 0, _, .r k, d, _, e => by cases e
  | 0, _, .tup ws, d, _, e => by cases e
  | n + 1, _, .r k, d, .r hr, e => by
    unfold vw at e
    split at e
    · rename_i ws e3
      obtain ⟨ds, e4, rfl⟩ := Option.map_eq_some_iff.mp e
      obtain ⟨a', h1, h2⟩ := ok.ce k _ e3
      rw [hr] at h1
      cases h1
      cases h2 with
      | lst q1 q2 q3 q4 => exact .lst (e2 _ q4 q3 _ q1) (vws_of (vw_at ok e1 e2 n) q2 e4)
    · rename_i hd ws e3
      obtain ⟨ds, e4, rfl⟩ := Option.map_eq_some_iff.mp e
      obtain ⟨a', h1, h2⟩ := ok.ce k _ e3
      rw [hr] at h1
      cases h1
      cases h2 with
      | nd q1 q2 q3 => exact .nd (q1.to fun b hb u eu => e2 b (q3 b hb).2 (q3 b hb).1 u eu) (vws_of (vw_at ok e1 e2 n) q2 e4)
    · cases e
  | n + 1, _, .tup ws, d, .tup ht rl, e => by
    unfold vw at e
    obtain ⟨ds, e4, rfl⟩ := Option.map_eq_some_iff.mp e
    exact .tup (e1 _ _ ht) (vws_of (vw_at ok e1 e2 n) rl e4)
theorem Ok.see (ok : Ok K Z B ρ H h) {n : Nat} {v : V} {w : A} {d : D} (r : RA K B ρ v w) (e : vw n h w = some d) : Rp K H v d := vw_at ok ok.ex (fun _ _ _ _ e => e) n v w d r e
end

/-! ### outcomes -/
inductive Rs (α : Type) where
  | ok (a : α) (h : Hq) | ex (x : Xc) (h : Hq)
abbrev E (α : Type) := Sl → Hq → Option (Rs α)
def bd {α β : Type} (r : Option (Rs α)) (k : α → Hq → Option (Rs β)) : Option (Rs β) := match r with
  | some (.ok a h) => k a h
  | some (.ex x h) => some (.ex x h)
  | none => none
@[simp] theorem bd_ok {α β : Type} (a : α) (h : Hq) (k : α → Hq → Option (Rs β)) : bd (some (.ok a h)) k = k a h := rfl
@[simp] theorem bd_ex {α β : Type} (x : Xc) (h : Hq) (k : α → Hq → Option (Rs β)) : bd (some (.ex x h)) k = some (.ex x h) := rfl
@[simp] theorem bd_no {α β : Type} (k : α → Hq → Option (Rs β)) : bd none k = none := rfl
inductive XcAt (K : PySem.W.Frag) (B : Hp) (ρ : Nat → Option Addr) (H : Hp) : Xc → Value → Option Addr → Prop
  | own {C : Str} {c : Addr} : glAt K C = some c → XcAt K B ρ H (.own C) (.ref c) none
  | fld {C f : Str} {c d : Addr} {v : V} {w : A} : glAt K C = some c → H d = some (.xd [(f, v)]) → RA K B ρ v w → XcAt K B ρ H (.fld C f w) (.ref c) (some d)
  | blt {T : String} : XcAt K B ρ H (.blt T) (.type T) none
def Post {α : Type} (K : PySem.W.Frag) (Z : Hp) (W : XK) (B : Hp) (ρ : Nat → Option Addr) (R : α → Hq → Hp → (Nat → Option Addr) → Hp → Prop) : Option (Rs α) → Prop
  | none => False
  | some (.ok a h) => ∀ B' ρ' H', Ok K Z B' ρ' H' h → Gr Z B ρ B' ρ' → R a h B' ρ' H'
  | some (.ex x h) => ∀ B' ρ' H' cls d, Ok K Z B' ρ' H' h → Gr Z B ρ B' ρ' → XcAt K B' ρ' H' x cls d → W cls d H'
section
variable {α β : Type} {K : PySem.W.Frag} {Z B B' H : Hp} {ρ ρ' : Nat → Option Addr} {h : Hq} {W : XK} {R : α → Hq → Hp → (Nat → Option Addr) → Hp → Prop} {r : Option (Rs α)}
theorem Post.from (q : Post K Z W B ρ R r) (g : Gr Z B ρ B' ρ') : Post K Z W B' ρ' R r := by
  match r, q with
  | some (.ok a h), q => exact fun B2 ρ2 H2 ok g2 => q B2 ρ2 H2 ok (g.trans g2)
  | some (.ex x h), q => exact fun B2 ρ2 H2 cls d ok g2 x => q B2 ρ2 H2 cls d ok (g.trans g2) x
theorem Post.imp {R' : α → Hq → Hp → (Nat → Option Addr) → Hp → Prop} (q : Post K Z W B ρ R r) (i : ∀ a h B' ρ' H', Ok K Z B' ρ' H' h → Gr Z B ρ B' ρ' → R a h B' ρ' H' → R' a h B' ρ' H') : Post K Z W B ρ R' r := by
  match r, q with
  | some (.ok a h), q => exact fun B2 ρ2 H2 ok g2 => i _ _ _ _ _ ok g2 (q B2 ρ2 H2 ok g2)
  | some (.ex x h), q => exact q
theorem Post.bd {R : β → Hq → Hp → (Nat → Option Addr) → Hp → Prop} {k : α → Hq → Option (Rs β)} (q : Post K Z W B ρ R (Tq.bd r k)) : Post K Z W B ρ (fun a h B' ρ' H' => Post K Z W B' ρ' R (k a h)) r := by
  match r, q with
  | some (.ok a h), q => exact fun B2 ρ2 H2 ok g2 => Post.from q g2
  | some (.ex x h), q => exact q
end
end Tq

/-! Tq2: expressions. -/
namespace Tq
open PySem PySem.Spec PyProof.Rows L2

abbrev LIM : Nat := 16777216
theorem lim_eq : LIM = sizeLine := by rw [sizeLine_eq]
abbrev Wx := WX
def tE (K : PySem.W.Frag) (W : WX) (m : E A) : TE := fun σ H Q => ∃ Z B ρ τ h, Ok K Z B ρ H h ∧ SlOk K B ρ σ τ ∧ Post K Z (fun c d H' => W c d σ H') B ρ (fun w _ B' ρ' H' => ∀ v, RA K B' ρ' v w → Q v H') (m τ h)
structure RX (X : Cx) (W : WX) (e : Expr) (m : E A) : Prop where
  pe : PE X e (tE X.K W m)
theorem pe_imp {X : Cx} {e : Expr} {t t' : TE} (h : PE X e t) (i : ∀ σ H Q, t' σ H Q → t σ H Q) : PE X e t' := ⟨fun pins s σ H Q I q => h.run pins s σ H Q I (i _ _ _ q)⟩
theorem pt_imp {X : Cx} {e : Expr} {t t' : TT} (h : PT X e t) (i : ∀ σ H Q, t' σ H Q → t σ H Q) : PT X e t' := ⟨fun pins s σ H Q I q => h.run pins s σ H Q I (i _ _ _ q)⟩
theorem pw_imp {X : Cx} {e : Expr} {t t' : TT} (h : PW X e t) (i : ∀ σ H Q, t' σ H Q → t σ H Q) : PW X e t' := ⟨fun w pins s σ H Q I q => h.run w pins s σ H Q I (i _ _ _ q)⟩
theorem pa_imp {X : Cx} {e : List Expr} {t t' : TA} (h : PA X e t) (i : ∀ σ H Q, t' σ H Q → t σ H Q) : PA X e t' := ⟨fun pos pins s σ H Q I q => h.run pos pins s σ H Q I (i _ _ _ q)⟩
theorem ps_imp {X : Cx} {e : Stmt} {t t' : TS} (h : PS X e t) (i : ∀ D σ H, t' D σ H → t D σ H) : PS X e t' := ⟨fun pins s σ H D I q => h.run pins s σ H D I (i _ _ _ q)⟩
theorem pss_imp {X : Cx} {e : List Stmt} {t t' : TS} (h : PSs X e t) (i : ∀ D σ H, t' D σ H → t D σ H) : PSs X e t' := ⟨fun pins s σ H D I q => h.run pins s σ H D I (i _ _ _ q)⟩
theorem po_imp {X : Cx} {e : Option Expr} {t t' : TO} (h : PO X e t) (i : ∀ σ H Q, t' σ H Q → t σ H Q) : PO X e t' := by
  constructor
  intros
  rename_i I q
  exact h.run _ _ _ _ _ I (i _ _ _ q)
theorem pe_or {X : Cx} {e : Expr} {t t' : TE} (h : PE X e t) (h' : PE X e t') : PE X e fun σ H Q => t σ H Q ∨ t' σ H Q := ⟨fun pins s σ H Q I q => q.elim (h.run pins s σ H Q I) (h'.run pins s σ H Q I)⟩

section
variable {α β : Type} {K : PySem.W.Frag} {W : WX} {σ : L2.St} {τ : Sl} {H : Hp} {Q : VK} {Z B : Hp} {ρ : Nat → Option Addr} {h : Hq}
/-- a step: e is m, and what follows -/
theorem te_bd {m : E A} {k : A → Hq → Option (Rs β)} {R : β → Hq → Hp → (Nat → Option Addr) → Hp → Prop} (ok : Ok K Z B ρ H h) (sl : SlOk K B ρ σ τ) (q : Post K Z (fun c d H' => W c d σ H') B ρ R (bd (m τ h) k))
    (c : ∀ v w h1 B1 ρ1 H1, RA K B1 ρ1 v w → Ok K Z B1 ρ1 H1 h1 → SlOk K B1 ρ1 σ τ → Gr Z B ρ B1 ρ1 → Post K Z (fun c d H' => W c d σ H') B1 ρ1 R (k w h1) → Q v H1) : tE K W m σ H Q :=
  ⟨Z, B, ρ, τ, h, ok, sl, q.bd.imp fun w h1 B1 ρ1 H1 ok1 g1 q1 v r => c v w h1 B1 ρ1 H1 r ok1 (sl.mono g1) g1 q1⟩
theorem te_last {m : E A} (ok : Ok K Z B ρ H h) (sl : SlOk K B ρ σ τ) {R : A → Hq → Hp → (Nat → Option Addr) → Hp → Prop} (q : Post K Z (fun c d H' => W c d σ H') B ρ R (m τ h))
    (c : ∀ v w h1 B1 ρ1 H1, RA K B1 ρ1 v w → Ok K Z B1 ρ1 H1 h1 → SlOk K B1 ρ1 σ τ → Gr Z B ρ B1 ρ1 → R w h1 B1 ρ1 H1 → Q v H1) : tE K W m σ H Q :=
  ⟨Z, B, ρ, τ, h, ok, sl, q.imp fun w h1 B1 ρ1 H1 ok1 g1 q1 v r => c v w h1 B1 ρ1 H1 r ok1 (sl.mono g1) g1 q1⟩
end
def pu {α : Type} (a : α) (h : Hq) : Option (Rs α) := some (.ok a h)
section
variable {α : Type} {K : PySem.W.Frag} {W : XK} {Z B : Hp} {ρ : Nat → Option Addr} {H : Hp} {h : Hq} {R : α → Hq → Hp → (Nat → Option Addr) → Hp → Prop}
theorem Post.now {a : α} (q : Post K Z W B ρ R (some (.ok a h))) (ok : Ok K Z B ρ H h) : R a h B ρ H := q B ρ H ok Gr.refl
end

/-! ### leaves -/
def mC (d : D) : E A := fun _ h => some (.ok (.d d) h)
def mVar (i : Nat) : E A := fun τ h => match τ[i]? with | some (some w) => some (.ok w h) | _ => none
def mNo {α : Type} : E α := fun _ _ => none
section
variable {X : Cx} {W : WX} {e a b c : Expr} {m ma mb mc : E A} {pos : Pos}
theorem rx_no : RX X W e mNo := ⟨⟨fun pins s σ H Q I q => by
  obtain ⟨_, _, _, _, _, _, _, q⟩ := q
  exact q.elim⟩⟩
theorem rx_const {v : V} {d : D} (h : PE X e (tC v)) (r : ∀ B, Rp X.K B v d) : RX X W e (mC d) := ⟨pe_imp h fun σ H Q q => by
  obtain ⟨Z, B, ρ, τ, h, ok, sl, q⟩ := q
  exact q.now ok v (.d (r B))⟩
theorem rx_int {i j pos} : RX X W (.Constant (.int i) j pos) (mC (.int i)) := rx_const pe_int fun _ => .int i
theorem rx_bl {i j pos} : RX X W (.Constant (.bool i) j pos) (mC (.bl i)) := rx_const pe_bl fun _ => .bl i
theorem rx_str {i j pos} : RX X W (.Constant (.str i) j pos) (mC (.str i)) := rx_const pe_str fun _ => .str i
theorem rx_non {j pos} : RX X W (.Constant .none j pos) (mC .non) := rx_const pe_non fun _ => .non
theorem rx_glob {x : Str} {v : V} {d : D} {u : Value} (hm : X.mg x = some u) (r : RelV v u) (rp : ∀ B, Rp X.K B v d) (hg : Gl X x := by rfl) (hd : (x == ("__debug__" : Str)) = false := by decide) : RX X W (.Name x pos) (mC d) :=
  rx_const (pe_glob hg hm r hd) rp
theorem rx_var (i : Nat) {x : Str} (hN : X.N[i]? = some x := by rfl) (hv : Vis X.env.scope x := by first | exact Or.inl rfl | exact Or.inr (Or.inl rfl) | exact Or.inr (Or.inr rfl)) (hd : (x == ("__debug__" : Str)) = false := by decide)
    (hcd : (x == ("__classdict__" : Str)) = false := by decide) : RX X W (.Name x pos) (mVar i) := ⟨pe_imp (pv i hN hv hd hcd) fun σ H Q q => by
  obtain ⟨Z, B, ρ, τ, h, ok, sl, q⟩ := q
  unfold mVar at q
  split at q
  · rename_i w e1
    obtain ⟨v, h1, h2⟩ := sl.at_ i w e1
    exact ⟨v, h1, q.now ok v h2⟩
  · exact q.elim⟩

/-! ### operators -/
abbrev G2 := A → A → Hq → Option (Rs A)
abbrev G1 := A → Hq → Option (Rs A)
def mBin (g : G2) (ma mb : E A) : E A := fun τ h => bd (ma τ h) fun a h1 => bd (mb τ h1) fun b h2 => g a b h2
def mUn (g : G1) (ma : E A) : E A := fun τ h => bd (ma τ h) fun a h1 => g a h1
def Op2 (K : PySem.W.Frag) (r : R2) (g : G2) : Prop := ∀ (Z B : Hp) (ρ : Nat → Option Addr) (H : Hp) (h : Hq) (x y : V) (a b : A) (W : XK) (Q : VK), Ok K Z B ρ H h → RA K B ρ x a → RA K B ρ y b →
  Post K Z W B ρ (fun w _ B' ρ' H' => ∀ v, RA K B' ρ' v w → Q v H') (g a b h) → r x y H Q
def Op1 (K : PySem.W.Frag) (r : V → Hp → VK → Prop) (g : G1) : Prop := ∀ (Z B : Hp) (ρ : Nat → Option Addr) (H : Hp) (h : Hq) (x : V) (a : A) (W : XK) (Q : VK), Ok K Z B ρ H h → RA K B ρ x a →
  Post K Z W B ρ (fun w _ B' ρ' H' => ∀ v, RA K B' ρ' v w → Q v H') (g a h) → r x H Q
theorem rx_op2 {g : G2} {r : R2} {ee : Expr} (ha : RX X W a ma) (hb : RX X W b mb) (og : Op2 X.K r g) (he : ∀ {ta tb : TE}, PE X a ta → PE X b tb → PE X ee (tOp r ta tb)) : RX X W ee (mBin g ma mb) := ⟨pe_imp (he ha.pe hb.pe) fun σ H Q q => by
  obtain ⟨Z, B, ρ, τ, h, ok, sl, q⟩ := q
  exact te_bd ok sl q fun x a h1 B1 ρ1 H1 rx ok1 sl1 g1 q1 => te_bd ok1 sl1 q1 fun y b h2 B2 ρ2 H2 ry ok2 sl2 g2 q2 => og Z B2 ρ2 H2 h2 x y a b _ Q ok2 (rx.mono g2) ry q2⟩
theorem rx_bin {op : Operator} {g : G2} {r : R2} (ho : OpR X (binaryOp op) r) (og : Op2 X.K r g) (ha : RX X W a ma) (hb : RX X W b mb) : RX X W (.BinOp a op b pos) (mBin g ma mb) :=
  rx_op2 ha hb og fun h1 h2 => pe_op ho h1 h2
theorem rx_cmp {op : CmpOp} {g : G2} {r : R2} (ho : OpR X (compareOp op) r) (og : Op2 X.K r g) (ha : RX X W a ma) (hb : RX X W b mb) (hm : behindInMarks op b = false) : RX X W (.Compare a [op] [b] pos) (mBin g ma mb) :=
  rx_op2 ha hb og fun h1 h2 => pe_cmpR ho h1 h2 hm
theorem rx_op1 {g : G1} {r : V → Hp → VK → Prop} {ee : Expr} (ha : RX X W a ma) (og : Op1 X.K r g) (he : ∀ {ta : TE}, PE X a ta → PE X ee (tUn r ta)) : RX X W ee (mUn g ma) := ⟨pe_imp (he ha.pe) fun σ H Q q => by
  obtain ⟨Z, B, ρ, τ, h, ok, sl, q⟩ := q
  exact te_bd ok sl q fun x a h1 B1 ρ1 H1 rx ok1 sl1 g1 q1 => og Z B1 ρ1 H1 h1 x a _ Q ok1 rx q1⟩
theorem rx_un {op : UnaryOp} {g : G1} {r : V → Hp → VK → Prop} (ho : UnR X (unaryOp op) r) (og : Op1 X.K r g) (ha : RX X W a ma) : RX X W (.UnaryOp op a pos) (mUn g ma) :=
  rx_op1 ha og fun h1 => pe_un ho h1

/-! ### argument lists -/
def tAs (K : PySem.W.Frag) (W : WX) (m : E (List A)) : TA := fun σ H Q => ∃ Z B ρ τ h, Ok K Z B ρ H h ∧ SlOk K B ρ σ τ ∧ Post K Z (fun c d H' => W c d σ H') B ρ (fun ws _ B' ρ' H' => ∀ vs, RAL K B' ρ' vs ws → Q vs H') (m τ h)
structure RAs (X : Cx) (W : WX) (es : List Expr) (m : E (List A)) : Prop where
  pa : PA X es (tAs X.K W m)
def maNil : E (List A) := fun _ h => some (.ok [] h)
def maCons (ma : E A) (mr : E (List A)) : E (List A) := fun τ h => bd (ma τ h) fun a h1 => bd (mr τ h1) fun r h2 => some (.ok (a :: r) h2)
variable {es : List Expr} {mr : E (List A)}
theorem ra_nil : RAs X W [] maNil := ⟨pa_imp pa_nil fun σ H Q q => by
  obtain ⟨Z, B, ρ, τ, h, ok, sl, q⟩ := q
  exact q.now ok [] .nil⟩
theorem ra_cons (ha : RX X W a ma) (hr : RAs X W es mr) (hs : starEach (a :: es) X.env = (false, eval a X.env) :: starEach es X.env := by rfl) : RAs X W (a :: es) (maCons ma mr) := ⟨pa_imp (pa_cons ha.pe hr.pa hs) fun σ H Q q => by
  obtain ⟨Z, B, ρ, τ, h, ok, sl, q⟩ := q
  refine te_bd ok sl q fun x a h1 B1 ρ1 H1 rx ok1 sl1 g1 q1 => ?_
  refine ⟨Z, B1, ρ1, τ, h1, ok1, sl1, q1.bd.imp fun ws h2 B2 ρ2 H2 ok2 g2 q2 vs rl => ?_⟩
  exact q2.now ok2 (x :: vs) (.cons (rx.mono g2) rl)⟩

/-! ### new lists and tuples -/
def A.toD? : A → Option D
  | .d x => some x
  | _ => none
def allD : List A → Option (List D) := mapMn A.toD?
theorem allD_of : ∀ {ws : List A} {ds : List D}, allD ws = some ds → ws = ds.map A.d
  | [], ds, h => by cases h; rfl
  | w :: r, ds, h => by
    unfold allD mapMn at h
    split at h
    · rename_i b e1
      split at h
      · rename_i bs e2
        cases h
        cases w with
        | d x =>
          cases e1
          rw [allD_of (ws := r) e2]
          rfl
        | r _ => cases e1
        | tup _ => cases e1
      · cases h
    · cases h
@[simp] theorem allD_map (ds : List D) : allD (ds.map A.d) = some ds := mapMn_d _ ds fun _ => rfl
/-- a new list: a cell, or data at once -/
def mkL (o : Bool) (ws : List A) (h : Hq) : Option (Rs A) := if ws.length ≤ LIM then (if o then some (.ok (.r h.length) (h ++ [.lst ws])) else (allD ws).map fun ds => .ok (.d (.lst ds)) h) else none
def mkT (ws : List A) (h : Hq) : Option (Rs A) := if ws.length ≤ LIM then (match allD ws with | some ds => some (.ok (.d (.tup ds)) h) | none => some (.ok (.tup ws) h)) else none
section
variable {K : PySem.W.Frag} {W : XK} {Z B : Hp} {ρ : Nat → Option Addr} {H : Hp} {h : Hq} {Q : VK} {ws : List A} {vs : List V} {o : Bool}
theorem mkL_len {R : A → Hq → Hp → (Nat → Option Addr) → Hp → Prop} (q : Post K Z W B ρ R (mkL o ws h)) : ws.length ≤ LIM := by
  unfold mkL at q
  split at q
  · assumption
  · exact q.elim
theorem mkL_ok (ok : Ok K Z B ρ H h) (r : RAL K B ρ vs ws) (q : Post K Z W B ρ (fun w _ B' ρ' H' => ∀ v, RA K B' ρ' v w → Q v H') (mkL o ws h)) {p : Addr} (hp : H p = none) : Q (.ref p) (upd H p (.lst vs)) := by
  unfold mkL at q
  split at q
  · split at q
    · have hb : B p = none := by
        cases z : B p with
        | none => rfl
        | some u => rw [ok.ex p u z] at hp; cases hp
      have hz : Z p = none := by
        cases z : Z p with
        | none => rfl
        | some u => rw [ok.zz p u z] at hp; cases hp
      obtain ⟨ok2, g⟩ := ok.newC (q := p) (H' := upd H p (.lst vs)) (o := .lst ws) hp (fun b u e => by rw [upd_ne (ne_of_none e hp)]; exact e) (by rw [upd_same]; simp) (.lst upd_same r hb hz)
      exact q _ _ _ ok2 g (.ref p) (.r (if_pos rfl))
    · cases e : allD ws with
      | none => rw [e] at q; exact q.elim
      | some ds =>
        rw [e] at q
        cases allD_of e
        obtain ⟨ok2, g⟩ := ok.newB (o := .lst vs) hp
        exact q _ _ _ ok2 g (.ref p) (.d (.lst upd_same ((ral_rpl r).mono g.bb)))
  · exact q.elim
theorem mkT_len {R : A → Hq → Hp → (Nat → Option Addr) → Hp → Prop} (q : Post K Z W B ρ R (mkT ws h)) : ws.length ≤ LIM := by
  unfold mkT at q
  split at q
  · assumption
  · exact q.elim
/-- a tuple that stands -/
theorem mkT_at (ok : Ok K Z B ρ H h) {p : Addr} (ht : B p = some (.tup vs)) (r : RAL K B ρ vs ws) (q : Post K Z W B ρ (fun w _ B' ρ' H' => ∀ v, RA K B' ρ' v w → Q v H') (mkT ws h)) : Q (.ref p) H := by
  unfold mkT at q
  split at q
  · cases e : allD ws with
    | none =>
      rw [e] at q
      exact q.now ok (.ref p) (.tup ht r)
    | some ds =>
      rw [e] at q
      cases allD_of e
      exact q.now ok (.ref p) (.d (.tup ht (ral_rpl r)))
  · exact q.elim
theorem mkT_ok (ok : Ok K Z B ρ H h) (r : RAL K B ρ vs ws) (q : Post K Z W B ρ (fun w _ B' ρ' H' => ∀ v, RA K B' ρ' v w → Q v H') (mkT ws h)) {p : Addr} (hp : H p = none) : Q (.ref p) (upd H p (.tup vs)) := by
  obtain ⟨ok2, g⟩ := ok.newB (o := .tup vs) hp
  exact mkT_at ok2 upd_same (r.mono g) (q.from g)
end
def mTup (mr : E (List A)) : E A := fun τ h => bd (mr τ h) fun ws h1 => mkT ws h1
def mLst (o : Bool) (mr : E (List A)) : E A := fun τ h => bd (mr τ h) fun ws h1 => mkL o ws h1
theorem rx_tup {x1} (hr : RAs X W es mr) : RX X W (.Tuple es x1 pos) (mTup mr) := ⟨pe_imp (pe_tup hr.pa) fun σ H Q q => by
  obtain ⟨Z, B, ρ, τ, h, ok, sl, q⟩ := q
  refine ⟨Z, B, ρ, τ, h, ok, sl, q.bd.imp fun ws h1 B1 ρ1 H1 ok1 g1 q1 vs rl => ?_⟩
  exact ⟨by rw [rl.length, ← lim_eq]; exact mkT_len q1, fun p hp => mkT_ok ok1 rl q1 hp⟩⟩
theorem rx_lst (o : Bool) (hr : RAs X W es mr) : RX X W (.List es pos) (mLst o mr) := ⟨pe_imp (pe_lst hr.pa) fun σ H Q q => by
  obtain ⟨Z, B, ρ, τ, h, ok, sl, q⟩ := q
  refine ⟨Z, B, ρ, τ, h, ok, sl, q.bd.imp fun ws h1 B1 ρ1 H1 ok1 g1 q1 vs rl => ?_⟩
  exact ⟨by rw [rl.length, ← lim_eq]; exact mkL_len q1, fun p hp => mkL_ok ok1 rl q1 hp⟩⟩
end
end Tq

/-! Tq3: operations. -/
namespace Tq
open PySem PySem.Spec PyProof.Rows L2

mutual
def D.toP : D → PyData
  | .non => .none | .bl b => .bool b | .int i => .int i | .str x => .str x
  | .tup xs => .tuple (D.toPs xs)
  | .kt xs => .tuple (D.toPs xs)
  | .lst xs => .list (D.toPs xs)
  | .scr ns => .list (ns.map PyData.int)
  | .fn _ => .dict []
  | .nd _ _ => .dict []
def D.toPs : List D → List PyData
  | [] => []
  | d :: r => d.toP :: D.toPs r
end
theorem D.toPs_eq : ∀ xs : List D, D.toPs xs = xs.map D.toP
  | [] => rfl
  | d :: r => by rw [D.toPs, D.toPs_eq r, List.map_cons]
theorem D.toP_tup (xs : List D) : (D.tup xs).toP = .tuple (xs.map D.toP) := by rw [D.toP, D.toPs_eq]
theorem D.toP_kt (xs : List D) : (D.kt xs).toP = .tuple (xs.map D.toP) := by rw [D.toP, D.toPs_eq]
theorem D.toP_lst (xs : List D) : (D.lst xs).toP = .list (xs.map D.toP) := by rw [D.toP, D.toPs_eq]
theorem dp_ints {K : PySem.W.Frag} {H : Hp} : ∀ ns : List Int, DpAll K H (ns.map V.int) (ns.map PyData.int)
  | [] => .nil
  | n :: r => .cons (.int n) (dp_ints r)
section
variable {K : PySem.W.Frag} {B H : Hp}
mutual
theorem Rp.dp0 : ∀ {v : V} {d : D}, Rp K B v d → d.toP.canLay0 = true → Dp K B v d.toP
  | _, _, .non, _ => .non
  | _, _, .bl b, _ => .bl b
  | _, _, .int i, _ => .int i
  | _, _, .str x, _ => .str x
  | _, _, .tup h r, c => by rw [D.toP_tup] at c ⊢; exact .tup (sqt_of h) (RpL.dp0 r c)
  | _, _, .kt h r, c => by rw [D.toP_kt] at c ⊢; exact .tup h (RpL.dp0 r c)
  | _, _, .lst h r, c => by rw [D.toP_lst] at c ⊢; exact .lst (SqL.of h) (RpL.dp0 r c)
  | _, _, .scr h, _ => by rw [D.toP]; exact .lst h (dp_ints _)
  | _, _, .fn _, c => by rw [D.toP] at c; cases c
  | _, _, .nd _ _, c => by rw [D.toP] at c; cases c
theorem RpL.dp0 : ∀ {vs : List V} {ds : List D}, RpL K B vs ds → PyData.canLayAll0 (ds.map D.toP) = true → DpAll K B vs (ds.map D.toP)
  | _, _, .nil, _ => .nil
  | _, _, .cons h r, c => by
    have c2 := Bool.and_eq_true_iff.mp c
    exact .cons (Rp.dp0 h c2.1) (RpL.dp0 r c2.2)
end
theorem Rp.dp {v : V} {d : D} (h : Rp K B v d) (hs : SeqAt.shaped d.toP = true) : Dp K B v d.toP := h.dp0 (SeqAt.canLay_of_shaped hs)
end
def D.eqv (a b : D) : Bool := PyData.eqv a.toP b.toP
def D.shp (a : D) : Bool := SeqAt.shaped a.toP

/-! ### what a value is -/
theorem rp_int {K : PySem.W.Frag} {B : Hp} {v : V} {i : Int} (r : Rp K B v (.int i)) : v = .int i := by cases r; rfl
theorem rp_str {K : PySem.W.Frag} {B : Hp} {v : V} {i : Str} (r : Rp K B v (.str i)) : v = .str i := by cases r; rfl
theorem rp_bl {K : PySem.W.Frag} {B : Hp} {v : V} {i : Bool} (r : Rp K B v (.bl i)) : v = .bl i := by cases r; rfl
theorem rp_non {K : PySem.W.Frag} {B : Hp} {v : V} (r : Rp K B v .non) : v = .non := by cases r; rfl
theorem ra_d {K : PySem.W.Frag} {B : Hp} {ρ : Nat → Option Addr} {v : V} {x : D} (w : RA K B ρ v (.d x)) : Rp K B v x := by
  cases w with
  | d r => exact r
theorem ra_int {K : PySem.W.Frag} {B : Hp} {ρ : Nat → Option Addr} {v : V} {i : Int} (w : RA K B ρ v (.d (.int i))) : v = .int i := rp_int (ra_d w)
theorem ra_str {K : PySem.W.Frag} {B : Hp} {ρ : Nat → Option Addr} {v : V} {i : Str} (w : RA K B ρ v (.d (.str i))) : v = .str i := rp_str (ra_d w)
def tupOf : A → Option (List A)
  | .d (.tup ds) => some (ds.map A.d)
  | .tup ws => some ws
  | _ => none
def lstOf (h : Hq) : A → Option (List A)
  | .d (.lst ds) => some (ds.map A.d)
  | .r k => match h[k]? with | some (.lst ws) => some ws | _ => none
  | _ => none
section
variable {K : PySem.W.Frag} {Z B H : Hp} {ρ : Nat → Option Addr} {h : Hq} {v : V} {a : A} {ws : List A}
theorem tupOf_ra (r : RA K B ρ v a) (e : tupOf a = some ws) : ∃ p vs, v = .ref p ∧ B p = some (.tup vs) ∧ RAL K B ρ vs ws := by
  unfold tupOf at e
  split at e
  · cases e
    cases ra_d r with
    | tup h1 r1 => exact ⟨_, _, rfl, h1, ral_ds r1⟩
  · cases e
    cases r with
    | tup h1 r1 => exact ⟨_, _, rfl, h1, r1⟩
  · cases e
theorem lstOf_ra (ok : Ok K Z B ρ H h) (r : RA K B ρ v a) (e : lstOf h a = some ws) : ∃ p vs, v = .ref p ∧ H p = some (.lst vs) ∧ RAL K B ρ vs ws := by
  unfold lstOf at e
  split at e
  · cases e
    cases ra_d r with
    | lst h1 r1 => exact ⟨_, _, rfl, ok.ex _ _ h1, ral_ds r1⟩
  · split at e
    · rename_i ws' e1
      cases e
      cases r with
      | r hr =>
        obtain ⟨p, h1, h2⟩ := ok.ce _ _ e1
        rw [hr] at h1
        cases h1
        cases h2 with
        | lst q1 q2 q3 q4 => exact ⟨_, _, rfl, q1, q2⟩
    · cases e
  · cases e
end

/-! ### operators that give flat data -/
def D.flat : D → Bool
  | .non => true | .bl _ => true | .int _ => true | .str _ => true | _ => false
theorem rp_flat {K : PySem.W.Frag} {B B' : Hp} {v : V} {d : D} (r : Rp K B v d) (h : d.flat = true) : Rp K B' v d := by
  cases r with
  | non => exact .non
  | bl b => exact .bl b
  | int i => exact .int i
  | str x => exact .str x
  | tup _ _ => cases h
  | kt _ _ => cases h
  | lst _ _ => cases h
  | scr _ => cases h
  | fn _ => cases h
  | nd _ _ => cases h
def gII (C : Int → Int → Bool) (f : Int → Int → Int) : G2 := fun a b h => match a, b with
  | .d (.int i), .d (.int j) => if C i j then some (.ok (.d (.int (f i j))) h) else none
  | _, _ => none
theorem og_ii {K : PySem.W.Frag} {C : Int → Int → Bool} {P : Int → Int → Prop} {f : Int → Int → Int} (hc : ∀ i j, C i j = true → P i j) : Op2 K (rI P fun i j => .int (f i j)) (gII C f) := by
  intro Z B ρ H h x y a b W Q ok rx ry q
  unfold gII at q
  split at q
  · split at q
    · rename_i hl
      exact ⟨_, _, ra_int rx, ra_int ry, hc _ _ hl, q.now ok _ (.d (.int _))⟩
    · exact q.elim
  · exact q.elim
def gSub : G2 := fun a b h => match a, b with
  | .d (.int i), .d (.int j) => some (.ok (.d (.int (i - j))) h)
  | _, _ => none
theorem og_sub {K : PySem.W.Frag} : Op2 K (rI0 fun i j => .int (i - j)) gSub := by
  intro Z B ρ H h x y a b W Q ok rx ry q
  unfold gSub at q
  split at q
  · exact ⟨_, _, ra_int rx, ra_int ry, q.now ok _ (.d (.int _))⟩
  · exact q.elim
/-- * of two factors of together less than 134 million bits -/
def CMulB (i j : Int) : Prop := i.natAbs.log2 + j.natAbs.log2 < 134000000
theorem CMulB.ok {i j : Int} (h : CMulB i j) : IntMulOk i j := by
  have b : ∀ x : Int, Builtin.Int.intBits x ≤ x.natAbs.log2 + 1 := fun x => by
    unfold Builtin.Int.intBits
    split <;> omega
  have h1 := b i
  have h2 := b j
  have h3 : i.natAbs.log2 + j.natAbs.log2 < 134000000 := h
  have e : bitsLine = 134217728 := by decide
  unfold IntMulOk
  intro z
  rw [Bool.and_eq_true] at z
  have z2 := z.2
  unfold Builtin.Int.intTooBig at z2
  have z3 := of_decide_eq_true z2
  rw [e] at z3
  omega
theorem op_mulB {X : Cx} : OpR X (binaryOp .Mult) (rI CMulB fun i j => .int (i * j)) := opI fun _ _ _ _ _ _ _ hc q => mul_int q hc.ok
def mulOk (i j : Int) : Bool := decide (i.natAbs.log2 + j.natAbs.log2 < 134000000)
def divOk (_ j : Int) : Bool := decide (0 < j) && decide (j.natAbs.log2 < 9000)
def modOk (_ j : Int) : Bool := decide (0 < j)
def powOk (i j : Int) : Bool := decide (0 ≤ j) && decide (j ≤ 1000000) && decide (i.natAbs < 2 ^ 64)
abbrev gMul := gII mulOk fun i j => i * j
abbrev gDiv := gII divOk fun i j => i / j
abbrev gMod := gII modOk fun i j => i % j
abbrev gPow := gII powOk fun i j => i ^ j.toNat
theorem og_mul {K : PySem.W.Frag} : Op2 K (rI CMulB fun i j => .int (i * j)) gMul := og_ii fun i j h => show i.natAbs.log2 + j.natAbs.log2 < 134000000 from of_decide_eq_true h
theorem og_div {K : PySem.W.Frag} : Op2 K (rI CDivW fun i j => .int (i / j)) gDiv := og_ii fun i j h => by
  unfold divOk at h
  rw [Bool.and_eq_true] at h
  exact ⟨of_decide_eq_true h.1, of_decide_eq_true h.2⟩
theorem og_mod {K : PySem.W.Frag} : Op2 K (rI (fun _ j => 0 < j) fun i j => .int (i % j)) gMod := og_ii fun i j h => of_decide_eq_true h
theorem og_pow {K : PySem.W.Frag} : Op2 K (rI CPow fun i j => .int (i ^ j.toNat)) gPow := og_ii fun i j h => by
  unfold powOk at h
  rw [Bool.and_eq_true, Bool.and_eq_true] at h
  exact ⟨of_decide_eq_true h.1.1, of_decide_eq_true h.1.2, of_decide_eq_true h.2⟩
def gNeg : G1 := fun a h => match a with
  | .d (.int i) => some (.ok (.d (.int (-i))) h)
  | _ => none
theorem og_neg {K : PySem.W.Frag} : Op1 K (rU fun i => .int (-i)) gNeg := by
  intro Z B ρ H h x a W Q ok rx q
  unfold gNeg at q
  split at q
  · exact ⟨_, ra_int rx, q.now ok _ (.d (.int _))⟩
  · exact q.elim
/-- + : o: a new list is a cell -/
def gAdd (o : Bool) : G2 := fun a b h => match a, b with
  | .d (.int i), .d (.int j) => some (.ok (.d (.int (i + j))) h)
  | .d (.str s), .d (.str t) => if s.length + t.length ≤ LIM then some (.ok (.d (.str (s ++ t))) h) else none
  | a, b => match tupOf a, tupOf b with
    | some xs, some ys => mkT (xs ++ ys) h
    | _, _ => match lstOf h a, lstOf h b with
      | some xs, some ys => mkL o (xs ++ ys) h
      | _, _ => none
abbrev rAddA (K : PySem.W.Frag) : R2 := fun x y H Q => rI0 (fun i j => .int (i + j)) x y H Q ∨ (∃ i j, x = .str i ∧ y = .str j ∧ i.length + j.length ≤ sizeLine ∧ Q (.str (i ++ j)) H) ∨ rCatA K x y H Q ∨ rCat x y H Q
theorem op_addA {X : Cx} : OpR X (binaryOp .Add) (rAddA X.K) := op_add.or (op_add_str.or (op_catA.or op_cat))
theorem og_add {K : PySem.W.Frag} {o : Bool} : Op2 K (rAddA K) (gAdd o) := by
  intro Z B ρ H h x y a b W Q ok rx ry q
  unfold gAdd at q
  split at q
  · exact .inl ⟨_, _, ra_int rx, ra_int ry, q.now ok _ (.d (.int _))⟩
  · split at q
    · rename_i hl
      exact .inr (.inl ⟨_, _, ra_str rx, ra_str ry, by rw [← lim_eq]; exact hl, q.now ok _ (.d (.str _))⟩)
    · exact q.elim
  · split at q
    · rename_i xs ys e1 e2
      obtain ⟨p, vs, rfl, h1, r1⟩ := tupOf_ra rx e1
      obtain ⟨p', us, rfl, h2, r2⟩ := tupOf_ra ry e2
      have hl := mkT_len q
      rw [List.length_append] at hl
      refine .inr (.inr (.inl ⟨p, p', vs, us, rfl, rfl, sqt_of (ok.ex _ _ h1), sqt_of (ok.ex _ _ h2), by rw [r1.length, r2.length, ← lim_eq]; exact hl, fun e => ?_, fun _ e => ?_, fun _ _ c hc => ?_⟩))
      · subst e
        cases r1
        exact mkT_at ok h2 r2 q
      · subst e
        cases r2
        rw [List.append_nil] at q
        exact mkT_at ok h1 r1 q
      · exact mkT_ok ok (r1.append r2) q hc
    · split at q
      · rename_i xs ys e1 e2
        obtain ⟨p, vs, rfl, h1, r1⟩ := lstOf_ra ok rx e1
        obtain ⟨p', us, rfl, h2, r2⟩ := lstOf_ra ok ry e2
        have hl := mkL_len q
        rw [List.length_append] at hl
        exact .inr (.inr (.inr ⟨p, p', vs, us, rfl, rfl, h1, h2, by rw [r1.length, r2.length, ← lim_eq]; exact hl, fun c hc => mkL_ok ok (r1.append r2) q hc⟩))
      · exact q.elim

/-! ### comparisons -/
/-- of data seen as a whole -/
def g2V (g : D → D → Option Bool) : G2 := fun a b h => match view h a with
  | some x => (match view h b with | some y => (match g x y with | some k => some (.ok (.d (.bl k)) h) | none => none) | none => none)
  | none => none
theorem og_2v {K : PySem.W.Frag} {g : D → D → Option Bool} {r : R2} (hg : ∀ H x y d e k Q, Rp K H x d → Rp K H y e → g d e = some k → Q (.bl k) H → r x y H Q) : Op2 K r (g2V g) := by
  intro Z B ρ H h x y a b W Q ok rx ry q
  unfold g2V at q
  split at q
  · rename_i d e1
    split at q
    · rename_i e e2
      split at q
      · rename_i k e3
        exact hg H x y d e k Q (ok.see rx e1) (ok.see ry e2) e3 (q.now ok _ (.d (.bl k)))
      · exact q.elim
    · exact q.elim
  · exact q.elim
def eqD (neg : Bool) (x y : D) : Option Bool := if x.shp && y.shp then some (if neg then !D.eqv x y else D.eqv x y) else none
abbrev gEq (neg : Bool) : G2 := g2V (eqD neg)
theorem og_eq {K : PySem.W.Frag} : Op2 K (rEqD K) (gEq false) := og_2v fun H x y d e k Q rx ry hk q => by
  unfold eqD at hk
  split at hk
  · rename_i hs
    rw [Bool.and_eq_true] at hs
    cases hk
    exact ⟨_, _, rx.dp hs.1, ry.dp hs.2, hs.1, hs.2, q⟩
  · cases hk
theorem og_ne {K : PySem.W.Frag} : Op2 K (rNeD K) (gEq true) := og_2v fun H x y d e k Q rx ry hk q => by
  unfold eqD at hk
  split at hk
  · rename_i hs
    rw [Bool.and_eq_true] at hs
    cases hk
    exact ⟨_, _, rx.dp hs.1, ry.dp hs.2, hs.1, hs.2, q⟩
  · cases hk
def gCmp (p : Int → Int → Bool) : G2 := fun a b h => match a, b with
  | .d (.int i), .d (.int j) => some (.ok (.d (.bl (p i j))) h)
  | _, _ => none
theorem og_cmp {K : PySem.W.Frag} {p : Int → Int → Bool} : Op2 K (rI0 fun i j => .bl (p i j)) (gCmp p) := by
  intro Z B ρ H h x y a b W Q ok rx ry q
  unfold gCmp at q
  split at q
  · exact ⟨_, _, ra_int rx, ra_int ry, q.now ok _ (.d (.bl _))⟩
  · exact q.elim
abbrev gLt := gCmp fun i j => decide (i < j)
abbrev gLe := gCmp fun i j => decide (i ≤ j)
abbrev gGt := gCmp fun i j => decide (j < i)
abbrev gGe := gCmp fun i j => decide (j ≤ i)
theorem og_lt {K : PySem.W.Frag} : Op2 K (rI0 fun i j => .bl (decide (i < j))) gLt := og_cmp
theorem og_le {K : PySem.W.Frag} : Op2 K (rI0 fun i j => .bl (decide (i ≤ j))) gLe := og_cmp
theorem og_gt {K : PySem.W.Frag} : Op2 K (rI0 fun i j => .bl (decide (j < i))) gGt := og_cmp
theorem og_ge {K : PySem.W.Frag} : Op2 K (rI0 fun i j => .bl (decide (j ≤ i))) gGe := og_cmp
def A.isNon : A → Bool | .d .non => true | _ => false
def A.isBl (b : Bool) : A → Bool | .d (.bl c) => c == b | _ => false
def gIs (neg : Bool) : G2 := fun a b h => match b with
  | .d .non => some (.ok (.d (.bl (neg != a.isNon))) h)
  | .d (.bl c) => some (.ok (.d (.bl (neg != a.isBl c))) h)
  | _ => none
def rIsA (neg : Bool) : R2 := fun x y H Q => (y = .non ∨ ∃ b, y = .bl b) ∧ Q (.bl (neg != decide (x = y))) H
theorem plain_of {x y : V} {v u : Value} (rx : RelV x v) (ry : RelV y u) (h : y = .non ∨ ∃ b, y = .bl b) : plainIs v u = true ∧ (v == u) = decide (x = y) := by
  rcases h with rfl | ⟨b, rfl⟩
  · cases ry
    cases x with
    | non => cases rx; exact ⟨rfl, rfl⟩
    | bl _ => cases rx; exact ⟨rfl, rfl⟩
    | int _ => obtain ⟨t, rfl⟩ := rx; exact ⟨rfl, rfl⟩
    | str _ => obtain ⟨t, rfl⟩ := rx; exact ⟨rfl, rfl⟩
    | byt _ => obtain ⟨t, rfl⟩ := rx; exact ⟨rfl, rfl⟩
    | flt _ => obtain ⟨t, rfl⟩ := rx; exact ⟨rfl, rfl⟩
    | ref _ => cases rx; exact ⟨rfl, rfl⟩
    | ty _ => cases rx; exact ⟨rfl, rfl⟩
  · cases ry
    cases x with
    | non => cases rx; exact ⟨rfl, rfl⟩
    | bl c => cases rx; exact ⟨rfl, by cases c <;> cases b <;> rfl⟩
    | int _ => obtain ⟨t, rfl⟩ := rx; exact ⟨rfl, rfl⟩
    | str _ => obtain ⟨t, rfl⟩ := rx; exact ⟨rfl, rfl⟩
    | byt _ => obtain ⟨t, rfl⟩ := rx; exact ⟨rfl, rfl⟩
    | flt _ => obtain ⟨t, rfl⟩ := rx; exact ⟨rfl, rfl⟩
    | ref _ => cases rx; exact ⟨rfl, rfl⟩
    | ty _ => cases rx; exact ⟨rfl, rfl⟩
theorem op_isA {X : Cx} : OpR X (compareOp .Is) (rIsA false) := by
  intro pins s σ H x y v u Q I rx ry h
  obtain ⟨hy, q⟩ := h
  obtain ⟨h1, h2⟩ := plain_of rx ry hy
  exact wpAny_is_plain h1 (fin_bl I q (by rw [h2]; simp))
theorem op_isNotA {X : Cx} : OpR X (compareOp .IsNot) (rIsA true) := by
  intro pins s σ H x y v u Q I rx ry h
  obtain ⟨hy, q⟩ := h
  obtain ⟨h1, h2⟩ := plain_of rx ry hy
  exact wpAny_isNot_plain h1 (fin_bl I q (by rw [h2]; simp))
theorem og_is {K : PySem.W.Frag} {neg : Bool} : Op2 K (rIsA neg) (gIs neg) := by
  intro Z B ρ H h x y a b W Q ok rx ry q
  unfold gIs at q
  split at q
  · obtain rfl := rp_non (ra_d ry)
    refine ⟨.inl rfl, ?_⟩
    have z : decide (x = V.non) = a.isNon := by
      cases rx with
      | d r => cases r <;> rfl
      | r _ => rfl
      | tup _ _ => rfl
    rw [z]
    exact q.now ok _ (.d (.bl _))
  · rename_i c
    obtain rfl := rp_bl (ra_d ry)
    refine ⟨.inr ⟨c, rfl⟩, ?_⟩
    have z : decide (x = V.bl c) = a.isBl c := by
      cases rx with
      | d r => cases r <;> first | rfl | (rename_i k; cases k <;> cases c <;> rfl)
      | r _ => rfl
      | tup _ _ => rfl
    rw [z]
    exact q.now ok _ (.d (.bl _))
  · exact q.elim

/-! ### items -/
theorem atI_some {α : Type} {xs : List α} {i : Int} {v : α} (h : atI xs i = some v) : ∃ j, ixN xs.length i = some j ∧ xs[j]? = some v := by
  unfold atI at h
  cases e : ixN xs.length i with
  | none => rw [e] at h; cases h
  | some j => rw [e] at h; exact ⟨j, rfl, h⟩
theorem atI_of {α β : Type} {xs : List α} {ys : List β} {i : Int} {j : Nat} {v : β} (hl : ys.length = xs.length) (h : ixN xs.length i = some j) (h2 : ys[j]? = some v) : atI ys i = some v := by
  unfold atI
  rw [hl, h]
  exact h2
def gIx : G2 := fun a b h => match b with
  | .d (.int i) => (match a with
    | .d (.str z) => if z.length ≤ LIM then (match atI z.cps.toList i with | some c => some (.ok (.d (.str ⟨#[c]⟩)) h) | none => none) else none
    | .d (.scr ns) => (match atI ns i with | some n => some (.ok (.d (.int n)) h) | none => none)
    | .d (.kt ds) => (match atI ds i with | some d => some (.ok (.d d) h) | none => none)
    | a => match tupOf a with
      | some ws => (match atI ws i with | some w => some (.ok w h) | none => none)
      | none => match lstOf h a with
        | some ws => (match atI ws i with | some w => some (.ok w h) | none => none)
        | none => none)
  | _ => none
theorem og_ix {K : PySem.W.Frag} : Op2 K (rIx K) gIx := by
  intro Z B ρ H h x y a b W Q ok rx ry q
  unfold gIx at q
  split at q
  · rename_i i
    cases ra_int ry
    split at q
    · split at q
      · rename_i hl
        split at q
        · rename_i c e3
          cases ra_str rx
          exact .inr (.inr ⟨_, _, _, rfl, rfl, by rw [← lim_eq]; exact hl, e3, q.now ok _ (.d (.str _))⟩)
        · exact q.elim
      · exact q.elim
    · split at q
      · rename_i n e3
        cases ra_d rx with
        | scr h1 =>
          obtain ⟨j, e4, e5⟩ := atI_some e3
          exact .inl ⟨_, _, _, .int n, rfl, rfl, ok.ex.seq h1, atI_of (List.length_map ..) e4 (by rw [List.getElem?_map, e5]; rfl), q.now ok _ (.d (.int n))⟩
      · exact q.elim
    · split at q
      · rename_i d e3
        cases ra_d rx with
        | kt h1 r1 =>
          obtain ⟨j, e4, e5⟩ := atI_some e3
          obtain ⟨v, e6, r2⟩ := r1.get e5
          exact .inr (.inl ⟨_, _, _, _, rfl, rfl, sqt_mono ok.ex h1, atI_of r1.length e4 e6, q.now ok _ (.d r2)⟩)
      · exact q.elim
    · split at q
      · rename_i ws e1
        split at q
        · rename_i w e3
          obtain ⟨p, vs, rfl, h1, r1⟩ := tupOf_ra rx e1
          obtain ⟨j, e4, e5⟩ := atI_some e3
          obtain ⟨v, e6, r2⟩ := r1.get e5
          exact .inr (.inl ⟨_, _, _, _, rfl, rfl, sqt_of (ok.ex _ _ h1), atI_of r1.length e4 e6, q.now ok _ r2⟩)
        · exact q.elim
      · split at q
        · rename_i ws e1
          split at q
          · rename_i w e3
            obtain ⟨p, vs, rfl, h1, r1⟩ := lstOf_ra ok rx e1
            obtain ⟨j, e4, e5⟩ := atI_some e3
            obtain ⟨v, e6, r2⟩ := r1.get e5
            exact .inl ⟨_, _, _, _, rfl, rfl, SqL.of h1, atI_of r1.length e4 e6, q.now ok _ r2⟩
          · exact q.elim
        · exact q.elim
  · exact q.elim
theorem rx_ix {X : Cx} {W : WX} {a b : Expr} {pos : Pos} {ma mb : E A} (ha : RX X W a ma) (hb : RX X W b mb) (hs : PlainIx b := by exact fun _ _ => rfl) : RX X W (.Subscript a b pos) (mBin gIx ma mb) := ⟨pe_imp (pe_ix ix_seq ha.pe hb.pe hs) fun σ H Q q => by
  obtain ⟨Z, B, ρ, τ, h, ok, sl, q⟩ := q
  exact te_bd ok sl q fun x a h1 B1 ρ1 H1 rx ok1 sl1 g1 q1 => te_bd ok1 sl1 q1 fun y b h2 B2 ρ2 H2 ry ok2 sl2 g2 q2 => og_ix Z B2 ρ2 H2 h2 x y a b _ Q ok2 (rx.mono g2) ry q2⟩

/-! ### slices -/
def tOo (K : PySem.W.Frag) (W : WX) (m : E (Option Int)) : TO := fun σ H Q => ∃ Z B ρ τ h, Ok K Z B ρ H h ∧ SlOk K B ρ σ τ ∧ Post K Z (fun c d H' => W c d σ H') B ρ (fun o _ B' ρ' H' => Q o H') (m τ h)
structure RO (X : Cx) (W : WX) (e : Option Expr) (m : E (Option Int)) : Prop where
  po : PO X e (tOo X.K W m)
def moN : E (Option Int) := fun _ h => some (.ok none h)
def moS (m : E A) : E (Option Int) := fun τ h => bd (m τ h) fun a h1 => match a with | .d (.int i) => some (.ok (some i) h1) | _ => none
theorem ro_none {X : Cx} {W : WX} : RO X W none moN := ⟨po_imp po_none fun σ H Q q => by
  obtain ⟨Z, B, ρ, τ, h, ok, sl, q⟩ := q
  exact q.now ok⟩
theorem ro_some {X : Cx} {W : WX} {e : Expr} {m : E A} (hm : RX X W e m) : RO X W (some e) (moS m) := ⟨po_imp (po_some hm.pe) fun σ H Q q => by
  obtain ⟨Z, B, ρ, τ, h, ok, sl, q⟩ := q
  refine te_bd ok sl q fun x a h1 B1 ρ1 H1 rx ok1 sl1 g1 q1 => ?_
  split at q1
  · exact ⟨_, ra_int rx, q1.now ok1⟩
  · exact q1.elim⟩
def cut {α : Type} (xs : List α) (lo hi : Option Int) : List α := (xs.drop (HT.sIx xs.length 0 lo)).take (HT.sIx xs.length xs.length hi - HT.sIx xs.length 0 lo)
theorem RAL.cut {K : PySem.W.Frag} {B : Hp} {ρ : Nat → Option Addr} {vs : List V} {ds : List A} (r : RAL K B ρ vs ds) (lo hi : Option Int) : RAL K B ρ (cutV vs lo hi) (cut ds lo hi) := by
  unfold cutV Tq.cut
  rw [r.length]
  exact (r.drop _).take _
theorem map_cut {α β : Type} (f : α → β) (xs : List α) (lo hi : Option Int) : cut (xs.map f) lo hi = (cut xs lo hi).map f := by
  unfold cut
  rw [List.length_map, List.map_take, List.map_drop]
def gSl (o : Bool) (a : A) (lo hi : Option Int) (h : Hq) : Option (Rs A) := match a with
  | .d (.str z) => if z.length ≤ LIM then some (.ok (.d (.str (cutS z lo hi))) h) else none
  | .d (.scr ns) => mkL o ((cut ns lo hi).map fun i => .d (.int i)) h
  | a => match tupOf a with
    | some ws => mkT (cut ws lo hi) h
    | none => match lstOf h a with
      | some ws => mkL o (cut ws lo hi) h
      | none => none
abbrev rSlAll (K : PySem.W.Frag) : V → Option Int → Option Int → Hp → VK → Prop := fun x lo hi H Q => rSlL K x lo hi H Q ∨ rSlA K x lo hi H Q ∨ rSlS x lo hi H Q
theorem og_sl {K : PySem.W.Frag} {o : Bool} {Z B H : Hp} {ρ : Nat → Option Addr} {h : Hq} {x : V} {a : A} {lo hi : Option Int} {W : XK} {Q : VK} (ok : Ok K Z B ρ H h) (rx : RA K B ρ x a) (q : Post K Z W B ρ (fun w _ B' ρ' H' => ∀ v, RA K B' ρ' v w → Q v H') (gSl o a lo hi h)) : rSlAll K x lo hi H Q := by
  unfold gSl at q
  split at q
  · split at q
    · rename_i hl
      cases ra_str rx
      exact .inr (.inr ⟨_, rfl, by rw [← lim_eq]; exact hl, q.now ok _ (.d (.str _))⟩)
    · exact q.elim
  · rename_i ns
    cases ra_d rx with
    | scr h1 =>
      refine .inl ⟨_, _, rfl, ok.ex.seq h1, fun p hp => ?_⟩
      have z : cutV (ns.map V.int) lo hi = (cut ns lo hi).map V.int := map_cut V.int ns lo hi
      refine mkL_ok ok ?_ q hp
      rw [z]
      have e := ral_ds (K := K) (B := B) (ρ := ρ) (rpl_ints (K := K) (B := B) (cut ns lo hi))
      rwa [List.map_map] at e
  · split at q
    · rename_i ws e1
      obtain ⟨p, vs, rfl, h1, r1⟩ := tupOf_ra rx e1
      refine .inr (.inl ⟨p, vs, rfl, sqt_of (ok.ex _ _ h1), fun e => ?_, fun _ c hc => mkT_ok ok (r1.cut lo hi) q hc⟩)
      have z : cut ws lo hi = ws := by
        unfold cut
        rw [← r1.length, e.1, e.2, List.drop_zero, Nat.sub_zero, r1.length, List.take_length]
      rw [z] at q
      exact mkT_at ok h1 r1 q
    · split at q
      · rename_i ws e1
        obtain ⟨p, vs, rfl, h1, r1⟩ := lstOf_ra ok rx e1
        exact .inl ⟨p, vs, rfl, SqL.of h1, fun c hc => mkL_ok ok (r1.cut lo hi) q hc⟩
      · exact q.elim
def mSl (o : Bool) (ma : E A) (ml mh : E (Option Int)) : E A := fun τ h => bd (ma τ h) fun a h1 => bd (ml τ h1) fun lo h2 => bd (mh τ h2) fun hi h3 => gSl o a lo hi h3
theorem rx_slice {X : Cx} {W : WX} (o : Bool) {a : Expr} {lo hi : Option Expr} {p2 pos : Pos} {ma : E A} {ml mh : E (Option Int)} (ha : RX X W a ma) (hl : RO X W lo ml) (hh : RO X W hi mh) :
    RX X W (.Subscript a (.Slice lo hi none p2) pos) (mSl o ma ml mh) := ⟨pe_imp (pe_slice (sl_list.or (sl_tupA.or sl_str)) ha.pe hl.po hh.po) fun σ H Q q => by
  obtain ⟨Z, B, ρ, τ, h, ok, sl, q⟩ := q
  refine te_bd ok sl q fun x a h1 B1 ρ1 H1 rx ok1 sl1 g1 q1 => ?_
  refine ⟨Z, B1, ρ1, τ, h1, ok1, sl1, q1.bd.imp fun lo h2 B2 ρ2 H2 ok2 g2 q2 => ?_⟩
  refine ⟨Z, B2, ρ2, τ, h2, ok2, sl1.mono g2, q2.bd.imp fun hi h3 B3 ρ3 H3 ok3 g3 q3 => ?_⟩
  exact og_sl ok3 (rx.mono (g2.trans g3)) q3⟩
end Tq

/-! Tq4: tests, conditional values, built-ins. -/
namespace Tq
open PySem PySem.Spec PyProof.Rows L2

def tT (K : PySem.W.Frag) (W : WX) (m : E Bool) : TT := fun σ H Q => ∃ Z B ρ τ h, Ok K Z B ρ H h ∧ SlOk K B ρ σ τ ∧ Post K Z (fun c d H' => W c d σ H') B ρ (fun b _ B' ρ' H' => Q b H') (m τ h)
structure RT (X : Cx) (W : WX) (e : Expr) (m : E Bool) : Prop where
  pt : PT X e (tT X.K W m)
structure RWt (X : Cx) (W : WX) (e : Expr) (m : E Bool) : Prop where
  pw : PW X e (tT X.K W m)
def truD : D → Option Bool
  | .non => some false | .bl b => some b | .int i => some (i != 0)
  | .str x => if x.length ≤ LIM then some ((x.length : Int) != 0) else none
  | .lst xs => some (!xs.isEmpty) | .tup xs => some (!xs.isEmpty) | .kt xs => some (!xs.isEmpty) | .scr ns => some (!ns.isEmpty)
  | .nd (.dic ks) xs => if xs.length = ks.length then some (!ks.isEmpty) else none
  | _ => none
def truA (h : Hq) : A → Option Bool
  | .d x => truD x
  | .tup ws => some (!ws.isEmpty)
  | .r k => match h[k]? with | some (.lst ws) => some (!ws.isEmpty) | some (.nd (.dic ks) ws) => some (!ks.isEmpty) | _ => none
def mTru (m : E A) : E Bool := fun τ h => bd (m τ h) fun a h1 => match truA h1 a with | some b => some (.ok b h1) | none => none
def mTB (m : E A) : E Bool := fun τ h => bd (m τ h) fun a h1 => match a with | .d (.bl b) => some (.ok b h1) | _ => none
def mNotT (m : E Bool) : E Bool := fun τ h => bd (m τ h) fun b h1 => some (.ok (!b) h1)
def mAndT (ma mb : E Bool) : E Bool := fun τ h => bd (ma τ h) fun b h1 => match b with | true => mb τ h1 | false => some (.ok false h1)
def mOrT (ma mb : E Bool) : E Bool := fun τ h => bd (ma τ h) fun b h1 => match b with | false => mb τ h1 | true => some (.ok true h1)
section
variable {X : Cx} {W : WX} {e a b c : Expr} {es rest : List Expr} {m ma mb mc : E A} {t ta tb : E Bool} {pos : Pos}
theorem zip_empty {κ : Type} : ∀ {ks : List κ} {vs : List V}, ks.length = vs.length → (ks.zip vs).isEmpty = ks.isEmpty
  | [], _, _ => rfl
  | _ :: _, [], h => by simp at h
  | _ :: _, _ :: _, _ => rfl
theorem tru_rp {K : PySem.W.Frag} {H : Hp} {v : V} {d : D} {k : Bool} (r : Rp K H v d) (h : truD d = some k) : TruV K v H k := by
  cases r with
  | non => cases h; rfl
  | bl b => cases h; rfl
  | int i => cases h; rfl
  | str x =>
    have h : (if x.length ≤ LIM then some ((x.length : Int) != 0) else none) = some k := h
    split at h
    · rename_i hl
      cases h
      exact ⟨by rw [← lim_eq]; exact hl, rfl⟩
    · cases h
  | tup h1 r1 =>
    cases h
    refine .inr (.inl ⟨_, sqt_of h1, ?_⟩)
    cases r1 <;> rfl
  | kt h1 r1 =>
    cases h
    refine .inr (.inl ⟨_, h1, ?_⟩)
    cases r1 <;> rfl
  | lst h1 r1 =>
    cases h
    refine .inl ⟨_, SqL.of h1, ?_⟩
    cases r1 <;> rfl
  | scr h1 =>
    rename_i a ns
    cases h
    refine .inl ⟨_, h1, ?_⟩
    cases ns <;> rfl
  | fn _ => cases h
  | nd h1 r1 =>
    cases h1 with
    | dic e1 e2 =>
      rename_i ks
      have h : (if _ then some (!ks.isEmpty) else none) = some k := h
      split at h
      · cases h
        exact .inr (.inr ⟨_, e1, by rw [zip_empty e2]⟩)
      · cases h
    | dit => cases h
    | ins => cases h
theorem tru_ra {K : PySem.W.Frag} {Z B H : Hp} {ρ : Nat → Option Addr} {h : Hq} {v : V} {a : A} {k : Bool} (ok : Ok K Z B ρ H h) (r : RA K B ρ v a) (e : truA h a = some k) : TruV K v H k := by
  unfold truA at e
  split at e
  · exact tru_rp ((ra_d r).mono ok.ex) e
  · cases e
    cases r with
    | tup h1 r1 =>
      refine .inr (.inl ⟨_, sqt_of (ok.ex _ _ h1), ?_⟩)
      cases r1 <;> rfl
  · split at e
    · rename_i ws e1
      cases e
      cases r with
      | r hr =>
        obtain ⟨p, h1, h2⟩ := ok.ce _ _ e1
        rw [hr] at h1
        cases h1
        cases h2 with
        | lst q1 q2 q3 q4 =>
          refine .inl ⟨_, SqL.of q1, ?_⟩
          cases q2 <;> rfl
    · rename_i ks ws e1
      cases e
      cases r with
      | r hr =>
        obtain ⟨p, h1, h2⟩ := ok.ce _ _ e1
        rw [hr] at h1
        cases h1
        cases h2 with
        | nd q1 q2 q3 =>
          cases q1 with
          | dic e1 e2 => exact .inr (.inr ⟨_, e1, by rw [zip_empty e2]⟩)
    · cases e
theorem rt_truth (ha : RX X W a m) (he : ∀ whole, isTrue a X.env whole = (do let v ← whole; standAt a.pos; holding [v] (truthy v)) := by exact fun _ => rfl) : RT X W a (mTru m) := ⟨pt_imp (pt_truth ha.pe he) fun σ H Q q => by
  obtain ⟨Z, B, ρ, τ, h, ok, sl, q⟩ := q
  refine te_bd ok sl q fun x a h1 B1 ρ1 H1 rx ok1 sl1 g1 q1 => ?_
  split at q1
  · rename_i k e
    exact ⟨k, tru_ra ok1 rx e, q1.now ok1⟩
  · exact q1.elim⟩
theorem rt_cmp {op : CmpOp} {g : G2} {r : R2} (ho : OpR X (compareOp op) r) (og : Op2 X.K r g) (ha : RX X W a ma) (hb : RX X W b mb) (hm : behindInMarks op b = false) : RT X W (.Compare a [op] [b] pos) (mTB (mBin g ma mb)) := ⟨pt_imp (pt_cmpR ho ha.pe hb.pe hm) fun σ H Q q => by
  obtain ⟨Z, B, ρ, τ, h, ok, sl, q⟩ := q
  have q2 := q.bd
  unfold mBin at q2
  exact te_bd ok sl q2 fun x a h1 B1 ρ1 H1 rx ok1 sl1 g1 q1 => te_bd ok1 sl1 q1 fun y b h2 B2 ρ2 H2 ry ok2 sl2 g2 q2 => og Z B2 ρ2 H2 h2 x y a b _ _ ok2 (rx.mono g2) ry (q2.imp fun w h3 B3 ρ3 H3 ok3 g3 q3 v rv => by
    split at q3
    · exact ⟨_, rp_bl (ra_d rv), q3.now ok3⟩
    · exact q3.elim)⟩
/-- a value that is True or False, as a test -/
theorem rt_val (ha : RX X W a m) (he : ∀ whole, isTrue a X.env whole = (do let v ← whole; standAt a.pos; holding [v] (truthy v)) := by exact fun _ => rfl) : RT X W a (mTru m) := rt_truth ha he
theorem rt_no : RT X W e mNo := ⟨⟨fun pins s σ H Q I q => by
  obtain ⟨_, _, _, _, _, _, _, q⟩ := q
  exact q.elim⟩⟩
theorem rt_not (h : RT X W a t) : RT X W (.UnaryOp .Not a pos) (mNotT t) := ⟨pt_imp (pt_not h.pt) fun σ H Q q => by
  obtain ⟨Z, B, ρ, τ, h, ok, sl, q⟩ := q
  exact ⟨Z, B, ρ, τ, h, ok, sl, q.bd.imp fun b h1 B1 ρ1 H1 ok1 g1 q1 => q1.now ok1⟩⟩
theorem RWt.rt (h : RWt X W e t) : RT X W e t := ⟨h.pw.pt⟩
theorem rw_and1 (h : RT X W a t) : RWt X W (.BoolOp .And [a] pos) t := ⟨pw_and1 h.pt⟩
theorem rw_or1 (h : RT X W a t) : RWt X W (.BoolOp .Or [a] pos) t := ⟨pw_or1 h.pt⟩
theorem rw_and (ha : RT X W a ta) (hb : RWt X W (.BoolOp .And (b :: rest) pos) tb) : RWt X W (.BoolOp .And (a :: b :: rest) pos) (mAndT ta tb) := ⟨pw_imp (pw_and ha.pt hb.pw) fun σ H Q q => by
  obtain ⟨Z, B, ρ, τ, h, ok, sl, q⟩ := q
  refine ⟨Z, B, ρ, τ, h, ok, sl, q.bd.imp fun b h1 B1 ρ1 H1 ok1 g1 q1 => ?_⟩
  cases b with
  | true => exact iteT ⟨Z, B1, ρ1, τ, h1, ok1, sl.mono g1, q1⟩
  | false => exact iteF (q1.now ok1)⟩
theorem rw_or (ha : RT X W a ta) (hb : RWt X W (.BoolOp .Or (b :: rest) pos) tb) : RWt X W (.BoolOp .Or (a :: b :: rest) pos) (mOrT ta tb) := ⟨pw_imp (pw_or ha.pt hb.pw) fun σ H Q q => by
  obtain ⟨Z, B, ρ, τ, h, ok, sl, q⟩ := q
  refine ⟨Z, B, ρ, τ, h, ok, sl, q.bd.imp fun b h1 B1 ρ1 H1 ok1 g1 q1 => ?_⟩
  cases b with
  | true => exact iteT (q1.now ok1)
  | false => exact iteF ⟨Z, B1, ρ1, τ, h1, ok1, sl.mono g1, q1⟩⟩

/-! ### and, or, not as values; a if t else b -/
def mAndV (ma mb : E A) : E A := fun τ h => bd (ma τ h) fun a h1 => match a with | .d (.bl true) => mb τ h1 | .d (.bl false) => some (.ok (.d (.bl false)) h1) | _ => none
def mOrV (ma mb : E A) : E A := fun τ h => bd (ma τ h) fun a h1 => match a with | .d (.bl false) => mb τ h1 | .d (.bl true) => some (.ok (.d (.bl true)) h1) | _ => none
def mNotV (ma : E A) : E A := fun τ h => bd (ma τ h) fun a h1 => match a with | .d (.bl b) => some (.ok (.d (.bl (!b))) h1) | _ => none
def mIfE (t : E Bool) (ma mb : E A) : E A := fun τ h => bd (t τ h) fun b h1 => match b with | true => ma τ h1 | false => mb τ h1
theorem rx_if (hc : RT X W c t) (ha : RX X W a ma) (hb : RX X W b mb) : RX X W (.IfExp c a b pos) (mIfE t ma mb) := ⟨pe_imp (pe_ifExp hc.pt ha.pe hb.pe) fun σ H Q q => by
  obtain ⟨Z, B, ρ, τ, h, ok, sl, q⟩ := q
  refine ⟨Z, B, ρ, τ, h, ok, sl, q.bd.imp fun b h1 B1 ρ1 H1 ok1 g1 q1 => ?_⟩
  cases b with
  | true => exact iteT ⟨Z, B1, ρ1, τ, h1, ok1, sl.mono g1, q1⟩
  | false => exact iteF ⟨Z, B1, ρ1, τ, h1, ok1, sl.mono g1, q1⟩⟩
theorem rx_one {op} (h : RX X W a m) : RX X W (.BoolOp op [a] pos) m := ⟨pe_one h.pe⟩
theorem rx_and (ha : RX X W a ma) (hb : RX X W (.BoolOp .And (b :: rest) pos) mb) : RX X W (.BoolOp .And (a :: b :: rest) pos) (mAndV ma mb) := ⟨pe_imp (pe_and ha.pe hb.pe) fun σ H Q q => by
  obtain ⟨Z, B, ρ, τ, h, ok, sl, q⟩ := q
  refine te_bd ok sl q fun x a h1 B1 ρ1 H1 rx ok1 sl1 g1 q1 => ?_
  split at q1
  · exact ⟨true, rp_bl (ra_d rx), iteT ⟨Z, B1, ρ1, τ, h1, ok1, sl1, q1⟩⟩
  · exact ⟨false, rp_bl (ra_d rx), iteF (q1.now ok1 _ (.d (.bl false)))⟩
  · exact q1.elim⟩
theorem rx_or (ha : RX X W a ma) (hb : RX X W (.BoolOp .Or (b :: rest) pos) mb) : RX X W (.BoolOp .Or (a :: b :: rest) pos) (mOrV ma mb) := ⟨pe_imp (L2.pe_or ha.pe hb.pe) fun σ H Q q => by
  obtain ⟨Z, B, ρ, τ, h, ok, sl, q⟩ := q
  refine te_bd ok sl q fun x a h1 B1 ρ1 H1 rx ok1 sl1 g1 q1 => ?_
  split at q1
  · exact ⟨false, rp_bl (ra_d rx), iteF ⟨Z, B1, ρ1, τ, h1, ok1, sl1, q1⟩⟩
  · exact ⟨true, rp_bl (ra_d rx), iteT (q1.now ok1 _ (.d (.bl true)))⟩
  · exact q1.elim⟩
theorem rx_not (ha : RX X W a ma) : RX X W (.UnaryOp .Not a pos) (mNotV ma) := ⟨pe_imp (pe_not ha.pe) fun σ H Q q => by
  obtain ⟨Z, B, ρ, τ, h, ok, sl, q⟩ := q
  refine te_bd ok sl q fun x a h1 B1 ρ1 H1 rx ok1 sl1 g1 q1 => ?_
  split at q1
  · exact ⟨_, rp_bl (ra_d rx), q1.now ok1 _ (.d (.bl _))⟩
  · exact q1.elim⟩
/-- a < b < c -/
def mChain (g1 g2 : G2) (ma mb mc : E A) : E A := fun τ h => bd (ma τ h) fun a h1 => bd (mb τ h1) fun b h2 => bd (g1 a b h2) fun k h3 => match k with
  | .d (.bl true) => bd (mc τ h3) fun c h4 => g2 b c h4
  | .d (.bl false) => some (.ok (.d (.bl false)) h3)
  | _ => none

/-! ### calls of built-ins -/
theorem rx_b1 {id : String} {x : Str} {r : List V → Hp → VK → Prop} {g : G1} {px : Pos} (hc : CallR X (.builtin id) r) (og : Op1 X.K (fun x H Q => r [x] H Q) g) (ha : RX X W a ma) (hm : X.mg x = none) (hv : bootBuiltins x = some (.builtin id) := by decide +kernel) (hg : Gl X x := by rfl)
    (hn : x ≠ "__name__" := by decide) (hdb : (x == ("__debug__" : Str)) = false := by decide) (he : starEach [a] X.env = (false, eval a X.env) :: starEach [] X.env := by rfl) : RX X W (.Call (.Name x px) [a] [] pos) (mUn g ma) :=
  rx_op1 ha og fun h1 => pe_callB hc hg hm hv (pa_cons h1 pa_nil he) hn hdb he
theorem rx_t1 {T : String} {x : Str} {r : List V → Hp → VK → Prop} {g : G1} {px : Pos} (hc : CallR X (.type T) r) (og : Op1 X.K (fun x H Q => r [x] H Q) g) (ha : RX X W a ma) (hm : X.mg x = none) (hv : bootBuiltins x = some (.type T) := by decide +kernel) (hg : Gl X x := by rfl)
    (hn : x ≠ "__name__" := by decide) (hdb : (x == ("__debug__" : Str)) = false := by decide) (he : starEach [a] X.env = (false, eval a X.env) :: starEach [] X.env := by rfl) : RX X W (.Call (.Name x px) [a] [] pos) (mUn g ma) :=
  rx_op1 ha og fun h1 => pe_callTy hc hg hm hv (pa_cons h1 pa_nil he) hn hdb he
theorem rx_b2 {id : String} {x : Str} {r : List V → Hp → VK → Prop} {g : G2} {px : Pos} (hc : CallR X (.builtin id) r) (og : Op2 X.K (fun x y H Q => r [x, y] H Q) g) (ha : RX X W a ma) (hb : RX X W b mb) (hm : X.mg x = none) (hv : bootBuiltins x = some (.builtin id) := by decide +kernel) (hg : Gl X x := by rfl)
    (hn : x ≠ "__name__" := by decide) (hdb : (x == ("__debug__" : Str)) = false := by decide) (he : starEach [a, b] X.env = (false, eval a X.env) :: starEach [b] X.env := by rfl) (he2 : starEach [b] X.env = (false, eval b X.env) :: starEach [] X.env := by rfl) (hpl : (backTo pos (starEach [b] X.env)).any (·.1) = false := by rfl) : RX X W (.Call (.Name x px) [a, b] [] pos) (mBin g ma mb) :=
  rx_op2 ha hb og fun h1 h2 => pe_callB hc hg hm hv (pa_cons h1 (pa_cons h2 pa_nil he2) he) hn hdb he hpl
/-- len -/
def lenA (h : Hq) : A → Option Nat
  | .d (.str x) => if x.length ≤ LIM then some x.length else none
  | .d (.scr ns) => some ns.length
  | .d (.kt ds) => some ds.length
  | a => match tupOf a with
    | some ws => some ws.length
    | none => match lstOf h a with | some ws => some ws.length | none => none
def gLen : G1 := fun a h => match lenA h a with | some n => some (.ok (.d (.int (n : Nat))) h) | none => none
theorem og_len {K : PySem.W.Frag} : Op1 K (fun x H Q => ∃ x' n, [x] = [x'] ∧ LenV K x' H n ∧ Q (.int n) H) gLen := by
  intro Z B ρ H h x a W Q ok rx q
  unfold gLen at q
  split at q
  · rename_i n e
    refine ⟨x, n, rfl, ?_, q.now ok _ (.d (.int _))⟩
    unfold lenA at e
    split at e
    · split at e
      · cases e
        cases ra_str rx
        exact ⟨by rw [← lim_eq]; assumption, rfl⟩
      · cases e
    · cases e
      cases ra_d rx with
      | scr h1 => exact .inl ⟨_, ok.ex.seq h1, (List.length_map ..).symm⟩
    · cases e
      cases ra_d rx with
      | kt h1 r1 => exact .inr ⟨_, sqt_mono ok.ex h1, r1.length.symm⟩
    · split at e
      · rename_i ws e1
        cases e
        obtain ⟨p, vs, rfl, h1, r1⟩ := tupOf_ra rx e1
        exact .inr ⟨_, sqt_of (ok.ex _ _ h1), r1.length.symm⟩
      · split at e
        · rename_i ws e1
          cases e
          obtain ⟨p, vs, rfl, h1, r1⟩ := lstOf_ra ok rx e1
          exact .inl ⟨_, SqL.of h1, r1.length.symm⟩
        · cases e
  · exact q.elim
/-- int of an int, of a bool -/
def gInt : G1 := fun a h => match a with
  | .d (.int i) => some (.ok (.d (.int i)) h)
  | .d (.bl b) => some (.ok (.d (.int (if b then 1 else 0))) h)
  | _ => none
theorem og_int {K : PySem.W.Frag} : Op1 K (fun x H Q => (∃ i, [x] = [.int i] ∧ Q (.int i) H) ∨ ∃ k, [x] = [.bl k] ∧ Q (.int (if k then 1 else 0)) H) gInt := by
  intro Z B ρ H h x a W Q ok rx q
  unfold gInt at q
  split at q
  · cases ra_int rx
    exact .inl ⟨_, rfl, q.now ok _ (.d (.int _))⟩
  · cases rp_bl (ra_d rx)
    exact .inr ⟨_, rfl, q.now ok _ (.d (.int _))⟩
  · exact q.elim
def gAbs : G1 := fun a h => match a with
  | .d (.int i) => some (.ok (.d (.int (if i < 0 then -i else i))) h)
  | _ => none
theorem og_abs {K : PySem.W.Frag} : Op1 K (fun x H Q => ∃ i, [x] = [.int i] ∧ Q (.int (if i < 0 then -i else i)) H) gAbs := by
  intro Z B ρ H h x a W Q ok rx q
  unfold gAbs at q
  split at q
  · cases ra_int rx
    exact ⟨_, rfl, q.now ok _ (.d (.int _))⟩
  · exact q.elim
def gMax2 : G2 := fun a b h => match a, b with
  | .d (.int i), .d (.int j) => some (.ok (.d (.int (if j > i then j else i))) h)
  | _, _ => none
theorem og_max2 {K : PySem.W.Frag} : Op2 K (fun x y H Q => ∃ i j, [x, y] = [.int i, .int j] ∧ Q (.int (if j > i then j else i)) H) gMax2 := by
  intro Z B ρ H h x y a b W Q ok rx ry q
  unfold gMax2 at q
  split at q
  · cases ra_int rx
    cases ra_int ry
    exact ⟨_, _, rfl, q.now ok _ (.d (.int _))⟩
  · exact q.elim
def gMin2 : G2 := fun a b h => match a, b with
  | .d (.int i), .d (.int j) => some (.ok (.d (.int (if j < i then j else i))) h)
  | _, _ => none
theorem og_min2 {K : PySem.W.Frag} : Op2 K (fun x y H Q => ∃ i j, [x, y] = [.int i, .int j] ∧ Q (.int (if j < i then j else i)) H) gMin2 := by
  intro Z B ρ H h x y a b W Q ok rx ry q
  unfold gMin2 at q
  split at q
  · cases ra_int rx
    cases ra_int ry
    exact ⟨_, _, rfl, q.now ok _ (.d (.int _))⟩
  · exact q.elim
/-- tuple(list), tuple(tuple) -/
def gTupOf : G1 := fun a h => match tupOf a with
  | some ws => mkT ws h
  | none => match lstOf h a with | some ws => mkT ws h | none => none
theorem og_tupOf {K : PySem.W.Frag} : Op1 K (fun x H Q => ∃ p ys, [x] = [.ref p] ∧ ((SqL K H p ys ∧ ∀ l, H l = none → Q (.ref l) (upd H l (.tup ys))) ∨ (SqT K H p ys ∧ Q (.ref p) H))) gTupOf := by
  intro Z B ρ H h x a W Q ok rx q
  unfold gTupOf at q
  split at q
  · rename_i ws e1
    obtain ⟨p, vs, rfl, h1, r1⟩ := tupOf_ra rx e1
    exact ⟨_, _, rfl, .inr ⟨sqt_of (ok.ex _ _ h1), mkT_at ok h1 r1 q⟩⟩
  · split at q
    · rename_i ws e1
      obtain ⟨p, vs, rfl, h1, r1⟩ := lstOf_ra ok rx e1
      exact ⟨_, _, rfl, .inl ⟨SqL.of h1, fun l hl => mkT_ok ok r1 q hl⟩⟩
    · exact q.elim
/-- list(list), list(tuple), list(script) -/
def gLstOf (o : Bool) : G1 := fun a h => match a with
  | .d (.scr ns) => mkL o (ns.map fun i => .d (.int i)) h
  | a => match tupOf a with
    | some ws => mkL o ws h
    | none => match lstOf h a with | some ws => mkL o ws h | none => none
theorem ral_ints {K : PySem.W.Frag} {B : Hp} {ρ : Nat → Option Addr} (ns : List Int) : RAL K B ρ (ns.map V.int) (ns.map fun i => A.d (.int i)) := by
  have e := ral_ds (ρ := ρ) (rpl_ints (K := K) (B := B) ns)
  rwa [List.map_map] at e
theorem og_lstOf {K : PySem.W.Frag} {o : Bool} : Op1 K (fun x H Q => ∃ p ys, [x] = [.ref p] ∧ (SqL K H p ys ∨ SqT K H p ys) ∧ ∀ l, H l = none → Q (.ref l) (upd H l (.lst ys))) (gLstOf o) := by
  intro Z B ρ H h x a W Q ok rx q
  unfold gLstOf at q
  split at q
  · rename_i ns
    cases ra_d rx with
    | scr h1 => exact ⟨_, _, rfl, .inl (ok.ex.seq h1), fun l hl => mkL_ok ok (ral_ints ns) q hl⟩
  · split at q
    · rename_i ws e1
      obtain ⟨p, vs, rfl, h1, r1⟩ := tupOf_ra rx e1
      exact ⟨_, _, rfl, .inr (sqt_of (ok.ex _ _ h1)), fun l hl => mkL_ok ok r1 q hl⟩
    · split at q
      · rename_i ws e1
        obtain ⟨p, vs, rfl, h1, r1⟩ := lstOf_ra ok rx e1
        exact ⟨_, _, rfl, .inl (SqL.of h1), fun l hl => mkL_ok ok r1 q hl⟩
      · exact q.elim
/-- str of an int -/
def gStrI : G1 := fun a h => match a with
  | .d (.int i) => if i.natAbs.log2 < 1920 then some (.ok (.d (.str (toString i))) h) else none
  | _ => none
theorem og_strI {K : PySem.W.Frag} : Op1 K (fun x H Q => ∃ i, [x] = [.int i] ∧ i.natAbs.log2 < 1920 ∧ Q (.str (toString i)) H) gStrI := by
  intro Z B ρ H h x a W Q ok rx q
  unfold gStrI at q
  split at q
  · split at q
    · rename_i hl
      cases ra_int rx
      exact ⟨_, rfl, hl, q.now ok _ (.d (.str _))⟩
    · exact q.elim
  · exact q.elim
def gOrd : G1 := fun a h => match a with
  | .d (.str x) => if x.length = 1 then some (.ok (.d (.int (x.cps.getD 0 0 : Nat))) h) else none
  | _ => none
theorem og_ord1 {K : PySem.W.Frag} : Op1 K (fun x H Q => ∃ z, [x] = [.str z] ∧ z.length = 1 ∧ Q (.int (z.cps.getD 0 0 : Nat)) H) gOrd := by
  intro Z B ρ H h x a W Q ok rx q
  unfold gOrd at q
  split at q
  · split at q
    · rename_i hl
      cases ra_str rx
      exact ⟨_, rfl, hl, q.now ok _ (.d (.int _))⟩
    · exact q.elim
  · exact q.elim
def gChr : G1 := fun a h => match a with
  | .d (.int i) => if 0 ≤ i ∧ i ≤ 1114111 then some (.ok (.d (.str ⟨#[i.toNat]⟩)) h) else none
  | _ => none
theorem og_chr {K : PySem.W.Frag} : Op1 K (fun x H Q => ∃ i, [x] = [.int i] ∧ 0 ≤ i ∧ i ≤ 1114111 ∧ Q (.str ⟨#[i.toNat]⟩) H) gChr := by
  intro Z B ρ H h x a W Q ok rx q
  unfold gChr at q
  split at q
  · split at q
    · rename_i hl
      cases ra_int rx
      exact ⟨_, rfl, hl.1, hl.2, q.now ok _ (.d (.str _))⟩
    · exact q.elim
  · exact q.elim

/-! ### sep.join(texts) -/
def strsA : List A → Option (List Str) := mapMn fun a => match a with | .d (.str x) => some x | _ => none
theorem strsA_ra {K : PySem.W.Frag} {B : Hp} {ρ : Nat → Option Addr} : ∀ {vs : List V} {ws : List A} {ys : List Str}, RAL K B ρ vs ws → strsA ws = some ys → vs = ys.map V.str
  | _, _, ys, .nil, h => by cases h; rfl
  | _, w :: r, ys, .cons ra ral, h => by
    unfold strsA mapMn at h
    split at h
    · rename_i b e1
      split at h
      · rename_i bs e2
        cases h
        split at e1
        · cases e1
          rw [strsA_ra ral e2, ra_str ra]
          rfl
        · cases e1
      · cases h
    · cases h
def gJoin : G2 := fun s u h => match s with
  | .d (.str a) => (match (match tupOf u with | some ws => some ws | none => lstOf h u) with
    | some ws => (match strsA ws with
      | some ys => if (ys.map (·.length)).sum + ys.length * a.length ≤ LIM then some (.ok (.d (.str (Txt.join a ys))) h) else none
      | none => none)
    | none => none)
  | _ => none
/-- a method of a built-in type with one argument -/
theorem rx_m1 {T id : String} {name : Str} {apos : Pos} {r : V → List V → Hp → VK → Prop} {g : G2} (pa : PlainAttrs T) (slot : Slot T name id) (hty : typeOf (.builtin id) = pure (.type "method_descriptor")) (hm : MtR X id r)
    (tok : A → Hq → Bool) (hC : ∀ (Z B : Hp) (ρ : Nat → Option Addr) (H : Hp) (h : Hq) (x : V) (a : A), Ok X.K Z B ρ H h → RA X.K B ρ x a → tok a h = true → tyV X.K T x H) (og : Op2 X.K (fun x y H Q => r x [y] H Q) g) (ha : RX X W a ma) (hb : RX X W b mb)
    (hbase : attributeBase a name X.env (eval a X.env) = eval a X.env := by rfl)
    (hfew : ((backTo pos (starEach (b :: []) X.env)).all (fun x => !x.1) && (backToKw pos (keywordEach [] X.env)).all (fun x => x.1.isSome)
      && decide ((b :: []).length + ([] : List Keyword).length + (if ([] : List Keyword).isEmpty then 0 else 1) < 30)) = true := by rfl)
    (hline : (apos.endLine == pos.line) = true := by rfl) (hs : starEach (b :: []) X.env = (false, eval b X.env) :: starEach [] X.env := by rfl) :
    RX X W (.Call (.Attribute a name apos) [b] [] pos) (fun τ h => bd (ma τ h) fun a h1 => if tok a h1 = true then bd (mb τ h1) fun b h2 => g a b h2 else none) := ⟨pe_imp (pe_bm pa slot hty hm ha.pe (pa_cons hb.pe pa_nil hs) hbase hfew hline hs) fun σ H Q q => by
  obtain ⟨Z, B, ρ, τ, h, ok, sl, q⟩ := q
  refine te_bd ok sl q fun x a h1 B1 ρ1 H1 rx ok1 sl1 g1 q1 => ?_
  split at q1
  · rename_i ht
    exact ⟨hC Z B1 ρ1 H1 h1 x a ok1 rx ht, te_bd ok1 sl1 q1 fun y b h2 B2 ρ2 H2 ry ok2 sl2 g2 q2 => og Z B2 ρ2 H2 h2 x y a b _ Q ok2 (rx.mono g2) ry q2⟩
  · exact q1.elim⟩
/-- a method of a built-in type without arguments -/
theorem rx_m0 {T id : String} {name : Str} {apos : Pos} {r : V → List V → Hp → VK → Prop} {g : G1} (pa : PlainAttrs T) (slot : Slot T name id) (hty : typeOf (.builtin id) = pure (.type "method_descriptor")) (hm : MtR X id r)
    (tok : A → Hq → Bool) (hC : ∀ (Z B : Hp) (ρ : Nat → Option Addr) (H : Hp) (h : Hq) (x : V) (a : A), Ok X.K Z B ρ H h → RA X.K B ρ x a → tok a h = true → tyV X.K T x H) (og : Op1 X.K (fun x H Q => r x [] H Q) g) (ha : RX X W a ma)
    (hbase : attributeBase a name X.env (eval a X.env) = eval a X.env := by rfl)
    (hline : (apos.endLine == pos.line) = true := by rfl) :
    RX X W (.Call (.Attribute a name apos) [] [] pos) (fun τ h => bd (ma τ h) fun a h1 => if tok a h1 = true then g a h1 else none) := ⟨pe_imp (pe_bm0 pa slot hty hm ha.pe hbase hline) fun σ H Q q => by
  obtain ⟨Z, B, ρ, τ, h, ok, sl, q⟩ := q
  refine te_bd ok sl q fun x a h1 B1 ρ1 H1 rx ok1 sl1 g1 q1 => ?_
  split at q1
  · rename_i ht
    exact ⟨hC Z B1 ρ1 H1 h1 x a ok1 rx ht, og Z B1 ρ1 H1 h1 x a _ Q ok1 rx q1⟩
  · exact q1.elim⟩
def tokS : A → Hq → Bool := fun a _ => match a with | .d (.str _) => true | _ => false
def tokL : A → Hq → Bool := fun a h => (lstOf h a).isSome
theorem tokS_ty {K : PySem.W.Frag} (Z B : Hp) (ρ : Nat → Option Addr) (H : Hp) (h : Hq) (x : V) (a : A) (ok : Ok K Z B ρ H h) (r : RA K B ρ x a) (e : tokS a h = true) : tyV K "str" x H := by
  unfold tokS at e
  split at e
  · cases ra_str r
    rfl
  · cases e
theorem tokL_ty {K : PySem.W.Frag} (Z B : Hp) (ρ : Nat → Option Addr) (H : Hp) (h : Hq) (x : V) (a : A) (ok : Ok K Z B ρ H h) (r : RA K B ρ x a) (e : tokL a h = true) : tyV K "list" x H := by
  unfold tokL at e
  obtain ⟨ws, e⟩ := Option.isSome_iff_exists.mp e
  obtain ⟨p, vs, rfl, h1, r1⟩ := lstOf_ra ok r e
  exact .inl ⟨rfl, _, SqL.of h1⟩
theorem og_join {K : PySem.W.Frag} : Op2 K (fun x y H Q => ∃ a p, ∃ ys : List Str, x = .str a ∧ [y] = [.ref p] ∧ (SqL K H p (ys.map V.str) ∨ SqT K H p (ys.map V.str)) ∧
      (ys.map (·.length)).sum + ys.length * a.length ≤ 16777216 ∧ Q (.str (Txt.join a ys)) H) gJoin := by
  intro Z B ρ H h x y a b W Q ok rx ry q
  unfold gJoin at q
  split at q
  · rename_i a
    split at q
    · rename_i ws e
      split at q
      · rename_i ys e2
        split at q
        · rename_i hl
          cases ra_str rx
          have z : ∃ p, y = .ref p ∧ (SqL K H p (ys.map V.str) ∨ SqT K H p (ys.map V.str)) := by
            split at e
            · rename_i ws' e1
              cases e
              obtain ⟨p, vs, rfl, h1, r1⟩ := tupOf_ra ry e1
              exact ⟨p, rfl, .inr (by rw [← strsA_ra r1 e2]; exact sqt_of (ok.ex _ _ h1))⟩
            · obtain ⟨p, vs, rfl, h1, r1⟩ := lstOf_ra ok ry e
              exact ⟨p, rfl, .inl (by rw [← strsA_ra r1 e2]; exact SqL.of h1)⟩
          obtain ⟨p, rfl, hp⟩ := z
          exact ⟨a, p, ys, rfl, rfl, hp, hl, q.now ok _ (.d (.str _))⟩
        · exact q.elim
      · exact q.elim
    · exact q.elim
  · exact q.elim
def mM1 (tok : A → Hq → Bool) (g : G2) (ma mb : E A) : E A := fun τ h => bd (ma τ h) fun a h1 => if tok a h1 = true then bd (mb τ h1) fun b h2 => g a b h2 else none
def mM0 (tok : A → Hq → Bool) (g : G1) (ma : E A) : E A := fun τ h => bd (ma τ h) fun a h1 => if tok a h1 = true then g a h1 else none
theorem rx_join {apos : Pos} (ha : RX X W a ma) (hb : RX X W b mb) (hbase : attributeBase a "join" X.env (eval a X.env) = eval a X.env := by rfl)
    (hfew : ((backTo pos (starEach (b :: []) X.env)).all (fun x => !x.1) && (backToKw pos (keywordEach [] X.env)).all (fun x => x.1.isSome)
      && decide ((b :: []).length + ([] : List Keyword).length + (if ([] : List Keyword).isEmpty then 0 else 1) < 30)) = true := by rfl)
    (hline : (apos.endLine == pos.line) = true := by rfl) (hs : starEach (b :: []) X.env = (false, eval b X.env) :: starEach [] X.env := by rfl) : RX X W (.Call (.Attribute a "join" apos) [b] [] pos) (mM1 tokS gJoin ma mb) :=
  rx_m1 F.plainAttrs_str F.slot_str_join F.type_str_join mt_join tokS tokS_ty og_join ha hb hbase hfew hline hs

/-! ### isinstance of built-in classes -/
def tyD : D → Option String
  | .non => some "NoneType" | .bl _ => some "bool" | .int _ => some "int" | .str _ => some "str" | .tup _ => some "tuple" | .kt _ => some "tuple" | .lst _ => some "list" | .scr _ => some "list"
  | .nd (.dic _) _ => some "dict" | .nd (.dit _) _ => some "dict" | _ => none
def tyA (h : Hq) : A → Option String
  | .d x => tyD x
  | .tup _ => some "tuple"
  | .r k => match h[k]? with | some (.lst _) => some "list" | some (.nd (.dic _) _) => some "dict" | some (.nd (.dit _) _) => some "dict" | _ => none
def isiN (T n : String) : Bool := n == T || (n == "bool" && T == "int")
def gIsi (T : String) : G1 := fun a h => match tyA h a with | some n => some (.ok (.d (.bl (isiN T n))) h) | none => none
theorem hd_ty {K : PySem.W.Frag} {H : Hp} {a : Addr} {hd : Hd} {vs : List V} {own : List Addr} (x : HdAt K H a hd vs own) (h : ∀ C fs, hd ≠ .ins C fs) : TyX K H (.ref a) (.type "dict") := by
  cases x with
  | dic h1 _ => exact .base (.dK h1)
  | dit h1 _ => exact .base (.dT h1)
  | ins => exact absurd rfl (h _ _)
theorem sqt_ty {K : PySem.W.Frag} {H : Hp} {a : Addr} {xs : List V} (h : SqT K H a xs) : TyX K H (.ref a) (.type "tuple") := by
  rcases h with (h | ⟨o, h⟩) | ⟨o, its, n, h, hc, _⟩
  · exact .base (.tup h)
  · exact .fTuple h
  · exact .kTuple h hc
theorem sql_ty {K : PySem.W.Frag} {H : Hp} {a : Addr} {xs : List V} (h : SqL K H a xs) : TyX K H (.ref a) (.type "list") := by
  rcases h with (h | ⟨o, h⟩) | ⟨o, its, n, h, hc, _⟩
  · exact .base (.lst h)
  · exact .base (.frz h)
  · exact .kList h hc
theorem tyx_rp {K : PySem.W.Frag} {H : Hp} {v : V} {d : D} {n : String} (r : Rp K H v d) (e : tyD d = some n) : TyX K H v (.type n) ∧ n ∈ ["NoneType", "bool", "int", "str", "tuple", "list", "dict"] := by
  cases r with
  | non => cases e; exact ⟨.base .non, by decide⟩
  | bl b => cases e; exact ⟨.base (.bl b), by decide⟩
  | int i => cases e; exact ⟨.base (.int i), by decide⟩
  | str x => cases e; exact ⟨.base (.str x), by decide⟩
  | tup h r => cases e; exact ⟨sqt_ty (sqt_of h), by decide⟩
  | kt h r => cases e; exact ⟨sqt_ty h, by decide⟩
  | lst h r => cases e; exact ⟨sql_ty (SqL.of h), by decide⟩
  | scr h => cases e; exact ⟨sql_ty h, by decide⟩
  | fn _ => cases e
  | nd h r =>
    rename_i hd _ _ _
    cases hd with
    | dic ks => cases e; exact ⟨hd_ty h (fun _ _ z => by cases z), by decide⟩
    | dit ks => cases e; exact ⟨hd_ty h (fun _ _ z => by cases z), by decide⟩
    | ins C fs => cases e
theorem tyx_ra {K : PySem.W.Frag} {Z B H : Hp} {ρ : Nat → Option Addr} {h : Hq} {v : V} {a : A} {n : String} (ok : Ok K Z B ρ H h) (r : RA K B ρ v a) (e : tyA h a = some n) : TyX K H v (.type n) ∧ n ∈ ["NoneType", "bool", "int", "str", "tuple", "list", "dict"] := by
  unfold tyA at e
  split at e
  · exact tyx_rp ((ra_d r).mono ok.ex) e
  · cases e
    cases r with
    | tup h1 r1 => exact ⟨sqt_ty (sqt_of (ok.ex _ _ h1)), by decide⟩
  · cases r with
    | r hr =>
      split at e
      · rename_i e1
        cases e
        obtain ⟨p, h1, h2⟩ := ok.ce _ _ e1
        rw [hr] at h1
        cases h1
        cases h2 with
        | lst q1 q2 q3 q4 => exact ⟨sql_ty (SqL.of q1), by decide⟩
      · rename_i e1
        cases e
        obtain ⟨p, h1, h2⟩ := ok.ce _ _ e1
        rw [hr] at h1
        cases h1
        cases h2 with
        | nd q1 q2 q3 => exact ⟨hd_ty q1 (fun _ _ z => by cases z), by decide⟩
      · rename_i e1
        cases e
        obtain ⟨p, h1, h2⟩ := ok.ce _ _ e1
        rw [hr] at h1
        cases h1
        cases h2 with
        | nd q1 q2 q3 => exact ⟨hd_ty q1 (fun _ _ z => by cases z), by decide⟩
      · cases e
theorem kit_isiN {K : PySem.W.Frag} {T n : String} (hT : T ∈ ["bool", "int", "str", "tuple", "list", "dict"]) (hn : n ∈ ["NoneType", "bool", "int", "str", "tuple", "list", "dict"]) : PySem.W.kitOne K (.type n) (.type T) = some (isiN T n) := by
  rcases (by simpa using hT : T = "bool" ∨ T = "int" ∨ T = "str" ∨ T = "tuple" ∨ T = "list" ∨ T = "dict") with rfl | rfl | rfl | rfl | rfl | rfl <;>
    rcases (by simpa using hn : n = "NoneType" ∨ n = "bool" ∨ n = "int" ∨ n = "str" ∨ n = "tuple" ∨ n = "list" ∨ n = "dict") with rfl | rfl | rfl | rfl | rfl | rfl | rfl <;> exact kit_ty (by decide +kernel)
theorem og_isi {K : PySem.W.Frag} {T : String} (hT : T ∈ ["bool", "int", "str", "tuple", "list", "dict"]) : Op1 K (fun x H Q => rIsi K [x, .ty T] H Q) (gIsi T) := by
  intro Z B ρ H h x a W Q ok rx q
  unfold gIsi at q
  split at q
  · rename_i n e
    obtain ⟨h1, h2⟩ := tyx_ra ok rx e
    exact ⟨x, .ty T, .type n, .type T, _, rfl, .ty T, h1, kit_isiN hT h2, q.now ok _ (.d (.bl _))⟩
  · exact q.elim
theorem rx_isi {x : Str} {Ts : String} {px py : Pos} (ha : RX X W a ma) (hmi : X.mg "isinstance" = none) (hmT : X.mg x = none) (hv : bootBuiltins x = some (.type Ts) := by decide +kernel) (hT : Ts ∈ ["bool", "int", "str", "tuple", "list", "dict"] := by decide)
    (hgi : Gl X "isinstance" := by rfl) (hg : Gl X x := by rfl) (hn : x ≠ "__name__" := by decide) (hdb : (x == ("__debug__" : Str)) = false := by decide)
    (he : starEach [a, .Name x py] X.env = (false, eval a X.env) :: starEach [.Name x py] X.env := by rfl) (he2 : starEach [.Name x py] X.env = (false, eval (.Name x py) X.env) :: starEach [] X.env := by rfl) (hpl : (backTo pos (starEach [.Name x py] X.env)).any (·.1) = false := by rfl) :
    RX X W (.Call (.Name "isinstance" px) [a, .Name x py] [] pos) (mUn (gIsi Ts) ma) :=
  rx_op1 ha (og_isi hT) fun h1 => pe_callB call_isi hgi hmi (by decide +kernel) (pa_cons h1 (pa_cons (pe_bltn (v := .ty Ts) hg hmT hv rfl hn hdb) pa_nil he2) he) (by decide) (by decide) he hpl
end
end Tq

/-! Tq5: statements, targets, for, while. -/
namespace Tq
open PySem PySem.Spec PyProof.Rows L2

inductive So where
  | nx (τ : Sl) (h : Hq) | bk (τ : Sl) (h : Hq) | ct (τ : Sl) (h : Hq) | rt (w : A) (h : Hq) | ex (x : Xc) (τ : Sl) (h : Hq)
abbrev MS := Sl → Hq → Option So
def PostS (K : PySem.W.Frag) (Z : Hp) (W : WX) (B : Hp) (ρ : Nat → Option Addr) (D : Ends) : Option So → Prop
  | none => False
  | some (.nx τ h) => ∀ σ' B' ρ' H', Ok K Z B' ρ' H' h → SlOk K B' ρ' σ' τ → Gr Z B ρ B' ρ' → D.nx σ' H'
  | some (.bk τ h) => ∀ σ' B' ρ' H', Ok K Z B' ρ' H' h → SlOk K B' ρ' σ' τ → Gr Z B ρ B' ρ' → D.bk σ' H'
  | some (.ct τ h) => ∀ σ' B' ρ' H', Ok K Z B' ρ' H' h → SlOk K B' ρ' σ' τ → Gr Z B ρ B' ρ' → D.ct σ' H'
  | some (.rt w h) => ∀ v B' ρ' H', RA K B' ρ' v w → Ok K Z B' ρ' H' h → Gr Z B ρ B' ρ' → D.rt v H'
  | some (.ex x τ h) => ∀ σ' B' ρ' H' cls d, Ok K Z B' ρ' H' h → SlOk K B' ρ' σ' τ → Gr Z B ρ B' ρ' → XcAt K B' ρ' H' x cls d → W cls d σ' H'
def tS (K : PySem.W.Frag) (W : WX) (m : MS) : TS := fun D σ H => ∃ Z B ρ τ h, Ok K Z B ρ H h ∧ SlOk K B ρ σ τ ∧ PostS K Z W B ρ D (m τ h)
structure RS (X : Cx) (W : WX) (st : Stmt) (m : MS) : Prop where
  ps : PS X st (tS X.K W m)
structure RSs (X : Cx) (W : WX) (st : List Stmt) (m : MS) : Prop where
  ps : PSs X st (tS X.K W m)
def sb {α : Type} (τ : Sl) (r : Option (Rs α)) (k : α → Hq → Option So) : Option So := match r with
  | some (.ok a h) => k a h
  | some (.ex x h) => some (.ex x τ h)
  | none => none
@[simp] theorem sb_ok {α : Type} (τ : Sl) (a : α) (h : Hq) (k : α → Hq → Option So) : sb τ (some (.ok a h)) k = k a h := rfl
@[simp] theorem sb_ex {α : Type} (τ : Sl) (x : Xc) (h : Hq) (k : α → Hq → Option So) : sb τ (some (.ex x h)) k = some (.ex x τ h) := rfl
@[simp] theorem sb_no {α : Type} (τ : Sl) (k : α → Hq → Option So) : sb τ none k = none := rfl
section
variable {α : Type} {K : PySem.W.Frag} {Z B B' H : Hp} {ρ ρ' : Nat → Option Addr} {h : Hq} {σ : L2.St} {τ : Sl} {W : WX} {D D' : Ends} {r : Option So}
theorem PostS.from (q : PostS K Z W B ρ D r) (g : Gr Z B ρ B' ρ') : PostS K Z W B' ρ' D r := by
  match r, q with
  | some (.nx τ h), q => exact fun σ2 B2 ρ2 H2 ok sl g2 => q σ2 B2 ρ2 H2 ok sl (g.trans g2)
  | some (.bk τ h), q => exact fun σ2 B2 ρ2 H2 ok sl g2 => q σ2 B2 ρ2 H2 ok sl (g.trans g2)
  | some (.ct τ h), q => exact fun σ2 B2 ρ2 H2 ok sl g2 => q σ2 B2 ρ2 H2 ok sl (g.trans g2)
  | some (.rt w h), q => exact fun v B2 ρ2 H2 rv ok g2 => q v B2 ρ2 H2 rv ok (g.trans g2)
  | some (.ex x τ h), q => exact fun σ2 B2 ρ2 H2 cls d ok sl g2 x => q σ2 B2 ρ2 H2 cls d ok sl (g.trans g2) x
theorem PostS.sb {r : Option (Rs α)} {k : α → Hq → Option So} (sl : SlOk K B ρ σ τ) (q : PostS K Z W B ρ D (Tq.sb τ r k)) : Post K Z (fun c d H' => W c d σ H') B ρ (fun a h B' ρ' H' => PostS K Z W B' ρ' D (k a h)) r := by
  match r, q with
  | some (.ok a h), q => exact fun B2 ρ2 H2 ok g2 => PostS.from q g2
  | some (.ex x h), q => exact fun B2 ρ2 H2 cls d ok g2 x => q σ B2 ρ2 H2 cls d ok (sl.mono g2) g2 x
theorem ts_bd {m : E A} {k : A → Hq → Option So} {Q : VK} (ok : Ok K Z B ρ H h) (sl : SlOk K B ρ σ τ) (q : PostS K Z W B ρ D (Tq.sb τ (m τ h) k))
    (c : ∀ v w h1 B1 ρ1 H1, RA K B1 ρ1 v w → Ok K Z B1 ρ1 H1 h1 → SlOk K B1 ρ1 σ τ → Gr Z B ρ B1 ρ1 → PostS K Z W B1 ρ1 D (k w h1) → Q v H1) : tE K W m σ H Q :=
  ⟨Z, B, ρ, τ, h, ok, sl, (q.sb sl).imp fun w h1 B1 ρ1 H1 ok1 g1 q1 v r => c v w h1 B1 ρ1 H1 r ok1 (sl.mono g1) g1 q1⟩
theorem PostS.nx1 {D : Ends} (q : PostS K Z W B ρ D (some (.nx τ h))) (ok : Ok K Z B ρ H h) (sl : SlOk K B ρ σ τ) : D.nx σ H := q σ B ρ H ok sl Gr.refl
end

/-! ### m's -/
def mNx : MS := fun τ h => some (.nx τ h)
def mSeq (m1 m2 : MS) : MS := fun τ h => match m1 τ h with | some (.nx τ' h') => m2 τ' h' | r => r
def mIf (t : E Bool) (m1 m2 : MS) : MS := fun τ h => sb τ (t τ h) fun b h1 => match b with | true => m1 τ h1 | false => m2 τ h1
def mSet (i : Nat) (m : E A) : MS := fun τ h => sb τ (m τ h) fun w h1 => some (.nx (τ.set i (some w)) h1)
def mDrop (m : E A) : MS := fun τ h => sb τ (m τ h) fun _ h1 => some (.nx τ h1)
def mRet (m : E A) : MS := fun τ h => sb τ (m τ h) fun w h1 => some (.rt w h1)
def mRetN : MS := fun _ h => some (.rt (.d .non) h)
def mBk : MS := fun τ h => some (.bk τ h)
def mCt : MS := fun τ h => some (.ct τ h)
def mNoS : MS := fun _ _ => none
section
variable {X : Cx} {W : WX} {st : Stmt} {rest b1 b2 : List Stmt} {m m1 m2 : MS} {me : E A} {t : E Bool} {e c : Expr} {pos : Pos}
theorem rs_no : RS X W st mNoS := ⟨⟨fun pins s σ H D I q => by
  obtain ⟨_, _, _, _, _, _, _, q⟩ := q
  exact q.elim⟩⟩
theorem rss_no {st : List Stmt} : RSs X W st mNoS := ⟨⟨fun pins s σ H D I q => by
  obtain ⟨_, _, _, _, _, _, _, q⟩ := q
  exact q.elim⟩⟩
theorem rss_nil : RSs X W [] mNx := ⟨pss_imp pss_nil fun D σ H q => by
  obtain ⟨Z, B, ρ, τ, h, ok, sl, q⟩ := q
  exact q.nx1 ok sl⟩
theorem rss_cons (h1 : RS X W st m1) (h2 : RSs X W rest m2) : RSs X W (st :: rest) (mSeq m1 m2) := ⟨pss_imp (pss_cons h1.ps h2.ps) fun D σ H q => by
  obtain ⟨Z, B, ρ, τ, h, ok, sl, q⟩ := q
  refine ⟨Z, B, ρ, τ, h, ok, sl, ?_⟩
  unfold mSeq at q
  split at q
  · rename_i τ1 h1 e1
    rw [e1]
    exact fun σ' B' ρ' H' ok' sl' g => ⟨Z, B', ρ', τ1, h1, ok', sl', q.from g⟩
  · rename_i hn
    revert q hn
    cases m1 τ h with
    | none => exact fun _ q => q.elim
    | some r =>
      cases r with
      | nx τ1 h1 => exact fun hn _ => (hn _ _ rfl).elim
      | bk _ _ => exact fun _ q => q
      | ct _ _ => exact fun _ q => q
      | rt _ _ => exact fun _ q => q
      | ex _ _ _ => exact fun _ q => q⟩
theorem rss_one (h1 : RS X W st m1) : RSs X W [st] m1 := ⟨pss_one h1.ps⟩
theorem rs_pass : RS X W (.Pass pos) mNx := ⟨ps_imp ps_pass fun D σ H q => by
  obtain ⟨Z, B, ρ, τ, h, ok, sl, q⟩ := q
  exact q.nx1 ok sl⟩
theorem rs_break : RS X W (.Break pos) mBk := ⟨ps_imp ps_break fun D σ H q => by
  obtain ⟨Z, B, ρ, τ, h, ok, sl, q⟩ := q
  exact q σ B ρ H ok sl Gr.refl⟩
theorem rs_cont : RS X W (.Continue pos) mCt := ⟨ps_imp ps_continue fun D σ H q => by
  obtain ⟨Z, B, ρ, τ, h, ok, sl, q⟩ := q
  exact q σ B ρ H ok sl Gr.refl⟩
theorem rs_doc {x j pos'} : RS X W (.Expr (.Constant (.str x) j pos) pos') mNx := ⟨ps_imp ps_doc fun D σ H q => by
  obtain ⟨Z, B, ρ, τ, h, ok, sl, q⟩ := q
  exact q.nx1 ok sl⟩
theorem rs_if (hc : RT X W c t) (ha : RSs X W b1 m1) (hb : RSs X W b2 m2) : RS X W (.If c b1 b2 pos) (mIf t m1 m2) := ⟨ps_imp (ps_if hc.pt ha.ps hb.ps) fun D σ H q => by
  obtain ⟨Z, B, ρ, τ, h, ok, sl, q⟩ := q
  refine ⟨Z, B, ρ, τ, h, ok, sl, (q.sb sl).imp fun b h1 B1 ρ1 H1 ok1 g1 q1 => ?_⟩
  cases b with
  | true => exact iteT ⟨Z, B1, ρ1, τ, h1, ok1, sl.mono g1, q1⟩
  | false => exact iteF ⟨Z, B1, ρ1, τ, h1, ok1, sl.mono g1, q1⟩⟩
theorem rs_set {i : Nat} {x : Str} {pos' : Pos} (hN : X.N.Nodup) (he : RX X W e me) (hi : X.N[i]? = some x := by rfl) (hx : Loc X.env.scope x := by first | exact .inl rfl | exact .inr rfl) (hs : swapsWith e (some (.Name x pos')) pos.line X.env = pure false := by rfl)
    (hf : X.fn x = true ∨ X.env.scope.names.lookup x = some .local := by first | exact .inl rfl | exact .inr rfl | assumption) : RS X W (.Assign [.Name x pos'] e pos) (mSet i me) := ⟨ps_imp (ps_set hN hi hx he.pe hs hf) fun D σ H q => by
  obtain ⟨Z, B, ρ, τ, h, ok, sl, q⟩ := q
  exact ts_bd ok sl q fun v w h1 B1 ρ1 H1 rv ok1 sl1 g1 q1 => q1.nx1 ok1 (sl1.put rv)⟩
theorem rs_drop (he : RX X W e me) (hs : swapsWith e none pos.line X.env = pure false := by rfl) : RS X W (.Expr e pos) (mDrop me) := ⟨ps_imp (ps_expr he.pe hs) fun D σ H q => by
  obtain ⟨Z, B, ρ, τ, h, ok, sl, q⟩ := q
  exact ts_bd ok sl q fun v w h1 B1 ρ1 H1 rv ok1 sl1 g1 q1 => q1.nx1 ok1 sl1⟩
theorem rs_ret (he : RX X W e me) : RS X W (.Return (some e) pos) (mRet me) := ⟨ps_imp (ps_ret he.pe) fun D σ H q => by
  obtain ⟨Z, B, ρ, τ, h, ok, sl, q⟩ := q
  exact ts_bd ok sl q fun v w h1 B1 ρ1 H1 rv ok1 sl1 g1 q1 => q1 v B1 ρ1 H1 rv ok1 Gr.refl⟩
theorem rs_retN : RS X W (.Return none pos) mRetN := ⟨ps_imp ps_retN fun D σ H q => by
  obtain ⟨Z, B, ρ, τ, h, ok, sl, q⟩ := q
  exact q .non B ρ H (.d .non) ok Gr.refl⟩

/-! ### targets -/
def Apart (vs : List Nat) (σ σ' : L2.St) : Prop := σ'.length = σ.length ∧ ∀ j, j ∉ vs → σ'[j]? = σ[j]?
theorem Apart.refl {vs : List Nat} {σ : L2.St} : Apart vs σ σ := ⟨rfl, fun _ _ => rfl⟩
theorem Apart.trans {vs : List Nat} {σ σ1 σ2 : L2.St} (a : Apart vs σ σ1) (b : Apart vs σ1 σ2) : Apart vs σ σ2 := ⟨b.1.trans a.1, fun j h => (b.2 j h).trans (a.2 j h)⟩
theorem Apart.set {vs : List Nat} {σ : L2.St} {i : Nat} {v : Option V} (h : i ∈ vs) : Apart vs σ (σ.set i v) := ⟨List.length_set .., fun j hj => List.getElem?_set_ne fun e => hj (by rw [← e]; exact h)⟩
structure RG (X : Cx) (vs : List Nat) (tg : Expr) (mg : A → Sl → Hq → Option Sl) : Prop where
  pg : PG X tg fun v σ H Q => ∃ Z B ρ w τ τ' h, Ok X.K Z B ρ H h ∧ SlOk X.K B ρ σ τ ∧ RA X.K B ρ v w ∧ mg w τ h = some τ' ∧ ∀ σ', SlOk X.K B ρ σ' τ' → Apart vs σ σ' → Q σ' H
def mgName (i : Nat) : A → Sl → Hq → Option Sl := fun w τ _ => some (τ.set i (some w))
theorem pg_imp {X : Cx} {e : Expr} {t t' : TG} (h : PG X e t) (i : ∀ v σ H Q, t' v σ H Q → t v σ H Q) : PG X e t' := ⟨fun pins s σ H v u Q I r q => h.run pins s σ H v u Q I r (i _ _ _ _ q)⟩
theorem pg_or {X : Cx} {e : Expr} {t t' : TG} (h : PG X e t) (h' : PG X e t') : PG X e fun v σ H Q => t v σ H Q ∨ t' v σ H Q := ⟨fun pins s σ H v u Q I r q => q.elim (h.run pins s σ H v u Q I r) (h'.run pins s σ H v u Q I r)⟩
theorem pgs_imp {X : Cx} {es : List Expr} {t t' : TGs} (h : PGs X es t) (i : ∀ v σ H Q, t' v σ H Q → t v σ H Q) : PGs X es t' := ⟨fun pins s σ H v u Q I r q => h.run pins s σ H v u Q I r (i _ _ _ _ q)⟩
theorem rg_name {vs : List Nat} {i : Nat} {x : Str} (hN : X.N.Nodup) (hm : i ∈ vs := by decide) (hi : X.N[i]? = some x := by rfl) (hx : Loc X.env.scope x := by first | exact .inl rfl | exact .inr rfl) (hf : X.fn x = true ∨ X.env.scope.names.lookup x = some .local := by first | exact .inl rfl | exact .inr rfl | assumption) :
    RG X vs (.Name x pos) (mgName i) := ⟨pg_imp (pg_name hN hi hx hf) fun v σ H Q q => by
  obtain ⟨Z, B, ρ, w, τ, τ', h, ok, sl, r, e, q⟩ := q
  cases e
  exact q _ (sl.put r) (Apart.set hm)⟩
structure RGs (X : Cx) (is : List Nat) (tgs : List Expr) (mg : List A → Sl → Hq → Option Sl) : Prop where
  pg : PGs X tgs fun vs σ H Q => ∃ Z B ρ ws τ τ' h, Ok X.K Z B ρ H h ∧ SlOk X.K B ρ σ τ ∧ RAL X.K B ρ vs ws ∧ mg ws τ h = some τ' ∧ ∀ σ', SlOk X.K B ρ σ' τ' → Apart is σ σ' → Q σ' H
def mgNil : List A → Sl → Hq → Option Sl := fun ws τ _ => match ws with | [] => some τ | _ => none
def mgCons (g : A → Sl → Hq → Option Sl) (gs : List A → Sl → Hq → Option Sl) : List A → Sl → Hq → Option Sl := fun ws τ h => match ws with
  | w :: r => (match g w τ h with | some τ1 => gs r τ1 h | none => none)
  | [] => none
/-- a, b = a tuple or a list of n -/
def mgTup (n : Nat) (gs : List A → Sl → Hq → Option Sl) : A → Sl → Hq → Option Sl := fun w τ h => match tupOf w with
  | some ws => if ws.length = n then gs ws τ h else none
  | none => match lstOf h w with
    | some ws => if ws.length = n then gs ws τ h else none
    | none => none
theorem rgs_nil {is : List Nat} : RGs X is [] mgNil := ⟨pgs_imp pgs_nil fun vs σ H Q q => by
  obtain ⟨Z, B, ρ, ws, τ, τ', h, ok, sl, r, e, q⟩ := q
  cases r with
  | nil => cases e; exact ⟨rfl, q σ sl Apart.refl⟩
  | cons _ _ => cases e⟩
theorem rgs_cons {is : List Nat} {es : List Expr} {g : A → Sl → Hq → Option Sl} {gs : List A → Sl → Hq → Option Sl} (h1 : RG X is e g) (h2 : RGs X is es gs)
    (hs : (assignEach (e :: es) X.env).map (·.2) = assign e X.env :: (assignEach es X.env).map (·.2) := by rfl) : RGs X is (e :: es) (mgCons g gs) := ⟨pgs_imp (pgs_cons h1.pg h2.pg hs) fun vs σ H Q q => by
  obtain ⟨Z, B, ρ, ws, τ, τ', h, ok, sl, r, e, q⟩ := q
  cases r with
  | nil => cases e
  | cons r rr =>
    unfold mgCons at e
    split at e
    · rename_i w r1 e0
      cases e0
      split at e
      · rename_i τ1 e1
        exact ⟨_, _, rfl, Z, B, ρ, _, τ, τ1, h, ok, sl, r, e1, fun σ1 sl1 a1 => ⟨Z, B, ρ, _, τ1, τ', h, ok, sl1, rr, e, fun σ2 sl2 a2 => q σ2 sl2 (a1.trans a2)⟩⟩
      · cases e
    · cases e⟩
theorem rg_tup {is : List Nat} {es : List Expr} {k : Nat} {gs : List A → Sl → Hq → Option Sl} (hc : X.calm = true) (h : RGs X is es gs) (n : Nat)
    (hn : (assignEach es X.env).length = n := by rfl) (hst : (assignEach es X.env).findIdx? (·.1) = none := by rfl) : RG X is (.Tuple es k pos) (mgTup n gs) := ⟨pg_imp (pg_or (pg_tup hc h.pg hn hst) (pg_lst hc h.pg hn hst)) fun v σ H Q q => by
  obtain ⟨Z, B, ρ, w, τ, τ', h, ok, sl, r, e, q⟩ := q
  unfold mgTup at e
  split at e
  · rename_i ws e1
    split at e
    · rename_i hl
      obtain ⟨p, vs, rfl, h1, r1⟩ := tupOf_ra r e1
      exact .inl ⟨p, vs, rfl, sqt_of (ok.ex _ _ h1), by rw [r1.length]; exact hl, Z, B, ρ, ws, τ, τ', h, ok, sl, r1, e, q⟩
    · cases e
  · split at e
    · rename_i ws e1
      split at e
      · rename_i hl
        obtain ⟨p, vs, rfl, h1, r1⟩ := lstOf_ra ok r e1
        exact .inr ⟨p, vs, rfl, SqL.of h1, by rw [r1.length]; exact hl, Z, B, ρ, ws, τ, τ', h, ok, sl, r1, e, q⟩
      · cases e
    · cases e⟩
def mAsg (g : A → Sl → Hq → Option Sl) (m : E A) : MS := fun τ h => sb τ (m τ h) fun w h1 => match g w τ h1 with | some τ1 => some (.nx τ1 h1) | none => none
theorem rs_asg {is : List Nat} {tg : Expr} {g : A → Sl → Hq → Option Sl} (he : RX X W e me) (hg : RG X is tg g) (hs : swapsWithSole [tg] e pos.line X.env = pure false := by rfl) (hw : swappedStores [tg] e X.env = pure none := by rfl)
    (h1 : (assignEach [tg] X.env).map (·.2) = [assign tg X.env] := by rfl) : RS X W (.Assign [tg] e pos) (mAsg g me) := ⟨ps_imp (ps_asg he.pe hg.pg hs hw h1) fun D σ H q => by
  obtain ⟨Z, B, ρ, τ, h, ok, sl, q⟩ := q
  refine ts_bd ok sl q fun v w h1 B1 ρ1 H1 rv ok1 sl1 g1 q1 => ?_
  split at q1
  · rename_i τ1 e1
    exact ⟨Z, B1, ρ1, w, τ, τ1, h1, ok1, sl1, rv, e1, fun σ' sl' _ => q1.nx1 ok1 sl'⟩
  · exact q1.elim⟩

/-! ### name op= e -/
def mAug (i : Nat) (g : G2) (m : E A) : MS := fun τ h => match τ[i]? with
  | some (some a) => sb τ (m τ h) fun b h1 => sb τ (g a b h1) fun w h2 => some (.nx (τ.set i (some w)) h2)
  | _ => none
theorem rs_aug {i : Nat} {x : Str} {op : Operator} {r : R2} {g : G2} {pos' : Pos} (hN : X.N.Nodup) (ho : OpR X (inplaceOp op) r) (og : Op2 X.K r g) (he : RX X W e me) (hi : X.N[i]? = some x := by rfl) (hx : Loc X.env.scope x := by first | exact .inl rfl | exact .inr rfl)
    (hf : X.fn x = true ∨ X.env.scope.names.lookup x = some .local := by first | exact .inl rfl | exact .inr rfl | assumption) : RS X W (.AugAssign (.Name x pos') op e pos) (mAug i g me) := ⟨ps_imp (ps_aug hN hi hx he.pe ho hf) fun D σ H q => by
  obtain ⟨Z, B, ρ, τ, h, ok, sl, q⟩ := q
  unfold mAug at q
  split at q
  · rename_i a e0
    obtain ⟨v0, h1, h2⟩ := sl.at_ _ _ e0
    refine ⟨v0, h1, ts_bd ok sl q fun v w h1 B1 ρ1 H1 rv ok1 sl1 g1 q1 => ?_⟩
    refine og Z B1 ρ1 H1 h1 v0 v a w _ _ ok1 (h2.mono g1) rv ((q1.sb sl1).imp fun u h3 B3 ρ3 H3 ok3 g3 q3 z rz => ?_)
    exact q3.nx1 ok3 ((sl1.mono g3).put rz)
  · exact q.elim⟩
theorem iop_addA {X : Cx} : OpR X (inplaceOp .Add) (fun x y H Q => rI0 (fun i j => .int (i + j)) x y H Q ∨ (∃ i j, x = .str i ∧ y = .str j ∧ i.length + j.length ≤ sizeLine ∧ Q (.str (i ++ j)) H)) := iop_add.or iop_add_str
def gIAdd : G2 := fun a b h => match a, b with
  | .d (.int i), .d (.int j) => some (.ok (.d (.int (i + j))) h)
  | .d (.str s), .d (.str t) => if s.length + t.length ≤ LIM then some (.ok (.d (.str (s ++ t))) h) else none
  | _, _ => none
theorem og_iadd {K : PySem.W.Frag} : Op2 K (fun x y H Q => rI0 (fun i j => .int (i + j)) x y H Q ∨ (∃ i j, x = .str i ∧ y = .str j ∧ i.length + j.length ≤ sizeLine ∧ Q (.str (i ++ j)) H)) gIAdd := by
  intro Z B ρ H h x y a b W Q ok rx ry q
  unfold gIAdd at q
  split at q
  · exact .inl ⟨_, _, ra_int rx, ra_int ry, q.now ok _ (.d (.int _))⟩
  · split at q
    · rename_i hl
      exact .inr ⟨_, _, ra_str rx, ra_str ry, by rw [← lim_eq]; exact hl, q.now ok _ (.d (.str _))⟩
    · exact q.elim
  · exact q.elim
theorem og_isub {K : PySem.W.Frag} : Op2 K (rI0 fun i j => .int (i - j)) gSub := og_sub
end

/-! ### what is walked -/
/-- by place: stuck, over, or the next -/
abbrev Nxt := Nat → Hq → Option (Option A)
abbrev NZ : Hp := fun _ => none
theorem Gr.wk {Z B B' : Hp} {ρ ρ' : Nat → Option Addr} (g : Gr Z B ρ B' ρ') : Gr NZ B ρ B' ρ' := ⟨g.bb, g.rr, fun _ _ _ => rfl⟩
def Walk (K : PySem.W.Frag) (B : Hp) (ρ : Nat → Option Addr) (J : It) (nx : Nxt) : Prop := ∀ (Z B2 : Hp) (ρ2 : Nat → Option Addr) (H2 : Hp) (h2 : Hq) (i : Nat), Ok K Z B2 ρ2 H2 h2 → Gr NZ B ρ B2 ρ2 →
  (nx i h2 = some none → J.stop i H2) ∧ ∀ w, nx i h2 = some (some w) → J.go i H2 ∧ ∀ x H', J.yld i H2 x H' → ∃ B3, RA K B3 ρ2 x w ∧ Ok K Z B3 ρ2 H' h2 ∧ Gr Z B2 ρ2 B3 ρ2
/-- data, places 0 .. -/
def nxL (ws : List A) : Nxt := fun i _ => some ws[i]?
/-- a cell, as it is then -/
def nxC (k : Nat) : Nxt := fun i h => match h[k]? with | some (.lst ws) => some ws[i]? | _ => none
structure RI (X : Cx) (W : WX) (tg iter : Expr) (m : E Nxt) : Prop where
  pi : PI X tg iter fun σ H R => ∃ Z B ρ τ h, Ok X.K Z B ρ H h ∧ SlOk X.K B ρ σ τ ∧ Post X.K Z (fun c d H' => W c d σ H') B ρ (fun nx _ B' ρ' H' => ∀ J, Walk X.K B' ρ' J nx → R J H') (m τ h)
theorem pi_imp {X : Cx} {tg e : Expr} {t t' : TI} (h : PI X tg e t) (i : ∀ σ H R, t' σ H R → t σ H R) : PI X tg e t' := ⟨fun pins s σ H R I q => h.run pins s σ H R I (i _ _ _ q)⟩
theorem pi_or {X : Cx} {tg e : Expr} {t t' : TI} (h : PI X tg e t) (h' : PI X tg e t') : PI X tg e fun σ H R => t σ H R ∨ t' σ H R := ⟨fun pins s σ H R I q => q.elim (h.run pins s σ H R I) (h'.run pins s σ H R I)⟩
/-- what stands to be walked -/
def itemsA : A → Option Nxt
  | .d (.lst xs) => some (nxL (xs.map A.d)) | .d (.tup xs) => some (nxL (xs.map A.d)) | .d (.kt xs) => some (nxL (xs.map A.d)) | .d (.scr ns) => some (nxL (ns.map fun i => .d (.int i)))
  | .d (.str x) => some (nxL (x.cps.toList.map fun c => .d (.str ⟨#[c]⟩)))
  | .tup ws => some (nxL ws)
  | .r k => some (nxC k)
  | _ => none
def mItems (m : E A) : E Nxt := fun τ h => bd (m τ h) fun a h1 => match a with
  | .r k => (match h1[k]? with | some (.lst _) => some (.ok (nxC k) h1) | _ => none)
  | a => match itemsA a with | some nx => some (.ok nx h1) | none => none
def rangeA (lo : Int) (n : Nat) : List A := (List.range n).map fun i => .d (.int (lo + (i : Nat)))
def mRange1 (m : E A) : E Nxt := fun τ h => bd (m τ h) fun a h1 => match a with
  | .d (.int j) => if -(2 ^ 62) ≤ j ∧ j < 2 ^ 62 then some (.ok (nxL (rangeA 0 j.toNat)) h1) else none
  | _ => none
def mRange2 (ma mb : E A) : E Nxt := fun τ h => bd (ma τ h) fun a h1 => bd (mb τ h1) fun b h2 => match a, b with
  | .d (.int i), .d (.int j) => if -(2 ^ 62) ≤ i ∧ i < 2 ^ 62 ∧ -(2 ^ 62) ≤ j ∧ j < 2 ^ 62 then some (.ok (nxL (rangeA i (j - i).toNat)) h2) else none
  | _, _ => none
section
variable {X : Cx} {W : WX} {tg iter e a b : Expr} {m ma mb : E A} {mi : E Nxt} {pos : Pos}
theorem walk_seq {K : PySem.W.Frag} {B : Hp} {ρ : Nat → Option Addr} {J : It} {vs : List V} {ws : List A} (r : RAL K B ρ vs ws)
    (hstop : ∀ Z B2 ρ2 H2 h2 i, Ok K Z B2 ρ2 H2 h2 → Gr NZ B ρ B2 ρ2 → vs.length ≤ i → J.stop i H2) (hgo : ∀ Z B2 ρ2 H2 h2 i v, Ok K Z B2 ρ2 H2 h2 → Gr NZ B ρ B2 ρ2 → vs[i]? = some v → J.go i H2 ∧ ∀ x H', J.yld i H2 x H' → x = v ∧ H' = H2) : Walk K B ρ J (nxL ws) := by
  intro Z B2 ρ2 H2 h2 i ok2 g2
  refine ⟨fun e => hstop Z B2 ρ2 H2 h2 i ok2 g2 ?_, fun w e => ?_⟩
  · have e : ws[i]? = none := Option.some.inj e
    rw [r.length]
    exact List.getElem?_eq_none_iff.mp e
  · have e : ws[i]? = some w := Option.some.inj e
    obtain ⟨v, h1, h2'⟩ := r.get e
    obtain ⟨k1, k2⟩ := hgo Z B2 ρ2 H2 h2 i v ok2 g2 h1
    refine ⟨k1, fun x H' y => ?_⟩
    obtain ⟨rfl, rfl⟩ := k2 x H' y
    exact ⟨B2, h2'.mono g2, ok2, Gr.refl⟩
theorem walk_list {K : PySem.W.Frag} {B : Hp} {ρ : Nat → Option Addr} {a : Addr} {vs : List V} {ws : List A} (h : SqL K B a vs) (r : RAL K B ρ vs ws) : Walk K B ρ (Itl K a) (nxL ws) :=
  walk_seq r (fun Z B2 ρ2 H2 h2 i ok2 g2 hl => ⟨vs, ok2.ex.seq (g2.bb.seq h), hl⟩) fun Z B2 ρ2 H2 h2 i v ok2 g2 hv => by
    have hq : SqL K H2 a vs := ok2.ex.seq (g2.bb.seq h)
    refine ⟨⟨vs, v, hq, hv⟩, fun x H' y => ?_⟩
    obtain ⟨rfl, y⟩ := y
    exact ⟨Option.some.inj ((y vs hq).symm.trans hv), rfl⟩
theorem walk_tup {K : PySem.W.Frag} {B : Hp} {ρ : Nat → Option Addr} {a : Addr} {vs : List V} {ws : List A} (h : SqT K B a vs) (r : RAL K B ρ vs ws) : Walk K B ρ (Itt K a) (nxL ws) :=
  walk_seq r (fun Z B2 ρ2 H2 h2 i ok2 g2 hl => ⟨vs, sqt_mono ok2.ex (sqt_mono g2.bb h), hl⟩) fun Z B2 ρ2 H2 h2 i v ok2 g2 hv => by
    have hq : SqT K H2 a vs := sqt_mono ok2.ex (sqt_mono g2.bb h)
    refine ⟨⟨vs, v, hq, hv⟩, fun x H' y => ?_⟩
    obtain ⟨rfl, y⟩ := y
    exact ⟨Option.some.inj ((y vs hq).symm.trans hv), rfl⟩
theorem walk_cell {K : PySem.W.Frag} {B : Hp} {ρ : Nat → Option Addr} {k : Nat} {a : Addr} (hr : ρ k = some a) : Walk K B ρ (Itl K a) (nxC k) := by
  intro Z B2 ρ2 H2 h2 i ok2 g2
  have at_ : ∀ ws, h2[k]? = some (.lst ws) → ∃ vs, H2 a = some (.lst vs) ∧ RAL K B2 ρ2 vs ws := fun ws e => by
    obtain ⟨p, h1, h3⟩ := ok2.ce _ _ e
    rw [g2.rr _ _ hr] at h1
    cases h1
    cases h3 with
    | lst q1 q2 q3 q4 => exact ⟨_, q1, q2⟩
  refine ⟨fun e => ?_, fun w e => ?_⟩
  · unfold nxC at e
    split at e
    · rename_i ws e1
      obtain ⟨vs, h1, h3⟩ := at_ ws e1
      have e : ws[i]? = none := Option.some.inj e
      exact ⟨vs, SqL.of h1, by rw [h3.length]; exact List.getElem?_eq_none_iff.mp e⟩
    · cases e
  · unfold nxC at e
    split at e
    · rename_i ws e1
      obtain ⟨vs, h1, h3⟩ := at_ ws e1
      have e : ws[i]? = some w := Option.some.inj e
      obtain ⟨v, h4, h5⟩ := h3.get e
      refine ⟨⟨vs, v, SqL.of h1, h4⟩, fun x H' y => ?_⟩
      obtain ⟨rfl, y⟩ := y
      have : x = v := Option.some.inj ((y vs (SqL.of h1)).symm.trans h4)
      subst this
      exact ⟨B2, h5, ok2, Gr.refl⟩
    · cases e
theorem walk_range {K : PySem.W.Frag} {B : Hp} {ρ : Nat → Option Addr} {lo : Int} {n : Nat} : Walk K B ρ (Itr lo n) (nxL (rangeA lo n)) := by
  have hl : (rangeA lo n).length = n := by unfold rangeA; rw [List.length_map, List.length_range]
  intro Z B2 ρ2 H2 h2 i ok2 g2
  refine ⟨fun e => ?_, fun w e => ?_⟩
  · have e : (rangeA lo n)[i]? = none := Option.some.inj e
    have := List.getElem?_eq_none_iff.mp e
    rw [hl] at this
    exact this
  · have e : (rangeA lo n)[i]? = some w := Option.some.inj e
    have hi : i < n := by
      rw [← hl]
      exact (List.getElem?_eq_some_iff.mp e).1
    refine ⟨hi, fun x H' y => ?_⟩
    obtain ⟨rfl, rfl⟩ := y
    unfold rangeA at e
    rw [List.getElem?_map, List.getElem?_range hi] at e
    cases e
    exact ⟨B2, .d (.int _), ok2, Gr.refl⟩
theorem walk_str {K : PySem.W.Frag} {B : Hp} {ρ : Nat → Option Addr} {x : Str} : Walk K B ρ (Its x) (nxL (x.cps.toList.map fun c => .d (.str ⟨#[c]⟩))) := by
  intro Z B2 ρ2 H2 h2 i ok2 g2
  refine ⟨fun e => ?_, fun w e => ?_⟩
  · have e : (x.cps.toList.map fun c => A.d (.str ⟨#[c]⟩))[i]? = none := Option.some.inj e
    have := List.getElem?_eq_none_iff.mp e
    show x.cps.size ≤ i
    simpa using this
  · have e : (x.cps.toList.map fun c => A.d (.str ⟨#[c]⟩))[i]? = some w := Option.some.inj e
    have hi : i < x.cps.size := by
      have z := (List.getElem?_eq_some_iff.mp e).1
      simpa using z
    refine ⟨hi, fun v H' y => ?_⟩
    obtain ⟨rfl, c, h1, rfl⟩ := y
    rw [List.getElem?_map, Array.getElem?_toList, h1] at e
    cases e
    exact ⟨B2, .d (.str _), ok2, Gr.refl⟩
/-- a list, a tuple, the script, a text, a cell -/
theorem ri_items (he : RX X W e m) : RI X W tg e (mItems m) := ⟨pi_imp (pi_or (pi_list he.pe) (pi_or (pi_tup he.pe) (pi_str he.pe))) fun σ H R q => by
  obtain ⟨Z, B, ρ, τ, h, ok, sl, q⟩ := q
  have dec : ∀ (r : Option (Rs A)), Post X.K Z (fun c d H' => W c d σ H') B ρ (fun nx _ B' ρ' H' => ∀ J, Walk X.K B' ρ' J nx → R J H') (bd r fun a h1 => match a with
      | .r k => (match h1[k]? with | some (.lst _) => some (.ok (nxC k) h1) | _ => none)
      | a => match itemsA a with | some nx => some (.ok nx h1) | none => none) →
      Post X.K Z (fun c d H' => W c d σ H') B ρ (fun w _ B' ρ' H' => ∀ v, RA X.K B' ρ' v w → ∃ a, v = .ref a ∧ (∃ xs, SqL X.K H' a xs) ∧ R (Itl X.K a) H') r ∨
      Post X.K Z (fun c d H' => W c d σ H') B ρ (fun w _ B' ρ' H' => ∀ v, RA X.K B' ρ' v w → ∃ a, v = .ref a ∧ (∃ xs, SqT X.K H' a xs) ∧ R (Itt X.K a) H') r ∨
      Post X.K Z (fun c d H' => W c d σ H') B ρ (fun w _ B' ρ' H' => ∀ v, RA X.K B' ρ' v w → ∃ x, v = .str x ∧ R (Its x) H') r := by
    intro r q
    match r, q with
    | some (.ex x h), q => exact .inl q
    | some (.ok a h1), q =>
      cases a with
      | r k =>
        refine .inl fun B1 ρ1 H1 ok1 g1 v rv => ?_
        have q : Post X.K Z (fun c d H' => W c d σ H') B ρ (fun nx _ B' ρ' H' => ∀ J, Walk X.K B' ρ' J nx → R J H') (match h1[k]? with | some (.lst _) => some (.ok (nxC k) h1) | _ => none) := q
        split at q
        · rename_i ws e1
          cases rv with
          | r hr =>
            obtain ⟨p, h2, h3⟩ := ok1.ce _ _ e1
            rw [hr] at h2
            cases h2
            cases h3 with
            | lst q1 q2 q3 q4 => exact ⟨_, rfl, ⟨_, SqL.of q1⟩, q B1 ρ1 H1 ok1 g1 _ (walk_cell hr)⟩
        · exact q.elim
      | tup ws =>
        refine .inr (.inl fun B1 ρ1 H1 ok1 g1 v rv => ?_)
        cases rv with
        | tup ht r1 => exact ⟨_, rfl, ⟨_, sqt_of (ok1.ex _ _ ht)⟩, q B1 ρ1 H1 ok1 g1 _ (walk_tup (sqt_of ht) r1)⟩
      | d x =>
        cases x with
        | lst xs =>
          refine .inl fun B1 ρ1 H1 ok1 g1 v rv => ?_
          cases ra_d rv with
          | lst h2 r1 => exact ⟨_, rfl, ⟨_, SqL.of (ok1.ex _ _ h2)⟩, q B1 ρ1 H1 ok1 g1 _ (walk_list (SqL.of h2) (ral_ds r1))⟩
        | scr ns =>
          refine .inl fun B1 ρ1 H1 ok1 g1 v rv => ?_
          cases ra_d rv with
          | scr h2 => exact ⟨_, rfl, ⟨_, ok1.ex.seq h2⟩, q B1 ρ1 H1 ok1 g1 _ (walk_list h2 (ral_ints ns))⟩
        | tup xs =>
          refine .inr (.inl fun B1 ρ1 H1 ok1 g1 v rv => ?_)
          cases ra_d rv with
          | tup h2 r1 => exact ⟨_, rfl, ⟨_, sqt_of (ok1.ex _ _ h2)⟩, q B1 ρ1 H1 ok1 g1 _ (walk_tup (sqt_of h2) (ral_ds r1))⟩
        | kt xs =>
          refine .inr (.inl fun B1 ρ1 H1 ok1 g1 v rv => ?_)
          cases ra_d rv with
          | kt h2 r1 => exact ⟨_, rfl, ⟨_, sqt_mono ok1.ex h2⟩, q B1 ρ1 H1 ok1 g1 _ (walk_tup h2 (ral_ds r1))⟩
        | str x =>
          refine .inr (.inr fun B1 ρ1 H1 ok1 g1 v rv => ?_)
          cases ra_str rv
          exact ⟨x, rfl, q B1 ρ1 H1 ok1 g1 _ walk_str⟩
        | non => exact q.elim
        | bl _ => exact q.elim
        | int _ => exact q.elim
        | fn _ => exact q.elim
        | nd _ _ => exact q.elim
  have q : Post X.K Z (fun c d H' => W c d σ H') B ρ (fun nx _ B' ρ' H' => ∀ J, Walk X.K B' ρ' J nx → R J H') (bd (m τ h) fun a h1 => match a with
      | .r k => (match h1[k]? with | some (.lst _) => some (.ok (nxC k) h1) | _ => none)
      | a => match itemsA a with | some nx => some (.ok nx h1) | none => none) := q
  rcases dec (m τ h) q with q | q | q
  · exact .inl ⟨Z, B, ρ, τ, h, ok, sl, q⟩
  · exact .inr (.inl ⟨Z, B, ρ, τ, h, ok, sl, q⟩)
  · exact .inr (.inr ⟨Z, B, ρ, τ, h, ok, sl, q⟩)⟩
theorem ri_range1 {px : Pos} (he : RX X W a m) (hm : X.mg "range" = none) (hg : Gl X "range" := by rfl) (hs : starEach [a] X.env = [(false, eval a X.env)] := by rfl) : RI X W tg (.Call (.Name "range" px) [a] [] pos) (mRange1 m) := ⟨pi_imp (pi_range1 hg hm (pa_cons he.pe pa_nil hs) hs) fun σ H R q => by
  obtain ⟨Z, B, ρ, τ, h, ok, sl, q⟩ := q
  refine te_bd ok sl q fun x a h1 B1 ρ1 H1 rx ok1 sl1 g1 q1 => ?_
  split at q1
  · split at q1
    · rename_i j hj
      cases ra_int rx
      exact ⟨j, rfl, hj.1, hj.2, q1.now ok1 _ walk_range⟩
    · exact q1.elim
  · exact q1.elim⟩
theorem ri_range2 {px : Pos} (ha : RX X W a ma) (hb : RX X W b mb) (hm : X.mg "range" = none) (hg : Gl X "range" := by rfl) (hs : starEach [a, b] X.env = [(false, eval a X.env), (false, eval b X.env)] := by rfl) (hs2 : starEach [b] X.env = [(false, eval b X.env)] := by rfl) :
    RI X W tg (.Call (.Name "range" px) [a, b] [] pos) (mRange2 ma mb) := ⟨pi_imp (pi_range2 hg hm (pa_cons ha.pe (pa_cons hb.pe pa_nil hs2) (by rw [hs, hs2])) hs hs2) fun σ H R q => by
  obtain ⟨Z, B, ρ, τ, h, ok, sl, q⟩ := q
  refine te_bd ok sl q fun x a h1 B1 ρ1 H1 rx ok1 sl1 g1 q1 => te_bd ok1 sl1 q1 fun y b h2 B2 ρ2 H2 ry ok2 sl2 g2 q2 => ?_
  split at q2
  · split at q2
    · rename_i i j hj
      cases ra_int rx
      cases ra_int ry
      exact ⟨i, j, rfl, hj, q2.now ok2 _ walk_range⟩
    · exact q2.elim
  · exact q2.elim⟩

/-! ### for -/
/-- f: turns left -/
def forM (nx : Nxt) (g : A → Sl → Hq → Option Sl) (mb : MS) : Nat → Nat → MS
  | 0, _, _, _ => none
  | f + 1, i, τ, h => match nx i h with
    | some none => some (.nx τ h)
    | some (some w) => (match g w τ h with
      | some τ1 => (match mb τ1 h with
        | some (.nx τ2 h2) => forM nx g mb f (i + 1) τ2 h2
        | some (.ct τ2 h2) => forM nx g mb f (i + 1) τ2 h2
        | some (.bk τ2 h2) => some (.nx τ2 h2)
        | r => r)
      | none => none)
    | none => none
abbrev FU : Nat := 16777217
def mFor (mi : E Nxt) (g : A → Sl → Hq → Option Sl) (mb : MS) : MS := fun τ h => sb τ (mi τ h) fun nx h1 => forM nx g mb FU 0 τ h1
variable {g : A → Sl → Hq → Option Sl} {mbd : MS} {body : List Stmt} {c : Expr} {t : E Bool}
theorem rs_for {is : List Nat} (hp : PassesOwn (model X.prog X.w) X.A X.env X.xe) (hc : X.calm = true) (hi : RI X W tg iter mi) (hg : RG X is tg g) (hb : RSs X W body mbd) (hs : ∀ x, foldedSetIterable iter X.env x = pure x := by intro _; rfl) : RS X W (.For tg iter body [] pos) (mFor mi g mbd) := ⟨ps_imp (ps_for hp hc hi.pi hg.pg hb.ps hs) fun D σ H q => by
  obtain ⟨Z, B, ρ, τ, h, ok, sl, q⟩ := q
  refine ⟨Z, B, ρ, τ, h, ok, sl, (q.sb sl).imp fun nx h1 B1 ρ1 H1 ok1 g1 q1 J wk => ?_⟩
  refine ⟨fun i m σ' H' => ∃ B' ρ' τ' h', Ok X.K Z B' ρ' H' h' ∧ SlOk X.K B' ρ' σ' τ' ∧ Gr Z B1 ρ1 B' ρ' ∧ PostS X.K Z W B' ρ' D (forM nx g mbd m i τ' h'), ⟨FU, B1, ρ1, τ, h1, ok1, sl.mono g1, Gr.refl, q1⟩, ?_⟩
  rintro i m σ2 H2 ⟨B2, ρ2, τ2, h2, ok2, sl2, g2, post⟩
  obtain ⟨stop, go⟩ := wk Z B2 ρ2 H2 h2 i ok2 g2.wk
  cases m with
  | zero => exact post.elim
  | succ m =>
    unfold forM at post
    split at post
    · rename_i e1
      exact .inl ⟨stop e1, post.nx1 ok2 sl2⟩
    · rename_i w e1
      obtain ⟨k1, k2⟩ := go w e1
      refine .inr ⟨k1, fun σ' H' => ∃ B' ρ' τ' h', Ok X.K Z B' ρ' H' h' ∧ SlOk X.K B' ρ' σ' τ' ∧ Gr Z B1 ρ1 B' ρ' ∧ PostS X.K Z W B' ρ' D (forM nx g mbd m (i + 1) τ' h'), fun σ' H' n => ⟨m, Nat.lt_succ_self m, n⟩, fun x H3 y => ?_⟩
      obtain ⟨B3, rx, ok3, g3⟩ := k2 x H3 y
      split at post
      · rename_i τ3 e3
        refine ⟨Z, B3, ρ2, w, τ2, τ3, h2, ok3, sl2.mono g3, rx, e3, fun σ4 sl4 _ => ?_⟩
        refine ⟨Z, B3, ρ2, τ3, h2, ok3, sl4, ?_⟩
        have post := post.from g3
        have g13 := g2.trans g3
        revert post
        cases mbd τ3 h2 with
        | none => exact fun h => h
        | some r =>
          cases r with
          | nx τ4 h4 => exact fun post σ5 B5 ρ5 H5 ok5 sl5 g5 => ⟨B5, ρ5, τ4, h4, ok5, sl5, g13.trans g5, post.from g5⟩
          | ct τ4 h4 => exact fun post σ5 B5 ρ5 H5 ok5 sl5 g5 => ⟨B5, ρ5, τ4, h4, ok5, sl5, g13.trans g5, post.from g5⟩
          | bk τ4 h4 => exact fun post => post
          | rt w h4 => exact fun post => post
          | ex x τ4 h4 => exact fun post => post
      · exact post.elim
    · exact post.elim⟩

/-! ### while: n turns at most -/
def mWhile (t : E Bool) (mb : MS) : Nat → MS
  | 0, _, _ => none
  | n + 1, τ, h => sb τ (t τ h) fun b h1 => match b with
    | false => some (.nx τ h1)
    | true => match mb τ h1 with
      | some (.nx τ2 h2) => mWhile t mb n τ2 h2
      | some (.ct τ2 h2) => mWhile t mb n τ2 h2
      | some (.bk τ2 h2) => some (.nx τ2 h2)
      | r => r
theorem rs_while (n : Nat) (hp : PassesOwn (model X.prog X.w) X.A X.env X.xe) (hc : RT X W c t) (hb : RSs X W body mbd) : RS X W (.While c body [] pos) (mWhile t mbd n) := ⟨ps_imp (ps_while hp hc.pt hb.ps) fun D σ H q => by
  refine ⟨fun m σ' H' => ∃ Z B' ρ' τ' h', Ok X.K Z B' ρ' H' h' ∧ SlOk X.K B' ρ' σ' τ' ∧ PostS X.K Z W B' ρ' D (mWhile t mbd m τ' h'), ⟨n, q⟩, ?_⟩
  rintro m σ2 H2 ⟨Z, B2, ρ2, τ2, h2, ok2, sl2, post⟩
  refine ⟨Z, B2, ρ2, τ2, h2, ok2, sl2, ?_⟩
  cases m with
  | zero => exact post.elim
  | succ m =>
    unfold mWhile at post
    refine (post.sb sl2).imp fun b h3 B3 ρ3 H3 ok3 g3 q3 => ?_
    cases b with
    | false => exact iteF (q3.nx1 ok3 (sl2.mono g3))
    | true =>
      refine iteT ⟨fun σ' H' => ∃ Z B' ρ' τ' h', Ok X.K Z B' ρ' H' h' ∧ SlOk X.K B' ρ' σ' τ' ∧ PostS X.K Z W B' ρ' D (mWhile t mbd m τ' h'), fun σ' H' h => ⟨m, Nat.lt_succ_self m, h⟩, Z, B3, ρ3, τ2, h3, ok3, sl2.mono g3, ?_⟩
      revert q3
      show PostS X.K Z W B3 ρ3 D (match mbd τ2 h3 with
        | some (.nx τ2 h2) => mWhile t mbd m τ2 h2
        | some (.ct τ2 h2) => mWhile t mbd m τ2 h2
        | some (.bk τ2 h2) => some (.nx τ2 h2)
        | r => r) → _
      cases mbd τ2 h3 with
      | none => exact fun h => h
      | some r =>
        cases r with
        | nx τ4 h4 => exact fun post σ5 B5 ρ5 H5 ok5 sl5 g5 => ⟨Z, B5, ρ5, τ4, h4, ok5, sl5, post.from g5⟩
        | ct τ4 h4 => exact fun post σ5 B5 ρ5 H5 ok5 sl5 g5 => ⟨Z, B5, ρ5, τ4, h4, ok5, sl5, post.from g5⟩
        | bk τ4 h4 => exact fun post => post
        | rt w h4 => exact fun post => post
        | ex x τ4 h4 => exact fun post => post⟩
end
end Tq

/-! Tq6: comprehensions. -/
namespace Tq
open PySem PySem.Spec PyProof.Rows L2

def wipeT (τ : Sl) : List Nat → Sl
  | [] => τ
  | v :: vs => (wipeT τ vs).set v none
theorem wipeT_length (τ : Sl) : ∀ vs : List Nat, (wipeT τ vs).length = τ.length
  | [] => rfl
  | v :: vs => by unfold wipeT; rw [List.length_set, wipeT_length τ vs]
theorem wipe_get (σ : L2.St) : ∀ (vs : List Nat) (i : Nat), (L2.wipe σ vs)[i]? = if i ∈ vs ∧ i < σ.length then some none else σ[i]?
  | [], i => by simp [L2.wipe]
  | v :: vs, i => by
    unfold L2.wipe
    rw [List.getElem?_set, wipe_get σ vs i, L2.wipe_length]
    by_cases e : v = i
    · subst e
      by_cases hl : v < σ.length
      · simp [hl]
      · simp [hl]
    · rw [if_neg e]
      simp [List.mem_cons, Ne.symm e]
theorem wipeT_get (τ : Sl) : ∀ (vs : List Nat) (i : Nat), (wipeT τ vs)[i]? = if i ∈ vs ∧ i < τ.length then some none else τ[i]?
  | [], i => by simp [wipeT]
  | v :: vs, i => by
    unfold wipeT
    rw [List.getElem?_set, wipeT_get τ vs i, wipeT_length]
    by_cases e : v = i
    · subst e
      by_cases hl : v < τ.length
      · simp [hl]
      · simp [hl]
    · rw [if_neg e]
      simp [List.mem_cons, Ne.symm e]
theorem wipe_apart {σ1 σ2 : L2.St} {vs : List Nat} (h : Apart vs σ1 σ2) : L2.wipe σ2 vs = L2.wipe σ1 vs := by
  apply List.ext_getElem?
  intro i
  rw [wipe_get, wipe_get, h.1]
  by_cases z : i ∈ vs
  · by_cases hl : i < σ1.length
    · rw [if_pos ⟨z, hl⟩, if_pos ⟨z, hl⟩]
    · have h1 := h.1
      rw [if_neg fun y => hl y.2, if_neg fun y => hl y.2, List.getElem?_eq_none (by omega : σ2.length ≤ i), List.getElem?_eq_none (by omega : σ1.length ≤ i)]
  · rw [if_neg fun y => z y.1, if_neg fun y => z y.1, h.2 i z]
theorem wipe_wipe (σ : L2.St) (vs : List Nat) : L2.wipe (L2.wipe σ vs) vs = L2.wipe σ vs := by
  apply List.ext_getElem?
  intro i
  rw [wipe_get, wipe_get, L2.wipe_length]
  by_cases z : i ∈ vs ∧ i < σ.length
  · rw [if_pos z]
    try rw [if_pos z]
  · rw [if_neg z]
    try rw [if_neg z]
theorem SlOk.wipe {K : PySem.W.Frag} {B : Hp} {ρ : Nat → Option Addr} {σ : L2.St} {τ : Sl} (s : SlOk K B ρ σ τ) (vs : List Nat) : SlOk K B ρ (L2.wipe σ vs) (wipeT τ vs) := by
  refine ⟨by rw [L2.wipe_length, wipeT_length]; exact s.ln, fun i w e => ?_⟩
  rw [wipeT_get] at e
  split at e
  · cases e
  · rename_i hn
    rw [wipe_get, if_neg (by rw [s.ln]; exact hn)]
    exact s.at_ i w e

/-! ### an object of the reading's own, that stands aside -/
section
variable {K : PySem.W.Frag} {Z B H : Hp} {ρ : Nat → Option Addr} {h : Hq} {q : Addr} {o o2 : HO}
theorem CeAt.zs {Z2 : Hp} {a : Addr} {c : O} (x : CeAt K Z B H ρ a c) (hz : ∀ b, Z b = none → H b ≠ none → Z2 b = none) (ha : H a ≠ none) : CeAt K Z2 B H ρ a c := by
  cases x with
  | lst e1 e2 e3 e4 => exact .lst e1 e2 e3 (hz _ e4 ha)
  | nd e1 e2 e3 => exact .nd e1 e2 fun b hb => ⟨(e3 b hb).1, hz b (e3 b hb).2 (e1.own_or.2.2.1 b hb)⟩
  | dead e => exact .dead (hz _ e ha)
/-- a new object stands aside -/
theorem Ok.aside (ok : Ok K Z B ρ H h) (hq : H q = none) : Ok K (upd Z q o) B ρ (upd H q o) h := by
  have ok2 := ok.grow (H' := upd H q o) fun b u e => by rw [upd_ne (ne_of_none e hq)]; exact e
  refine ⟨ok2.ex, fun b u e => ?_, fun k c e => ?_, ok2.nj, ok2.al, ok2.up⟩
  · by_cases z : b = q
    · subst z; rw [upd_same] at e ⊢; exact e
    · rw [upd_ne z] at e; exact ok2.zz b u e
  · obtain ⟨a, h1, h2⟩ := ok.ce k c e
    have ha := ok.al k a h1
    obtain ⟨a', h1', h3⟩ := ok2.ce k c e
    rw [h1] at h1'
    cases h1'
    refine ⟨a, h1, ?_⟩
    have n : a ≠ q := fun z => ha (by rw [z]; exact hq)
    cases h2 with
    | lst e1 e2 e3 e4 => exact .lst (by rw [upd_ne n]; exact e1) e2 e3 (by rw [upd_ne n]; exact e4)
    | nd e1 e2 e3 =>
      have nb : ∀ b ∈ _, b ≠ q := fun b hb z => e1.own_or.2.2.1 b hb (by rw [z]; exact hq)
      exact .nd (e1.to fun b hb u e => by rw [upd_ne (nb b hb)]; exact e) e2 fun b hb => ⟨(e3 b hb).1, by rw [upd_ne (nb b hb)]; exact (e3 b hb).2⟩
    | dead e1 => exact .dead (by rw [upd_ne n]; exact e1)
/-- it turns -/
theorem Ok.turn (ok : Ok K (upd Z q o) B ρ H h) (hb : B q = none) (hz : Z q = none) : Ok K (upd Z q o2) B ρ (upd H q o2) h := by
  have hq : H q = some o := ok.zz q o upd_same
  refine ⟨fun b u e => by rw [upd_ne (ne_of_none e hb)]; exact ok.ex b u e, fun b u e => ?_, fun k c e => ?_, ok.nj, fun k a e => ?_, ok.up⟩
  · by_cases z : b = q
    · subst z; rw [upd_same] at e ⊢; exact e
    · rw [upd_ne z] at e ⊢
      exact ok.zz b u (by rw [upd_ne z]; exact e)
  · obtain ⟨a, h1, h2⟩ := ok.ce k c e
    refine ⟨a, h1, ?_⟩
    have ne : ∀ {b : Addr}, upd Z q o b = none → b ≠ q ∧ Z b = none := fun {b} e => by
      have z : b ≠ q := fun z => by rw [z, upd_same] at e; cases e
      rw [upd_ne z] at e
      exact ⟨z, e⟩
    cases h2 with
    | lst e1 e2 e3 e4 => exact .lst (by rw [upd_ne (ne e4).1]; exact e1) e2 e3 (by rw [upd_ne (ne e4).1]; exact (ne e4).2)
    | nd e1 e2 e3 =>
      exact .nd (e1.to fun b hb u e => by rw [upd_ne (ne (e3 b hb).2).1]; exact e) e2 fun b hb => ⟨(e3 b hb).1, by rw [upd_ne (ne (e3 b hb).2).1]; exact (ne (e3 b hb).2).2⟩
    | dead e1 => exact .dead (by rw [upd_ne (ne e1).1]; exact (ne e1).2)
  · by_cases z : a = q
    · subst z; rw [upd_same]; simp
    · rw [upd_ne z]; exact ok.al k a e
theorem Gr.aside {B' : Hp} {ρ' : Nat → Option Addr} (g : Gr (upd Z q o) B ρ B' ρ') (hz : Z q = none) : Gr Z B ρ B' ρ' := ⟨g.bb, g.rr, fun a e e' => by
  have z := g.fz a e e'
  by_cases y : a = q
  · subst y; exact hz
  · rwa [upd_ne y] at z⟩
theorem Ok.bare (ok : Ok K (upd Z q o) B ρ H h) (hz : Z q = none) : Ok K Z B ρ H h := ⟨ok.ex, fun b u e => ok.zz b u (by rw [upd_ne (ne_of_none e hz)]; exact e), fun k c e => by
  obtain ⟨a, h1, h2⟩ := ok.ce k c e
  refine ⟨a, h1, h2.zs (fun b e _ => ?_) (ok.al k a h1)⟩
  by_cases z : b = q
  · rw [z]; exact hz
  · rwa [upd_ne z] at e, ok.nj, ok.al, ok.up⟩
/-- it becomes a cell, or data -/
theorem Ok.adopt {W : XK} {Q : VK} {vs : List V} {ws : List A} {o : Bool} (ok : Ok K (upd Z q (.lst vs)) B ρ H h) (hb : B q = none) (hz : Z q = none) (r : RAL K B ρ vs ws) (p : Post K Z W B ρ (fun w _ B' ρ' H' => ∀ v, RA K B' ρ' v w → Q v H') (mkL o ws h)) : Q (.ref q) H := by
  have hq : H q = some (.lst vs) := ok.zz q _ upd_same
  have fresh : ∀ k a, ρ k = some a → a ≠ q := fun k a e z => by
    have hk : k < h.length := by
      apply Classical.byContradiction
      intro y
      rw [ok.up k (by omega)] at e
      cases e
    obtain ⟨c, hc⟩ : ∃ c, h[k]? = some c := ⟨_, List.getElem?_eq_getElem hk⟩
    obtain ⟨a', h1, h2⟩ := ok.ce k c hc
    rw [e] at h1
    cases h1
    have key : upd Z q (.lst vs) a = none := by
      cases h2 with
      | lst _ _ _ e4 => exact e4
      | nd e1 _ e3 => exact (e3 _ e1.own_or.1).2
      | dead e4 => exact e4
    rw [z, upd_same] at key
    cases key
  have ok0 := ok.bare hz
  have own_ne : ∀ (k : Nat) (c : O) (a : Addr), h[k]? = some c → ρ k = some a → CeAt K Z (upd B q (.lst vs)) H ρ a c ∧ CeAt K Z B H ρ a c := fun k c a e ea => by
    obtain ⟨a', h1, h2⟩ := ok.ce k c e
    rw [ea] at h1
    cases h1
    have ne : ∀ {b : Addr}, upd Z q (.lst vs) b = none → b ≠ q ∧ Z b = none := fun {b} e => by
      have z : b ≠ q := fun z => by rw [z, upd_same] at e; cases e
      rw [upd_ne z] at e
      exact ⟨z, e⟩
    have gg : Gr Z B ρ (upd B q (.lst vs)) ρ := ⟨fun a u e => by rw [upd_ne (ne_of_none e hb)]; exact e, fun _ _ e => e, fun a e e' => by
      by_cases z : a = q
      · rw [z]; exact hz
      · rw [upd_ne z] at e'; exact absurd e e'⟩
    cases h2 with
    | lst e1 e2 e3 e4 => exact ⟨.lst e1 (e2.mono gg) (by rw [upd_ne (ne e4).1]; exact e3) (ne e4).2, .lst e1 e2 e3 (ne e4).2⟩
    | nd e1 e2 e3 => exact ⟨.nd e1 (e2.mono gg) fun b hb => ⟨by rw [upd_ne (ne (e3 b hb).2).1]; exact (e3 b hb).1, (ne (e3 b hb).2).2⟩, .nd e1 e2 fun b hb => ⟨(e3 b hb).1, (ne (e3 b hb).2).2⟩⟩
    | dead e1 => exact ⟨.dead (ne e1).2, .dead (ne e1).2⟩
  unfold mkL at p
  split at p
  · split at p
    · have gg : Gr Z B ρ B (fun k => if k = h.length then some q else ρ k) := ⟨fun _ _ e => e, fun k a e => by
        have : k ≠ h.length := fun z => by rw [ok.up k (by omega)] at e; cases e
        show (if k = h.length then some q else ρ k) = some a
        rw [if_neg this]; exact e, fun a e e' => absurd e e'⟩
      refine p B (fun k => if k = h.length then some q else ρ k) H ⟨ok0.ex, ok0.zz, fun k c e => ?_, fun i j a e1 e2 => ?_, fun k a e => ?_, fun k e => ?_⟩ gg (.ref q) (.r (if_pos rfl))
      · by_cases z : k = h.length
        · subst z
          rw [List.getElem?_append_right (by omega), Nat.sub_self] at e
          cases e
          exact ⟨q, if_pos rfl, .lst hq (r.mono gg) hb hz⟩
        · have hk : k < h.length := by
            have := (List.getElem?_eq_some_iff.mp e).1
            rw [List.length_append, List.length_singleton] at this
            omega
          rw [List.getElem?_append_left hk] at e
          obtain ⟨a, h1, _⟩ := ok.ce k c e
          refine ⟨a, gg.rr k a h1, ?_⟩
          cases (own_ne k c a e h1).2 with
          | lst e1 e2 e3 e4 => exact .lst e1 (e2.mono gg) e3 e4
          | nd e1 e2 e3 => exact .nd e1 (e2.mono gg) e3
          | dead e1 => exact .dead e1
      · have e1 : (if i = h.length then some q else ρ i) = some a := e1
        have e2 : (if j = h.length then some q else ρ j) = some a := e2
        split at e1 <;> split at e2
        · omega
        · cases e1; exact absurd rfl (fresh _ _ e2)
        · cases e2; exact absurd rfl (fresh _ _ e1)
        · exact ok.nj i j a e1 e2
      · have e : (if k = h.length then some q else ρ k) = some a := e
        split at e
        · cases e; rw [hq]; simp
        · exact ok.al k a e
      · rw [List.length_append, List.length_singleton] at e
        show (if k = h.length then some q else ρ k) = none
        rw [if_neg (by omega)]
        exact ok.up k (by omega)
    · cases e : allD ws with
      | none => rw [e] at p; exact p.elim
      | some ds =>
        rw [e] at p
        cases allD_of e
        have gg : Gr Z B ρ (upd B q (.lst vs)) ρ := ⟨fun a u e => by rw [upd_ne (ne_of_none e hb)]; exact e, fun _ _ e => e, fun a e e' => by
          by_cases z : a = q
          · rw [z]; exact hz
          · rw [upd_ne z] at e'; exact absurd e e'⟩
        refine p (upd B q (.lst vs)) ρ H ⟨fun b u e => ?_, ok0.zz, fun k c e => ?_, ok.nj, ok.al, ok.up⟩ gg (.ref q) (.d (.lst upd_same ((ral_rpl r).mono gg.bb)))
        · by_cases z : b = q
          · subst z; rw [upd_same] at e; rw [hq]; exact e
          · rw [upd_ne z] at e; exact ok.ex b u e
        · obtain ⟨a, h1, _⟩ := ok.ce k c e
          exact ⟨a, h1, (own_ne k c a e h1).1⟩
  · exact p.elim
end

/-! ### comprehensions -/
def compM (nx : Nxt) (g : A → Sl → Hq → Option Sl) (mt : E Bool) (me : E A) (τw : Sl) : Nat → Nat → Hq → Option (List A × Hq)
  | 0, _, _ => none
  | f + 1, i, h => match nx i h with
    | some none => some ([], h)
    | some (some w) => (match g w τw h with
      | some τ1 => (match mt τ1 h with
        | some (.ok true h1) => (match me τ1 h1 with
          | some (.ok a h2) => (match compM nx g mt me τw f (i + 1) h2 with | some (r, h3) => some (a :: r, h3) | none => none)
          | _ => none)
        | some (.ok false h1) => compM nx g mt me τw f (i + 1) h1
        | _ => none)
      | none => none)
    | none => none
def mYes : E Bool := fun _ h => some (.ok true h)
def mLC (o : Bool) (mi : E Nxt) (g : A → Sl → Hq → Option Sl) (mt : E Bool) (me : E A) (vs : List Nat) : E A := fun τ h => bd (mi τ h) fun nx h1 => match compM nx g mt me (wipeT τ vs) FU 0 h1 with
  | some (ws, h2) => if ws.length ≤ LIM then mkL o ws h2 else none
  | none => none
structure RTs (X : Cx) (W : WX) (ifs : List Expr) (m : E Bool) : Prop where
  pt : PTs X ifs (tT X.K W m)
theorem pts_imp {X : Cx} {e : List Expr} {t t' : TT} (h : PTs X e t) (i : ∀ σ H Q, t' σ H Q → t σ H Q) : PTs X e t' := ⟨fun pins s σ H Q I q => h.run pins s σ H Q I (i _ _ _ q)⟩
theorem rts_nil {X : Cx} {W : WX} : RTs X W [] mYes := ⟨pts_imp pts_nil fun σ H Q q => by
  obtain ⟨Z, B, ρ, τ, h, ok, sl, q⟩ := q
  exact q.now ok⟩
theorem rts_one {X : Cx} {W : WX} {c : Expr} {m : E Bool} (h : RT X W c m) : RTs X W [c] m := ⟨pts_one h.pt⟩
abbrev W0 : WX := fun _ _ _ _ => False
/-- what stays true in the making of the list -/
theorem lc_reads {X : Cx} {vs : List Nat} {g : A → Sl → Hq → Option Sl} {mt : E Bool} {me : E A} {gg : TG} {tt : TT} {te : TE} {o : Bool}
    (hgg : ∀ v σ H Q, (∃ Z B ρ w τ τ' h, Ok X.K Z B ρ H h ∧ SlOk X.K B ρ σ τ ∧ RA X.K B ρ v w ∧ g w τ h = some τ' ∧ ∀ σ', SlOk X.K B ρ σ' τ' → Apart vs σ σ' → Q σ' H) → gg v σ H Q)
    (htt : ∀ σ H Q, tT X.K W0 mt σ H Q → tt σ H Q) (hte : ∀ σ H Q, tE X.K W0 me σ H Q → te σ H Q)
    {σ : L2.St} {Z B1 H1 : Hp} {ρ1 : Nat → Option Addr} {h1 h2 : Hq} {τ : Sl} {nx : Nxt} {J : It} {ws : List A} {Q : VK} {W : XK} (ok1 : Ok X.K Z B1 ρ1 H1 h1) (sl1 : SlOk X.K B1 ρ1 σ τ) (wk : Walk X.K B1 ρ1 J nx)
    (e : compM nx g mt me (wipeT τ vs) FU 0 h1 = some (ws, h2)) (hl : ws.length ≤ LIM) (k : Post X.K Z W B1 ρ1 (fun w _ B' ρ' H' => ∀ v, RA X.K B' ρ' v w → Q v H') (mkL o ws h2)) :
    ∀ D, H1 D = none → ∃ Wv : Nat → Nat → Hp → Prop, (∃ m, Wv 0 m (upd H1 D (.lst []))) ∧ ∀ i m H, Wv i m H →
  (J.stop i H ∧ Q (.ref D) H) ∨ (J.go i H ∧ ∃ Nx : Hp → Prop, (∀ H', Nx H' → ∃ m', m' < m ∧ Wv (i + 1) m' H') ∧ ∀ x H', J.yld i H x H' → gg x (L2.wipe σ vs) H' fun σ2 H2 => L2.wipe σ2 vs = L2.wipe σ vs ∧ tt σ2 H2 fun b H3 =>
    if b = true then te σ2 H3 fun y H4 => ∃ acc, H4 D = some (.lst acc) ∧ acc.length < sizeLine ∧ Nx (upd H4 D (.lst (acc ++ [y]))) else Nx H3) := by
  intro D hD
  have hzD : Z D = none := by
    cases z : Z D with
    | none => rfl
    | some u => rw [ok1.zz D u z] at hD; cases hD
  have hbD : B1 D = none := by
    cases z : B1 D with
    | none => rfl
    | some u => rw [ok1.ex D u z] at hD; cases hD
  refine ⟨fun i m H' => ∃ B' ρ' h' acc as rest, Ok X.K (upd Z D (.lst acc)) B' ρ' H' h' ∧ Gr Z B1 ρ1 B' ρ' ∧ B' D = none ∧ RAL X.K B' ρ' acc as ∧
      compM nx g mt me (wipeT τ vs) m i h' = some (rest, h2) ∧ ws = as ++ rest,
    ⟨FU, B1, ρ1, h1, [], [], ws, ok1.aside hD, Gr.refl, hbD, .nil, e, rfl⟩, ?_⟩
  rintro i m H2 ⟨B2, ρ2, h', acc, as, rest, ok2, g2, hb2, ra, ec, ew⟩
  cases m with
  | zero => cases ec
  | succ m =>
    obtain ⟨stop, go⟩ := wk _ B2 ρ2 H2 h' i ok2 g2.wk
    unfold compM at ec
    split at ec
    · rename_i e1
      cases ec
      rw [List.append_nil] at ew
      subst ew
      exact .inl ⟨stop e1, ok2.adopt hb2 hzD ra (k.from g2)⟩
    · rename_i w e1
      obtain ⟨k1, k2⟩ := go w e1
      refine .inr ⟨k1, fun H' => ∃ B' ρ' h' acc as rest, Ok X.K (upd Z D (.lst acc)) B' ρ' H' h' ∧ Gr Z B1 ρ1 B' ρ' ∧ B' D = none ∧ RAL X.K B' ρ' acc as ∧
        compM nx g mt me (wipeT τ vs) m (i + 1) h' = some (rest, h2) ∧ ws = as ++ rest, fun H' q => ⟨m, Nat.lt_succ_self m, q⟩, fun x H3 y => ?_⟩
      obtain ⟨B3, rx, ok3, g3⟩ := k2 x H3 y
      have keep : ∀ {B' : Hp} {ρ' : Nat → Option Addr} {Ba : Hp} {ρa : Nat → Option Addr}, Ba D = none → Gr (upd Z D (.lst acc)) Ba ρa B' ρ' → B' D = none := fun {B' ρ' Ba ρa} hn g => by
        cases z : B' D with
        | none => rfl
        | some u =>
          have := g.fz D hn (by rw [z]; simp)
          rw [upd_same] at this
          cases this
      have hb3 := keep hb2 g3
      have g13 := g2.trans (g3.aside hzD)
      split at ec
      · rename_i τ3 e3
        refine hgg _ _ _ _ ⟨_, B3, ρ2, w, wipeT τ vs, τ3, h', ok3, (sl1.mono g13).wipe vs, rx, e3, fun σ4 sl4 a4 => ⟨(wipe_apart a4).trans (wipe_wipe σ vs), htt _ _ _ ⟨_, B3, ρ2, τ3, h', ok3, sl4, ?_⟩⟩⟩
        split at ec
        · rename_i h5 e5
          rw [e5]
          intro B5 ρ5 H5 ok5 g5
          refine iteT (hte _ _ _ ⟨_, B5, ρ5, τ3, h5, ok5, sl4.mono g5, ?_⟩)
          have hb5 := keep hb3 g5
          split at ec
          · rename_i a h6 e6
            rw [e6]
            intro B6 ρ6 H6 ok6 g6 v rv
            have hb6 := keep hb5 g6
            split at ec
            · rename_i r h7 e7
              cases ec
              have g36 := (g5.trans g6).aside hzD
              refine ⟨acc, ok6.zz D _ upd_same, ?_, B6, ρ6, h6, acc ++ [v], as ++ [a], r, ok6.turn hb6 hzD, g13.trans g36, hb6, (ra.mono ((g3.aside hzD).trans g36)).append (.cons rv .nil), e7, by rw [ew, List.append_assoc]; rfl⟩
              rw [ra.length, ← lim_eq]
              rw [ew, List.length_append, List.length_cons] at hl
              omega
            · cases ec
          · cases ec
        · rename_i h5 e5
          rw [e5]
          intro B5 ρ5 H5 ok5 g5
          exact iteF ⟨B5, ρ5, h5, acc, as, rest, ok5, g13.trans (g5.aside hzD), keep hb3 g5, ra.mono ((g3.aside hzD).trans (g5.aside hzD)), ec, ew⟩
        · cases ec
      · cases ec
    · cases ec
section
variable {X : Cx} {W : WX} {tg iter elt : Expr} {ifs : List Expr} {scope : Scope} {mi : E Nxt} {g : A → Sl → Hq → Option Sl} {mt : E Bool} {me : E A} {pos : Pos}
theorem rx_lc (o : Bool) (hc : X.calm = true) (hN : X.N.Nodup) (own : List (Str × Nat)) (hi : RI X W tg iter mi)
    (hg : ∀ (s : Shared) (H : Hp) (C : Addr) (cl : List (Str × Addr)) (fp : List Addr), RG (X.blk s H scope (compEnvC scope cl C X.env) fp) (own.map (·.2)) tg g) (ht : ∀ (s : Shared) (H : Hp) (C : Addr) (cl : List (Str × Addr)) (fp : List Addr), RTs (X.blk s H scope (compEnvC scope cl C X.env) fp) W0 ifs mt)
    (he : ∀ (s : Shared) (H : Hp) (C : Addr) (cl : List (Str × Addr)) (fp : List Addr), RX (X.blk s H scope (compEnvC scope cl C X.env) fp) W0 elt me) (ok : BlkOk X.N X.env.scope scope own)
    (hs : ∀ x, foldedSetIterable iter X.env x = pure x := by intro _; rfl) : RX X W (.ListComp elt [⟨tg, iter, ifs, 0⟩] scope pos) (mLC o mi g mt me (own.map (·.2))) := ⟨pe_imp (pe_lc hc hN hi.pi ok (g := fun v σ H Q => ∃ Z B ρ w τ τ' h, Ok X.K Z B ρ H h ∧ SlOk X.K B ρ σ τ ∧ RA X.K B ρ v w ∧ g w τ h = some τ' ∧ ∀ σ', SlOk X.K B ρ σ' τ' → Apart (own.map (·.2)) σ σ' → Q σ' H) (tt := tT X.K W0 mt) (te := tE X.K W0 me)
    (fun s H C cl fp => (hg s H C cl fp).pg) (fun s H C cl fp => (ht s H C cl fp).pt) (fun s H C cl fp => (he s H C cl fp).pe) hs) fun σ H Q q => by
  obtain ⟨Z, B, ρ, τ, h, okk, sl, q⟩ := q
  unfold mLC at q
  refine ⟨Z, B, ρ, τ, h, okk, sl, q.bd.imp fun nx h1 B1 ρ1 H1 ok1 g1 q1 J wk => ?_⟩
  split at q1
  · rename_i ws h2 e1
    split at q1
    · rename_i hl
      exact lc_reads (X := X) (fun _ _ _ _ h => h) (fun _ _ _ h => h) (fun _ _ _ h => h) ok1 (sl.mono g1) wk e1 hl q1
    · exact q1.elim
  · exact q1.elim⟩
theorem rs_setLc (o : Bool) {i : Nat} {y : Str} {py spos : Pos} (hc : X.calm = true) (hN : X.N.Nodup) (own : List (Str × Nat)) (hi : RI X W tg iter mi)
    (hg : ∀ (s : Shared) (H : Hp) (C : Addr) (cl : List (Str × Addr)) (fp : List Addr), RG (X.blk s H scope (compEnvC scope cl C X.env) fp) (own.map (·.2)) tg g) (ht : ∀ (s : Shared) (H : Hp) (C : Addr) (cl : List (Str × Addr)) (fp : List Addr), RTs (X.blk s H scope (compEnvC scope cl C X.env) fp) W0 ifs mt)
    (he : ∀ (s : Shared) (H : Hp) (C : Addr) (cl : List (Str × Addr)) (fp : List Addr), RX (X.blk s H scope (compEnvC scope cl C X.env) fp) W0 elt me) (ok : BlkOk X.N X.env.scope scope own)
    (hsw : swapsWith (.ListComp elt [⟨tg, iter, ifs, 0⟩] scope pos) (some (.Name y py)) spos.line X.env = pure true) (hy : X.N[i]? = some y := by rfl) (hyl : X.env.scope.names.lookup y = some .local := by rfl)
    (hs : ∀ x, foldedSetIterable iter X.env x = pure x := by intro _; rfl) : RS X W (.Assign [.Name y py] (.ListComp elt [⟨tg, iter, ifs, 0⟩] scope pos) spos) (mSet i (mLC o mi g mt me (own.map (·.2)))) := ⟨ps_imp (ps_setLc hc hN hy hyl hsw hi.pi ok (g := fun v σ H Q => ∃ Z B ρ w τ τ' h, Ok X.K Z B ρ H h ∧ SlOk X.K B ρ σ τ ∧ RA X.K B ρ v w ∧ g w τ h = some τ' ∧ ∀ σ', SlOk X.K B ρ σ' τ' → Apart (own.map (·.2)) σ σ' → Q σ' H) (tt := tT X.K W0 mt) (te := tE X.K W0 me)
    (fun s H C cl fp => (hg s H C cl fp).pg) (fun s H C cl fp => (ht s H C cl fp).pt) (fun s H C cl fp => (he s H C cl fp).pe) hs) fun D σ H q => by
  obtain ⟨Z, B, ρ, τ, h, okk, sl, q⟩ := q
  have q2 := q.sb sl
  unfold mLC at q2
  refine ⟨Z, B, ρ, τ, h, okk, sl, q2.bd.imp fun nx h1 B1 ρ1 H1 ok1 g1 q1 J wk => ?_⟩
  split at q1
  · rename_i ws h2 e1
    split at q1
    · rename_i hl
      refine lc_reads (X := X) (Q := fun x H1 => gName i x σ H1 D.nx) (fun _ _ _ _ h => h) (fun _ _ _ h => h) (fun _ _ _ h => h) ok1 (sl.mono g1) wk e1 hl (q1.imp fun w h3 B3 ρ3 H3 ok3 g3 q3 v rv => ?_)
      exact q3.nx1 ok3 (((sl.mono g1).mono g3).put rv)
    · exact q1.elim
  · exact q1.elim⟩
end
end Tq

/-! Tq7: cells that turn: lists, fields, dicts. -/
namespace Tq
open PySem PySem.Spec PyProof.Rows L2
theorem ps_or {X : Cx} {e : Stmt} {t t' : TS} (h : PS X e t) (h' : PS X e t') : PS X e fun D σ H => t D σ H ∨ t' D σ H := ⟨fun pins s σ H D I q => q.elim (h.run pins s σ H D I) (h'.run pins s σ H D I)⟩
section
variable {K : PySem.W.Frag} {Z B H : Hp} {ρ : Nat → Option Addr} {h : Hq} {v : V} {k : Nat} {ws : List A}
theorem cell_lst (ok : Ok K Z B ρ H h) (r : RA K B ρ v (.r k)) (e : h[k]? = some (.lst ws)) : ∃ a vs, v = .ref a ∧ ρ k = some a ∧ H a = some (.lst vs) ∧ RAL K B ρ vs ws ∧
    ∀ vs' ws', RAL K B ρ vs' ws' → Ok K Z B ρ (upd H a (.lst vs')) (h.set k (.lst ws')) := by
  cases r with
  | r hr =>
    obtain ⟨a, h1, h2⟩ := ok.ce _ _ e
    rw [hr] at h1
    cases h1
    cases h2 with
    | lst q1 q2 q3 q4 => exact ⟨_, _, rfl, hr, q1, q2, fun vs' ws' r' => ok.mut e hr (fun z y => by rw [q1] at y; cases y) q3 q4 (.lst upd_same r' q3 q4)⟩
end
/-! ### list methods -/
def gApp : G2 := fun a w h => match a with
  | .r k => (match h[k]? with | some (.lst ws) => if ws.length < LIM then some (.ok (.d .non) (h.set k (.lst (ws ++ [w])))) else none | _ => none)
  | _ => none
theorem og_app {K : PySem.W.Frag} : Op2 K (fun x y H Q => rAppend x [y] H Q) gApp := by
  intro Z B ρ H h x y a b W Q ok rx ry q
  unfold gApp at q
  split at q
  · split at q
    · rename_i ws e
      split at q
      · rename_i hl
        obtain ⟨p, vs, rfl, hr, h1, r1, up⟩ := cell_lst ok rx e
        exact ⟨p, vs, y, rfl, rfl, h1, by rw [r1.length, ← lim_eq]; exact hl, q.now (up _ _ (r1.append (.cons ry .nil))) |> fun z => q B ρ _ (up _ _ (r1.append (.cons ry .nil))) Gr.refl _ (.d .non)⟩
      · exact q.elim
    · exact q.elim
  · exact q.elim
def gExt : G2 := fun a w h => match a with
  | .r k => (match h[k]? with
    | some (.lst ws) => (match lstOf h w with
      | some us => if ws.length + us.length ≤ LIM then some (.ok (.d .non) (h.set k (.lst (ws ++ us)))) else none
      | none => none)
    | _ => none)
  | _ => none
theorem og_ext {K : PySem.W.Frag} : Op2 K (fun x y H Q => rExtend x [y] H Q) gExt := by
  intro Z B ρ H h x y a b W Q ok rx ry q
  unfold gExt at q
  split at q
  · split at q
    · rename_i ws e
      split at q
      · rename_i us e2
        split at q
        · rename_i hl
          obtain ⟨p, vs, rfl, hr, h1, r1, up⟩ := cell_lst ok rx e
          obtain ⟨p', zs, rfl, h2, r2⟩ := lstOf_ra ok ry e2
          exact ⟨p, p', vs, zs, rfl, rfl, h1, h2, by rw [r1.length, r2.length, ← lim_eq]; exact hl, q B ρ _ (up _ _ (r1.append r2)) Gr.refl _ (.d .non)⟩
        · exact q.elim
      · exact q.elim
    · exact q.elim
  · exact q.elim
def gRev : G1 := fun a h => match a with
  | .r k => (match h[k]? with | some (.lst ws) => some (.ok (.d .non) (h.set k (.lst ws.reverse))) | _ => none)
  | _ => none
theorem og_rev {K : PySem.W.Frag} : Op1 K (fun x H Q => rReverse x [] H Q) gRev := by
  intro Z B ρ H h x a W Q ok rx q
  unfold gRev at q
  split at q
  · split at q
    · rename_i ws e
      obtain ⟨p, vs, rfl, hr, h1, r1, up⟩ := cell_lst ok rx e
      exact ⟨p, vs, rfl, rfl, h1, q B ρ _ (up _ _ r1.reverse) Gr.refl _ (.d .non)⟩
    · exact q.elim
  · exact q.elim
def gPop : G1 := fun a h => match a with
  | .r k => (match h[k]? with | some (.lst ws) => (match ws[ws.length - 1]? with | some w => some (.ok w (h.set k (.lst ws.dropLast))) | none => none) | _ => none)
  | _ => none
theorem RAL.dropLast {K : PySem.W.Frag} {B : Hp} {ρ : Nat → Option Addr} {vs : List V} {ws : List A} (r : RAL K B ρ vs ws) : RAL K B ρ vs.dropLast ws.dropLast := by
  rw [List.dropLast_eq_take, List.dropLast_eq_take, r.length]
  exact r.take _
theorem og_pop {K : PySem.W.Frag} : Op1 K (fun x H Q => rPop x [] H Q) gPop := by
  intro Z B ρ H h x a W Q ok rx q
  unfold gPop at q
  split at q
  · split at q
    · rename_i ws e
      split at q
      · rename_i w e2
        obtain ⟨p, vs, rfl, hr, h1, r1, up⟩ := cell_lst ok rx e
        obtain ⟨v, h2, r2⟩ := r1.get e2
        exact ⟨p, vs, v, rfl, rfl, h1, by rw [r1.length]; exact h2, q B ρ _ (up _ _ r1.dropLast) Gr.refl _ r2⟩
      · exact q.elim
    · exact q.elim
  · exact q.elim
section
variable {X : Cx} {W : WX} {a b : Expr} {ma mb : E A} {pos apos : Pos}
theorem rx_append (ha : RX X W a ma) (hb : RX X W b mb) (hbase : attributeBase a "append" X.env (eval a X.env) = eval a X.env := by rfl)
    (hfew : ((backTo pos (starEach (b :: []) X.env)).all (fun x => !x.1) && (backToKw pos (keywordEach [] X.env)).all (fun x => x.1.isSome)
      && decide ((b :: []).length + ([] : List Keyword).length + (if ([] : List Keyword).isEmpty then 0 else 1) < 30)) = true := by rfl)
    (hline : (apos.endLine == pos.line) = true := by rfl) (hs : starEach (b :: []) X.env = (false, eval b X.env) :: starEach [] X.env := by rfl) : RX X W (.Call (.Attribute a "append" apos) [b] [] pos) (mM1 tokL gApp ma mb) :=
  rx_m1 F.plainAttrs_list F.slot_list_append F.type_list_append mt_append tokL tokL_ty og_app ha hb hbase hfew hline hs
theorem rx_extend (ha : RX X W a ma) (hb : RX X W b mb) (hbase : attributeBase a "extend" X.env (eval a X.env) = eval a X.env := by rfl)
    (hfew : ((backTo pos (starEach (b :: []) X.env)).all (fun x => !x.1) && (backToKw pos (keywordEach [] X.env)).all (fun x => x.1.isSome)
      && decide ((b :: []).length + ([] : List Keyword).length + (if ([] : List Keyword).isEmpty then 0 else 1) < 30)) = true := by rfl)
    (hline : (apos.endLine == pos.line) = true := by rfl) (hs : starEach (b :: []) X.env = (false, eval b X.env) :: starEach [] X.env := by rfl) : RX X W (.Call (.Attribute a "extend" apos) [b] [] pos) (mM1 tokL gExt ma mb) :=
  rx_m1 F.plainAttrs_list F.slot_list_extend F.type_list_extend mt_extend tokL tokL_ty og_ext ha hb hbase hfew hline hs
theorem rx_reverse (ha : RX X W a ma) (hbase : attributeBase a "reverse" X.env (eval a X.env) = eval a X.env := by rfl) (hline : (apos.endLine == pos.line) = true := by rfl) : RX X W (.Call (.Attribute a "reverse" apos) [] [] pos) (mM0 tokL gRev ma) :=
  rx_m0 F.plainAttrs_list F.slot_list_reverse F.type_list_reverse mt_reverse tokL tokL_ty og_rev ha hbase hline
theorem rx_pop0 (ha : RX X W a ma) (hbase : attributeBase a "pop" X.env (eval a X.env) = eval a X.env := by rfl) (hline : (apos.endLine == pos.line) = true := by rfl) : RX X W (.Call (.Attribute a "pop" apos) [] [] pos) (mM0 tokL gPop ma) :=
  rx_m0 F.plainAttrs_list F.slot_list_pop F.type_list_pop mt_pop tokL tokL_ty og_pop ha hbase hline
end

/-! ### keys, parts by keys -/
def keyD : D → Option Key
  | .int i => some (.inl i)
  | .str x => some (.inr x)
  | _ => none
def keysD : List D → Option (List Key)
  | [] => some []
  | d :: r => match keyD d, keysD r with | some k, some ks => some (k :: ks) | _, _ => none
def keyA : A → Option Key
  | .d d => keyD d
  | _ => none
def keyT : A → Option (List Key)
  | .d (.tup ds) => keysD ds
  | _ => none
theorem keyD_rp {K : PySem.W.Frag} {B : Hp} {v : V} {d : D} {k : Key} (r : Rp K B v d) (h : keyD d = some k) : v = kV k := by
  cases r <;> first | (cases h; rfl) | cases h
theorem keysD_rp {K : PySem.W.Frag} {B : Hp} : ∀ {vs : List V} {ds : List D} {ks : List Key}, RpL K B vs ds → keysD ds = some ks → vs = ks.map kV
  | _, _, _, .nil, h => by cases h; rfl
  | _, d :: r, ks, .cons w wl, h => by
    unfold keysD at h
    split at h
    · rename_i k ks' h1 h2
      cases h
      rw [keyD_rp w h1, keysD_rp wl h2]
      rfl
    · cases h
section
variable {κ α : Type} [DecidableEq κ]
def dGet (k : κ) : List κ → List α → Option α
  | k' :: ks, s :: ss => if k' = k then some s else dGet k ks ss
  | _, _ => none
def dPut (k : κ) (s : α) : List κ → List α → List κ × List α
  | k' :: ks, s' :: ss => if k' = k then (k' :: ks, s :: ss) else ((k' :: (dPut k s ks ss).1), (s' :: (dPut k s ks ss).2))
  | ks, _ => if ks = [] then ([k], [s]) else (ks, [])
end
section
variable {κ : Type} [DecidableEq κ] {K : PySem.W.Frag} {B : Hp} {ρ : Nat → Option Addr}
theorem dGet_ok {k : κ} : ∀ {ks : List κ} {vs : List V} {ws : List A}, RAL K B ρ vs ws → ks.length = vs.length →
    (dGet k ks ws = none → valV (ks.zip vs) k = none) ∧ ∀ w, dGet k ks ws = some w → ∃ v, valV (ks.zip vs) k = some v ∧ RA K B ρ v w
  | [], _, _, r, _ => ⟨fun _ => by simp [valV], fun w h => by cases r <;> cases h⟩
  | k' :: ks, _, _, .nil, e => by simp at e
  | k' :: ks, _, _, .cons (v := v) (vs := vr) (w := s) (ws := sr) w wl, e => by
    have ih := dGet_ok (k := k) (ks := ks) wl (by simpa using e)
    by_cases z : k' = k
    · refine ⟨fun h => ?_, fun x h => ⟨v, ?_, ?_⟩⟩
      · simp [dGet, z] at h
      · rw [List.zip_cons_cons]; exact valV_pos z
      · simp [dGet, z] at h
        subst h
        exact w
    · have e1 : dGet k (k' :: ks) (s :: sr) = dGet k ks sr := by simp [dGet, z]
      have e2 : valV ((k' :: ks).zip (v :: vr)) k = valV (ks.zip vr) k := by rw [List.zip_cons_cons]; exact valV_neg z
      rw [e1, e2]
      exact ih
/-- the pairs with k: v, by place -/
def putZ (k : κ) (v : V) : List (κ × V) → List (κ × V)
  | [] => [(k, v)]
  | (k', x) :: r => if k' = k then (k', v) :: r else (k', x) :: putZ k v r
theorem map_other {k : κ} {v : V} : ∀ {l : List (κ × V)}, (∀ p ∈ l, p.1 ≠ k) → l.map (fun kv => if kv.1 = k then (kv.1, v) else kv) = l
  | [], _ => rfl
  | p :: r, h => by
    rw [List.map_cons, if_neg (h p (List.mem_cons_self ..)), map_other fun q hq => h q (List.mem_cons_of_mem _ hq)]
theorem putK_eq {k : κ} {v : V} : ∀ {l : List (κ × V)}, (l.map (·.1)).Nodup → putK l k v = putZ k v l
  | [], _ => by simp [putK, putZ]
  | (k', x) :: r, nd => by
    have nd : (k' :: r.map (·.1)).Nodup := nd
    obtain ⟨n1, n2⟩ := List.nodup_cons.mp nd
    have ih := putK_eq (k := k) (v := v) n2
    unfold putZ
    by_cases z : k' = k
    · subst z
      rw [if_pos rfl]
      unfold putK
      have : ((k', x) :: r).any (fun kv => decide (kv.1 = k')) = true := by simp
      rw [if_pos this, List.map_cons, if_pos rfl, map_other fun p hp e => n1 (by rw [← e]; exact List.mem_map_of_mem hp)]
    · rw [if_neg z]
      unfold putK at ih ⊢
      have e1 : ((k', x) :: r).any (fun kv => decide (kv.1 = k)) = r.any (fun kv => decide (kv.1 = k)) := by simp [z]
      rw [e1]
      by_cases y : r.any (fun kv => decide (kv.1 = k)) = true
      · rw [if_pos y] at ih ⊢
        rw [List.map_cons, if_neg z, ih]
      · rw [if_neg y] at ih ⊢
        rw [List.cons_append, ih]
theorem dPut_ok {k : κ} {v : V} {w : A} (rv : RA K B ρ v w) : ∀ {ks : List κ} {vs : List V} {ws : List A}, RAL K B ρ vs ws → ks.length = vs.length →
    ∃ vs', putZ k v (ks.zip vs) = (dPut k w ks ws).1.zip vs' ∧ (dPut k w ks ws).1.length = vs'.length ∧ RAL K B ρ vs' (dPut k w ks ws).2 ∧ (dPut k w ks ws).1 = if k ∈ ks then ks else ks ++ [k]
  | [], _, _, r, e => by
    cases r with
    | nil => exact ⟨[v], by simp [dPut, putZ], by simp [dPut], by simpa [dPut] using RAL.cons rv .nil, by simp [dPut]⟩
    | cons _ _ => simp at e
  | k' :: ks, _, _, .nil, e => by simp at e
  | k' :: ks, _, _, .cons (v := u) (vs := vr) (w := s) (ws := sr) w0 wl, e => by
    obtain ⟨vs', h1, h2, h3, h4⟩ := dPut_ok (k := k) rv (ks := ks) wl (by simpa using e)
    by_cases z : k' = k
    · refine ⟨v :: vr, ?_, ?_, ?_, ?_⟩
      · simp [dPut, putZ, z]
      · simp [dPut, z]; simpa using e
      · simp only [dPut, if_pos z]; exact .cons rv wl
      · simp [dPut, z]
    · refine ⟨u :: vs', ?_, ?_, ?_, ?_⟩
      · simp only [dPut, if_neg z, List.zip_cons_cons, putZ]
        rw [h1]
      · simp [dPut, z, h2]
      · simp only [dPut, if_neg z]; exact .cons w0 h3
      · simp only [dPut, if_neg z, List.mem_cons, Ne.symm z, false_or]
        rw [h4]
        by_cases y : k ∈ ks
        · rw [if_pos y, if_pos y]
        · rw [if_neg y, if_neg y]; rfl
end
/-- what is at a key; none: the value has no such reading; some none: nothing is there -/
def hGet (hd : Hd) (ws : List A) (kd : A) : Option (Option A) := match hd with
  | .dic ks => (keyA kd).map fun k => dGet k ks ws
  | .dit ks => (keyT kd).map fun k => dGet k ks ws
  | .ins _ _ => none
def hPut (hd : Hd) (ws : List A) (kd w : A) : Option (Hd × List A) := match hd with
  | .dic ks => if ks.Nodup ∧ ks.length < LIM then (keyA kd).map fun k => (.dic (dPut k w ks ws).1, (dPut k w ks ws).2) else none
  | .dit ks => if ks.Nodup ∧ ks.length < LIM then (keyT kd).map fun k => (.dit (dPut k w ks ws).1, (dPut k w ks ws).2) else none
  | .ins _ _ => none
/-- a dict, whatever it is in -/
def dicOf (h : Hq) : A → Option (Hd × List A)
  | .d (.nd hd xs) => some (hd, xs.map A.d)
  | .r k => match h[k]? with | some (.nd hd ws) => some (hd, ws) | _ => none
  | _ => none
section
variable {K : PySem.W.Frag} {Z B H : Hp} {ρ : Nat → Option Addr} {h : Hq} {x y v : V} {a kd w : A} {hd : Hd} {ws : List A}
theorem dicOf_ra (ok : Ok K Z B ρ H h) (r : RA K B ρ x a) (e : dicOf h a = some (hd, ws)) : ∃ p vs own, x = .ref p ∧ HdAt K H p hd vs own ∧ RAL K B ρ vs ws := by
  unfold dicOf at e
  split at e
  · cases e
    cases ra_d r with
    | nd h1 r1 => exact ⟨_, _, _, rfl, h1.to fun b _ u z => ok.ex b u z, ral_ds r1⟩
  · split at e
    · rename_i e1
      cases e
      cases r with
      | r hr =>
        obtain ⟨p, h1, h2⟩ := ok.ce _ _ e1
        rw [hr] at h1
        cases h1
        cases h2 with
        | nd q1 q2 q3 => exact ⟨_, _, _, rfl, q1, q2⟩
    · cases e
  · cases e
theorem hGet_isD {p : Addr} {vs : List V} {own : List Addr} {o : Option A} (x : HdAt K H p hd vs own) (e : hGet hd ws kd = some o) : IsD H p := by
  cases x with
  | dic h1 _ => exact .inl ⟨_, .inl h1⟩
  | dit h1 _ => exact .inr ⟨_, .inl h1⟩
  | ins => cases e
theorem hGet_ok {p : Addr} {vs : List V} {own : List Addr} {o : Option A} (ok : Ok K Z B ρ H h) (x : HdAt K H p hd vs own) (r : RAL K B ρ vs ws) (ry : RA K B ρ y kd) (e : hGet hd ws kd = some o) :
    (o = none → DGet H p y none) ∧ ∀ w, o = some w → ∃ v, DGet H p y (some v) ∧ RA K B ρ v w := by
  cases x with
  | dic h1 h2 =>
    obtain ⟨k, hk, rfl⟩ := Option.map_eq_some_iff.mp e
    have hy : y = kV k := by
      unfold keyA at hk
      split at hk
      · exact keyD_rp (ra_d ry) hk
      · cases hk
    subst hy
    obtain ⟨g1, g2⟩ := dGet_ok (k := k) r h2
    refine ⟨fun z => ?_, fun w z => ?_⟩
    · rw [← g1 z]; exact .k h1
    · obtain ⟨v, q1, q2⟩ := g2 w z
      exact ⟨v, by rw [← q1]; exact .k h1, q2⟩
  | dit h1 h2 =>
    obtain ⟨k, hk, rfl⟩ := Option.map_eq_some_iff.mp e
    have hy : ∃ b, y = .ref b ∧ H b = some (.tup (k.map kV)) := by
      unfold keyT at hk
      split at hk
      · cases ra_d ry with
        | tup q1 q2 => exact ⟨_, rfl, by rw [ok.ex _ _ q1, keysD_rp q2 hk]⟩
      · cases hk
    obtain ⟨b, rfl, hb⟩ := hy
    obtain ⟨g1, g2⟩ := dGet_ok (k := k) r h2
    refine ⟨fun z => ?_, fun w z => ?_⟩
    · rw [← g1 z]; exact .t h1 hb
    · obtain ⟨v, q1, q2⟩ := g2 w z
      exact ⟨v, by rw [← q1]; exact .t h1 hb, q2⟩
  | ins => cases e
theorem map_fst_zip {κ : Type} : ∀ {ks : List κ} {vs : List V}, ks.length = vs.length → (ks.zip vs).map (·.1) = ks
  | [], _, _ => rfl
  | _ :: _, [], e => by simp at e
  | k :: ks, v :: vs, e => by rw [List.zip_cons_cons, List.map_cons, map_fst_zip (by simpa using e)]
theorem hPut_ok {p : Addr} {vs : List V} {own : List Addr} {hd' : Hd} {ws' : List A} (ok : Ok K Z B ρ H h) (x : HdAt K H p hd vs own) (r : RAL K B ρ vs ws) (ry : RA K B ρ y kd) (rv : RA K B ρ v w) (e : hPut hd ws kd w = some (hd', ws')) :
    ∃ (o : HO) (vs' : List V), DPut H p y v (upd H p o) ∧ own = [p] ∧ HdAt K (upd H p o) p hd' vs' own ∧ RAL K B ρ vs' ws' := by
  cases x with
  | dic h1 h2 =>
    unfold hPut at e
    dsimp only at e
    split at e
    · rename_i hn
      obtain ⟨k, hk, e⟩ := Option.map_eq_some_iff.mp e
      cases e
      have hy : y = kV k := by
        unfold keyA at hk
        split at hk
        · exact keyD_rp (ra_d ry) hk
        · cases hk
      subst hy
      obtain ⟨vs', q1, q2, q3, _⟩ := dPut_ok (k := k) rv r h2
      refine ⟨_, vs', .k h1 (by rw [List.length_zip, ← h2, Nat.min_self, ← lim_eq]; exact hn.2), rfl, .dic ?_ q2, q3⟩
      rw [upd_same, putK_eq (by rw [map_fst_zip h2]; exact hn.1), q1]
    · cases e
  | dit h1 h2 =>
    unfold hPut at e
    dsimp only at e
    split at e
    · rename_i hn
      obtain ⟨k, hk, e⟩ := Option.map_eq_some_iff.mp e
      cases e
      have hy : ∃ b, y = .ref b ∧ H b = some (.tup (k.map kV)) := by
        unfold keyT at hk
        split at hk
        · cases ra_d ry with
          | tup q1 q2 => exact ⟨_, rfl, by rw [ok.ex _ _ q1, keysD_rp q2 hk]⟩
        · cases hk
      obtain ⟨b, rfl, hb⟩ := hy
      obtain ⟨vs', q1, q2, q3, _⟩ := dPut_ok (k := k) rv r h2
      refine ⟨_, vs', .t h1 hb (by rw [List.length_zip, ← h2, Nat.min_self, ← lim_eq]; exact hn.2), rfl, .dit ?_ q2, q3⟩
      rw [upd_same, putK_eq (by rw [map_fst_zip h2]; exact hn.1), q1]
    · cases e
  | ins => cases e
/-- a cell with parts turns, its own dict stays -/
theorem cell_nd (ok : Ok K Z B ρ H h) {k : Nat} (r : RA K B ρ v (.r k)) (e : h[k]? = some (.nd hd ws)) : ∃ a vs own, v = .ref a ∧ ρ k = some a ∧ HdAt K H a hd vs own ∧ RAL K B ρ vs ws ∧
    ∀ o hd' vs' ws', HdAt K (upd H a o) a hd' vs' own → RAL K B ρ vs' ws' → Ok K Z B ρ (upd H a o) (h.set k (.nd hd' ws')) := by
  cases r with
  | r hr =>
    obtain ⟨a, h1, h2⟩ := ok.ce _ _ e
    rw [hr] at h1
    cases h1
    cases h2 with
    | nd q1 q2 q3 => exact ⟨_, _, _, rfl, hr, q1, q2, fun o hd' vs' ws' x' r' => ok.mut e hr q1.own_or.2.2.2.2 (q3 _ q1.own_or.1).1 (q3 _ q1.own_or.1).2 (.nd x' r' q3)⟩
end

/-! ### xs[i], d[k] -/
def gGetD : G2 := fun a kd h => match dicOf h a with
  | some (hd, ws) => (match hGet hd ws kd with | some (some w) => some (.ok w h) | _ => none)
  | none => none
def gGet : G2 := fun a kd h => if (dicOf h a).isSome then gGetD a kd h else gIx a kd h
section
variable {X : Cx} {W : WX} {a b : Expr} {ma mb : E A} {pos : Pos}
/-- of a list, a tuple, a text, a dict -/
theorem rx_sub (hu : X.A.units + 1 < cLine) (ha : RX X W a ma) (hb : RX X W b mb) (hs : PlainIx b := by exact fun _ _ => rfl) (hs2 : NoSl b := by exact fun _ _ => rfl) : RX X W (.Subscript a b pos) (mBin gGet ma mb) := ⟨pe_imp (pe_or (pe_ix ix_seq ha.pe hb.pe hs) (pe_dget hu ha.pe hb.pe hs2)) fun σ H Q q => by
  obtain ⟨Z, B, ρ, τ, h, ok, sl, q⟩ := q
  unfold mBin at q
  have dec : ∀ (r : Option (Rs A)), Post X.K Z (fun c d H' => W c d σ H') B ρ (fun w _ B' ρ' H' => ∀ v, RA X.K B' ρ' v w → Q v H') (bd r fun a h1 => bd (mb τ h1) fun b h2 => gGet a b h2) →
      Post X.K Z (fun c d H' => W c d σ H') B ρ (fun w _ B' ρ' H' => ∀ v, RA X.K B' ρ' v w → tE X.K W mb σ H' fun y H2 => rIx X.K v y H2 Q) r ∨
      Post X.K Z (fun c d H' => W c d σ H') B ρ (fun w _ B' ρ' H' => ∀ v, RA X.K B' ρ' v w → tE X.K W mb σ H' fun y H2 => ∃ a v', v = .ref a ∧ DGet H2 a y (some v') ∧ Q v' H2) r := by
    intro r q
    match r, q with
    | some (.ex x h), q => exact .inl q
    | some (.ok a h1), q =>
      have q : Post X.K Z (fun c d H' => W c d σ H') B ρ (fun w _ B' ρ' H' => ∀ v, RA X.K B' ρ' v w → Q v H') (bd (mb τ h1) fun b h2 => gGet a b h2) := q
      -- what the other evaluation says
      have dec2 : ∀ (r2 : Option (Rs A)), Post X.K Z (fun c d H' => W c d σ H') B ρ (fun w _ B' ρ' H' => ∀ v, RA X.K B' ρ' v w → Q v H') (bd r2 fun b h2 => gGet a b h2) →
          (∀ b h2, r2 = some (.ok b h2) → dicOf h2 a = none) ∨ ∃ b h2 hw, r2 = some (.ok b h2) ∧ dicOf h2 a = some hw := by
        intro r2 _
        match r2 with
        | none => exact .inl fun _ _ e => by cases e
        | some (.ex _ _) => exact .inl fun _ _ e => by cases e
        | some (.ok b h2) =>
          cases e : dicOf h2 a with
          | none => exact .inl fun _ _ z => by cases z; exact e
          | some hw => exact .inr ⟨b, h2, hw, rfl, e⟩
      rcases dec2 (mb τ h1) q with hn | ⟨b, h2, hw, e1, e2⟩
      · refine .inl fun B1 ρ1 H1 ok1 g1 v rv => ⟨Z, B1, ρ1, τ, h1, ok1, sl.mono g1, ?_⟩
        have q := (q.from g1).bd
        revert q hn
        cases mb τ h1 with
        | none => exact fun _ q => q
        | some r2 =>
          cases r2 with
          | ex _ _ => exact fun _ q => q
          | ok b h2 =>
            intro hn q B2 ρ2 H2 ok2 g2 y ry
            have q : Post X.K Z (fun c d H' => W c d σ H') B2 ρ2 (fun w _ B' ρ' H' => ∀ v, RA X.K B' ρ' v w → Q v H') (gGet a b h2) := q B2 ρ2 H2 ok2 g2
            unfold gGet at q
            rw [hn b h2 rfl] at q
            exact og_ix Z B2 ρ2 H2 h2 v y a b _ Q ok2 (rv.mono g2) ry q
      · refine .inr fun B1 ρ1 H1 ok1 g1 v rv => ⟨Z, B1, ρ1, τ, h1, ok1, sl.mono g1, ?_⟩
        have q := (q.from g1).bd
        rw [e1] at q ⊢
        intro B2 ρ2 H2 ok2 g2 y ry
        have q : Post X.K Z (fun c d H' => W c d σ H') B2 ρ2 (fun w _ B' ρ' H' => ∀ v, RA X.K B' ρ' v w → Q v H') (gGet a b h2) := q B2 ρ2 H2 ok2 g2
        unfold gGet at q
        rw [e2] at q
        have q : Post X.K Z (fun c d H' => W c d σ H') B2 ρ2 (fun w _ B' ρ' H' => ∀ v, RA X.K B' ρ' v w → Q v H') (gGetD a b h2) := q
        unfold gGetD at q
        rw [e2] at q
        obtain ⟨hd, ws⟩ := hw
        dsimp only at q
        split at q
        · rename_i w e3
          obtain ⟨p, vs, own, rfl, x1, r1⟩ := dicOf_ra ok2 (rv.mono g2) e2
          obtain ⟨v', g, rv'⟩ := (hGet_ok ok2 x1 r1 ry e3).2 w rfl
          exact ⟨p, v', rfl, g, q.now ok2 _ rv'⟩
        · exact q.elim
  rcases dec (ma τ h) q with q | q
  · exact .inl ⟨Z, B, ρ, τ, h, ok, sl, q⟩
  · exact .inr ⟨Z, B, ρ, τ, h, ok, sl, q⟩⟩
end
/-! ### a[i] = v, d[k] = v -/
def putA (a kd w : A) (h : Hq) : Option Hq := match a with
  | .r k => (match h[k]? with
    | some (.lst ws) => (match kd with
      | .d (.int i) => (match ixN ws.length i with | some n => some (h.set k (.lst (ws.set n w))) | none => none)
      | _ => none)
    | some (.nd hd ws) => (match hPut hd ws kd w with | some (hd', ws') => some (h.set k (.nd hd' ws')) | none => none)
    | _ => none)
  | _ => none
def isLst (h : Hq) : A → Bool
  | .r k => match h[k]? with | some (.lst _) => true | _ => false
  | _ => false
/-- value, object, index -/
def mSetI (lst : Bool) (mo mi mv : E A) : MS := fun τ h => sb τ (mv τ h) fun w h1 => sb τ (mo τ h1) fun a h2 => sb τ (mi τ h2) fun kd h3 => if isLst h3 a = lst then (match putA a kd w h3 with | some h4 => some (.nx τ h4) | none => none) else none
section
variable {X : Cx} {W : WX} {o i e : Expr} {mo mi mv : E A} {pos tpos : Pos}
theorem rs_setL (ho : RX X W o mo) (hi : RX X W i mi) (hv : RX X W e mv) (hs : swapsWithSole [.Subscript o i tpos] e pos.line X.env = pure false := by rfl) (hw : swappedStores [.Subscript o i tpos] e X.env = pure none := by rfl)
    (h1 : (assignEach [.Subscript o i tpos] X.env).map (·.2) = [assign (.Subscript o i tpos) X.env] := by rfl)
    (ha : ∀ v, assign (.Subscript o i tpos) X.env v = (do
      let ov ← holding [v] (eval o X.env)
      let iv ← holding [v, ov] (eval i X.env)
      standAt tpos
      holding [v, ov, iv] (setItem ov iv v)
      release [v, ov, iv] []) := by intro _; rfl) : RS X W (.Assign [.Subscript o i tpos] e pos) (mSetI true mo mi mv) := ⟨ps_imp (ps_asg hv.pe (pg_sub ho.pe hi.pe set_list ha) hs hw h1) fun D σ H q => by
  obtain ⟨Z, B, ρ, τ, h, ok, sl, q⟩ := q
  refine ts_bd ok sl q fun v w h1 B1 ρ1 H1 rv ok1 sl1 g1 q1 => ts_bd ok1 sl1 q1 fun x a h2 B2 ρ2 H2 rx ok2 sl2 g2 q2 => ts_bd ok2 sl2 q2 fun y kd h3 B3 ρ3 H3 ry ok3 sl3 g3 q3 => ?_
  split at q3
  · rename_i hl
    split at q3
    · rename_i h4 e4
      unfold isLst at hl
      split at hl
      · split at hl
        · rename_i k ws e5
          unfold putA at e4
          dsimp only at e4
          rw [e5] at e4
          dsimp only at e4
          split at e4
          · rename_i j
            split at e4
            · rename_i n e6
              cases e4
              cases ra_int ry
              obtain ⟨p, vs, rfl, hr, h1', r1, up⟩ := cell_lst ok3 (rx.mono g3) e5
              exact ⟨p, vs, j, n, rfl, rfl, h1', by rw [r1.length]; exact e6, q3.nx1 (up _ _ (r1.set n (rv.mono (g2.trans g3)))) sl3⟩
            · cases e4
          · cases e4
        · cases hl
      · cases hl
    · exact q3.elim
  · exact q3.elim⟩
theorem rs_setD (hu : X.A.units + 1 < cLine) (ho : RX X W o mo) (hi : RX X W i mi) (hv : RX X W e mv) (hs : swapsWith e (some (.Subscript o i tpos)) pos.line X.env = pure false := by rfl) : RS X W (.Assign [.Subscript o i tpos] e pos) (mSetI false mo mi mv) := ⟨ps_imp (ps_dput hu ho.pe hi.pe hv.pe hs) fun D σ H q => by
  obtain ⟨Z, B, ρ, τ, h, ok, sl, q⟩ := q
  refine ts_bd ok sl q fun v w h1 B1 ρ1 H1 rv ok1 sl1 g1 q1 => ts_bd ok1 sl1 q1 fun x a h2 B2 ρ2 H2 rx ok2 sl2 g2 q2 => ts_bd ok2 sl2 q2 fun y kd h3 B3 ρ3 H3 ry ok3 sl3 g3 q3 => ?_
  split at q3
  · rename_i hl
    split at q3
    · rename_i h4 e4
      unfold putA at e4
      split at e4
      · rename_i k
        split at e4
        · rename_i ws e5
          unfold isLst at hl
          dsimp only at hl
          rw [e5] at hl
          cases hl
        · rename_i hd ws e5
          split at e4
          · rename_i hd' ws' e6
            cases e4
            obtain ⟨p, vs, own, rfl, hr, x1, r1, up⟩ := cell_nd ok3 (rx.mono g3) e5
            obtain ⟨o', vs', d1, d2, d3, d4⟩ := hPut_ok ok3 x1 r1 ry (rv.mono (g2.trans g3)) e6
            exact ⟨p, _, rfl, d1, q3.nx1 (up _ _ _ _ d3 d4) sl3⟩
          · cases e4
        · cases e4
      · cases e4
    · exact q3.elim
  · exact q3.elim⟩
/-- o[i] op= e: object, index, what is there, value -/
def mAugI (lst : Bool) (g : G2) (mo mi mv : E A) : MS := fun τ h => sb τ (mo τ h) fun a h1 => sb τ (mi τ h1) fun kd h2 => sb τ (if lst = true then (if isLst h2 a = true then gIx a kd h2 else none) else gGetD a kd h2) fun u h2' => sb τ (mv τ h2') fun w h3 => sb τ (g u w h3) fun z h4 =>
  if isLst h4 a = lst then (match putA a kd z h4 with | some h5 => some (.nx τ h5) | none => none) else none
theorem get_list : ∀ (pins : List (Addr × Obj)) (s : Shared) (σ : L2.St) (H : Hp) (o i : V) (ov iv : Value) (Q : VK), Inv X pins σ H s → RelV o ov → RelV i iv → rIxL X.K o i H Q →
    wpAny (model X.prog X.w) X.A (getItem ov iv) (EP X pins σ Q) X.xe s := by
  intro pins s σ H x y v u Q I rx ry h
  obtain ⟨p, xs, i, z, rfl, rfl, hq, he, q⟩ := h
  cases rx
  obtain ⟨t, rfl⟩ := ry
  obtain ⟨its, r, pl, hz⟩ := I.list hq
  obtain ⟨j, h1, h2, h3, h4, h5⟩ := atI_get he
  obtain ⟨w, ew, rw'⟩ := r.get h2
  have hl := r.length
  have hn := line63
  have fin : EP X pins σ Q w s := ⟨z, H, I, rw', q⟩
  by_cases h0 : 0 ≤ i
  · have hj : i.toNat = j := by
      rw [seqIndex_of h0 h5] at h1
      exact Option.some.inj h1
    exact wpAny_getItem_list pl.isList h0 (by omega) (by rw [hj]; simpa using ew) fin
  · have hj : (i + (its.toArray.size : Int)).toNat = j := by
      rw [seqIndex_neg (by omega) h4] at h1
      rw [List.size_toArray, ← hl]
      exact Option.some.inj h1
    exact wpAny_getItem_list_neg pl.isList (by omega) (by rw [List.size_toArray] <;> omega) (by omega) (by rw [hj]; simpa using ew) fin
theorem rs_augL {op : Operator} {r : R2} {g : G2} (hop : OpR X (inplaceOp op) r) (og : Op2 X.K r g) (ho : RX X W o mo) (hi : RX X W i mi) (hv : RX X W e mv)
    (ha : ∀ ov iv new, augStore i ov iv new = (do holding [new, ov, iv] (setItem ov iv new); release [new, ov, iv] []; pure .next) := by intros; rfl) : RS X W (.AugAssign (.Subscript o i tpos) op e pos) (mAugI true g mo mi mv) := ⟨ps_imp (ps_augS ho.pe hi.pe get_list hv.pe hop set_list ha) fun D σ H q => by
  obtain ⟨Z, B, ρ, τ, h, ok, sl, q⟩ := q
  refine ts_bd ok sl q fun x a h1 B1 ρ1 H1 rx ok1 sl1 g1 q1 => ts_bd ok1 sl1 q1 fun y kd h2 B2 ρ2 H2 ry ok2 sl2 g2 q2 => ?_
  rw [if_pos rfl] at q2
  split at q2
  · rename_i hl2
    have rx2 := rx.mono g2
    unfold isLst at hl2
    split at hl2
    · rename_i k
      split at hl2
      · rename_i ws e5
        obtain ⟨p, vs, rfl, hr, h1', r1, up⟩ := cell_lst ok2 rx2 e5
        have tn : tupOf (.r k) = none := rfl
        have ln : lstOf h2 (.r k) = some ws := by unfold lstOf; dsimp only; rw [e5]
        unfold gIx at q2
        split at q2
        · rename_i j
          dsimp only at q2
          rw [tn, ln] at q2
          dsimp only at q2
          cases e6 : atI ws j with
          | none => rw [e6] at q2; exact q2.elim
          | some u =>
            rw [e6] at q2
            cases ra_int ry
            obtain ⟨n, e4, e5'⟩ := atI_some e6
            obtain ⟨v0, e7, r2⟩ := r1.get e5'
            refine ⟨p, vs, j, v0, rfl, rfl, SqL.of h1', atI_of r1.length e4 e7, ts_bd ok2 sl2 q2 fun v w h3 B3 ρ3 H3 rv ok3 sl3 g3 q3 => ?_⟩
            refine og Z B3 ρ3 H3 h3 v0 v u w _ _ ok3 (r2.mono g3) rv ((q3.sb sl3).imp fun z h4 B4 ρ4 H4 ok4 g4 q4 zv rz => ?_)
            split at q4
            · rename_i hl4
              split at q4
              · rename_i h5 e8
                unfold isLst at hl4
                dsimp only at hl4
                split at hl4
                · rename_i ws4 e9
                  unfold putA at e8
                  dsimp only at e8
                  rw [e9] at e8
                  dsimp only at e8
                  split at e8
                  · rename_i n4 e10
                    cases e8
                    obtain ⟨p4, vs4, ep, hr4, h4', r4, up4⟩ := cell_lst ok4 (rx2.mono (g3.trans g4)) e9
                    cases ep
                    exact ⟨p, vs4, j, n4, rfl, rfl, h4', by rw [r4.length]; exact e10, q4.nx1 (up4 _ _ (r4.set n4 rz)) (sl3.mono g4)⟩
                  · cases e8
                · cases hl4
              · exact q4.elim
            · exact q4.elim
        · exact q2.elim
      · cases hl2
    · cases hl2
  · exact q2.elim⟩
theorem rs_augD {op : Operator} {r : R2} {g : G2} (hu : X.A.units + 1 < cLine) (hop : OpR X (inplaceOp op) r) (og : Op2 X.K r g) (ho : RX X W o mo) (hi : RX X W i mi) (hv : RX X W e mv)
    (ha : ∀ ov iv new, augStore i ov iv new = (do holding [new, ov, iv] (setItem ov iv new); release [new, ov, iv] []; pure .next) := by intro _ _ _; rfl) : RS X W (.AugAssign (.Subscript o i tpos) op e pos) (mAugI false g mo mi mv) := ⟨ps_imp (ps_daug hu ho.pe hi.pe hv.pe (fun pins s σ H x y u v Q I rx ry h => hop pins s σ H x y u v Q I rx ry h) ha) fun D σ H q => by
  obtain ⟨Z, B, ρ, τ, h, ok, sl, q⟩ := q
  refine ts_bd ok sl q fun x a h1 B1 ρ1 H1 rx ok1 sl1 g1 q1 => ts_bd ok1 sl1 q1 fun y kd h2 B2 ρ2 H2 ry ok2 sl2 g2 q2 => ?_
  rw [if_neg (by simp)] at q2
  · unfold gGetD at q2
    split at q2
    · rename_i hd ws e5
      split at q2
      · rename_i u e6
        obtain ⟨p, vs, own, rfl, x1, r1⟩ := dicOf_ra ok2 (rx.mono g2) e5
        obtain ⟨v0, gg, r2⟩ := (hGet_ok ok2 x1 r1 ry e6).2 u rfl
        refine ⟨p, v0, rfl, gg, ts_bd ok2 sl2 q2 fun v w h3 B3 ρ3 H3 rv ok3 sl3 g3 q3 => ?_⟩
        refine og Z B3 ρ3 H3 h3 v0 v u w _ _ ok3 (r2.mono g3) rv ((q3.sb sl3).imp fun z h4 B4 ρ4 H4 ok4 g4 q4 zv rz => ?_)
        split at q4
        · rename_i hl4
          split at q4
          · rename_i h5 e8
            unfold putA at e8
            split at e8
            · rename_i k
              split at e8
              · rename_i ws4 e9
                unfold isLst at hl4
                dsimp only at hl4
                rw [e9] at hl4
                cases hl4
              · rename_i hd4 ws4 e9
                split at e8
                · rename_i hd' ws' e10
                  cases e8
                  obtain ⟨p4, vs4, own4, ep, hr4, x4, r4, up4⟩ := cell_nd ok4 (rx.mono (g2.trans (g3.trans g4))) e9
                  cases ep
                  obtain ⟨o', vs', d1, d2, d3, d4⟩ := hPut_ok ok4 x4 r4 (ry.mono (g3.trans g4)) rz e10
                  exact ⟨_, d1, q4.nx1 (up4 _ _ _ _ d3 d4) (sl3.mono g4)⟩
                · cases e8
              · cases e8
            · cases e8
          · exact q4.elim
        · exact q4.elim
      · exact q2.elim
    · exact q2.elim⟩
end
end Tq

/-! Tq8: fields, instances, calls, defs. -/
namespace Tq
open PySem PySem.Spec PyProof.Rows L2

/-! ### fields -/
/-- classes of the text: the names of their instances' fields -/
abbrev FTab := List (Str × List Str)
def fOk (T : FTab) (C f : Str) : Bool := T.any fun p => decide (p.1 = C) && decide (f ∈ p.2)
structure ClsT (K : PySem.W.Frag) (T : FTab) : Prop where
  at_ : ∀ C f, fOk T C f = true → ∃ ca, glAt K C = some ca ∧ Cls K ca ∧ NoAttr K ca f
theorem clsT_nil {K : PySem.W.Frag} : ClsT K [] := ⟨fun _ _ h => by cases h⟩
theorem clsT_cons {K : PySem.W.Frag} {C : Str} {fs : List Str} {ca : Addr} {T : FTab} (h0 : glAt K C = some ca) (h1 : Cls K ca) (h2 : ∀ f ∈ fs, NoAttr K ca f) (h3 : ClsT K T) : ClsT K ((C, fs) :: T) := ⟨fun D f h => by
  unfold fOk at h
  rw [List.any_cons, Bool.or_eq_true] at h
  rcases h with h | h
  · rw [Bool.and_eq_true] at h
    have e : C = D := of_decide_eq_true h.1
    subst e
    exact ⟨ca, h0, h1, h2 f (of_decide_eq_true h.2)⟩
  · exact h3.at_ D f h⟩
def fGet (f : Str) : List Str → List A → Option A
  | g :: fs, w :: ws => if g = f then some w else fGet f fs ws
  | _, _ => none
def fPut (f : Str) (w : A) : List Str → List A → List Str × List A
  | g :: fs, u :: ws => if g = f then (g :: fs, w :: ws) else (g :: (fPut f w fs ws).1, u :: (fPut f w fs ws).2)
  | fs, _ => if fs = [] then ([f], [w]) else (fs, [])
section
variable {K : PySem.W.Frag} {B : Hp} {ρ : Nat → Option Addr}
theorem fGet_ok {f : Str} : ∀ {fs : List Str} {vs : List V} {ws : List A} {w : A}, RAL K B ρ vs ws → fGet f fs ws = some w → ∃ v, (fs.zip vs).lookup f = some v ∧ RA K B ρ v w
  | [], _, _, _, r, h => by cases r <;> cases h
  | g :: fs, _, _, _, .nil, h => by cases h
  | g :: fs, _, _, w, .cons (v := v) r rl, h => by
    unfold fGet at h
    split at h
    · rename_i e
      cases h
      subst e
      exact ⟨v, by simp, r⟩
    · rename_i e
      obtain ⟨u, h1, h2⟩ := fGet_ok (fs := fs) rl h
      refine ⟨u, ?_, h2⟩
      rw [List.zip_cons_cons, List.lookup_cons]
      have : (f == g) = false := by simpa using Ne.symm e
      rw [this]
      exact h1
theorem fPut_ok {f : Str} {v : V} {w : A} (rv : RA K B ρ v w) : ∀ {fs : List Str} {vs : List V} {ws : List A}, RAL K B ρ vs ws → fs.length = vs.length →
    ∃ vs', putF f v (fs.zip vs) = (fPut f w fs ws).1.zip vs' ∧ (fPut f w fs ws).1.length = vs'.length ∧ RAL K B ρ vs' (fPut f w fs ws).2
  | [], _, _, r, e => by
    cases r with
    | nil => exact ⟨[v], by simp [fPut, putF], by simp [fPut], by simpa [fPut] using RAL.cons rv .nil⟩
    | cons _ _ => simp at e
  | g :: fs, _, _, .nil, e => by simp at e
  | g :: fs, _, _, .cons (v := u) (vs := vr) (w := s) (ws := sr) w0 wl, e => by
    obtain ⟨vs', h1, h2, h3⟩ := fPut_ok (f := f) rv (fs := fs) wl (by simpa using e)
    by_cases z : g = f
    · refine ⟨v :: vr, ?_, ?_, ?_⟩
      · simp [fPut, putF, z]
      · simp [fPut, z]; simpa using e
      · simp only [fPut, if_pos z]; exact .cons rv wl
    · refine ⟨u :: vs', ?_, ?_, ?_⟩
      · simp only [fPut, if_neg z, List.zip_cons_cons, putF]
        rw [h1]
      · simp [fPut, z, h2]
      · simp only [fPut, if_neg z]; exact .cons w0 h3
end
def gFld (T : FTab) (f : Str) : G1 := fun a h => match dicOf h a with
  | some (.ins C fs, ws) => if fOk T C f = true then (match fGet f fs ws with | some w => some (.ok w h) | none => none) else none
  | _ => none
/-- o.f = e: value, object -/
def mSetF (T : FTab) (f : Str) (mo mv : E A) : MS := fun τ h => sb τ (mv τ h) fun w h1 => sb τ (mo τ h1) fun a h2 => match a with
  | .r k => (match h2[k]? with
    | some (.nd (.ins C fs) ws) => if fOk T C f = true ∧ fs.length < 1000 then some (.nx τ (h2.set k (.nd (.ins C (fPut f w fs ws).1) (fPut f w fs ws).2))) else none
    | _ => none)
  | _ => none
/-- o.f op= e: object, what is there, value -/
def mAugF (T : FTab) (f : Str) (g : G2) (mo mv : E A) : MS := fun τ h => sb τ (mo τ h) fun a h1 => sb τ (gFld T f a h1) fun u h1' => sb τ (mv τ h1') fun w h2 => sb τ (g u w h2) fun z h3 => match a with
  | .r k => (match h1[k]?, h3[k]? with
    | some (.nd (.ins C _) _), some (.nd (.ins C' fs) ws) => if C = C' ∧ fOk T C f = true ∧ fs.length < 1000 then some (.nx τ (h3.set k (.nd (.ins C (fPut f z fs ws).1) (fPut f z fs ws).2))) else none
    | _, _ => none)
  | _ => none
theorem zip_len {κ : Type} {fs : List κ} {vs : List V} (h : fs.length = vs.length) : (fs.zip vs).length = fs.length := by rw [List.length_zip, h, Nat.min_self]
section
variable {X : Cx} {W : WX} {T : FTab} {o e : Expr} {mo mv : E A} {f : Str} {pos pos' tpos : Pos}
theorem rx_fld (hT : ClsT X.K T) (ho : RX X W o mo) (hb : attributeBase o f X.env (eval o X.env) = eval o X.env := by rfl) : RX X W (.Attribute o f pos) (mUn (gFld T f) mo) := ⟨pe_imp (pe_fld ho.pe hb) fun σ H Q q => by
  obtain ⟨Z, B, ρ, τ, h, ok, sl, q⟩ := q
  refine te_bd ok sl q fun x a h1 B1 ρ1 H1 rx ok1 sl1 g1 q1 => ?_
  unfold gFld at q1
  split at q1
  · rename_i C fs ws e1
    split at q1
    · rename_i hf
      split at q1
      · rename_i w e2
        obtain ⟨ca, c1, c2, c3⟩ := hT.at_ C f hf
        obtain ⟨p, vs, own, rfl, x1, r1⟩ := dicOf_ra ok1 rx e1
        cases x1 with
        | ins i0 i1 i2 i3 =>
          rw [c1] at i0
          cases i0
          obtain ⟨v, k1, k2⟩ := fGet_ok r1 e2
          exact ⟨p, ca, _, _, v, rfl, i1, c2, c3, k1, q1.now ok1 _ k2⟩
      · exact q1.elim
    · exact q1.elim
  · exact q1.elim⟩
theorem rs_setF (hT : ClsT X.K T) (ho : RX X W o mo) (hv : RX X W e mv) (hs : swapsWith e (some (.Attribute o f pos')) pos.line X.env = pure false := by rfl) : RS X W (.Assign [.Attribute o f pos'] e pos) (mSetF T f mo mv) := ⟨ps_imp (ps_fld ho.pe hv.pe hs) fun D σ H q => by
  obtain ⟨Z, B, ρ, τ, h, ok, sl, q⟩ := q
  refine ts_bd ok sl q fun v w h1 B1 ρ1 H1 rv ok1 sl1 g1 q1 => ts_bd ok1 sl1 q1 fun x a h2 B2 ρ2 H2 rx ok2 sl2 g2 q2 => ?_
  split at q2
  · rename_i k
    split at q2
    · rename_i C fs ws e1
      split at q2
      · rename_i hf
        obtain ⟨ca, c1, c2, c3⟩ := hT.at_ C f hf.1
        obtain ⟨p, vs, own, rfl, hr, x1, r1, up⟩ := cell_nd ok2 rx e1
        cases x1 with
        | ins i0 i1 i2 i3 =>
          rw [c1] at i0
          cases i0
          obtain ⟨vs', d1, d2, d3⟩ := fPut_ok (f := f) (rv.mono g2) r1 i3
          refine ⟨p, ca, _, _, rfl, i1, c2, c3, by rw [zip_len i3]; exact hf.2, q2.nx1 (up _ _ vs' _ ?_ d3) sl2⟩
          exact .ins c1 (by rw [upd_same, d1]) (by rw [upd_ne fun z => by rw [z, i1] at i2; cases i2]; exact i2) d2
      · exact q2.elim
    · exact q2.elim
  · exact q2.elim⟩
theorem rs_augF {op : Operator} {r : R2} {g : G2} (hT : ClsT X.K T) (hop : OpR X (inplaceOp op) r) (og : Op2 X.K r g) (ho : RX X W o mo) (hv : RX X W e mv) : RS X W (.AugAssign (.Attribute o f tpos) op e pos) (mAugF T f g mo mv) := ⟨ps_imp (ps_fldaug ho.pe hv.pe (fun pins s σ H x y u v Q I rx ry h => hop pins s σ H x y u v Q I rx ry h)) fun D σ H q => by
  obtain ⟨Z, B, ρ, τ, h, ok, sl, q⟩ := q
  refine ts_bd ok sl q fun x a h1 B1 ρ1 H1 rx ok1 sl1 g1 q1 => ?_
  unfold gFld at q1
  split at q1
  · rename_i C fs ws e1
    split at q1
    · rename_i hf
      split at q1
      · rename_i u e2
        obtain ⟨ca, c1, c2, c3⟩ := hT.at_ C f hf
        obtain ⟨p, vs, own, rfl, x1, r1⟩ := dicOf_ra ok1 rx e1
        cases x1 with
        | ins i0 i1 i2 i3 =>
          rw [c1] at i0
          cases i0
          obtain ⟨v0, k1, k2⟩ := fGet_ok r1 e2
          refine ⟨p, ca, _, _, v0, rfl, i1, c2, c3, k1, ts_bd ok1 sl1 q1 fun v w h2 B2 ρ2 H2 rv ok2 sl2 g2 q2 => ?_⟩
          refine og Z B2 ρ2 H2 h2 v0 v u w _ _ ok2 (k2.mono g2) rv ((q2.sb sl2).imp fun z h3 B3 ρ3 H3 ok3 g3 q3 zv rz => ?_)
          split at q3
          · rename_i k
            split at q3
            · rename_i C1 fs1 ws1 C2 fs2 ws2 e3 e4
              split at q3
              · rename_i hc
                obtain ⟨rfl, hf2, hl⟩ := hc
                have eC : C1 = C := by
                  unfold dicOf at e1
                  dsimp only at e1
                  rw [e3] at e1
                  cases e1
                  rfl
                subst eC
                obtain ⟨p4, vs4, own4, ep, hr4, x4, r4, up⟩ := cell_nd ok3 (rx.mono (g2.trans g3)) e4
                cases ep
                cases x4 with
                | ins j0 j1 j2 j3 =>
                  rw [c1] at j0
                  cases j0
                  obtain ⟨vs', d1, d2, d3⟩ := fPut_ok (f := f) rz r4 j3
                  refine ⟨_, _, j1, by rw [zip_len j3]; exact hl, q3.nx1 (up _ _ vs' _ ?_ d3) (sl2.mono g3)⟩
                  exact .ins c1 (by rw [upd_same, d1]) (by rw [upd_ne fun z => by rw [z, j1] at j2; cases j2]; exact j2) d2
              · exact q3.elim
            · exact q3.elim
          · exact q3.elim
      · exact q1.elim
    · exact q1.elim
  · exact q1.elim⟩
end

/-! ### promises -/
abbrev Sem1 := List A → Hq → Option (Rs A)
def spQ (K : PySem.W.Frag) (np : Nat) (sem : Sem1) : Sp := fun vs H Q Ex => vs.length = np ∧ ∃ Z B ρ h ws, Ok K Z B ρ H h ∧ RAL K B ρ vs ws ∧ Post K Z Ex B ρ (fun w _ B' ρ' H' => ∀ v, RA K B' ρ' v w → Q v H') (sem ws h)
def startT (n : Nat) (ws : List A) : Sl := ws.map some ++ List.replicate (n - ws.length) none
def runB (np n : Nat) (m : MS) : Sem1 := fun ws h => if ws.length = np then (match m (startT n ws) h with
  | some (.rt w h') => some (.ok w h')
  | some (.nx _ h') => some (.ok (.d .non) h')
  | some (.ex x _ h') => some (.ex x h')
  | _ => none) else none
theorem slok_start {K : PySem.W.Frag} {B : Hp} {ρ : Nat → Option Addr} {vs : List V} {ws : List A} (N : List Str) (r : RAL K B ρ vs ws) : SlOk K B ρ (L2.start N vs) (startT N.length ws) := by
  unfold L2.start startT
  refine ⟨by simp [r.length], fun i w e => ?_⟩
  by_cases hi : i < ws.length
  · rw [List.getElem?_append_left (by simpa using hi), List.getElem?_map] at e
    cases z : ws[i]? with
    | none => rw [z] at e; cases e
    | some u =>
      rw [z] at e
      cases e
      obtain ⟨v, h1, h2⟩ := r.get z
      exact ⟨v, by rw [List.getElem?_append_left (by simpa [r.length] using hi), List.getElem?_map, h1]; rfl, h2⟩
  · rw [List.getElem?_append_right (by simpa using Nat.le_of_not_lt hi), List.getElem?_replicate] at e
    split at e <;> cases e
theorem runB_post {K : PySem.W.Frag} {Z B : Hp} {ρ : Nat → Option Addr} {Ex : XK} {Q : VK} {np n : Nat} {m : MS} {ws : List A} {h : Hq} (q : Post K Z Ex B ρ (fun w _ B' ρ' H' => ∀ v, RA K B' ρ' v w → Q v H') (runB np n m ws h)) :
    PostS K Z (fun c d _ H' => Ex c d H') B ρ { nx := fun _ H' => Q .non H', rt := Q } (m (startT n ws) h) := by
  unfold runB at q
  split at q
  · split at q
    · rename_i w h' e
      rw [e]
      exact fun v B' ρ' H' rv ok g => q B' ρ' H' ok g v rv
    · rename_i τ h' e
      rw [e]
      exact fun σ' B' ρ' H' ok sl g => q B' ρ' H' ok g .non (.d .non)
    · rename_i x τ h' e
      rw [e]
      exact fun σ' B' ρ' H' cls d ok sl g xc => q B' ρ' H' cls d ok g xc
    · exact q.elim
  · exact q.elim
structure Src (K : PySem.W.Frag) (mg : Str → Option Value) (x : Str) (st : Stmt) (ps : List Str) : Prop where
  ex : ∃ (fa : Addr) (fd : FuncData), Fun K x x st fa fd ∧ mg x = some (.ref fa) ∧ Binds K fd ps []
structure Def (P : Program) (w : World) (K : PySem.W.Frag) (mg : Str → Option Value) (base : Heap) (k : Nat) (x : Str) (ps : List Str) (sem : Sem1) : Prop where
  ex : ∃ (fa : Addr) (fd : FuncData), FnOk P w K mg base (L2.CX P w) k fa fd ps (spQ K ps.length sem) ∧ mg x = some (.ref fa) ∧ PySem.W.keepIn K (.ref fa) = true ∧ Binds K fd ps []
/-- a method -/
structure SrcM (K : PySem.W.Frag) (C m : Str) (st : Stmt) (ps : List Str) (qual : Str) : Prop where
  ex : ∃ (ca fa : Addr) (fd : FuncData), glAt K C = some ca ∧ Cls K ca ∧ Meth K ca m fa ∧ Fun K m qual st fa fd ∧ Binds K fd ps []
structure DefM (P : Program) (w : World) (K : PySem.W.Frag) (mg : Str → Option Value) (base : Heap) (k : Nat) (C m : Str) (ps : List Str) (sem : Sem1) : Prop where
  ex : ∃ (ca fa : Addr) (fd : FuncData), glAt K C = some ca ∧ Cls K ca ∧ Meth K ca m fa ∧ FnOk P w K mg base (L2.CX P w) k fa fd ps (spQ K ps.length sem) ∧ Binds K fd ps []
/-- a class with its __init__ -/
structure MkC (K : PySem.W.Frag) (mg : Str → Option Value) (C : Str) : Prop where
  ex : ∃ ca fa, glAt K C = some ca ∧ mg C = some (.ref ca) ∧ Mk K ca fa ∧ PySem.W.findIn K (.ref ca) "__init__" = some (some (.ref fa))
section
variable {Pr : Program} {w : World} {K : PySem.W.Frag} {mg : Str → Option Value} {base : Heap}
theorem fn_trX {x qual : Str} {st : Stmt} {fa : Addr} {fd : FuncData} {N ps : List Str} {k : Nat} {sem : Sem1} (m : MS) (F : Fun K x qual st fa fd) (Sc : FnScope N ps (defScope st)) (hsem : ∀ ws h r, sem ws h = some r → runB ps.length N.length m ws h = some r)
    (hb : ∀ (cdv : Value) (A : Around) (outer : List Env) (s : Shared) (H : Hp) (Ex : XK), Room k (A.deeper (envOfC qual (defScope st) s.heap.objs.size fa cdv)) →
      Takes (cxOf (L2.CX Pr w) Pr w K mg base N qual (defScope st) fa cdv A outer s H Ex) (fun c d _ H' => Ex c d H') →
      PassesOwn (model Pr w) (cxOf (L2.CX Pr w) Pr w K mg base N qual (defScope st) fa cdv A outer s H Ex).A (cxOf (L2.CX Pr w) Pr w K mg base N qual (defScope st) fa cdv A outer s H Ex).env (cxOf (L2.CX Pr w) Pr w K mg base N qual (defScope st) fa cdv A outer s H Ex).xe →
      RSs (cxOf (L2.CX Pr w) Pr w K mg base N qual (defScope st) fa cdv A outer s H Ex) (fun c d _ H' => Ex c d H') (defBody st) m) : FnOk Pr w K mg base (L2.CX Pr w) (k + 1) fa fd ps (spQ K ps.length sem) := by
  refine F.okX Sc (fun vs H Q Ex h => h.1) (fun cdv A outer s H vs Q Ex hr h => ?_)
  obtain ⟨hl, Z, B, ρ, h0, ws, ok, r, q⟩ := h
  refine ⟨_, (hb cdv A outer s H Ex hr (takes_of rfl rfl rfl rfl) (passes_of rfl)).ps, Z, B, ρ, startT N.length ws, h0, ok, slok_start _ r, ?_⟩
  have q2 : Post K Z Ex B ρ (fun w _ B' ρ' H' => ∀ v, RA K B' ρ' v w → Q v H') (runB ps.length N.length m ws h0) := by
    cases e : sem ws h0 with
    | none => rw [e] at q; exact q.elim
    | some r => rw [e] at q; rw [hsem ws h0 r e]; exact q
  exact runB_post q2
theorem def_tr {x : Str} {st : Stmt} {N ps : List Str} {k : Nat} {sem : Sem1} (S : Src K mg x st ps) (Sc : FnScope N ps (defScope st)) (m : MS)
    (hb : ∀ (fa : Addr) (cdv : Value) (A : Around) (outer : List Env) (s : Shared) (H : Hp) (Ex : XK), Room k (A.deeper (envOfC x (defScope st) s.heap.objs.size fa cdv)) →
      Takes (cxOf (L2.CX Pr w) Pr w K mg base N x (defScope st) fa cdv A outer s H Ex) (fun c d _ H' => Ex c d H') →
      PassesOwn (model Pr w) (cxOf (L2.CX Pr w) Pr w K mg base N x (defScope st) fa cdv A outer s H Ex).A (cxOf (L2.CX Pr w) Pr w K mg base N x (defScope st) fa cdv A outer s H Ex).env (cxOf (L2.CX Pr w) Pr w K mg base N x (defScope st) fa cdv A outer s H Ex).xe →
      RSs (cxOf (L2.CX Pr w) Pr w K mg base N x (defScope st) fa cdv A outer s H Ex) (fun c d _ H' => Ex c d H') (defBody st) m)
    (hsem : ∀ ws h r, sem ws h = some r → runB ps.length N.length m ws h = some r := by exact fun _ _ _ h => h) : Def Pr w K mg base (k + 1) x ps sem := by
  obtain ⟨fa, fd, F, hm', hbd⟩ := S.ex
  exact ⟨fa, fd, fn_trX m F Sc hsem (fun cdv A outer s H Ex hr => hb fa cdv A outer s H Ex hr), hm', F.kp, hbd⟩
theorem defM_tr {C mn qual : Str} {st : Stmt} {N ps : List Str} {k : Nat} {sem : Sem1} (S : SrcM K C mn st ps qual) (Sc : FnScope N ps (defScope st)) (m : MS)
    (hb : ∀ (fa : Addr) (cdv : Value) (A : Around) (outer : List Env) (s : Shared) (H : Hp) (Ex : XK), Room k (A.deeper (envOfC qual (defScope st) s.heap.objs.size fa cdv)) →
      Takes (cxOf (L2.CX Pr w) Pr w K mg base N qual (defScope st) fa cdv A outer s H Ex) (fun c d _ H' => Ex c d H') →
      PassesOwn (model Pr w) (cxOf (L2.CX Pr w) Pr w K mg base N qual (defScope st) fa cdv A outer s H Ex).A (cxOf (L2.CX Pr w) Pr w K mg base N qual (defScope st) fa cdv A outer s H Ex).env (cxOf (L2.CX Pr w) Pr w K mg base N qual (defScope st) fa cdv A outer s H Ex).xe →
      RSs (cxOf (L2.CX Pr w) Pr w K mg base N qual (defScope st) fa cdv A outer s H Ex) (fun c d _ H' => Ex c d H') (defBody st) m)
    (hsem : ∀ ws h r, sem ws h = some r → runB ps.length N.length m ws h = some r := by exact fun _ _ _ h => h) : DefM Pr w K mg base (k + 1) C mn ps sem := by
  obtain ⟨ca, fa, fd, h1, h2, h3, F, hbd⟩ := S.ex
  exact ⟨ca, fa, fd, h1, h2, h3, fn_trX m F Sc hsem (fun cdv A outer s H Ex hr => hb fa cdv A outer s H Ex hr), hbd⟩
/-- the law itself: nothing is let out -/
theorem fn_tr0 {x qual : Str} {st : Stmt} {fa : Addr} {fd : FuncData} {N ps : List Str} {k : Nat} {sem : Sem1} (m : MS) (F : Fun K x qual st fa fd) (Sc : FnScope N ps (defScope st)) (hsem : ∀ ws h r, sem ws h = some r → runB ps.length N.length m ws h = some r)
    (hb : ∀ (cdv : Value) (A : Around) (outer : List Env) (s : Shared) (H : Hp) (Ex : XK), Room k (A.deeper (envOfC qual (defScope st) s.heap.objs.size fa cdv)) →
      Takes (cxOf CX0 Pr w K mg base N qual (defScope st) fa cdv A outer s H Ex).nox W0 →
      PassesOwn (model Pr w) (cxOf CX0 Pr w K mg base N qual (defScope st) fa cdv A outer s H Ex).nox.A (cxOf CX0 Pr w K mg base N qual (defScope st) fa cdv A outer s H Ex).nox.env (cxOf CX0 Pr w K mg base N qual (defScope st) fa cdv A outer s H Ex).nox.xe →
      RSs (cxOf CX0 Pr w K mg base N qual (defScope st) fa cdv A outer s H Ex).nox W0 (defBody st) m) : FnOk Pr w K mg base CX0 (k + 1) fa fd ps (fun vs H Q _ => spQ K ps.length sem vs H Q E0) := by
  refine F.ok Sc (fun vs H Q Ex h => h.1) (fun cdv A outer s H vs Q Ex hr h => ?_)
  obtain ⟨hl, Z, B, ρ, h0, ws, ok, r, q⟩ := h
  refine ⟨_, (hb cdv A outer s H Ex hr takes0 PassesOwn.never).ps, Z, B, ρ, startT N.length ws, h0, ok, slok_start _ r, ?_⟩
  have q2 : Post K Z E0 B ρ (fun w _ B' ρ' H' => ∀ v, RA K B' ρ' v w → Q v H') (runB ps.length N.length m ws h0) := by
    cases e : sem ws h0 with
    | none => rw [e] at q; exact q.elim
    | some r => rw [e] at q; rw [hsem ws h0 r e]; exact q
  exact runB_post q2
theorem def_none {x : Str} {st : Stmt} {ps : List Str} {k : Nat} (S : Src K mg x st ps) : Def Pr w K mg base k x ps (fun _ _ => none) := by
  obtain ⟨fa, fd, F, hm', hbd⟩ := S.ex
  refine ⟨fa, fd, ⟨fun vs H Q Ex h => ?_, fun A outer s H args us vs Q Ex hr he hb hv h => ?_⟩, hm', F.kp, hbd⟩
  · obtain ⟨_, _, _, _, _, _, _, _, e⟩ := h
    exact e.elim
  · obtain ⟨_, _, _, _, _, _, _, _, e⟩ := h
    exact e.elim
theorem Def.mono {x : Str} {ps : List Str} {j k : Nat} {sem : Sem1} (D : Def Pr w K mg base j x ps sem) (h : j ≤ k) : Def Pr w K mg base k x ps sem := by
  obtain ⟨fa, fd, F, h1, h2, h3⟩ := D.ex
  exact ⟨fa, fd, F.mono h, h1, h2, h3⟩
end

/-! ### calls -/
def Xc.fz (h : Hq) : Xc → Option Xc
  | .own C => some (.own C)
  | .fld C f w => (view h w).map fun d => .fld C f (.d d)
  | .blt T => some (.blt T)
/-- with the whole heap -/
def mCall (sem : Sem1) (mr : E (List A)) : E A := fun τ h => bd (mr τ h) fun ws h1 => sem ws h1
/-- with no cell in sight: the answer is data -/
def callP (sem : Sem1) (ws : List A) (h1 : Hq) : Option (Rs A) := match mapMn (view h1) ws with
  | some ds => (match sem (ds.map A.d) [] with
    | some (.ok w h') => (match view h' w with | some d => if (allD ws).isSome || d.flat then some (.ok (.d d) h1) else none | none => none)
    | some (.ex x h') => if (allD ws).isSome then (match x.fz h' with | some x' => some (.ex x' h1) | none => none) else none
    | none => none)
  | none => none
def mCallP (sem : Sem1) (mr : E (List A)) : E A := fun τ h => bd (mr τ h) fun ws h1 => callP sem ws h1
section
variable {K : PySem.W.Frag} {Z B H : Hp} {ρ : Nat → Option Addr} {h : Hq}
/-- nobody's cells: what is there stands aside -/
theorem Ok.void (ok : Ok K Z B ρ H h) : Ok K H B (fun _ => none) H [] := ⟨ok.ex, fun _ _ e => e, (fun k o e => by simp at e), (fun _ _ _ e => by cases e), (fun _ _ e => by cases e), fun _ _ => rfl⟩
theorem Ok.voidH (ok : Ok K Z B ρ H h) : Ok K H H (fun _ => none) H [] := ⟨fun _ _ e => e, fun _ _ e => e, (fun k o e => by simp at e), (fun _ _ _ e => by cases e), (fun _ _ e => by cases e), fun _ _ => rfl⟩
/-- back from a call without cells: all that is new is frozen -/
theorem Ok.backP (ok : Ok K Z B ρ H h) {B' H' : Hp} {ρ' : Nat → Option Addr} {h' : Hq} (ok' : Ok K H B' ρ' H' h') (g : Gr H B (fun _ => none) B' ρ') :
    ∃ B2, Ok K Z B2 ρ H' h ∧ Gr Z B ρ B2 ρ ∧ (∀ v w d, RA K B' ρ' v w → view h' w = some d → Rp K B2 v d) := by
  let B2 : Hp := fun a => if H a = none then H' a else B a
  have s0 : Same H H' := ok'.zz
  have zn : ∀ a, H a = none → Z a = none := fun a e => by
    cases z : Z a with
    | none => rfl
    | some u => rw [ok.zz a u z] at e; cases e
  have bn : ∀ a, H a = none → B a = none := fun a e => by
    cases z : B a with
    | none => rfl
    | some u => rw [ok.ex a u z] at e; cases e
  have b1 : Same B B2 := fun a o e => by
    show (if H a = none then H' a else B a) = some o
    rw [if_neg (by rw [ok.ex a o e]; simp)]
    exact e
  have b2 : Same B2 H' := fun a o e => by
    have e : (if H a = none then H' a else B a) = some o := e
    split at e
    · exact e
    · exact s0 _ _ (ok.ex a o e)
  have b3 : ∀ a, H a ≠ none → B2 a = B a := fun a e => if_neg e
  have b4 : Same B' B2 := fun a o e => by
    by_cases z : B a = none
    · have hz := g.fz a z (by rw [e]; simp)
      show (if H a = none then H' a else B a) = some o
      rw [if_pos hz]
      exact ok'.ex a o e
    · cases y : B a with
      | none => exact absurd y z
      | some u =>
        have := g.bb a u y
        rw [e] at this
        cases this
        exact b1 a o y
  have gg : Gr Z B ρ B2 ρ := ⟨b1, fun _ _ e => e, fun a e e' => by
    by_cases z : H a = none
    · exact zn a z
    · rw [b3 a z] at e'; exact absurd e e'⟩
  refine ⟨B2, ⟨b2, fun a o e => s0 _ _ (ok.zz a o e), fun k c e => ?_, ok.nj, fun k a e => ?_, ok.up⟩, gg, fun v w d r e => vw_at ok' b4 (fun b hz hb u hu => ?_) _ v w d r e⟩
  · obtain ⟨a, h1, h2⟩ := ok.ce k c e
    refine ⟨a, h1, ?_⟩
    cases h2 with
    | lst e1 e2 e3 e4 => exact .lst (s0 _ _ e1) (e2.mono gg) (by rw [b3 a (by rw [e1]; simp)]; exact e3) e4
    | nd e1 e2 e3 => exact .nd (e1.to fun b _ u e => s0 _ _ e) (e2.mono gg) fun b hb => ⟨by rw [b3 b (e1.own_or.2.2.1 b hb)]; exact (e3 b hb).1, (e3 b hb).2⟩
    | dead e1 => exact .dead e1
  · have := ok.al k a e
    cases z : H a with
    | none => exact absurd z this
    | some u => rw [s0 _ _ z]; simp
  · show (if H b = none then H' b else B b) = some u
    rw [if_pos hz]
    exact hu
theorem rpl_views (ok : Ok K Z B ρ H h) {vs : List V} {ws : List A} {ds : List D} (r : RAL K B ρ vs ws) (e : mapMn (view h) ws = some ds) : RpL K H vs ds := vws_of (fun v w d rv ev => ok.see rv ev) r e
theorem allD_view {h : Hq} {ws : List A} {ds es : List D} (e : allD ws = some ds) (e2 : mapMn (view h) ws = some es) : ds = es := by
  cases allD_of e
  rw [mapMn_d _ _ (vw_d 32 h)] at e2
  exact Option.some.inj e2
theorem callP_ok {W : XK} {Q : VK} {sem : Sem1} {vs : List V} {ws : List A} {np : Nat} (ok : Ok K Z B ρ H h) (r : RAL K B ρ vs ws) (hl : ws.length = np)
    (q : Post K Z W B ρ (fun w _ B' ρ' H' => ∀ v, RA K B' ρ' v w → Q v H') (callP sem ws h)) : spQ K np sem vs H Q W := by
  refine ⟨by rw [r.length]; exact hl, ?_⟩
  unfold callP at q
  split at q
  · rename_i ds e1
    cases e0 : allD ws with
    | some ds' =>
      have := allD_view e0 e1
      subst this
      cases allD_of e0
      refine ⟨H, B, fun _ => none, [], ds'.map A.d, ok.void, ral_ds (ral_rpl r), ?_⟩
      split at q
      · rename_i w h' e2
        rw [e2]
        intro B' ρ' H' ok' g v rv
        split at q
        · rename_i d e3
          split at q
          · obtain ⟨B2, o2, g2, see⟩ := ok.backP ok' g
            exact q B2 ρ H' o2 g2 v (.d (see v w d rv e3))
          · exact q.elim
        · exact q.elim
      · rename_i x h' e2
        rw [e2]
        intro B' ρ' H' cls dd ok' g xc
        rw [e0] at q
        dsimp only [Option.isSome] at q
        rw [if_pos rfl] at q
        split at q
        · rename_i x' e3
          obtain ⟨B2, o2, g2, see⟩ := ok.backP ok' g
          refine q B2 ρ H' cls dd o2 g2 ?_
          cases xc with
          | own c => cases e3; exact .own c
          | fld c1 c2 c3 =>
            obtain ⟨d, e4, rfl⟩ := Option.map_eq_some_iff.mp e3
            exact .fld c1 c2 (.d (see _ _ _ c3 e4))
          | blt => cases e3; exact .blt
        · exact q.elim
      · exact q.elim
    | none =>
      refine ⟨H, H, fun _ => none, [], ds.map A.d, ok.voidH, ral_ds (rpl_views ok r e1), ?_⟩
      rw [e0] at q
      split at q
      · rename_i w h' e2
        rw [e2]
        intro B' ρ' H' ok' g v rv
        split at q
        · rename_i d e3
          split at q
          · rename_i hf
            have hf : d.flat = true := by simpa using hf
            have see := ok'.see rv e3
            have o2 := ok.grow ok'.zz
            exact q B ρ H' o2 Gr.refl v (.d (rp_flat see hf))
          · exact q.elim
        · exact q.elim
      · rename_i x h' e2
        exact q.elim
      · exact q.elim
  · exact q.elim
end
section
variable {X : Cx} {W : WX} {a o : Expr} {es : List Expr} {mr : E (List A)} {mo : E A} {sem : Sem1} {pos px apos : Pos} {j k : Nat} {ps : List Str}
theorem te_args {β : Type} {K : PySem.W.Frag} {σ : L2.St} {H Z B : Hp} {ρ : Nat → Option Addr} {τ : Sl} {h : Hq} {kk : List A → Hq → Option (Rs β)} {R : β → Hq → Hp → (Nat → Option Addr) → Hp → Prop} {Q : List V → Hp → Prop} (ok : Ok K Z B ρ H h) (sl : SlOk K B ρ σ τ) (q : Post K Z (fun c d H' => W c d σ H') B ρ R (bd (mr τ h) kk))
    (c : ∀ vs ws h1 B1 ρ1 H1, RAL K B1 ρ1 vs ws → Ok K Z B1 ρ1 H1 h1 → SlOk K B1 ρ1 σ τ → Gr Z B ρ B1 ρ1 → Post K Z (fun c d H' => W c d σ H') B1 ρ1 R (kk ws h1) → Q vs H1) : tAs K W mr σ H Q :=
  ⟨Z, B, ρ, τ, h, ok, sl, q.bd.imp fun ws h1 B1 ρ1 H1 ok1 g1 q1 vs r => c vs ws h1 B1 ρ1 H1 r ok1 (sl.mono g1) g1 q1⟩
/-- how many arguments: known from the text -/
def lenIs (n : Nat) (mr : E (List A)) : E (List A) := fun τ h => bd (mr τ h) fun ws h1 => if ws.length = n then some (.ok ws h1) else none
theorem rx_call {x : Str} (tk : Takes X W) (Df : Def X.prog X.w X.K X.mg X.base j x ps sem) (hr : Room k X.A) (hj : j ≤ k) (ha : RAs X W (a :: es) mr)
    (hg : Gl X x := by rfl) (hdb : (x == ("__debug__" : Str)) = false := by decide) (he : starEach (a :: es) X.env = (false, eval a X.env) :: starEach es X.env := by rfl) (hpl : (backTo pos (starEach es X.env)).any (·.1) = false := by rfl) :
    RX X W (.Call (.Name x px) (a :: es) [] pos) (mCall sem (lenIs ps.length mr)) := by
  obtain ⟨fa, fd, F, h1, h2, h3⟩ := Df.ex
  refine ⟨pe_imp (pe_callS F (hr.mono hj) hg h1 h2 h3 (fun σ => passAt tk σ) ha.pa hdb he hpl) fun σ H Q q => ?_⟩
  obtain ⟨Z, B, ρ, τ, h, ok, sl, q⟩ := q
  have q := q.bd
  unfold lenIs at q
  refine te_args ok sl q fun vs ws h1 B1 ρ1 H1 r ok1 sl1 g1 q1 => ?_
  split at q1
  · rename_i hl
    exact ⟨by rw [r.length]; exact hl, Z, B1, ρ1, h1, ws, ok1, r, q1.now ok1⟩
  · exact q1.elim
theorem rx_callP {x : Str} (tk : Takes X W) (Df : Def X.prog X.w X.K X.mg X.base j x ps sem) (hr : Room k X.A) (hj : j ≤ k) (ha : RAs X W (a :: es) mr)
    (hg : Gl X x := by rfl) (hdb : (x == ("__debug__" : Str)) = false := by decide) (he : starEach (a :: es) X.env = (false, eval a X.env) :: starEach es X.env := by rfl) (hpl : (backTo pos (starEach es X.env)).any (·.1) = false := by rfl) :
    RX X W (.Call (.Name x px) (a :: es) [] pos) (mCallP sem (lenIs ps.length mr)) := by
  obtain ⟨fa, fd, F, h1, h2, h3⟩ := Df.ex
  refine ⟨pe_imp (pe_callS F (hr.mono hj) hg h1 h2 h3 (fun σ => passAt tk σ) ha.pa hdb he hpl) fun σ H Q q => ?_⟩
  obtain ⟨Z, B, ρ, τ, h, ok, sl, q⟩ := q
  have q := q.bd
  unfold lenIs at q
  refine te_args ok sl q fun vs ws h1 B1 ρ1 H1 r ok1 sl1 g1 q1 => ?_
  split at q1
  · rename_i hl
    exact callP_ok ok1 r hl (q1.now ok1)
  · exact q1.elim
/-- of the class C, without a field m -/
def insOf (C m : Str) (a : A) (h : Hq) : Bool := match dicOf h a with
  | some (.ins C' fs, _) => decide (C' = C) && !decide (m ∈ fs)
  | _ => false
def mMeth (C m : Str) (n : Nat) (sem : Sem1) (mo : E A) (mr : E (List A)) : E A := fun τ h => bd (mo τ h) fun a h1 => if insOf C m a h1 = true then bd (mr τ h1) fun ws h2 => if ws.length + 1 = n then sem (a :: ws) h2 else none else none
def mMethP (C m : Str) (n : Nat) (sem : Sem1) (mo : E A) (mr : E (List A)) : E A := fun τ h => bd (mo τ h) fun a h1 => if insOf C m a h1 = true then bd (mr τ h1) fun ws h2 => if ws.length + 1 = n then callP sem (a :: ws) h2 else none else none
theorem lookup_none {f : Str} : ∀ {fs : List Str} {vs : List V}, f ∉ fs → (fs.zip vs).lookup f = none
  | [], _, _ => rfl
  | _ :: _, [], _ => rfl
  | g :: fs, v :: vs, h => by
    rw [List.zip_cons_cons, List.lookup_cons]
    have : (f == g) = false := by
      have : f ≠ g := fun z => h (by rw [z]; exact List.mem_cons_self ..)
      simpa using this
    rw [this]
    exact lookup_none fun z => h (List.mem_cons_of_mem _ z)
theorem insOf_ra {K : PySem.W.Frag} {Z B H : Hp} {ρ : Nat → Option Addr} {h : Hq} {C m : Str} {ca : Addr} {x : V} {a : A} (ok : Ok K Z B ρ H h) (hc : glAt K C = some ca) (r : RA K B ρ x a) (e : insOf C m a h = true) : ∃ p dx fs, x = .ref p ∧ H p = some (.ins ca dx fs) ∧ fs.lookup m = none := by
  unfold insOf at e
  split at e
  · rename_i C' fs ws e1
    rw [Bool.and_eq_true] at e
    have eC : C' = C := of_decide_eq_true e.1
    subst eC
    obtain ⟨p, vs, own, rfl, x1, r1⟩ := dicOf_ra ok r e1
    cases x1 with
    | ins i0 i1 i2 i3 =>
      rw [hc] at i0
      cases i0
      exact ⟨p, _, _, rfl, i1, lookup_none (by simpa using e.2)⟩
  · cases e
/-- o.m(..), where what is raised is wished for at the slots -/
theorem pe_methW {pl : Sem Bool} {C f : Addr} {m : Str} {fd : FuncData} {sp : Sp} {t : TA} {ta : TE} {CX : CXT} {E : L2.St → XK} (he : PE X o ta) (c : Cls X.K C) (hm : Meth X.K C m f) (F : FnOk X.prog X.w X.K X.mg X.base CX k f fd ps sp) (hr : Room k X.A) (hb : Binds X.K fd ps []) (hx : ∀ σ, PassesAt CX X σ (E σ)) (ha : PA X (a :: es) t)
    (hst : starEach (a :: es) X.env = (false, eval a X.env) :: starEach es X.env := by rfl) (hpl : (backTo pos (starEach es X.env)).any (·.1) = false := by rfl)
    (ht : eval (.Call (.Attribute o m apos) (a :: es) [] pos) X.env = (do
      let ov ← eval o X.env
      standAt apos.atName
      let (f, first) ← holding [ov] (getMethod ov m pl)
      callWith pos f first (backTo pos (starEach (a :: es) X.env)) (backToKw pos (keywordEach [] X.env))) := by rfl) :
    PE X (.Call (.Attribute o m apos) (a :: es) [] pos) (fun σ H Q => ta σ H fun x H1 => ∃ a dx fs, x = .ref a ∧ H1 a = some (.ins C dx fs) ∧ fs.lookup m = none ∧ t σ H1 fun vs H2 => sp (x :: vs) H2 Q (E σ)) := by
  refine ⟨fun pins s σ H Q I h => ?_⟩
  refine PySem.W.methodCall_KW (pl := pl) (thn (he.run pins s σ H _ I h) fun u s1 ⟨x, H1, I1, rx, a, dx, fs, ex, ea, l, q⟩ => ?_) ht
  subst ex
  obtain rfl : u = Value.ref a := rx
  refine getmeth_ok I1 ea c hm l ?_
  refine PySem.W.callWith_K (first := [.ref a]) (h₀ := X.base) I.ok.mod.kin hm.kp (thn (ha.run pos pins s1 σ H1 _ I1 q) fun us s2 ⟨vs, H2, I2, r, q2⟩ => ⟨I2.kIn, ?_⟩) hst hpl
  exact run_fnS (us := .ref a :: us) (vs := .ref a :: vs) F hr hb (hx σ) I2 (.cons rfl r) q2
theorem pe_methW0 {pl : Sem Bool} {C f : Addr} {m : Str} {fd : FuncData} {sp : Sp} {ta : TE} {CX : CXT} {E : L2.St → XK} (he : PE X o ta) (c : Cls X.K C) (hm : Meth X.K C m f) (F : FnOk X.prog X.w X.K X.mg X.base CX k f fd ps sp) (hr : Room k X.A) (hb : Binds X.K fd ps []) (hx : ∀ σ, PassesAt CX X σ (E σ))
    (ht : eval (.Call (.Attribute o m apos) [] [] pos) X.env = (do
      let ov ← eval o X.env
      standAt apos.atName
      let (f, first) ← holding [ov] (getMethod ov m pl)
      callWith pos f first (backTo pos (starEach [] X.env)) (backToKw pos (keywordEach [] X.env))) := by rfl) :
    PE X (.Call (.Attribute o m apos) [] [] pos) (fun σ H Q => ta σ H fun x H1 => ∃ a dx fs, x = .ref a ∧ H1 a = some (.ins C dx fs) ∧ fs.lookup m = none ∧ sp [x] H1 Q (E σ)) := by
  refine ⟨fun pins s σ H Q I h => ?_⟩
  refine PySem.W.methodCall_KW (pl := pl) (thn (he.run pins s σ H _ I h) fun u s1 ⟨x, H1, I1, rx, a, dx, fs, ex, ea, l, q⟩ => ?_) ht
  subst ex
  obtain rfl : u = Value.ref a := rx
  refine getmeth_ok I1 ea c hm l ?_
  exact PySem.W.callWith_K0 (first := [.ref a]) I1.kIn hm.kp (run_fnS (us := [.ref a]) (vs := [.ref a]) F hr hb (hx σ) I1 (.cons rfl .nil) q)
theorem rx_meth {C m : Str} {pl : Sem Bool} (tk : Takes X W) (Df : DefM X.prog X.w X.K X.mg X.base j C m ps sem) (hr : Room k X.A) (hj : j ≤ k) (ho : RX X W o mo) (ha : RAs X W (a :: es) mr)
    (hst : starEach (a :: es) X.env = (false, eval a X.env) :: starEach es X.env := by rfl) (hpl : (backTo pos (starEach es X.env)).any (·.1) = false := by rfl)
    (ht : eval (.Call (.Attribute o m apos) (a :: es) [] pos) X.env = (do
      let ov ← eval o X.env
      standAt apos.atName
      let (f, first) ← holding [ov] (getMethod ov m pl)
      callWith pos f first (backTo pos (starEach (a :: es) X.env)) (backToKw pos (keywordEach [] X.env))) := by rfl) : RX X W (.Call (.Attribute o m apos) (a :: es) [] pos) (mMeth C m ps.length sem mo mr) := by
  obtain ⟨ca, fa, fd, c1, c2, c3, F, hb⟩ := Df.ex
  refine ⟨pe_imp (pe_methW ho.pe c2 c3 F (hr.mono hj) hb (fun σ => passAt tk σ) ha.pa hst hpl ht) fun σ H Q q => ?_⟩
  obtain ⟨Z, B, ρ, τ, h, ok, sl, q⟩ := q
  refine te_bd ok sl q fun x w h1 B1 ρ1 H1 rx ok1 sl1 g1 q1 => ?_
  split at q1
  · rename_i hi
    obtain ⟨p, dx, fs, ex, i1, i2⟩ := insOf_ra ok1 c1 rx hi
    refine ⟨p, dx, fs, ex, i1, i2, te_args ok1 sl1 q1 fun vs ws h2 B2 ρ2 H2 r ok2 sl2 g2 q2 => ?_⟩
    split at q2
    · rename_i hl
      exact ⟨by rw [List.length_cons, r.length]; exact hl, Z, B2, ρ2, h2, w :: ws, ok2, .cons (rx.mono g2) r, q2⟩
    · exact q2.elim
  · exact q1.elim
theorem rx_meth0 {C m : Str} {pl : Sem Bool} (tk : Takes X W) (Df : DefM X.prog X.w X.K X.mg X.base j C m ps sem) (hr : Room k X.A) (hj : j ≤ k) (ho : RX X W o mo)
    (ht : eval (.Call (.Attribute o m apos) [] [] pos) X.env = (do
      let ov ← eval o X.env
      standAt apos.atName
      let (f, first) ← holding [ov] (getMethod ov m pl)
      callWith pos f first (backTo pos (starEach [] X.env)) (backToKw pos (keywordEach [] X.env))) := by rfl) : RX X W (.Call (.Attribute o m apos) [] [] pos) (mMeth C m ps.length sem mo maNil) := by
  obtain ⟨ca, fa, fd, c1, c2, c3, F, hb⟩ := Df.ex
  refine ⟨pe_imp (pe_methW0 ho.pe c2 c3 F (hr.mono hj) hb (fun σ => passAt tk σ) ht) fun σ H Q q => ?_⟩
  obtain ⟨Z, B, ρ, τ, h, ok, sl, q⟩ := q
  refine te_bd ok sl q fun x w h1 B1 ρ1 H1 rx ok1 sl1 g1 q1 => ?_
  split at q1
  · rename_i hi
    obtain ⟨p, dx, fs, ex, i1, i2⟩ := insOf_ra ok1 c1 rx hi
    refine ⟨p, dx, fs, ex, i1, i2, ?_⟩
    have q2 : Post X.K Z (fun c d H' => W c d σ H') B1 ρ1 (fun w _ B' ρ' H' => ∀ v, RA X.K B' ρ' v w → Q v H') (if ([] : List A).length + 1 = ps.length then sem (w :: []) h1 else none) := q1
    split at q2
    · rename_i hl
      exact ⟨hl, Z, B1, ρ1, h1, [w], ok1, .cons rx .nil, q2⟩
    · exact q2.elim
  · exact q1.elim
theorem rx_methP {C m : Str} {pl : Sem Bool} (tk : Takes X W) (Df : DefM X.prog X.w X.K X.mg X.base j C m ps sem) (hr : Room k X.A) (hj : j ≤ k) (ho : RX X W o mo) (ha : RAs X W (a :: es) mr)
    (hst : starEach (a :: es) X.env = (false, eval a X.env) :: starEach es X.env := by rfl) (hpl : (backTo pos (starEach es X.env)).any (·.1) = false := by rfl)
    (ht : eval (.Call (.Attribute o m apos) (a :: es) [] pos) X.env = (do
      let ov ← eval o X.env
      standAt apos.atName
      let (f, first) ← holding [ov] (getMethod ov m pl)
      callWith pos f first (backTo pos (starEach (a :: es) X.env)) (backToKw pos (keywordEach [] X.env))) := by rfl) : RX X W (.Call (.Attribute o m apos) (a :: es) [] pos) (mMethP C m ps.length sem mo mr) := by
  obtain ⟨ca, fa, fd, c1, c2, c3, F, hb⟩ := Df.ex
  refine ⟨pe_imp (pe_methW ho.pe c2 c3 F (hr.mono hj) hb (fun σ => passAt tk σ) ha.pa hst hpl ht) fun σ H Q q => ?_⟩
  obtain ⟨Z, B, ρ, τ, h, ok, sl, q⟩ := q
  refine te_bd ok sl q fun x w h1 B1 ρ1 H1 rx ok1 sl1 g1 q1 => ?_
  split at q1
  · rename_i hi
    obtain ⟨p, dx, fs, ex, i1, i2⟩ := insOf_ra ok1 c1 rx hi
    refine ⟨p, dx, fs, ex, i1, i2, te_args ok1 sl1 q1 fun vs ws h2 B2 ρ2 H2 r ok2 sl2 g2 q2 => ?_⟩
    split at q2
    · rename_i hl
      exact callP_ok ok2 (.cons (rx.mono g2) r) (by rw [List.length_cons]; exact hl) q2
    · exact q2.elim
  · exact q1.elim
theorem rx_methP0 {C m : Str} {pl : Sem Bool} (tk : Takes X W) (Df : DefM X.prog X.w X.K X.mg X.base j C m ps sem) (hr : Room k X.A) (hj : j ≤ k) (ho : RX X W o mo)
    (ht : eval (.Call (.Attribute o m apos) [] [] pos) X.env = (do
      let ov ← eval o X.env
      standAt apos.atName
      let (f, first) ← holding [ov] (getMethod ov m pl)
      callWith pos f first (backTo pos (starEach [] X.env)) (backToKw pos (keywordEach [] X.env))) := by rfl) : RX X W (.Call (.Attribute o m apos) [] [] pos) (mMethP C m ps.length sem mo maNil) := by
  obtain ⟨ca, fa, fd, c1, c2, c3, F, hb⟩ := Df.ex
  refine ⟨pe_imp (pe_methW0 ho.pe c2 c3 F (hr.mono hj) hb (fun σ => passAt tk σ) ht) fun σ H Q q => ?_⟩
  obtain ⟨Z, B, ρ, τ, h, ok, sl, q⟩ := q
  refine te_bd ok sl q fun x w h1 B1 ρ1 H1 rx ok1 sl1 g1 q1 => ?_
  split at q1
  · rename_i hi
    obtain ⟨p, dx, fs, ex, i1, i2⟩ := insOf_ra ok1 c1 rx hi
    refine ⟨p, dx, fs, ex, i1, i2, ?_⟩
    have q2 : Post X.K Z (fun c d H' => W c d σ H') B1 ρ1 (fun w _ B' ρ' H' => ∀ v, RA X.K B' ρ' v w → Q v H') (if ([] : List A).length + 1 = ps.length then callP sem (w :: []) h1 else none) := q1
    split at q2
    · rename_i hl
      exact callP_ok ok1 (.cons rx .nil) hl q2
    · exact q2.elim
  · exact q1.elim

/-! ### C(..) -/
def mMake (C : Str) (n : Nat) (sem : Sem1) (mr : E (List A)) : E A := fun τ h => bd (mr τ h) fun ws h1 => if ws.length + 1 = n then (match sem (.r h1.length :: ws) (h1 ++ [.nd (.ins C []) []]) with
  | some (.ok (.d .non) h2) => some (.ok (.r h1.length) h2)
  | _ => none) else none
/-- frozen at once: arguments data -/
def makeP (C : Str) (n : Nat) (sem : Sem1) (ws : List A) (h1 : Hq) : Option (Rs A) := if ws.length + 1 = n then (match allD ws with
  | some ds => (match sem (.r 0 :: ds.map A.d) [.nd (.ins C []) []] with
    | some (.ok (.d .non) h2) => (match view h2 (.r 0) with | some d => some (.ok (.d d) h1) | none => none)
    | _ => none)
  | none => none) else none
def mMakeP (C : Str) (n : Nat) (sem : Sem1) (mr : E (List A)) : E A := fun τ h => bd (mr τ h) fun ws h1 => makeP C n sem ws h1
theorem ok_new {K : PySem.W.Frag} {Z B H : Hp} {ρ : Nat → Option Addr} {h : Hq} {C : Str} {ca x dx : Addr} (ok : Ok K Z B ρ H h) (hc : glAt K C = some ca) (hx : H x = none) (hdx : H dx = none) (ne : dx ≠ x) :
    Ok K Z B (fun k => if k = h.length then some x else ρ k) (upd (upd H dx (.own x)) x (.ins ca dx [])) (h ++ [.nd (.ins C []) []]) ∧ Gr Z B ρ B (fun k => if k = h.length then some x else ρ k) := by
  have bn : ∀ a, H a = none → B a = none ∧ Z a = none := fun a e => by
    constructor
    · cases z : B a with
      | none => rfl
      | some u => rw [ok.ex a u z] at e; cases e
    · cases z : Z a with
      | none => rfl
      | some u => rw [ok.zz a u z] at e; cases e
  refine ok.newC hx (fun b u e => ?_) (by rw [upd_same]; simp) (.nd (vs := []) (own := [x, dx]) (.ins hc (by rw [upd_same]; rfl) (by rw [upd_ne ne, upd_same]) rfl) .nil fun b hb => ?_)
  · rw [upd_ne (ne_of_none e hx), upd_ne (ne_of_none e hdx)]; exact e
  · rcases List.mem_cons.mp hb with z | hb
    · rw [z]; exact bn x hx
    · rw [List.mem_singleton.mp hb]; exact bn dx hdx
theorem rx_make {C : Str} (tk : Takes X W) (hMk : MkC X.K X.mg C) (Df : DefM X.prog X.w X.K X.mg X.base j C "__init__" ps sem) (hr : Room k X.A) (hj : j + 1 ≤ k) (ha : RAs X W (a :: es) mr)
    (hg : Gl X C := by rfl) (hdb : (C == ("__debug__" : Str)) = false := by decide) (he : starEach (a :: es) X.env = (false, eval a X.env) :: starEach es X.env := by rfl) (hpl : (backTo pos (starEach es X.env)).any (·.1) = false := by rfl) :
    RX X W (.Call (.Name C px) (a :: es) [] pos) (mMake C ps.length sem mr) := by
  obtain ⟨ca, fa, fd, c1, c2, c3, F, hb⟩ := Df.ex
  obtain ⟨ca', fa', m1, m2, m3, m4⟩ := hMk.ex
  rw [c1] at m1
  cases m1
  have ef : fa' = fa := by
    have := c3.at_
    rw [m4] at this
    cases this
    rfl
  subst ef
  refine ⟨pe_imp (pe_make m3 F (hr.mono hj) hg m2 hb .nil passL ha.pa hdb he hpl) fun σ H Q q => ?_⟩
  obtain ⟨Z, B, ρ, τ, h, ok, sl, q⟩ := q
  refine te_args ok sl q fun vs ws h1 B1 ρ1 H1 r ok1 sl1 g1 q1 => ?_
  intro x dx hx hdx ne
  split at q1
  · rename_i hl
    obtain ⟨ok2, g2⟩ := ok_new ok1 c1 hx hdx ne
    refine ⟨by rw [List.append_nil, List.length_cons, r.length]; exact hl, Z, B1, _, _, .r h1.length :: ws, ok2, .cons (.r (if_pos rfl)) (by rw [List.append_nil]; exact r.mono g2), ?_⟩
    split at q1
    · rename_i h2 e2
      rw [e2]
      intro B' ρ' H' ok' g' v rv
      refine ⟨rp_non (ra_d rv), q1 B' ρ' H' ok' (g2.trans g') _ (.r (g'.rr _ _ (if_pos rfl)))⟩
    · exact q1.elim
  · exact q1.elim
theorem rx_make0 {C : Str} (tk : Takes X W) (hMk : MkC X.K X.mg C) (Df : DefM X.prog X.w X.K X.mg X.base j C "__init__" ps sem) (hr : Room k X.A) (hj : j + 1 ≤ k)
    (hg : Gl X C := by rfl) (hdb : (C == ("__debug__" : Str)) = false := by decide) : RX X W (.Call (.Name C px) [] [] pos) (mMake C ps.length sem maNil) := by
  obtain ⟨ca, fa, fd, c1, c2, c3, F, hb⟩ := Df.ex
  obtain ⟨ca', fa', m1, m2, m3, m4⟩ := hMk.ex
  rw [c1] at m1
  cases m1
  have ef : fa' = fa := by
    have := c3.at_
    rw [m4] at this
    cases this
    rfl
  subst ef
  refine ⟨pe_imp (pe_make0 m3 F (hr.mono hj) hg m2 hb .nil passL hdb) fun σ H Q q => ?_⟩
  obtain ⟨Z, B, ρ, τ, h, ok, sl, q⟩ := q
  intro x dx hx hdx ne
  have q1 : Post X.K Z (fun c d H' => W c d σ H') B ρ (fun w _ B' ρ' H' => ∀ v, RA X.K B' ρ' v w → Q v H') (if ([] : List A).length + 1 = ps.length then (match sem (.r h.length :: []) (h ++ [.nd (.ins C []) []]) with
    | some (.ok (.d .non) h2) => some (.ok (.r h.length) h2)
    | _ => none) else none) := q
  split at q1
  · rename_i hl
    obtain ⟨ok2, g2⟩ := ok_new ok c1 hx hdx ne
    refine ⟨hl, Z, B, _, _, [.r h.length], ok2, .cons (.r (if_pos rfl)) .nil, ?_⟩
    split at q1
    · rename_i h2 e2
      rw [e2]
      intro B' ρ' H' ok' g' v rv
      refine ⟨rp_non (ra_d rv), q1 B' ρ' H' ok' (g2.trans g') _ (.r (g'.rr _ _ (if_pos rfl)))⟩
    · exact q1.elim
  · exact q1.elim
theorem rx_makeP {C : Str} (tk : Takes X W) (hMk : MkC X.K X.mg C) (Df : DefM X.prog X.w X.K X.mg X.base j C "__init__" ps sem) (hr : Room k X.A) (hj : j + 1 ≤ k) (ha : RAs X W (a :: es) mr)
    (hg : Gl X C := by rfl) (hdb : (C == ("__debug__" : Str)) = false := by decide) (he : starEach (a :: es) X.env = (false, eval a X.env) :: starEach es X.env := by rfl) (hpl : (backTo pos (starEach es X.env)).any (·.1) = false := by rfl) :
    RX X W (.Call (.Name C px) (a :: es) [] pos) (mMakeP C ps.length sem mr) := by
  obtain ⟨ca, fa, fd, c1, c2, c3, F, hb⟩ := Df.ex
  obtain ⟨ca', fa', m1, m2, m3, m4⟩ := hMk.ex
  rw [c1] at m1
  cases m1
  have ef : fa' = fa := by
    have := c3.at_
    rw [m4] at this
    cases this
    rfl
  subst ef
  refine ⟨pe_imp (pe_make m3 F (hr.mono hj) hg m2 hb .nil passL ha.pa hdb he hpl) fun σ H Q q => ?_⟩
  obtain ⟨Z, B, ρ, τ, h, ok, sl, q⟩ := q
  refine te_args ok sl q fun vs ws h1 B1 ρ1 H1 r ok1 sl1 g1 q1 => ?_
  intro x dx hx hdx ne
  unfold makeP at q1
  split at q1
  · rename_i hl
    split at q1
    · rename_i ds e0
      cases allD_of e0
      obtain ⟨ok2, g2⟩ := ok_new ok1.void c1 hx hdx ne
      refine ⟨by rw [List.append_nil, List.length_cons, r.length]; exact hl, H1, B1, _, _, .r 0 :: ds.map A.d, ok2, .cons (.r (if_pos rfl)) (by rw [List.append_nil]; exact ral_ds (ral_rpl r)), ?_⟩
      split at q1
      · rename_i h2 e2
        have e2' : sem (.r 0 :: ds.map A.d) ([] ++ [.nd (.ins C []) []]) = some (.ok (.d .non) h2) := e2
        rw [e2']
        intro B' ρ' H' ok' g' v rv
        refine ⟨rp_non (ra_d rv), ?_⟩
        split at q1
        · rename_i d e3
          obtain ⟨B2, o2, g3, see⟩ := ok1.backP ok' (g2.trans g')
          exact q1 B2 ρ1 H' o2 g3 _ (.d (see _ _ d (.r (g'.rr _ _ (if_pos rfl))) e3))
        · exact q1.elim
      · exact q1.elim
    · exact q1.elim
  · exact q1.elim
end
end Tq

/-! Tq9: more operations: in, dict displays, get, isinstance of two, chains. -/
namespace Tq
open PySem PySem.Spec PyProof.Rows L2
/-! ### a text times a number -/
def repS (z : Str) (n : Nat) : Str := ⟨(List.replicate n z.cps).foldl (· ++ ·) #[]⟩
theorem fold_nil : ∀ (n : Nat) (a : Array Nat), List.foldl (fun x1 x2 => x1 ++ x2) a (List.replicate n #[]) = a
  | 0, _ => rfl
  | n + 1, a => by rw [List.replicate_succ, List.foldl_cons, Array.append_empty, fold_nil n]
def gRep : G2 := fun a b h => match a, b with
  | .d (.str z), .d (.int n) => if z.length * n.toNat ≤ LIM ∧ n < 2 ^ 62 ∧ -(2 ^ 62) < n then some (.ok (.d (.str (repS z n.toNat))) h) else none
  | _, _ => none
def rRepS : R2 := fun x y H Q => ∃ (z : Str) (n : Int), x = .str z ∧ y = .int n ∧ z.length * n.toNat ≤ LIM ∧ n < 2 ^ 62 ∧ -(2 ^ 62) < n ∧ Q (.str (repS z n.toNat)) H
theorem repS_len (z : Str) : ∀ n : Nat, (repS z n).length = n * z.length := by
  have go : ∀ (n : Nat) (a : Array Nat), (List.foldl (fun x1 x2 => x1 ++ x2) a (List.replicate n z.cps)).size = a.size + n * z.cps.size := by
    intro n
    induction n with
    | zero => intro a; simp
    | succ n ih =>
      intro a
      rw [List.replicate_succ, List.foldl_cons, ih, Array.size_append, Nat.succ_mul]
      omega
  intro n
  show (List.foldl (fun x1 x2 => x1 ++ x2) #[] (List.replicate n z.cps)).size = _
  rw [go]
  show 0 + n * z.cps.size = n * z.cps.size
  omega
theorem repS_ok {z : Str} (hz : PyData.strOk z = true) (n : Nat) : PyData.strOk (repS z n) = true := by
  have go : ∀ (n : Nat) (a : Array Nat), a.all (· < 0x110000) = true → (List.foldl (fun x1 x2 => x1 ++ x2) a (List.replicate n z.cps)).all (· < 0x110000) = true := by
    intro n
    induction n with
    | zero => intro a h; exact h
    | succ n ih =>
      intro a h
      rw [List.replicate_succ, List.foldl_cons]
      refine ih _ ?_
      rw [Array.all_append, h]
      exact hz
  exact go n #[] (by decide +kernel)
theorem str_eta (z : Str) : z = ⟨z.cps⟩ := rfl
section
variable {X : Cx}
theorem op_repS : OpR X (binaryOp .Mult) rRepS := by
  intro pins s σ H x y v u Q I rx ry h
  obtain ⟨z, n, rfl, rfl, hz, h1, h2, q⟩ := h
  obtain ⟨t, rfl⟩ := rx
  obtain ⟨t', rfl⟩ := ry
  rw [lim_eq] at hz
  have ns : ∀ b : Bool, ¬ n < 1 → Builtin.Str.tooLong (z.length * n.toNat) = false := fun _ _ => decide_eq_false (by omega)
  refine P.mul_str (by rw [decide_eq_false (by omega), decide_eq_false (by omega)]; rfl) (fun a b c => ?_) (fun a _ => ns true a) ?_
  · have e1 : ((z.length * n.toNat : Nat) : Int) = (z.length : Int) * n := by
      rw [Int.natCast_mul, Int.toNat_of_nonneg (by omega)]
    have h3 : (z.length : Int) * n ≤ 16777216 := by
      rw [← e1]
      have : z.length * n.toNat ≤ 16777216 := hz
      omega
    have h4 : (z.length : Int) * n ≤ 2 ^ 63 - 1 := by omega
    have h5 := (Int.le_ediv_iff_mul_le (by omega : (0 : Int) < n)).mpr h4
    omega
  · by_cases g1 : n < 1
    · rw [if_pos g1]
      have e : repS z n.toNat = Str.empty := by
        have : n.toNat = 0 := by omega
        rw [this]
        rfl
      rw [e] at q
      exact ⟨by decide, .str Str.empty, H, I.tok _, ⟨_, rfl⟩, q⟩
    · rw [if_neg g1]
      by_cases g2 : (n == 1 || z.length == 0) = true
      · rw [if_pos g2]
        have e : repS z n.toNat = z := by
          rw [Bool.or_eq_true] at g2
          rcases g2 with g | g
          · have : n = 1 := eq_of_beq g
            subst this
            show Str.mk (#[] ++ z.cps) = z
            rw [Array.empty_append]
          · have g : z.cps.size = 0 := eq_of_beq g
            have g : z.cps = #[] := Array.eq_empty_of_size_eq_zero g
            show Str.mk (List.foldl (fun x1 x2 => x1 ++ x2) #[] (List.replicate n.toNat z.cps)) = z
            rw [g, fold_nil, ← g]
        rw [e] at q
        exact ⟨.str z, H, I, ⟨_, rfl⟩, q⟩
      · rw [if_neg g2]
        refine ⟨?_, .str (repS z n.toNat), H, I.tok _, ⟨_, rfl⟩, q⟩
        show (repS z n.toNat).length ≤ sizeLine
        rw [repS_len, Nat.mul_comm]
        exact hz
end
theorem og_rep {K : PySem.W.Frag} : Op2 K rRepS gRep := by
  intro Z B ρ H h x y a b W Q ok rx ry q
  unfold gRep at q
  split at q
  · split at q
    · rename_i hc
      exact ⟨_, _, ra_str rx, ra_int ry, hc.1, hc.2.1, hc.2.2, q.now ok _ (.d (.str _))⟩
    · exact q.elim
  · exact q.elim

def gIsi2 (A T : String) : G1 := fun a h => match tyA h a with | some n => some (.ok (.d (.bl (isiN A n || isiN T n))) h) | none => none
section
variable {X : Cx} {W : WX} {a : Expr} {ma : E Tq.A} {pos : Pos}
theorem rx_isi2 {x y : Str} {A T : String} {px p1 p2 p3 : Pos} {k1 : Nat} (ha : RX X W a ma) (hmi : X.mg "isinstance" = none) (hmA : X.mg x = none) (hmT : X.mg y = none) (hv : bootBuiltins x = some (.type A) := by decide +kernel) (hw : bootBuiltins y = some (.type T) := by decide +kernel)
    (hA : A ∈ ["bool", "int", "str", "tuple", "list", "dict"] := by decide) (hT : T ∈ ["bool", "int", "str", "tuple", "list", "dict"] := by decide)
    (hgi : Gl X "isinstance" := by rfl) (hg : Gl X x := by rfl) (hg2 : Gl X y := by rfl) (hn : x ≠ "__name__" := by decide) (hn2 : y ≠ "__name__" := by decide) (hdb : (x == ("__debug__" : Str)) = false := by decide) (hdb2 : (y == ("__debug__" : Str)) = false := by decide)
    (he : starEach [a, .Tuple [.Name x p1, .Name y p2] k1 p3] X.env = (false, eval a X.env) :: starEach [.Tuple [.Name x p1, .Name y p2] k1 p3] X.env := by rfl) (he2 : starEach [.Tuple [.Name x p1, .Name y p2] k1 p3] X.env = (false, eval (.Tuple [.Name x p1, .Name y p2] k1 p3) X.env) :: starEach [] X.env := by rfl)
    (he3 : starEach [.Name x p1, .Name y p2] X.env = (false, eval (.Name x p1) X.env) :: starEach [.Name y p2] X.env := by rfl) (he4 : starEach [.Name y p2] X.env = (false, eval (.Name y p2) X.env) :: starEach [] X.env := by rfl)
    (hpl : (backTo pos (starEach [.Tuple [.Name x p1, .Name y p2] k1 p3] X.env)).any (·.1) = false := by rfl) :
    RX X W (.Call (.Name "isinstance" px) [a, .Tuple [.Name x p1, .Name y p2] k1 p3] [] pos) (mUn (gIsi2 A T) ma) := by
  let r2 : V → Hp → VK → Prop := fun v H Q => [V.ty A, V.ty T].length ≤ sizeLine ∧ ∀ q, H q = none → rIsiT X.K [v, .ref q] (upd H q (.tup [.ty A, .ty T])) Q
  refine rx_op1 (r := r2) ha ?_ fun {ta} h1 => pe_callB call_isiT hgi hmi (by decide +kernel) (pa_cons h1 (pa_cons (pe_tup (pa_cons (pe_bltn (v := .ty A) hg hmA hv rfl hn hdb) (pa_cons (pe_bltn (v := .ty T) hg2 hmT hw rfl hn2 hdb2) pa_nil he4) he3)) pa_nil he2) he) (by decide) (by decide) he hpl
  intro Z B ρ H h x a W Q ok rx q
  unfold gIsi2 at q
  split at q
  · rename_i n e
    refine ⟨show 2 ≤ 16777216 by decide, fun p hp => ?_⟩
    obtain ⟨ok2, g2⟩ := ok.newB (o := .tup [V.ty A, V.ty T]) hp
    obtain ⟨h1, h2⟩ := tyx_ra ok2 (rx.mono g2) e
    refine ⟨x, p, _, .type n, [.type A, .type T], _, rfl, upd_same, .cons (.ty A) (.cons (.ty T) .nil), h1, ?_, q _ _ _ ok2 g2 _ (.d (.bl _))⟩
    show (match PySem.W.kitOne X.K (.type n) (.type A) with
      | some true => some true
      | some false => (match PySem.W.kitOne X.K (.type n) (.type T) with | some true => some true | some false => some false | none => none)
      | none => none) = _
    rw [kit_isiN hA h2, kit_isiN hT h2]
    cases isiN A n <;> cases isiN T n <;> rfl
  · exact q.elim
end
/-! ### in -/
theorem flatV_rp {K : PySem.W.Frag} {B : Hp} {v : V} {d : D} (r : Rp K B v d) (h : d.flat = true) : flatV v = true := by
  cases r <;> first | rfl | cases h
theorem eqV_rp {K : PySem.W.Frag} {B : Hp} {v u : V} {d e : D} (r1 : Rp K B v d) (r2 : Rp K B u e) (h1 : d.flat = true) (h2 : e.flat = true) : eqV v u = D.eqv d e := by
  cases r1 <;> first | (cases h1; done) | (cases r2 <;> first | (cases h2; done) | simp [eqV, D.eqv, D.toP, PyData.eqv])
theorem all_flatV {K : PySem.W.Frag} {B : Hp} {vs : List V} {ds : List D} (r : RpL K B vs ds) (h : ds.all D.flat = true) : vs.all flatV = true := by
  induction vs generalizing ds with
  | nil => rfl
  | cons v vs ih =>
    cases r with
    | cons w wl =>
      rw [List.all_cons, Bool.and_eq_true] at h
      rw [List.all_cons, flatV_rp w h.1, ih wl h.2]
      rfl
theorem inV_rp {K : PySem.W.Frag} {B : Hp} {v : V} {d : D} {vs : List V} {ds : List D} (r1 : Rp K B v d) (h1 : d.flat = true) (r : RpL K B vs ds) (h : ds.all D.flat = true) : inV v vs = ds.any fun z => D.eqv z d := by
  unfold inV
  induction vs generalizing ds with
  | nil =>
    cases r
    rfl
  | cons u vs ih =>
    cases r with
    | cons w wl =>
      rw [List.all_cons, Bool.and_eq_true] at h
      rw [List.any_cons, List.any_cons, eqV_rp w r1 h.1 h1, ih wl h.2]
theorem any_toPs (d : D) : ∀ ds : List D, (D.toPs ds).any (fun z => PyData.eqv z d.toP) = ds.any fun z => D.eqv z d
  | [] => rfl
  | x :: r => by
    unfold D.toPs
    rw [List.any_cons, List.any_cons, any_toPs d r]
    rfl
def sign1 (x : Str) : Option Nat := match x.cps.toList with | [c] => some c | _ => none
theorem sign1_eq {x : Str} {c : Nat} (h : sign1 x = some c) : x = ⟨#[c]⟩ := by
  obtain ⟨⟨l⟩⟩ := x
  unfold sign1 at h
  match l, h with
  | [d], h => cases h; rfl
/-- x in y: a list, a tuple of flat things, one sign in a text -/
def inD (neg : Bool) (x y : D) : Option Bool := match y with
  | .lst ds => if x.shp && (D.lst ds).shp then some (if neg then !ds.any fun z => D.eqv z x else ds.any fun z => D.eqv z x) else none
  | .tup ds => if x.flat && ds.all D.flat then some (if neg then !ds.any fun z => D.eqv z x else ds.any fun z => D.eqv z x) else none
  | .kt ds => if x.flat && ds.all D.flat then some (if neg then !ds.any fun z => D.eqv z x else ds.any fun z => D.eqv z x) else none
  | .str z => (match x with
    | .str w => (match sign1 w with
      | some c => some (if neg then !decide (c ∈ z.cps.toList) else decide (c ∈ z.cps.toList))
      | none => some (if neg then !(!(Builtin.Str.occurrences z w 0 z.length 1).isEmpty) else !(Builtin.Str.occurrences z w 0 z.length 1).isEmpty))
    | _ => none)
  | _ => none
abbrev rInA (K : PySem.W.Frag) : R2 := fun x y H Q => rInD K x y H Q ∨ rIn K false x y H Q ∨ (∃ (c : Nat) (z : Str), x = .str ⟨#[c]⟩ ∧ y = .str z ∧ Q (.bl (decide (c ∈ z.cps.toList))) H) ∨ (∃ i j, x = .str i ∧ y = .str j ∧ Q (.bl (!(Builtin.Str.occurrences j i 0 j.length 1).isEmpty)) H)
abbrev rNotInA (K : PySem.W.Frag) : R2 := fun x y H Q => rNotInD K x y H Q ∨ rIn K true x y H Q ∨ (∃ (c : Nat) (z : Str), x = .str ⟨#[c]⟩ ∧ y = .str z ∧ Q (.bl (!decide (c ∈ z.cps.toList))) H) ∨ (∃ i j, x = .str i ∧ y = .str j ∧ Q (.bl (!(!(Builtin.Str.occurrences j i 0 j.length 1).isEmpty))) H)
theorem op_inA {X : Cx} (hu : X.A.units + 65 < cLine) : OpR X (compareOp .In) (rInA X.K) := (op_inD hu).or (op_in_seq.or (op_in_sign.or op_in_str))
theorem op_notInA {X : Cx} (hu : X.A.units + 65 < cLine) : OpR X (compareOp .NotIn) (rNotInA X.K) := (op_notInD hu).or (op_notIn_seq.or (op_notIn_sign.or op_notIn_str))
theorem og_in {K : PySem.W.Frag} : Op2 K (rInA K) (g2V (inD false)) := og_2v fun H x y d e k Q r1 r2 hk q => by
  unfold inD at hk
  split at hk
  · rename_i ds
    split at hk
    · rename_i hs
      rw [Bool.and_eq_true] at hs
      cases hk
      refine .inl ⟨_, _, r1.dp hs.1, (show Dp K H y (.list (D.toPs ds)) from r2.dp hs.2), hs.1, hs.2, ?_⟩
      rw [any_toPs]
      exact q
    · cases hk
  · rename_i ds
    split at hk
    · rename_i hs
      rw [Bool.and_eq_true] at hs
      cases hk
      cases r2 with
      | tup ht rl =>
        refine .inr (.inl ⟨_, _, rfl, .inr (sqt_of ht), flatV_rp r1 hs.1, all_flatV rl hs.2, ?_⟩)
        rw [inV_rp r1 hs.1 rl hs.2]
        exact q
    · cases hk
  · rename_i ds
    split at hk
    · rename_i hs
      rw [Bool.and_eq_true] at hs
      cases hk
      cases r2 with
      | kt ht rl =>
        refine .inr (.inl ⟨_, _, rfl, .inr ht, flatV_rp r1 hs.1, all_flatV rl hs.2, ?_⟩)
        rw [inV_rp r1 hs.1 rl hs.2]
        exact q
    · cases hk
  · rename_i z
    split at hk
    · rename_i w
      cases rp_str r1
      cases rp_str r2
      split at hk
      · rename_i c e
        cases hk
        cases sign1_eq e
        exact .inr (.inr (.inl ⟨c, z, rfl, rfl, q⟩))
      · cases hk
        exact .inr (.inr (.inr ⟨w, z, rfl, rfl, q⟩))
    · cases hk
  · cases hk
theorem og_notIn {K : PySem.W.Frag} : Op2 K (rNotInA K) (g2V (inD true)) := og_2v fun H x y d e k Q r1 r2 hk q => by
  unfold inD at hk
  split at hk
  · rename_i ds
    split at hk
    · rename_i hs
      rw [Bool.and_eq_true] at hs
      cases hk
      refine .inl ⟨_, _, r1.dp hs.1, (show Dp K H y (.list (D.toPs ds)) from r2.dp hs.2), hs.1, hs.2, ?_⟩
      rw [any_toPs]
      exact q
    · cases hk
  · rename_i ds
    split at hk
    · rename_i hs
      rw [Bool.and_eq_true] at hs
      cases hk
      cases r2 with
      | tup ht rl =>
        refine .inr (.inl ⟨_, _, rfl, .inr (sqt_of ht), flatV_rp r1 hs.1, all_flatV rl hs.2, ?_⟩)
        rw [inV_rp r1 hs.1 rl hs.2]
        exact q
    · cases hk
  · rename_i ds
    split at hk
    · rename_i hs
      rw [Bool.and_eq_true] at hs
      cases hk
      cases r2 with
      | kt ht rl =>
        refine .inr (.inl ⟨_, _, rfl, .inr ht, flatV_rp r1 hs.1, all_flatV rl hs.2, ?_⟩)
        rw [inV_rp r1 hs.1 rl hs.2]
        exact q
    · cases hk
  · rename_i z
    split at hk
    · rename_i w
      cases rp_str r1
      cases rp_str r2
      split at hk
      · rename_i c e
        cases hk
        cases sign1_eq e
        exact .inr (.inr (.inl ⟨c, z, rfl, rfl, q⟩))
      · cases hk
        exact .inr (.inr (.inr ⟨w, z, rfl, rfl, q⟩))
    · cases hk
  · cases hk
/-- k in d, d a dict -/
def gInK (neg : Bool) : G2 := fun kd a h => match dicOf h a with
  | some (hd, ws) => (match hGet hd ws kd with | some o => some (.ok (.d (.bl (neg != o.isSome))) h) | none => none)
  | none => none
section
variable {X : Cx} {W : WX} {a b c : Expr} {ma mb mc : E Tq.A} {pos : Pos}
theorem dinK_ok {K : PySem.W.Frag} {Z B H : Hp} {ρ : Nat → Option Addr} {h : Hq} {x y : V} {kd d : A} {neg : Bool} {Wk : XK} {Q : VK} (ok : Ok K Z B ρ H h) (ry : RA K B ρ y kd) (rx : RA K B ρ x d) (q : Post K Z Wk B ρ (fun w _ B' ρ' H' => ∀ v, RA K B' ρ' v w → Q v H') (gInK neg kd d h)) :
    ∃ p o, x = .ref p ∧ DGet H p y o ∧ Q (.bl (neg != o.isSome)) H := by
  unfold gInK at q
  split at q
  · rename_i hd ws e1
    split at q
    · rename_i o e2
      obtain ⟨p, vs, own, rfl, x1, r1⟩ := dicOf_ra ok rx e1
      obtain ⟨g1, g2⟩ := hGet_ok ok x1 r1 ry e2
      cases o with
      | none => exact ⟨p, none, rfl, g1 rfl, q.now ok _ (.d (.bl _))⟩
      | some w =>
        obtain ⟨v, g, _⟩ := g2 w rfl
        exact ⟨p, some v, rfl, g, q.now ok _ (.d (.bl _))⟩
    · exact q.elim
  · exact q.elim
theorem rx_inK (hu : X.A.units + 1 < cLine) (ha : RX X W a ma) (hb : RX X W b mb) (hm : behindInMarks .In b = false := by with_unfolding_all rfl) : RX X W (.Compare a [.In] [b] pos) (mBin (gInK false) ma mb) := ⟨pe_imp (pe_cmp (pc_din hu ha.pe hb.pe) hm) fun σ H Q q => by
  obtain ⟨Z, B, ρ, τ, h, ok, sl, q⟩ := q
  refine te_bd ok sl q fun y kd h1 B1 ρ1 H1 ry ok1 sl1 g1 q1 => te_bd ok1 sl1 q1 fun x d h2 B2 ρ2 H2 rx ok2 sl2 g2 q2 => ?_
  obtain ⟨p, o, e, g, z⟩ := dinK_ok ok2 (ry.mono g2) rx q2
  exact ⟨p, o, e, g, by simpa using z⟩⟩
theorem rx_notInK (hu : X.A.units + 1 < cLine) (ha : RX X W a ma) (hb : RX X W b mb) (hm : behindInMarks .NotIn b = false := by with_unfolding_all rfl) : RX X W (.Compare a [.NotIn] [b] pos) (mBin (gInK true) ma mb) := ⟨pe_imp (pe_cmp (pc_dnotin hu ha.pe hb.pe) hm) fun σ H Q q => by
  obtain ⟨Z, B, ρ, τ, h, ok, sl, q⟩ := q
  refine te_bd ok sl q fun y kd h1 B1 ρ1 H1 ry ok1 sl1 g1 q1 => te_bd ok1 sl1 q1 fun x d h2 B2 ρ2 H2 rx ok2 sl2 g2 q2 => ?_
  obtain ⟨p, o, e, g, z⟩ := dinK_ok ok2 (ry.mono g2) rx q2
  exact ⟨p, o, e, g, by simpa using z⟩⟩
/-- d.get(k, e) -/
def isDic (h : Hq) (a : Tq.A) : Bool := match dicOf h a with | some (.dic _, _) => true | some (.dit _, _) => true | _ => false
def mGet2 (mo mk md : E Tq.A) : E Tq.A := fun τ h => bd (mo τ h) fun a h1 => if isDic h1 a = true then bd (mk τ h1) fun kd h2 => bd (md τ h2) fun d h3 => match dicOf h3 a with
  | some (hd, ws) => (match hGet hd ws kd with | some (some w) => some (.ok w h3) | some none => some (.ok d h3) | none => none)
  | none => none else none
theorem rx_get2 {apos cpos : Pos} (hu : X.A.units + 1 < cLine) (ha : RX X W a ma) (hb : RX X W b mb) (hc : RX X W c mc) (m : M2 X a "get" apos b c cpos := by exact ⟨by rfl, by rfl, by rfl, by rfl⟩) : RX X W (.Call (.Attribute a "get" apos) [b, c] [] cpos) (mGet2 ma mb mc) := ⟨pe_imp (pe_dget2 hu ha.pe hb.pe hc.pe m) fun σ H Q q => by
  obtain ⟨Z, B, ρ, τ, h, ok, sl, q⟩ := q
  refine te_bd ok sl q fun x a h1 B1 ρ1 H1 rx ok1 sl1 g1 q1 => ?_
  split at q1
  · rename_i hd0
    have isd : ∃ p, x = .ref p ∧ IsD H1 p := by
      unfold isDic at hd0
      split at hd0
      · rename_i ks ws e
        obtain ⟨p, vs, own, rfl, x1, r1⟩ := dicOf_ra ok1 rx e
        cases x1 with
        | dic i1 i2 => exact ⟨p, rfl, .inl ⟨_, .inl i1⟩⟩
      · rename_i ks ws e
        obtain ⟨p, vs, own, rfl, x1, r1⟩ := dicOf_ra ok1 rx e
        cases x1 with
        | dit i1 i2 => exact ⟨p, rfl, .inr ⟨_, .inl i1⟩⟩
      · cases hd0
    obtain ⟨p, rfl, hp⟩ := isd
    refine ⟨p, rfl, hp, te_bd ok1 sl1 q1 fun y kd h2 B2 ρ2 H2 ry ok2 sl2 g2 q2 => te_bd ok2 sl2 q2 fun z d h3 B3 ρ3 H3 rz ok3 sl3 g3 q3 => ?_⟩
    split at q3
    · rename_i hd ws e1
      obtain ⟨p', vs, own, ep, x1, r1⟩ := dicOf_ra ok3 (rx.mono (g2.trans g3)) e1
      cases ep
      split at q3
      · rename_i w e2
        obtain ⟨v, g, rv⟩ := (hGet_ok ok3 x1 r1 (ry.mono g3) e2).2 w rfl
        exact ⟨some v, g, q3.now ok3 _ rv⟩
      · rename_i e2
        exact ⟨none, (hGet_ok ok3 x1 r1 (ry.mono g3) e2).1 rfl, q3.now ok3 _ rz⟩
      · exact q3.elim
    · exact q3.elim
  · exact q1.elim⟩
/-- a < b < c -/
theorem rx_chain {op op' : CmpOp} {r r' : R2} {g g' : G2} (ho : OpR X (compareOp op) r) (og : Op2 X.K r g) (ho' : OpR X (compareOp op') r') (og' : Op2 X.K r' g') (ha : RX X W a ma) (hb : RX X W b mb) (hc : RX X W c mc) (hm : lastMarks [op, op'] [b, c] = false := by with_unfolding_all rfl) :
    RX X W (.Compare a [op, op'] [b, c] pos) (mChain g g' ma mb mc) := ⟨pe_imp (pe_chain ho ho' ha.pe hb.pe hc.pe hm) fun σ H Q q => by
  obtain ⟨Z, B, ρ, τ, h, ok, sl, q⟩ := q
  refine te_bd ok sl q fun x a h1 B1 ρ1 H1 rx ok1 sl1 g1 q1 => te_bd ok1 sl1 q1 fun y b h2 B2 ρ2 H2 ry ok2 sl2 g2 q2 => ?_
  refine og Z B2 ρ2 H2 h2 x y a b _ _ ok2 (rx.mono g2) ry (q2.bd.imp fun k h3 B3 ρ3 H3 ok3 g3 q3 z rz => ?_)
  split at q3
  · refine ⟨true, rp_bl (ra_d rz), iteT (te_bd ok3 (sl2.mono g3) q3 fun u c h4 B4 ρ4 H4 ru ok4 sl4 g4 q4 => ?_)⟩
    exact og' Z B4 ρ4 H4 h4 y u b c _ Q ok4 (ry.mono (g3.trans g4)) ru q4
  · exact ⟨false, rp_bl (ra_d rz), iteF (q3.now ok3 _ (.d (.bl false)))⟩
  · exact q3.elim⟩
end
/-! ### dict displays -/
def mDict0 (tup : Bool) : E Tq.A := fun _ h => some (.ok (.r h.length) (h ++ [.nd (if tup then .dit [] else .dic []) []]))
section
variable {X : Cx} {W : WX} {pos : Pos}
theorem ok_newD {K : PySem.W.Frag} {Z B H : Hp} {ρ : Nat → Option Addr} {h : Hq} {p : Addr} {o : HO} {hd : Hd} {vs : List V} {ws : List A} (ok : Ok K Z B ρ H h) (hp : H p = none) (x : HdAt K (upd H p o) p hd vs [p]) (r : RAL K B ρ vs ws) :
    Ok K Z B (fun k => if k = h.length then some p else ρ k) (upd H p o) (h ++ [.nd hd ws]) ∧ Gr Z B ρ B (fun k => if k = h.length then some p else ρ k) := by
  have bn : ∀ a, H a = none → B a = none ∧ Z a = none := fun a e => by
    constructor
    · cases z : B a with
      | none => rfl
      | some u => rw [ok.ex a u z] at e; cases e
    · cases z : Z a with
      | none => rfl
      | some u => rw [ok.zz a u z] at e; cases e
  refine ok.newC hp (fun b u e => ?_) (by rw [upd_same]; simp) (.nd x r fun b hb => ?_)
  · rw [upd_ne (ne_of_none e hp)]; exact e
  · rw [List.mem_singleton.mp hb]; exact bn p hp
theorem rx_dict0 (tup : Bool) : RX X W (.Dict [] [] pos) (mDict0 tup) := by
  constructor
  cases tup with
  | true =>
    refine pe_imp pe_dnewT fun σ H Q q => ?_
    obtain ⟨Z, B, ρ, τ, h, ok, sl, q⟩ := q
    intro p hp
    obtain ⟨ok2, g2⟩ := ok_newD (o := .dT []) (hd := .dit []) (vs := []) (ws := []) ok hp (.dit upd_same rfl) .nil
    exact q _ _ _ ok2 g2 _ (.r (if_pos rfl))
  | false =>
    refine pe_imp pe_dnewK fun σ H Q q => ?_
    obtain ⟨Z, B, ρ, τ, h, ok, sl, q⟩ := q
    intro p hp
    obtain ⟨ok2, g2⟩ := ok_newD (o := .dK []) (hd := .dic []) (vs := []) (ws := []) ok hp (.dic upd_same rfl) .nil
    exact q _ _ _ ok2 g2 _ (.r (if_pos rfl))
theorem Post.besides {α : Type} {K : PySem.W.Frag} {Z B : Hp} {W : XK} {ρ : Nat → Option Addr} {R : α → Hq → Hp → (Nat → Option Addr) → Hp → Prop} {r : Option (Rs α)} {q : Addr} {o : HO} (hz : Z q = none) (p : Post K Z W B ρ R r) : Post K (upd Z q o) W B ρ R r := by
  match r, p with
  | some (.ok a h), p => exact fun B' ρ' H' ok g => p B' ρ' H' (ok.bare hz) (g.aside hz)
  | some (.ex x h), p => exact fun B' ρ' H' cls d ok g xc => p B' ρ' H' cls d (ok.bare hz) (g.aside hz) xc
theorem Ok.adoptC {K : PySem.W.Frag} {Z B H : Hp} {ρ : Nat → Option Addr} {h : Hq} {q : Addr} {ob : HO} {c : O} (ok : Ok K (upd Z q ob) B ρ H h) (hz : Z q = none) (cc : CeAt K Z B H ρ q c) :
    Ok K Z B (fun k => if k = h.length then some q else ρ k) H (h ++ [c]) ∧ Gr Z B ρ B (fun k => if k = h.length then some q else ρ k) := by
  have hq : H q = some ob := ok.zz q _ upd_same
  have ok0 := ok.bare hz
  have fresh : ∀ k a, ρ k = some a → a ≠ q := fun k a e z => by
    have hk : k < h.length := by
      apply Classical.byContradiction
      intro y
      rw [ok.up k (by omega)] at e
      cases e
    obtain ⟨c, hc⟩ : ∃ c, h[k]? = some c := ⟨_, List.getElem?_eq_getElem hk⟩
    obtain ⟨a', h1, h2⟩ := ok.ce k c hc
    rw [e] at h1
    cases h1
    have key : upd Z q ob a = none := by
      cases h2 with
      | lst _ _ _ e4 => exact e4
      | nd e1 _ e3 => exact (e3 _ e1.own_or.1).2
      | dead e4 => exact e4
    rw [z, upd_same] at key
    cases key
  have gg : Gr Z B ρ B (fun k => if k = h.length then some q else ρ k) := ⟨fun _ _ e => e, fun k a e => by
    have : k ≠ h.length := fun z => by rw [ok.up k (by omega)] at e; cases e
    show (if k = h.length then some q else ρ k) = some a
    rw [if_neg this]; exact e, fun a e e' => absurd e e'⟩
  refine ⟨⟨ok0.ex, ok0.zz, fun k c' e => ?_, fun i j a e1 e2 => ?_, fun k a e => ?_, fun k e => ?_⟩, gg⟩
  · by_cases z : k = h.length
    · subst z
      rw [List.getElem?_append_right (by omega), Nat.sub_self] at e
      cases e
      refine ⟨q, if_pos rfl, ?_⟩
      cases cc with
      | lst e1 e2 e3 e4 => exact .lst e1 (e2.mono gg) e3 e4
      | nd e1 e2 e3 => exact .nd e1 (e2.mono gg) e3
      | dead e1 => exact .dead e1
    · have hk : k < h.length := by
        have := (List.getElem?_eq_some_iff.mp e).1
        rw [List.length_append, List.length_singleton] at this
        omega
      rw [List.getElem?_append_left hk] at e
      obtain ⟨a, h1, h2⟩ := ok0.ce k c' e
      refine ⟨a, gg.rr k a h1, ?_⟩
      cases h2 with
      | lst e1 e2 e3 e4 => exact .lst e1 (e2.mono gg) e3 e4
      | nd e1 e2 e3 => exact .nd e1 (e2.mono gg) e3
      | dead e1 => exact .dead e1
  · have e1 : (if i = h.length then some q else ρ i) = some a := e1
    have e2 : (if j = h.length then some q else ρ j) = some a := e2
    split at e1 <;> split at e2
    · omega
    · cases e1; exact absurd rfl (fresh _ _ e2)
    · cases e2; exact absurd rfl (fresh _ _ e1)
    · exact ok.nj i j a e1 e2
  · have e : (if k = h.length then some q else ρ k) = some a := e
    split at e
    · cases e; rw [hq]; simp
    · exact ok.al k a e
  · rw [List.length_append, List.length_singleton] at e
    show (if k = h.length then some q else ρ k) = none
    rw [if_neg (by omega)]
    exact ok.up k (by omega)
/-- {k: v, ..}, the keys written, no two alike -/
def mPairs : List Key → List (E Tq.A) → E (List Tq.A)
  | k :: ks, m :: ms => fun τ h => bd (m τ h) fun w h1 => bd (mPairs ks ms τ h1) fun r h2 => some (.ok (w :: r) h2)
  | _, _ => fun _ h => some (.ok [] h)
def mDict (ks : List Key) (ms : List (E Tq.A)) : E Tq.A := fun τ h => bd (mPairs ks ms τ h) fun ws h1 => if ws.length = ks.length then some (.ok (.r h1.length) (h1 ++ [.nd (.dic ks) ws])) else none
inductive RPs (X : Cx) (W : WX) (pos : Pos) : List (Option Expr) → List Expr → List Key → List (E Tq.A) → List (TE × TE) → Prop
  | nil : RPs X W pos [] [] [] [] []
  | cons {k : Key} {ke ve : Expr} {kes : List (Option Expr)} {ves : List Expr} {ks : List Key} {m : E Tq.A} {ms : List (E Tq.A)} {trs : List (TE × TE)} : PE X ke (tC (kV k)) → RX X W ve m → RPs X W pos kes ves ks ms trs →
      RPs X W pos (some ke :: kes) (ve :: ves) (k :: ks) (m :: ms) ((tC (kV k), tE X.K W m) :: trs)
theorem RPs.pps {kes : List (Option Expr)} {ves : List Expr} {ks : List Key} {ms : List (E Tq.A)} {trs : List (TE × TE)} (r : RPs X W pos kes ves ks ms trs) : PPs X pos kes ves trs := by
  induction r with
  | nil => exact pps_nil
  | cons h1 h2 _ ih => exact pps_cons h1 h2.pe ih
theorem RPs.reads {kes : List (Option Expr)} {ves : List Expr} {ks : List Key} {ms : List (E Tq.A)} {trs : List (TE × TE)} (r : RPs X W pos kes ves ks ms trs) : ∀ {σ : L2.St} {H Z B : Hp} {ρ : Nat → Option Addr} {τ : Sl} {h : Hq} {Q : List (V × V) → Hp → Prop} {R : List A → Hq → Hp → (Nat → Option Addr) → Hp → Prop},
    Ok X.K Z B ρ H h → SlOk X.K B ρ σ τ → Post X.K Z (fun c d H' => W c d σ H') B ρ R (mPairs ks ms τ h) →
    (∀ vs ws h1 B1 ρ1 H1, RAL X.K B1 ρ1 vs ws → vs.length = ks.length → Ok X.K Z B1 ρ1 H1 h1 → Gr Z B ρ B1 ρ1 → R ws h1 B1 ρ1 H1 → Q ((ks.zip vs).map fun kv => (kV kv.1, kv.2)) H1) → tPairs trs σ H Q := by
  induction r with
  | nil => exact fun ok sl q k => k [] [] _ _ _ _ .nil rfl ok Gr.refl (q.now ok)
  | cons h1 h2 _ ih =>
    intro σ H Z B ρ τ h Q R ok sl q k
    refine te_bd ok sl q fun v w h1 B1 ρ1 H1 rv ok1 sl1 g1 q1 => ?_
    refine ih ok1 sl1 q1.bd fun vs ws h2 B2 ρ2 H2 rl hl ok2 g2 q2 => ?_
    have := k (v :: vs) (w :: ws) h2 B2 ρ2 H2 (.cons (rv.mono g2) rl) (by rw [List.length_cons, List.length_cons, hl]) ok2 (g1.trans g2) (q2.now ok2)
    exact this
theorem putZ_new {k : Key} {v : V} : ∀ {l : List (Key × V)}, k ∉ l.map (·.1) → putK l k v = l ++ [(k, v)] := fun {l} h => by
  unfold putK
  have : l.any (fun kv => decide (kv.1 = k)) = false := by
    rw [List.any_eq_false]
    intro x hx e
    exact h (by rw [← of_decide_eq_true e]; exact List.mem_map_of_mem hx)
  rw [this]
  rfl
theorem mergeK_new : ∀ {more kvs : List (Key × V)}, ((kvs ++ more).map (·.1)).Nodup → mergeK kvs more = kvs ++ more
  | [], kvs, _ => by show kvs = kvs ++ []; rw [List.append_nil]
  | p :: r, kvs, h => by
    have h' : ((kvs ++ [p]) ++ r).map (·.1) = (kvs ++ p :: r).map (·.1) := by simp
    have hn : p.1 ∉ kvs.map (·.1) := by
      rw [List.map_append, List.nodup_append] at h
      exact fun z => h.2.2 p.1 z p.1 (by simp) rfl
    show mergeK (putK kvs p.1 p.2) r = _
    rw [putZ_new hn, mergeK_new (by rw [h']; exact h), List.append_assoc]
    rfl
theorem rx_dict {kes : List (Option Expr)} {ves : List Expr} {ks : List Key} {ms : List (E Tq.A)} {trs : List (TE × TE)} (r : RPs X W pos kes ves ks ms trs) (hn : ks.Nodup) (hall : kes.all (·.isSome) = true := by rfl) (hl : kes.length = ves.length := by rfl) (h0 : kes ≠ [] := by exact fun z => by cases z) (h15 : kes.length ≤ 15 := by decide) (hk : ks.length ≤ 15 := by decide) :
    RX X W (.Dict kes ves pos) (mDict ks ms) := ⟨pe_imp (pe_disp r.pps hall hl h0 h15) fun σ H Q q => by
  obtain ⟨Z, B, ρ, τ, h, ok, sl, q⟩ := q
  intro p hp
  have hzp : Z p = none := by
    cases z : Z p with
    | none => rfl
    | some u => rw [ok.zz p u z] at hp; cases hp
  have hbp : B p = none := by
    cases z : B p with
    | none => rfl
    | some u => rw [ok.ex p u z] at hp; cases hp
  have keep : ∀ {B' : Hp} {ρ' : Nat → Option Addr}, Gr (upd Z p (.dK [])) B ρ B' ρ' → B' p = none := fun {B' ρ'} g => by
    cases z : B' p with
    | none => rfl
    | some u =>
      have := g.fz p hbp (by rw [z]; simp)
      rw [upd_same] at this
      cases this
  refine r.reads (ok.aside hp) sl ((q.bd).besides hzp) fun vs ws h1 B1 ρ1 H1 rl hl1 ok1 g1 q1 => ?_
  have hb1 := keep g1
  refine ⟨ok1.zz p _ upd_same, ks.zip vs, rfl, by rw [List.length_zip, hl1, Nat.min_self]; exact hk, ?_⟩
  have hmg : mergeK [] (ks.zip vs) = ks.zip vs := by
    have := mergeK_new (more := ks.zip vs) (kvs := []) (by rw [List.nil_append, map_fst_zip hl1.symm]; exact hn)
    simpa using this
  rw [hmg]
  split at q1
  · have ok2 := ok1.turn (o2 := .dK (ks.zip vs)) hb1 hzp
    obtain ⟨ok3, g3⟩ := ok2.adoptC hzp (c := .nd (.dic ks) ws) (.nd (own := [p]) (.dic upd_same hl1.symm) rl fun b hb => by rw [List.mem_singleton.mp hb]; exact ⟨hb1, hzp⟩)
    exact q1 _ _ _ ok3 g3 _ (.r (if_pos rfl))
  · exact q1.elim⟩
end
end Tq

/-! Tq10: calls that give a new list; the law's end; plain lemmas on m's. -/
namespace Tq
open PySem PySem.Spec PyProof.Rows L2
theorem Room_u1 {k : Nat} {A : Around} (r : Room k A) : A.units + 1 < cLine := by have := r.un; omega
theorem Room_u65 {k : Nat} {A : Around} (r : Room k A) : A.units + 65 < cLine := by have := r.un; omega
theorem Room_u64 {k : Nat} {A : Around} (r : Room k A) : A.units + 64 < cLine := r.units
/-! ### a call without cells that gives a new list: the list is a cell of the caller's -/
def vwA (q : Nat) : Nat → Hq → A → Option D
  | _, _, .d x => some x
  | 0, _, _ => none
  | n + 1, h, .r k => if k = q then none else match h[k]? with
    | some (.lst ws) => (mapMn (vwA q n h) ws).map .lst
    | some (.nd hd ws) => (mapMn (vwA q n h) ws).map (.nd hd)
    | _ => none
  | n + 1, h, .tup ws => (mapMn (vwA q n h) ws).map .tup
@[simp] theorem vwA_d (q n : Nat) (h : Hq) (x : D) : vwA q n h (.d x) = some x := by cases n <;> rfl
section
variable {K : PySem.W.Frag} {Z B H : Hp} {ρ : Nat → Option Addr} {h : Hq}
theorem vwA_at {P : Hp} {q : Nat} {p : Addr} (ok : Ok K Z B ρ H h) (hq : ρ q = some p) (hp : ∀ z, H p ≠ some (.own z)) (e1 : Same B P) (e2 : ∀ b, b ≠ p → Z b = none → B b = none → ∀ u, H b = some u → P b = some u) : ∀ (n : Nat) (v : V) (w : A) (d : D), RA K B ρ v w → vwA q n h w = some d → Rp K P v d
  | n, _, .d x, d, .d r, e => by rw [vwA_d] at e; cases e; exact r.mono e1
  | 0, _, .r k, d, _, e => by cases e
  | 0, _, .tup ws, d, _, e => by cases e
  | n + 1, _, .r k, d, .r (a := a) hr, e => by
    unfold vwA at e
    split at e
    · cases e
    · rename_i hk
      have na : a ≠ p := fun z => hk (ok.nj k q p (by rw [← z]; exact hr) hq)
      split at e
      · rename_i ws e3
        obtain ⟨ds, e4, rfl⟩ := Option.map_eq_some_iff.mp e
        obtain ⟨a', h1, h2⟩ := ok.ce k _ e3
        rw [hr] at h1
        cases h1
        cases h2 with
        | lst q1 q2 q3 q4 => exact .lst (e2 _ na q4 q3 _ q1) (vws_of (vwA_at ok hq hp e1 e2 n) q2 e4)
      · rename_i hd ws e3
        obtain ⟨ds, e4, rfl⟩ := Option.map_eq_some_iff.mp e
        obtain ⟨a', h1, h2⟩ := ok.ce k _ e3
        rw [hr] at h1
        cases h1
        cases h2 with
        | nd q1 q2 q3 =>
          refine .nd (q1.to fun b hb u eu => e2 b ?_ (q3 b hb).2 (q3 b hb).1 u eu) (vws_of (vwA_at ok hq hp e1 e2 n) q2 e4)
          rcases q1.own_or.2.1 b hb with z | z
          · rw [z]; exact na
          · exact fun y => hp a (by rw [← y]; exact z)
      · cases e
  | n + 1, _, .tup ws, d, .tup ht rl, e => by
    unfold vwA at e
    obtain ⟨ds, e4, rfl⟩ := Option.map_eq_some_iff.mp e
    exact .tup (e1 _ _ ht) (vws_of (vwA_at ok hq hp e1 e2 n) rl e4)
end
def callO (sem : Sem1) (ws : List A) (h1 : Hq) : Option (Rs A) := match mapMn (view h1) ws with
  | some ds => (match sem (ds.map A.d) [] with
    | some (.ok (.r k) h') => (match h'[k]? with
      | some (.lst us) => (match mapMn (vwA k 32 h') us with
        | some es => if (allD ws).isSome || es.all D.flat then some (.ok (.r h1.length) (h1 ++ [.lst (es.map A.d)])) else none
        | none => none)
      | _ => none)
    | some (.ok (.d x) h') => callP sem ws h1
    | some (.ex x h') => if (allD ws).isSome then (match x.fz h' with | some x' => some (.ex x' h1) | none => none) else none
    | _ => none)
  | none => none
def mCallO (sem : Sem1) (mr : E (List A)) : E A := fun τ h => bd (mr τ h) fun ws h1 => callO sem ws h1
section
variable {K : PySem.W.Frag} {Z B H : Hp} {ρ : Nat → Option Addr} {h : Hq}
theorem rpl_flat {B B' : Hp} : ∀ {vs : List V} {ds : List D}, RpL K B vs ds → ds.all D.flat = true → RpL K B' vs ds
  | _, _, .nil, _ => .nil
  | _, _, .cons r t, h => by
    rw [List.all_cons, Bool.and_eq_true] at h
    exact .cons (rp_flat r h.1) (rpl_flat t h.2)
/-- back, all new but p frozen, p adopted -/
theorem Ok.backO (ok : Ok K Z B ρ H h) {B0 B' H' : Hp} {ρ' : Nat → Option Addr} {h' : Hq} {k : Nat} {us : List A} {es : List D} (hB : B0 = B ∨ (B0 = H ∧ es.all D.flat = true)) (ok' : Ok K H B' ρ' H' h') (g : Gr H B0 (fun _ => none) B' ρ') (e1 : h'[k]? = some (.lst us)) (e2 : mapMn (vwA k 32 h') us = some es) :
    ∃ p B2, ρ' k = some p ∧ Ok K Z B2 (fun j => if j = h.length then some p else ρ j) H' (h ++ [.lst (es.map A.d)]) ∧ Gr Z B ρ B2 (fun j => if j = h.length then some p else ρ j) := by
  obtain ⟨p, hp, c⟩ := ok'.ce k _ e1
  refine ⟨p, ?_⟩
  cases c with
  | lst q1 q2 q3 q4 =>
    rename_i vs
    let B2 : Hp := fun a => if H a = none ∧ a ≠ p then H' a else B a
    have s0 : Same H H' := ok'.zz
    have zn : ∀ a, H a = none → Z a = none := fun a e => by
      cases z : Z a with
      | none => rfl
      | some u => rw [ok.zz a u z] at e; cases e
    have bn : ∀ a, H a = none → B a = none := fun a e => by
      cases z : B a with
      | none => rfl
      | some u => rw [ok.ex a u z] at e; cases e
    have b1 : Same B B2 := fun a o e => by
      show (if H a = none ∧ a ≠ p then H' a else B a) = some o
      rw [if_neg fun z => by rw [ok.ex a o e] at z; exact nomatch z.1]
      exact e
    have b2 : Same B2 H' := fun a o e => by
      have e : (if H a = none ∧ a ≠ p then H' a else B a) = some o := e
      split at e
      · exact e
      · exact s0 _ _ (ok.ex a o e)
    have b3 : ∀ a, H a ≠ none → B2 a = B a := fun a e => if_neg fun z => e z.1
    have bp : B2 p = none := by
      show (if H p = none ∧ p ≠ p then H' p else B p) = none
      rw [if_neg fun z => z.2 rfl]
      exact bn p q4
    have gg : Gr Z B ρ B2 ρ := ⟨b1, fun _ _ e => e, fun a e e' => by
      by_cases z : H a = none
      · exact zn a z
      · rw [b3 a z] at e'; exact absurd e e'⟩
    have ok2 : Ok K (upd Z p (.lst vs)) B2 ρ H' h := by
      refine ⟨b2, fun a o e => ?_, fun j c e => ?_, ok.nj, fun j a e => ?_, ok.up⟩
      · by_cases z : a = p
        · subst z; rw [upd_same] at e; rw [q1]; exact e
        · rw [upd_ne z] at e; exact s0 _ _ (ok.zz a o e)
      · obtain ⟨a, h1, h2⟩ := ok.ce j c e
        refine ⟨a, h1, ?_⟩
        have ne : ∀ {b : Addr}, H b ≠ none → b ≠ p := fun hb z => hb (by rw [z]; exact q4)
        cases h2 with
        | lst e1 e2 e3 e4 => exact .lst (s0 _ _ e1) (e2.mono gg) (by rw [b3 a (by rw [e1]; simp)]; exact e3) (by rw [upd_ne (ne (by rw [e1]; simp))]; exact e4)
        | nd e1 e2 e3 => exact .nd (e1.to fun b _ u e => s0 _ _ e) (e2.mono gg) fun b hb => ⟨by rw [b3 b (e1.own_or.2.2.1 b hb)]; exact (e3 b hb).1, by rw [upd_ne (ne (e1.own_or.2.2.1 b hb))]; exact (e3 b hb).2⟩
        | dead e1 => exact .dead (by rw [upd_ne (ne (ok.al j a h1))]; exact e1)
      · have := ok.al j a e
        cases z : H a with
        | none => exact absurd z this
        | some u => rw [s0 _ _ z]; simp
    have els : RpL K B2 vs es := by
      rcases hB with rfl | ⟨rfl, hf⟩
      · have b4 : Same B' B2 := fun a o e => by
          by_cases z : B0 a = none
          · have hz := g.fz a z (by rw [e]; simp)
            show (if H a = none ∧ a ≠ p then H' a else B0 a) = some o
            rw [if_pos ⟨hz, fun y => by rw [y, q3] at e; cases e⟩]
            exact ok'.ex a o e
          · cases y : B0 a with
            | none => exact absurd y z
            | some u =>
              have := g.bb a u y
              rw [e] at this
              cases this
              exact b1 a o y
        refine vws_of (fun v w d r e => vwA_at ok' hp (fun z y => by rw [q1] at y; cases y) b4 (fun b hb hz hb' u hu => ?_) 32 v w d r e) q2 e2
        show (if H b = none ∧ b ≠ p then H' b else B0 b) = some u
        rw [if_pos ⟨hz, hb⟩]
        exact hu
      · have all : RpL K H' vs es := vws_of (fun v w d r e => vwA_at ok' hp (fun z y => by rw [q1] at y; cases y) ok'.ex (fun b _ _ _ u hu => hu) 32 v w d r e) q2 e2
        exact rpl_flat all hf
    obtain ⟨ok3, g3⟩ := ok2.adoptC (zn p q4) (c := .lst (es.map A.d)) (.lst q1 (ral_ds els) bp (zn p q4))
    exact ⟨B2, hp, ok3, gg.trans g3⟩
theorem callO_ok {W : XK} {Q : VK} {sem : Sem1} {vs : List V} {ws : List A} {np : Nat} (ok : Ok K Z B ρ H h) (r : RAL K B ρ vs ws) (hl : ws.length = np)
    (q : Post K Z W B ρ (fun w _ B' ρ' H' => ∀ v, RA K B' ρ' v w → Q v H') (callO sem ws h)) : spQ K np sem vs H Q W := by
  unfold callO at q
  split at q
  · rename_i ds e1
    split at q
    · rename_i k h' e2
      split at q
      · rename_i us e3
        split at q
        · rename_i es e4
          split at q
          · rename_i hc
            refine ⟨by rw [r.length]; exact hl, ?_⟩
            cases e0 : allD ws with
            | some ds' =>
              have := allD_view e0 e1
              subst this
              cases allD_of e0
              refine ⟨H, B, fun _ => none, [], ds'.map A.d, ok.void, ral_ds (ral_rpl r), ?_⟩
              rw [e2]
              intro B' ρ' H' ok' g v rv
              obtain ⟨p, B2, hp, o2, g2⟩ := ok.backO (.inl rfl) ok' g e3 e4
              cases rv with
              | r hr =>
                rw [hp] at hr
                cases hr
                exact q B2 _ H' o2 g2 _ (.r (if_pos rfl))
            | none =>
              rw [e0] at hc
              have hf : es.all D.flat = true := by simpa using hc
              refine ⟨H, H, fun _ => none, [], ds.map A.d, ok.voidH, ral_ds (rpl_views ok r e1), ?_⟩
              rw [e2]
              intro B' ρ' H' ok' g v rv
              obtain ⟨p, B2, hp, o2, g2⟩ := ok.backO (.inr ⟨rfl, hf⟩) ok' g e3 e4
              cases rv with
              | r hr =>
                rw [hp] at hr
                cases hr
                exact q B2 _ H' o2 g2 _ (.r (if_pos rfl))
          · exact q.elim
        · exact q.elim
      · exact q.elim
    · exact callP_ok ok r hl q
    · rename_i x h' e2
      refine callP_ok ok r hl ?_
      unfold callP
      rw [e1]
      dsimp only
      rw [e2]
      exact q
    · exact q.elim
  · exact q.elim
end
section
variable {X : Cx} {W : WX} {a o : Expr} {es : List Expr} {mr : E (List A)} {mo : E A} {sem : Sem1} {pos px apos : Pos} {j k : Nat} {ps : List Str}
theorem rx_callO {x : Str} (tk : Takes X W) (Df : Def X.prog X.w X.K X.mg X.base j x ps sem) (hr : Room k X.A) (hj : j ≤ k) (ha : RAs X W (a :: es) mr)
    (hg : Gl X x := by rfl) (hdb : (x == ("__debug__" : Str)) = false := by decide) (he : starEach (a :: es) X.env = (false, eval a X.env) :: starEach es X.env := by rfl) (hpl : (backTo pos (starEach es X.env)).any (·.1) = false := by rfl) :
    RX X W (.Call (.Name x px) (a :: es) [] pos) (mCallO sem (lenIs ps.length mr)) := by
  obtain ⟨fa, fd, F, h1, h2, h3⟩ := Df.ex
  refine ⟨pe_imp (pe_callS F (hr.mono hj) hg h1 h2 h3 (fun σ => passAt tk σ) ha.pa hdb he hpl) fun σ H Q q => ?_⟩
  obtain ⟨Z, B, ρ, τ, h, ok, sl, q⟩ := q
  have q := q.bd
  unfold lenIs at q
  refine te_args ok sl q fun vs ws h1 B1 ρ1 H1 r ok1 sl1 g1 q1 => ?_
  split at q1
  · rename_i hl
    exact callO_ok ok1 r hl (q1.now ok1)
  · exact q1.elim
end
/-! ### the law's end -/
theorem sp_law {K : PySem.W.Frag} {sem : Sem1} {a : Addr} {ns : List Int} {H : Hp} (hS : SqL K H a (ns.map V.int)) (h : ∃ h', sem [.d (.scr ns)] [] = some (.ok (.d (.bl true)) h')) : spQ K 1 sem [.ref a] H (fun v _ => v = .bl true) E0 := by
  obtain ⟨h', e⟩ := h
  refine ⟨rfl, NZ, H, fun _ => none, [], [.d (.scr ns)], ⟨fun _ _ e => e, (fun _ _ e => by cases e), (fun k o e => by simp at e), (fun _ _ _ e => by cases e), (fun _ _ e => by cases e), fun _ _ => rfl⟩, .cons (.d (.scr hS)) .nil, ?_⟩
  rw [e]
  exact fun B' ρ' H' ok g v rv => rp_bl (ra_d rv)
end Tq

/-! TrO: the order of data (truths, ints, texts, tuples of these to any depth): what the first pair that differs says. -/
namespace TrO
open PySem PySem.SeqAt
open PySem.AutoSeq1 (wpAny_loadPart')
open PySem.MeetsSeq PySem.MeetsSeq2 PySem.MeetsSeq3
def szO (op : CmpOp) (m n : Nat) : Bool := match op with
  | .Lt => decide (m < n) | .LtE => decide (m ≤ n) | .Gt => decide (m > n) | _ => decide (m ≥ n)
def LexV (op : CmpOp) (A : Around) (s : Shared) (r : Bool) : List Value → List Value → Prop
  | x :: xs, y :: ys => (EqAt A s x y true ∧ LexV op A s r xs ys) ∨ (EqAt A s x y false ∧ Ob.RcOp op A s x y r)
  | xs, ys => szO op xs.length ys.length = r
theorem szO_add (op : CmpOp) (i m n : Nat) : szO op (i + m) (i + n) = szO op m n := by
  unfold szO
  split <;> (rw [decide_eq_decide]; omega)
theorem tupLex_lt (l b : Addr) (I J : Array Value) (n m : Nat) (dd ee : Option Addr) (sl tl : Array (Option Value)) :
    Meets (Builtin.«tuple.__lt__» ⟨[.ref l, .ref b], []⟩)
      (fun A R s => s.heap.get? l = some { cls := .type "tuple", dict := dd, data := .seq I n, slots := sl } ∧ s.heap.get? b = some { cls := .type "tuple", dict := ee, data := .seq J m, slots := tl } ∧
        ∃ r, LexV .Lt A.in1 s r I.toList J.toList ∧ R (.ok (.ret (.bool r))) s) :=
  .of_wp fun prog w A R s h => by
    obtain ⟨hp, gl, dn, tk, os⟩ := s
    obtain ⟨hl, hb, r, hx, hR⟩ := h
    have sub2 := AutoSeq1.sub_tuple_tuple
    wp_walk using wpAny_loadPart' hl, wpAny_loadPart' hb, wpAny_forIn_list _ (fun rest c s' => c.1 = none ∧ s' = ⟨hp, gl, dn, tk, os⟩ ∧ ∃ xs ys k, rest = xs.zip ys ∧ LexV .Lt A.in1 ⟨hp, gl, dn, tk, os⟩ r xs ys ∧ I.size = k + xs.length ∧ J.size = k + ys.length) _
    case turn =>
      rintro ⟨p, q⟩ rest c s' ⟨hc, rfl, xs, ys, k, hz, hx, e1, e2⟩
      cases xs with
      | nil => cases hz
      | cons x xs =>
        cases ys with
        | nil => cases hz
        | cons y ys =>
          rw [List.zip_cons_cons] at hz
          injection hz with hpq hrest
          cases hpq
          rcases hx with ⟨he, hx⟩ | ⟨he, hr⟩
          · refine wpAny_bind (he prog w _ _ ?_)
            wp_walk
            exact ⟨rfl, rfl, xs, ys, k + 1, hrest, hx, by rw [e1, List.length_cons]; omega, by rw [e2, List.length_cons]; omega⟩
          · refine wpAny_bind (he prog w _ _ ?_)
            have hri := hr prog w
            wp_walk using hri
            exact ⟨_, rfl, by simpa using hR⟩
    case fin =>
      rintro ⟨c1, c2⟩ s' ⟨hc, rfl, xs, ys, k, hz, hx, e1, e2⟩
      simp only at hc
      subst hc
      have hx2 : szO .Lt xs.length ys.length = r := by
        cases xs with
        | nil => cases ys <;> exact hx
        | cons x xs =>
          cases ys with
          | nil => exact hx
          | cons y ys => cases hz
      rw [← szO_add _ k, ← e1, ← e2] at hx2
      subst hx2
      wp_walk
      exact ⟨_, rfl, by simpa [Builtin.Tuple.tupleCompareSizes, szO] using hR⟩
    case h =>
      exact ⟨rfl, rfl, I.toList, J.toList, 0, rfl, hx, by simp, by simp⟩
theorem tup_lt {A : Around} {s : Shared} {l b : Addr} {I J : Array Value} {r : Bool} (hl : s.heap.IsTuple l I) (hb : s.heap.IsTuple b J) (hu : A.units < cLine) (hx : LexV .Lt A.in1 s r I.toList J.toList) :
    Ob.RcOp .Lt A s (.ref l) (.ref b) r := fun prog w E Q hq => by
  obtain ⟨⟨c1, d1, x1, s1⟩, g1, k1, n1, z1⟩ := id hl
  obtain ⟨⟨c2, d2, x2, s2⟩, g2, k2, n2, z2⟩ := id hb
  simp only at k1 z1 k2 z2
  subst k1 z1 k2 z2
  exact richCompare_meets_room (op := .Lt) ⟨_, g1, rfl⟩ ⟨_, g2, rfl⟩ F.slot_tuple_lt F.entry_tuple_lt (F.args_tuple_lt_2 _ _) (tupLex_lt l b I J n1 n2 d1 d2 s1 s2)
    ⟨g1, g2, r, hx, ⟨(fun z => nomatch z), hq⟩⟩ hu
theorem tupLex_le (l b : Addr) (I J : Array Value) (n m : Nat) (dd ee : Option Addr) (sl tl : Array (Option Value)) :
    Meets (Builtin.«tuple.__le__» ⟨[.ref l, .ref b], []⟩)
      (fun A R s => s.heap.get? l = some { cls := .type "tuple", dict := dd, data := .seq I n, slots := sl } ∧ s.heap.get? b = some { cls := .type "tuple", dict := ee, data := .seq J m, slots := tl } ∧
        ∃ r, LexV .LtE A.in1 s r I.toList J.toList ∧ R (.ok (.ret (.bool r))) s) :=
  .of_wp fun prog w A R s h => by
    obtain ⟨hp, gl, dn, tk, os⟩ := s
    obtain ⟨hl, hb, r, hx, hR⟩ := h
    have sub2 := AutoSeq1.sub_tuple_tuple
    wp_walk using wpAny_loadPart' hl, wpAny_loadPart' hb, wpAny_forIn_list _ (fun rest c s' => c.1 = none ∧ s' = ⟨hp, gl, dn, tk, os⟩ ∧ ∃ xs ys k, rest = xs.zip ys ∧ LexV .LtE A.in1 ⟨hp, gl, dn, tk, os⟩ r xs ys ∧ I.size = k + xs.length ∧ J.size = k + ys.length) _
    case turn =>
      rintro ⟨p, q⟩ rest c s' ⟨hc, rfl, xs, ys, k, hz, hx, e1, e2⟩
      cases xs with
      | nil => cases hz
      | cons x xs =>
        cases ys with
        | nil => cases hz
        | cons y ys =>
          rw [List.zip_cons_cons] at hz
          injection hz with hpq hrest
          cases hpq
          rcases hx with ⟨he, hx⟩ | ⟨he, hr⟩
          · refine wpAny_bind (he prog w _ _ ?_)
            wp_walk
            exact ⟨rfl, rfl, xs, ys, k + 1, hrest, hx, by rw [e1, List.length_cons]; omega, by rw [e2, List.length_cons]; omega⟩
          · refine wpAny_bind (he prog w _ _ ?_)
            have hri := hr prog w
            wp_walk using hri
            exact ⟨_, rfl, by simpa using hR⟩
    case fin =>
      rintro ⟨c1, c2⟩ s' ⟨hc, rfl, xs, ys, k, hz, hx, e1, e2⟩
      simp only at hc
      subst hc
      have hx2 : szO .LtE xs.length ys.length = r := by
        cases xs with
        | nil => cases ys <;> exact hx
        | cons x xs =>
          cases ys with
          | nil => exact hx
          | cons y ys => cases hz
      rw [← szO_add _ k, ← e1, ← e2] at hx2
      subst hx2
      wp_walk
      exact ⟨_, rfl, by simpa [Builtin.Tuple.tupleCompareSizes, szO] using hR⟩
    case h =>
      exact ⟨rfl, rfl, I.toList, J.toList, 0, rfl, hx, by simp, by simp⟩
theorem tup_le {A : Around} {s : Shared} {l b : Addr} {I J : Array Value} {r : Bool} (hl : s.heap.IsTuple l I) (hb : s.heap.IsTuple b J) (hu : A.units < cLine) (hx : LexV .LtE A.in1 s r I.toList J.toList) :
    Ob.RcOp .LtE A s (.ref l) (.ref b) r := fun prog w E Q hq => by
  obtain ⟨⟨c1, d1, x1, s1⟩, g1, k1, n1, z1⟩ := id hl
  obtain ⟨⟨c2, d2, x2, s2⟩, g2, k2, n2, z2⟩ := id hb
  simp only at k1 z1 k2 z2
  subst k1 z1 k2 z2
  exact richCompare_meets_room (op := .LtE) ⟨_, g1, rfl⟩ ⟨_, g2, rfl⟩ F.slot_tuple_le F.entry_tuple_le (F.args_tuple_le_2 _ _) (tupLex_le l b I J n1 n2 d1 d2 s1 s2)
    ⟨g1, g2, r, hx, ⟨(fun z => nomatch z), hq⟩⟩ hu
theorem tupLex_gt (l b : Addr) (I J : Array Value) (n m : Nat) (dd ee : Option Addr) (sl tl : Array (Option Value)) :
    Meets (Builtin.«tuple.__gt__» ⟨[.ref l, .ref b], []⟩)
      (fun A R s => s.heap.get? l = some { cls := .type "tuple", dict := dd, data := .seq I n, slots := sl } ∧ s.heap.get? b = some { cls := .type "tuple", dict := ee, data := .seq J m, slots := tl } ∧
        ∃ r, LexV .Gt A.in1 s r I.toList J.toList ∧ R (.ok (.ret (.bool r))) s) :=
  .of_wp fun prog w A R s h => by
    obtain ⟨hp, gl, dn, tk, os⟩ := s
    obtain ⟨hl, hb, r, hx, hR⟩ := h
    have sub2 := AutoSeq1.sub_tuple_tuple
    wp_walk using wpAny_loadPart' hl, wpAny_loadPart' hb, wpAny_forIn_list _ (fun rest c s' => c.1 = none ∧ s' = ⟨hp, gl, dn, tk, os⟩ ∧ ∃ xs ys k, rest = xs.zip ys ∧ LexV .Gt A.in1 ⟨hp, gl, dn, tk, os⟩ r xs ys ∧ I.size = k + xs.length ∧ J.size = k + ys.length) _
    case turn =>
      rintro ⟨p, q⟩ rest c s' ⟨hc, rfl, xs, ys, k, hz, hx, e1, e2⟩
      cases xs with
      | nil => cases hz
      | cons x xs =>
        cases ys with
        | nil => cases hz
        | cons y ys =>
          rw [List.zip_cons_cons] at hz
          injection hz with hpq hrest
          cases hpq
          rcases hx with ⟨he, hx⟩ | ⟨he, hr⟩
          · refine wpAny_bind (he prog w _ _ ?_)
            wp_walk
            exact ⟨rfl, rfl, xs, ys, k + 1, hrest, hx, by rw [e1, List.length_cons]; omega, by rw [e2, List.length_cons]; omega⟩
          · refine wpAny_bind (he prog w _ _ ?_)
            have hri := hr prog w
            wp_walk using hri
            exact ⟨_, rfl, by simpa using hR⟩
    case fin =>
      rintro ⟨c1, c2⟩ s' ⟨hc, rfl, xs, ys, k, hz, hx, e1, e2⟩
      simp only at hc
      subst hc
      have hx2 : szO .Gt xs.length ys.length = r := by
        cases xs with
        | nil => cases ys <;> exact hx
        | cons x xs =>
          cases ys with
          | nil => exact hx
          | cons y ys => cases hz
      rw [← szO_add _ k, ← e1, ← e2] at hx2
      subst hx2
      wp_walk
      exact ⟨_, rfl, by simpa [Builtin.Tuple.tupleCompareSizes, szO] using hR⟩
    case h =>
      exact ⟨rfl, rfl, I.toList, J.toList, 0, rfl, hx, by simp, by simp⟩
theorem tup_gt {A : Around} {s : Shared} {l b : Addr} {I J : Array Value} {r : Bool} (hl : s.heap.IsTuple l I) (hb : s.heap.IsTuple b J) (hu : A.units < cLine) (hx : LexV .Gt A.in1 s r I.toList J.toList) :
    Ob.RcOp .Gt A s (.ref l) (.ref b) r := fun prog w E Q hq => by
  obtain ⟨⟨c1, d1, x1, s1⟩, g1, k1, n1, z1⟩ := id hl
  obtain ⟨⟨c2, d2, x2, s2⟩, g2, k2, n2, z2⟩ := id hb
  simp only at k1 z1 k2 z2
  subst k1 z1 k2 z2
  exact richCompare_meets_room (op := .Gt) ⟨_, g1, rfl⟩ ⟨_, g2, rfl⟩ F.slot_tuple_gt F.entry_tuple_gt (F.args_tuple_gt_2 _ _) (tupLex_gt l b I J n1 n2 d1 d2 s1 s2)
    ⟨g1, g2, r, hx, ⟨(fun z => nomatch z), hq⟩⟩ hu
theorem tupLex_ge (l b : Addr) (I J : Array Value) (n m : Nat) (dd ee : Option Addr) (sl tl : Array (Option Value)) :
    Meets (Builtin.«tuple.__ge__» ⟨[.ref l, .ref b], []⟩)
      (fun A R s => s.heap.get? l = some { cls := .type "tuple", dict := dd, data := .seq I n, slots := sl } ∧ s.heap.get? b = some { cls := .type "tuple", dict := ee, data := .seq J m, slots := tl } ∧
        ∃ r, LexV .GtE A.in1 s r I.toList J.toList ∧ R (.ok (.ret (.bool r))) s) :=
  .of_wp fun prog w A R s h => by
    obtain ⟨hp, gl, dn, tk, os⟩ := s
    obtain ⟨hl, hb, r, hx, hR⟩ := h
    have sub2 := AutoSeq1.sub_tuple_tuple
    wp_walk using wpAny_loadPart' hl, wpAny_loadPart' hb, wpAny_forIn_list _ (fun rest c s' => c.1 = none ∧ s' = ⟨hp, gl, dn, tk, os⟩ ∧ ∃ xs ys k, rest = xs.zip ys ∧ LexV .GtE A.in1 ⟨hp, gl, dn, tk, os⟩ r xs ys ∧ I.size = k + xs.length ∧ J.size = k + ys.length) _
    case turn =>
      rintro ⟨p, q⟩ rest c s' ⟨hc, rfl, xs, ys, k, hz, hx, e1, e2⟩
      cases xs with
      | nil => cases hz
      | cons x xs =>
        cases ys with
        | nil => cases hz
        | cons y ys =>
          rw [List.zip_cons_cons] at hz
          injection hz with hpq hrest
          cases hpq
          rcases hx with ⟨he, hx⟩ | ⟨he, hr⟩
          · refine wpAny_bind (he prog w _ _ ?_)
            wp_walk
            exact ⟨rfl, rfl, xs, ys, k + 1, hrest, hx, by rw [e1, List.length_cons]; omega, by rw [e2, List.length_cons]; omega⟩
          · refine wpAny_bind (he prog w _ _ ?_)
            have hri := hr prog w
            wp_walk using hri
            exact ⟨_, rfl, by simpa using hR⟩
    case fin =>
      rintro ⟨c1, c2⟩ s' ⟨hc, rfl, xs, ys, k, hz, hx, e1, e2⟩
      simp only at hc
      subst hc
      have hx2 : szO .GtE xs.length ys.length = r := by
        cases xs with
        | nil => cases ys <;> exact hx
        | cons x xs =>
          cases ys with
          | nil => exact hx
          | cons y ys => cases hz
      rw [← szO_add _ k, ← e1, ← e2] at hx2
      subst hx2
      wp_walk
      exact ⟨_, rfl, by simpa [Builtin.Tuple.tupleCompareSizes, szO] using hR⟩
    case h =>
      exact ⟨rfl, rfl, I.toList, J.toList, 0, rfl, hx, by simp, by simp⟩
theorem tup_ge {A : Around} {s : Shared} {l b : Addr} {I J : Array Value} {r : Bool} (hl : s.heap.IsTuple l I) (hb : s.heap.IsTuple b J) (hu : A.units < cLine) (hx : LexV .GtE A.in1 s r I.toList J.toList) :
    Ob.RcOp .GtE A s (.ref l) (.ref b) r := fun prog w E Q hq => by
  obtain ⟨⟨c1, d1, x1, s1⟩, g1, k1, n1, z1⟩ := id hl
  obtain ⟨⟨c2, d2, x2, s2⟩, g2, k2, n2, z2⟩ := id hb
  simp only at k1 z1 k2 z2
  subst k1 z1 k2 z2
  exact richCompare_meets_room (op := .GtE) ⟨_, g1, rfl⟩ ⟨_, g2, rfl⟩ F.slot_tuple_ge F.entry_tuple_ge (F.args_tuple_ge_2 _ _) (tupLex_ge l b I J n1 n2 d1 d2 s1 s2)
    ⟨g1, g2, r, hx, ⟨(fun z => nomatch z), hq⟩⟩ hu
end TrO

namespace TrO
open PySem PySem.SeqAt PyProof.Rows
def b2 (b : Bool) : Int := if b then 1 else 0
def cmpI (op : CmpOp) (i j : Int) : Bool := match op with
  | .Lt => decide (i < j) | .LtE => decide (i ≤ j) | .Gt => decide (j < i) | _ => decide (j ≤ i)
def cmpS (op : CmpOp) (x y : Str) : Bool := match op with
  | .Lt => decide (x.cps.toList < y.cps.toList) | .LtE => !decide (y.cps.toList < x.cps.toList) | .Gt => decide (y.cps.toList < x.cps.toList) | _ => !decide (x.cps.toList < y.cps.toList)
mutual
def ordP (op : CmpOp) : PyData → PyData → Option Bool
  | .bool x, .bool y => some (cmpI op (b2 x) (b2 y))
  | .int i, .int j => some (cmpI op i j)
  | .str x, .str y => some (cmpS op x y)
  | .tuple xs, .tuple ys => ordPs op xs ys
  | _, _ => none
def ordPs (op : CmpOp) : List PyData → List PyData → Option Bool
  | x :: xs, y :: ys => if PyData.eqv x y = true then ordPs op xs ys else ordP op x y
  | [], ys => some (szO op 0 ys.length)
  | x :: xs, [] => some (szO op (xs.length + 1) 0)
end
def Four (op : CmpOp) : Prop := op = .Lt ∨ op = .LtE ∨ op = .Gt ∨ op = .GtE
theorem rc_bool {op : CmpOp} (h : Four op) {A : Around} {s : Shared} (x y : Bool) : Ob.RcOp op A s (.bool x) (.bool y) (cmpI op (b2 x) (b2 y)) := by
  intro prog w E Q hq
  rcases h with rfl | rfl | rfl | rfl
  · exact lt_bool hq
  · exact le_bool hq
  · exact gt_bool hq
  · exact ge_bool hq
theorem rc_int {op : CmpOp} (h : Four op) {A : Around} {s : Shared} (x y : Int) (t u : Tok) : Ob.RcOp op A s (.int x t) (.int y u) (cmpI op x y) := by
  rcases h with rfl | rfl | rfl | rfl
  · exact Ob.RcOp.lt_int x y t u
  · exact Ob.RcOp.le_int x y t u
  · exact Ob.RcOp.gt_int x y t u
  · exact Ob.RcOp.ge_int x y t u
theorem rc_str {op : CmpOp} (h : Four op) {A : Around} {s : Shared} (x y : Str) (t u : Tok) : Ob.RcOp op A s (.str x t) (.str y u) (cmpS op x y) := by
  intro prog w E Q hq
  rcases h with rfl | rfl | rfl | rfl
  · exact PyProof.Rows.lt_str hq
  · exact P.le_str hq
  · exact P.gt_str hq
  · exact P.ge_str hq
theorem rc_tup {op : CmpOp} (h : Four op) {A : Around} {s : Shared} {l b : Addr} {I J : Array Value} {r : Bool} (hl : s.heap.IsTuple l I) (hb : s.heap.IsTuple b J) (hu : A.units < cLine) (hx : LexV op A.in1 s r I.toList J.toList) :
    Ob.RcOp op A s (.ref l) (.ref b) r := by
  rcases h with rfl | rfl | rfl | rfl
  · exact tup_lt hl hb hu hx
  · exact tup_le hl hb hu hx
  · exact tup_gt hl hb hu hx
  · exact tup_ge hl hb hu hx
mutual
theorem rc_ord {op : CmpOp} (h4 : Four op) : ∀ (da db : PyData) (A : Around) (s : Shared) (a b : Value) (as bs : List Addr) (r : Bool), Reads s.heap a da as → Reads s.heap b db bs → da.canLay0 = true → db.canLay0 = true → ordP op da db = some r →
    A.units + min da.depth db.depth < cLine → Ob.RcOp op A s a b r
  | .none, db, _, _, _, _, _, _, _, _, _, _, _, h, _ => by cases db <;> cases h
  | .dict _, db, _, _, _, _, _, _, _, _, _, _, _, h, _ => by cases db <;> cases h
  | .list _, db, _, _, _, _, _, _, _, _, _, _, _, h, _ => by cases db <;> cases h
  | .bool x, db, A, s, a, b, as, bs, r, ra, rb, _, _, h, _ => by
    cases db with
    | bool y =>
      cases h
      cases ra
      cases rb
      exact rc_bool h4 x y
    | _ => cases h
  | .int x, db, A, s, a, b, as, bs, r, ra, rb, _, _, h, _ => by
    cases db with
    | int y =>
      cases h
      cases ra
      cases rb
      exact rc_int h4 x y _ _
    | _ => cases h
  | .str x, db, A, s, a, b, as, bs, r, ra, rb, _, _, h, _ => by
    cases db with
    | str y =>
      cases h
      cases ra
      cases rb
      exact rc_str h4 x y _ _
    | _ => cases h
  | .tuple xs, db, A, s, a, b, as, bs, r, ra, rb, la, lb, h, hu => by
    cases db with
    | tuple ys =>
      have h : ordPs op xs ys = some r := h
      cases ra with
      | @tuple l o vs n _ as₁ h1 h2 h3 r1 =>
        cases rb with
        | @tuple l' o' vs' n' _ bs₁ k1 k2 k3 r2 =>
          have hu : A.units + min (PyData.depthAll xs + 1) (PyData.depthAll ys + 1) < cLine := hu
          refine rc_tup h4 ⟨_, h1, h2, _, h3⟩ ⟨_, k1, k2, _, k3⟩ (by omega) ?_
          exact rc_ords h4 xs ys A.in1 s _ _ _ _ r r1 r2 la lb h (by show A.units + 1 + _ < _; omega)
    | _ => cases h
theorem rc_ords {op : CmpOp} (h4 : Four op) : ∀ (xs ys : List PyData) (A : Around) (s : Shared) (vs ws : List Value) (as bs : List Addr) (r : Bool), ReadsAll s.heap vs xs as → ReadsAll s.heap ws ys bs → PyData.canLayAll0 xs = true → PyData.canLayAll0 ys = true → ordPs op xs ys = some r →
    A.units + min (PyData.depthAll xs) (PyData.depthAll ys) < cLine → LexV op A s r vs ws
  | [], ys, A, s, vs, ws, as, bs, r, ra, rb, _, _, h, _ => by
    cases ra
    have h : some (szO op 0 ys.length) = some r := by cases ys <;> exact h
    have hl := ReadsAll.length _ _ _ rb
    cases h
    cases ws with
    | nil => show szO op 0 0 = szO op 0 ys.length; rw [← hl]; rfl
    | cons w ws => show szO op 0 (w :: ws).length = szO op 0 ys.length; rw [← hl]
  | x :: xs, [], A, s, vs, ws, as, bs, r, ra, rb, _, _, h, _ => by
    cases rb
    cases ra with
    | cons h1 h2 =>
      have h : some (szO op (xs.length + 1) 0) = some r := h
      have hl := ReadsAll.length _ _ _ h2
      cases h
      show szO op (_ + 1) 0 = szO op (xs.length + 1) 0
      rw [hl]
  | x :: xs, y :: ys, A, s, vs, ws, as, bs, r, ra, rb, la, lb, h, hu => by
    cases ra with
    | cons r1 ra =>
      cases rb with
      | cons r2 rb =>
        have la : (x.canLay0 && PyData.canLayAll0 xs) = true := la
        have lb : (y.canLay0 && PyData.canLayAll0 ys) = true := lb
        have hu : A.units + min (max x.depth (PyData.depthAll xs)) (max y.depth (PyData.depthAll ys)) < cLine := hu
        rw [Bool.and_eq_true] at la lb
        have he := eqAt_reads x y A s _ _ _ _ r1 r2 la.1 lb.1 (by omega)
        have h : (if PyData.eqv x y = true then ordPs op xs ys else ordP op x y) = some r := h
        by_cases e : PyData.eqv x y = true
        · rw [if_pos e] at h
          rw [e] at he
          exact .inl ⟨he, rc_ords h4 xs ys A s _ _ _ _ r ra rb la.2 lb.2 h (by omega)⟩
        · rw [if_neg e] at h
          rw [Bool.not_eq_true] at e
          rw [e] at he
          exact .inr ⟨he, rc_ord h4 x y A s _ _ _ _ r r1 r2 la.1 lb.1 h (by omega)⟩
end
end TrO
namespace Tq
open PySem PySem.Spec PyProof.Rows L2
def ordD (op : CmpOp) (x y : D) : Option Bool := if x.shp && y.shp then TrO.ordP op x.toP y.toP else none
abbrev gOrdO (op : CmpOp) : G2 := g2V (ordD op)
def rOrd (K : PySem.W.Frag) (op : CmpOp) : R2 := fun x y H Q => ∃ da db r, Dp K H x da ∧ Dp K H y db ∧ SeqAt.shaped da = true ∧ SeqAt.shaped db = true ∧ TrO.ordP op da db = some r ∧ Q (.bl r) H
theorem op_ord {X : Cx} {op : CmpOp} (hu : X.A.units + 64 < cLine) (h4 : TrO.Four op) : OpR X (compareOp op) (rOrd X.K op) := by
  intro pins s σ H x y v u Q I rx ry h
  obtain ⟨da, db, r, ha, hb, sa, sb, e, q⟩ := h
  obtain ⟨as, r1⟩ := Dp.reads I da x v ha rx
  obtain ⟨bs, r2⟩ := Dp.reads I db y u hb ry
  have z := TrO.rc_ord h4 da db X.A s v u as bs r r1 r2 (SeqAt.canLay_of_shaped sa) (SeqAt.canLay_of_shaped sb) e (SeqAt.room_of_shaped sa hu)
  have z2 : wpAny (model X.prog X.w) X.A (richCompare op v u) (EP X pins σ Q) X.xe s := z X.prog X.w X.xe (EP X pins σ Q) ⟨.bl _, H, I, rfl, q⟩
  rcases h4 with rfl | rfl | rfl | rfl <;> exact z2
theorem og_ordO {K : PySem.W.Frag} {op : CmpOp} : Op2 K (rOrd K op) (gOrdO op) := og_2v fun H x y d e k Q rx ry hk q => by
  unfold ordD at hk
  split at hk
  · rename_i hs
    rw [Bool.and_eq_true] at hs
    exact ⟨_, _, k, rx.dp hs.1, ry.dp hs.2, hs.1, hs.2, hk, q⟩
  · cases hk
theorem op_ltO {X : Cx} (hu : X.A.units + 64 < cLine) : OpR X (compareOp .Lt) (rOrd X.K .Lt) := op_ord hu (.inl rfl)
theorem op_leO {X : Cx} (hu : X.A.units + 64 < cLine) : OpR X (compareOp .LtE) (rOrd X.K .LtE) := op_ord hu (.inr (.inl rfl))
theorem op_gtO {X : Cx} (hu : X.A.units + 64 < cLine) : OpR X (compareOp .Gt) (rOrd X.K .Gt) := op_ord hu (.inr (.inr (.inl rfl)))
theorem op_geO {X : Cx} (hu : X.A.units + 64 < cLine) : OpR X (compareOp .GtE) (rOrd X.K .GtE) := op_ord hu (.inr (.inr (.inr rfl)))
end Tq

/-! Tq11: reckoning with m's, in plain Lean. -/
namespace Tq
open PySem PySem.Spec PyProof.Rows L2
/-! ### loops -/
section
variable {g : A → Sl → Hq → Option Sl} {mb : MS} {ws : List A}
theorem forL_inv (I : Nat → Sl → Hq → Prop) {τ : Sl} {h : Hq} (h0 : I 0 τ h) (hs : ∀ n w τ h, ws[n]? = some w → I n τ h → ∃ τ1 τ2 h2, g w τ h = some τ1 ∧ (mb τ1 h = some (.nx τ2 h2) ∨ mb τ1 h = some (.ct τ2 h2)) ∧ I (n + 1) τ2 h2) (hl : ws.length ≤ LIM) :
    ∃ τ' h', forM (nxL ws) g mb FU 0 τ h = some (.nx τ' h') ∧ I ws.length τ' h' := by
  have go : ∀ (k n f : Nat) (τ : Sl) (h : Hq), ws.length - n = k → n ≤ ws.length → k < f → I n τ h → ∃ τ' h', forM (nxL ws) g mb f n τ h = some (.nx τ' h') ∧ I ws.length τ' h' := by
    intro k
    induction k with
    | zero =>
      intro n f τ h e hn hf hi
      have : n = ws.length := by omega
      subst this
      obtain ⟨f, rfl⟩ : ∃ f', f = f' + 1 := ⟨f - 1, by omega⟩
      refine ⟨τ, h, ?_, hi⟩
      unfold forM nxL
      rw [List.getElem?_eq_none (Nat.le_refl _)]
    | succ k ih =>
      intro n f τ h e hn hf hi
      have hlt : n < ws.length := by omega
      obtain ⟨f, rfl⟩ : ∃ f', f = f' + 1 := ⟨f - 1, by omega⟩
      have hw : ws[n]? = some ws[n] := List.getElem?_eq_getElem hlt
      obtain ⟨τ1, τ2, h2, e1, e2, i2⟩ := hs n _ τ h hw hi
      obtain ⟨τ', h', e3, i3⟩ := ih (n + 1) f τ2 h2 (by omega) (by omega) (by omega) i2
      refine ⟨τ', h', ?_, i3⟩
      unfold forM
      show (match nxL ws n h with | _ => _) = _
      unfold nxL
      rw [hw]
      dsimp only
      rw [e1]
      dsimp only
      rcases e2 with e2 | e2 <;> (rw [e2]; exact e3)
  exact go ws.length 0 FU τ h (by omega) (Nat.zero_le _) (by show ws.length < 16777217; have : ws.length ≤ 16777216 := hl; omega) h0
/-- over a cell that stays as it is -/
theorem forC_inv {k : Nat} (I : Nat → Sl → Hq → Prop) {τ : Sl} {h : Hq} (hk : ∀ n τ h, I n τ h → h[k]? = some (.lst ws)) (h0 : I 0 τ h) (hs : ∀ n w τ h, ws[n]? = some w → I n τ h → ∃ τ1 τ2 h2, g w τ h = some τ1 ∧ (mb τ1 h = some (.nx τ2 h2) ∨ mb τ1 h = some (.ct τ2 h2)) ∧ I (n + 1) τ2 h2) (hl : ws.length ≤ LIM) :
    ∃ τ' h', forM (nxC k) g mb FU 0 τ h = some (.nx τ' h') ∧ I ws.length τ' h' := by
  have go : ∀ (j n f : Nat) (τ : Sl) (h : Hq), ws.length - n = j → n ≤ ws.length → j < f → I n τ h → ∃ τ' h', forM (nxC k) g mb f n τ h = some (.nx τ' h') ∧ I ws.length τ' h' := by
    intro j
    induction j with
    | zero =>
      intro n f τ h e hn hf hi
      have : n = ws.length := by omega
      subst this
      obtain ⟨f, rfl⟩ : ∃ f', f = f' + 1 := ⟨f - 1, by omega⟩
      refine ⟨τ, h, ?_, hi⟩
      unfold forM nxC
      rw [hk _ _ _ hi]
      dsimp only
      rw [List.getElem?_eq_none (Nat.le_refl _)]
    | succ j ih =>
      intro n f τ h e hn hf hi
      have hlt : n < ws.length := by omega
      obtain ⟨f, rfl⟩ : ∃ f', f = f' + 1 := ⟨f - 1, by omega⟩
      have hw : ws[n]? = some ws[n] := List.getElem?_eq_getElem hlt
      obtain ⟨τ1, τ2, h2, e1, e2, i2⟩ := hs n _ τ h hw hi
      obtain ⟨τ', h', e3, i3⟩ := ih (n + 1) f τ2 h2 (by omega) (by omega) (by omega) i2
      refine ⟨τ', h', ?_, i3⟩
      unfold forM
      show (match nxC k n h with | _ => _) = _
      unfold nxC
      rw [hk _ _ _ hi]
      dsimp only
      rw [hw]
      dsimp only
      rw [e1]
      dsimp only
      rcases e2 with e2 | e2 <;> (rw [e2]; exact e3)
  exact go ws.length 0 FU τ h (by omega) (Nat.zero_le _) (by show ws.length < 16777217; have : ws.length ≤ 16777216 := hl; omega) h0
/-- a comprehension that leaves the cells alone -/
theorem compL_map {me : E A} {τw : Sl} {h : Hq} (f : A → A) (hs : ∀ w ∈ ws, ∃ τ1, g w τw h = some τ1 ∧ me τ1 h = some (.ok (f w) h)) (hl : ws.length ≤ LIM) : compM (nxL ws) g mYes me τw FU 0 h = some (ws.map f, h) := by
  have go : ∀ (k n fu : Nat), ws.length - n = k → n ≤ ws.length → k < fu → compM (nxL ws) g mYes me τw fu n h = some ((ws.drop n).map f, h) := by
    intro k
    induction k with
    | zero =>
      intro n fu e hn hf
      have : n = ws.length := by omega
      subst this
      obtain ⟨fu, rfl⟩ : ∃ f', fu = f' + 1 := ⟨fu - 1, by omega⟩
      unfold compM nxL
      rw [List.getElem?_eq_none (Nat.le_refl _), List.drop_length]
      rfl
    | succ k ih =>
      intro n fu e hn hf
      have hlt : n < ws.length := by omega
      obtain ⟨fu, rfl⟩ : ∃ f', fu = f' + 1 := ⟨fu - 1, by omega⟩
      have hw : ws[n]? = some ws[n] := List.getElem?_eq_getElem hlt
      obtain ⟨τ1, e1, e2⟩ := hs _ (List.getElem_mem hlt)
      unfold compM
      show (match nxL ws n h with | _ => _) = _
      unfold nxL
      rw [hw]
      dsimp only
      rw [e1]
      dsimp only [mYes]
      rw [e2]
      dsimp only
      have := ih (n + 1) fu (by omega) (by omega) (by omega)
      rw [show compM (fun i _ => some ws[i]?) g mYes me τw fu (n + 1) h = compM (nxL ws) g mYes me τw fu (n + 1) h from rfl] at *
      rw [this]
      dsimp only
      rw [List.drop_eq_getElem_cons hlt, List.map_cons]
  have := go ws.length 0 FU (by omega) (Nat.zero_le _) (by show ws.length < 16777217; have : ws.length ≤ 16777216 := hl; omega)
  rwa [List.drop_zero] at this
/-- a comprehension whose items come with a property, while I holds of the cells -/
theorem compL_inv {mt : E Bool} {me : E A} {τw : Sl} {h : Hq} (I : Nat → Hq → List A → Prop) (h0 : I 0 h []) (hs : ∀ n w h as, ws[n]? = some w → I n h as → ∃ τ1, g w τw h = some τ1 ∧ ((∃ h1 h2 a, mt τ1 h = some (.ok true h1) ∧ me τ1 h1 = some (.ok a h2) ∧ I (n + 1) h2 (as ++ [a])) ∨ ∃ h1, mt τ1 h = some (.ok false h1) ∧ I (n + 1) h1 as)) (hl : ws.length ≤ LIM) :
    ∃ as h', compM (nxL ws) g mt me τw FU 0 h = some (as, h') ∧ I ws.length h' as := by
  have go : ∀ (k n fu : Nat) (h : Hq) (as : List A), ws.length - n = k → n ≤ ws.length → k < fu → I n h as → ∃ bs h', compM (nxL ws) g mt me τw fu n h = some (bs, h') ∧ I ws.length h' (as ++ bs) := by
    intro k
    induction k with
    | zero =>
      intro n fu h as e hn hf hi
      have : n = ws.length := by omega
      subst this
      obtain ⟨fu, rfl⟩ : ∃ f', fu = f' + 1 := ⟨fu - 1, by omega⟩
      refine ⟨[], h, ?_, by simpa using hi⟩
      unfold compM nxL
      rw [List.getElem?_eq_none (Nat.le_refl _)]
    | succ k ih =>
      intro n fu h as e hn hf hi
      have hlt : n < ws.length := by omega
      obtain ⟨fu, rfl⟩ : ∃ f', fu = f' + 1 := ⟨fu - 1, by omega⟩
      have hw : ws[n]? = some ws[n] := List.getElem?_eq_getElem hlt
      obtain ⟨τ1, e1, r⟩ := hs n _ h as hw hi
      have un : nxL ws n h = some (some ws[n]) := by unfold nxL; rw [hw]
      rcases r with ⟨h1, h2, a, e2, e3, i2⟩ | ⟨h1, e2, i2⟩
      · obtain ⟨bs, h', e4, i3⟩ := ih (n + 1) fu h2 _ (by omega) (by omega) (by omega) i2
        refine ⟨a :: bs, h', ?_, by simpa using i3⟩
        unfold compM
        rw [un]
        dsimp only
        rw [e1]
        dsimp only
        rw [e2]
        dsimp only
        rw [e3]
        dsimp only
        rw [e4]
      · obtain ⟨bs, h', e4, i3⟩ := ih (n + 1) fu h1 _ (by omega) (by omega) (by omega) i2
        refine ⟨bs, h', ?_, i3⟩
        unfold compM
        rw [un]
        dsimp only
        rw [e1]
        dsimp only
        rw [e2]
        exact e4
  obtain ⟨bs, h', e, i⟩ := go ws.length 0 FU h [] (by omega) (Nat.zero_le _) (by show ws.length < 16777217; have : ws.length ≤ 16777216 := hl; omega) h0
  exact ⟨bs, h', e, by simpa using i⟩
end
/-! ### steps -/
theorem seq_nx {m1 m2 : MS} {τ τ1 : Sl} {h h1 : Hq} (e : m1 τ h = some (.nx τ1 h1)) : mSeq m1 m2 τ h = m2 τ1 h1 := by
  unfold mSeq
  rw [e]
theorem seq_rt {m1 m2 : MS} {τ : Sl} {w : A} {h h1 : Hq} (e : m1 τ h = some (.rt w h1)) : mSeq m1 m2 τ h = some (.rt w h1) := by
  unfold mSeq
  rw [e]
theorem runB_rt {np n : Nat} {m : MS} {ws : List A} {w : A} {h h1 : Hq} (hl : ws.length = np) (e : m (startT n ws) h = some (.rt w h1)) : runB np n m ws h = some (.ok w h1) := by
  unfold runB
  rw [if_pos hl, e]
theorem runB_nx {np n : Nat} {m : MS} {ws : List A} {τ : Sl} {h h1 : Hq} (hl : ws.length = np) (e : m (startT n ws) h = some (.nx τ h1)) : runB np n m ws h = some (.ok (.d .non) h1) := by
  unfold runB
  rw [if_pos hl, e]
theorem mFor_of {mi : E Nxt} {g : A → Sl → Hq → Option Sl} {mb : MS} {τ : Sl} {h h1 : Hq} {nx : Nxt} (e : mi τ h = some (.ok nx h1)) : mFor mi g mb τ h = forM nx g mb FU 0 τ h1 := by
  unfold mFor
  rw [e]
  rfl
theorem mRange1_of {m : E A} {τ : Sl} {h h1 : Hq} {j : Int} (e : m τ h = some (.ok (.d (.int j)) h1)) (h0 : -4611686018427387904 ≤ j) (h2 : j < 4611686018427387904) : mRange1 m τ h = some (.ok (nxL (rangeA 0 j.toNat)) h1) := by
  unfold mRange1
  rw [e]
  show (if _ then _ else _) = _
  rw [if_pos ⟨h0, h2⟩]
theorem rangeA_len (lo : Int) (n : Nat) : (rangeA lo n).length = n := by unfold rangeA; rw [List.length_map, List.length_range]
theorem rangeA_get {lo : Int} {n i : Nat} {w : A} (h : (rangeA lo n)[i]? = some w) : i < n ∧ w = .d (.int (lo + (i : Nat))) := by
  have hi : i < n := by
    rw [← rangeA_len lo n]
    exact (List.getElem?_eq_some_iff.mp h).1
  unfold rangeA at h
  rw [List.getElem?_map, List.getElem?_range hi] at h
  cases h
  exact ⟨hi, rfl⟩
theorem rangeA_mem {lo : Int} {n : Nat} {w : A} (h : w ∈ rangeA lo n) : ∃ i : Nat, i < n ∧ w = .d (.int (lo + (i : Nat))) := by
  unfold rangeA at h
  obtain ⟨i, h1, h2⟩ := List.mem_map.mp h
  exact ⟨i, List.mem_range.mp h1, h2.symm⟩
theorem rangeA_map {lo : Int} {n : Nat} (f : A → A) : (rangeA lo n).map f = (List.range n).map fun i => f (.d (.int (lo + (i : Nat)))) := by
  unfold rangeA
  rw [List.map_map]
  rfl
/-! ### single m's -/
theorem append_of {τ : Sl} {h : Hq} {k : Nat} {ws : List A} {w : A} {mo mv : E A} (h1 : mo τ h = some (.ok (.r k) h)) (e : h[k]? = some (.lst ws)) (h2 : mv τ h = some (.ok w h)) (hl : ws.length < LIM) : mDrop (mM1 tokL gApp mo mv) τ h = some (.nx τ (h.set k (.lst (ws ++ [w])))) := by
  have t : tokL (.r k) h = true := by
    unfold tokL lstOf
    dsimp only
    rw [e]
    rfl
  have ga : gApp (.r k) w h = some (.ok (.d .non) (h.set k (.lst (ws ++ [w])))) := by
    unfold gApp
    dsimp only
    rw [e]
    dsimp only
    rw [if_pos hl]
  unfold mDrop mM1
  rw [h1, bd_ok, if_pos t, h2, bd_ok, ga, sb_ok]
theorem set_of {τ : Sl} {h h1 : Hq} {i : Nat} {w : A} {m : E A} (e : m τ h = some (.ok w h1)) : mSet i m τ h = some (.nx (τ.set i (some w)) h1) := by
  unfold mSet
  rw [e, sb_ok]
theorem drop_of {τ : Sl} {h h1 : Hq} {w : A} {m : E A} (e : m τ h = some (.ok w h1)) : mDrop m τ h = some (.nx τ h1) := by
  unfold mDrop
  rw [e, sb_ok]
theorem ret_of {τ : Sl} {h h1 : Hq} {w : A} {m : E A} (e : m τ h = some (.ok w h1)) : mRet m τ h = some (.rt w h1) := by
  unfold mRet
  rw [e, sb_ok]
theorem if_tt {t : E Bool} {m1 m2 : MS} {τ : Sl} {h h1 : Hq} (e : t τ h = some (.ok true h1)) : mIf t m1 m2 τ h = m1 τ h1 := by
  unfold mIf
  rw [e, sb_ok]
theorem if_ff {t : E Bool} {m1 m2 : MS} {τ : Sl} {h h1 : Hq} (e : t τ h = some (.ok false h1)) : mIf t m1 m2 τ h = m2 τ h1 := by
  unfold mIf
  rw [e, sb_ok]
theorem bin_of {g : G2} {ma mb : E A} {τ : Sl} {h h1 h2 : Hq} {a b : A} (e1 : ma τ h = some (.ok a h1)) (e2 : mb τ h1 = some (.ok b h2)) : mBin g ma mb τ h = g a b h2 := by
  unfold mBin
  rw [e1, bd_ok, e2, bd_ok]
theorem un_of {g : G1} {ma : E A} {τ : Sl} {h h1 : Hq} {a : A} (e1 : ma τ h = some (.ok a h1)) : mUn g ma τ h = g a h1 := by
  unfold mUn
  rw [e1, bd_ok]
theorem tb_of {m : E A} {τ : Sl} {h h1 : Hq} {k : Bool} (e : m τ h = some (.ok (.d (.bl k)) h1)) : mTB m τ h = some (.ok k h1) := by
  unfold mTB
  rw [e, bd_ok]
theorem var_of {τ : Sl} {h : Hq} {i : Nat} {w : A} (e : τ[i]? = some (some w)) : mVar i τ h = some (.ok w h) := by
  unfold mVar
  rw [e]
theorem cons_of {ma : E A} {mr : E (List A)} {τ : Sl} {h h1 h2 : Hq} {a : A} {r : List A} (e1 : ma τ h = some (.ok a h1)) (e2 : mr τ h1 = some (.ok r h2)) : maCons ma mr τ h = some (.ok (a :: r) h2) := by
  unfold maCons
  rw [e1, bd_ok, e2, bd_ok]
theorem meth_of {C m : Str} {n : Nat} {sem : Sem1} {mo : E A} {mr : E (List A)} {τ : Sl} {h h1 h2 : Hq} {a : A} {ws : List A} (e1 : mo τ h = some (.ok a h1)) (hi : insOf C m a h1 = true) (e2 : mr τ h1 = some (.ok ws h2)) (hl : ws.length + 1 = n) : mMeth C m n sem mo mr τ h = sem (a :: ws) h2 := by
  unfold mMeth
  rw [e1, bd_ok, if_pos hi, e2, bd_ok, if_pos hl]
theorem len_of {n : Nat} {mr : E (List A)} {τ : Sl} {h h1 : Hq} {ws : List A} (e : mr τ h = some (.ok ws h1)) (hl : ws.length = n) : lenIs n mr τ h = some (.ok ws h1) := by
  unfold lenIs
  rw [e, bd_ok, if_pos hl]
theorem call_of {sem : Sem1} {mr : E (List A)} {τ : Sl} {h h1 : Hq} {ws : List A} (e : mr τ h = some (.ok ws h1)) : mCall sem mr τ h = sem ws h1 := by
  unfold mCall
  rw [e, bd_ok]
theorem callP_of {sem : Sem1} {mr : E (List A)} {τ : Sl} {h h1 h' : Hq} {ds : List D} {w : A} {d : D} (e : mr τ h = some (.ok (ds.map A.d) h1)) (e2 : sem (ds.map A.d) [] = some (.ok w h')) (e3 : view h' w = some d) : mCallP sem mr τ h = some (.ok (.d d) h1) := by
  unfold mCallP
  rw [e, bd_ok]
  unfold callP
  rw [mapMn_d _ _ (vw_d 32 h1)]
  dsimp only
  rw [e2]
  dsimp only
  rw [e3, allD_map]
  rfl
theorem view_lst {h : Hq} {k : Nat} {ds : List D} (e : h[k]? = some (.lst (ds.map A.d))) : view h (.r k) = some (.lst ds) := vw_cell (n := 31) e
theorem set_same {h : Hq} {k : Nat} {o : O} (e : h[k]? = some o) : h.set k o = h := by
  obtain ⟨hk, rfl⟩ := List.getElem?_eq_some_iff.mp e
  exact List.set_getElem_self hk
/-! ### data that is compared -/
def D.fok : D → Bool
  | .str z => PyData.strOk z
  | .non => true | .bl _ => true | .int _ => true
  | _ => false
theorem lay_fok : ∀ {d : D}, d.fok = true → d.toP.canLay0 = true ∧ d.toP.depth = 0
  | .non, _ => ⟨rfl, rfl⟩
  | .bl _, _ => ⟨rfl, rfl⟩
  | .int _, _ => ⟨rfl, rfl⟩
  | .str _, h => ⟨h, rfl⟩
theorem lays_fok : ∀ {ds : List D}, ds.all D.fok = true → PyData.canLayAll0 (D.toPs ds) = true ∧ PyData.depthAll (D.toPs ds) = 0
  | [], _ => ⟨rfl, rfl⟩
  | d :: r, h => by
    rw [List.all_cons, Bool.and_eq_true] at h
    obtain ⟨h1, h2⟩ := lay_fok h.1
    obtain ⟨h3, h4⟩ := lays_fok h.2
    constructor
    · show (d.toP.canLay0 && PyData.canLayAll0 (D.toPs r)) = true
      rw [h1, h3]
      rfl
    · show max d.toP.depth (PyData.depthAll (D.toPs r)) = 0
      rw [h2, h4]
      rfl
theorem shp_fok {d : D} (h : d.fok = true) : d.shp = true := by
  obtain ⟨h1, h2⟩ := lay_fok h
  show (d.toP.canLay0 && decide (d.toP.depth ≤ 64)) = true
  rw [h1, h2]
  rfl
theorem shp_lst {ds : List D} (h : ds.all D.fok = true) : (D.lst ds).shp = true := by
  obtain ⟨h1, h2⟩ := lays_fok h
  show (PyData.canLayAll0 (D.toPs ds) && decide (PyData.depthAll (D.toPs ds) + 1 ≤ 64)) = true
  rw [h1, h2]
  rfl
theorem shp_tup {ds : List D} (h : ds.all D.fok = true) : (D.tup ds).shp = true := shp_lst (ds := ds) h
theorem eqv_str (a b : Str) : D.eqv (.str a) (.str b) = decide (a = b) := by
  rw [show D.eqv (.str a) (.str b) = (a == b) from rfl, Bool.eq_iff_iff]
  simp
theorem eqv_int (a b : Int) : D.eqv (.int a) (.int b) = decide (a = b) := rfl
theorem eqv_refl {d : D} (h : d.shp = true) : D.eqv d d = true := by
  exact SeqAt.eqv_refl _ (SeqAt.canLay_of_shaped h)
theorem eqD_same {n : Bool} {x : D} (h : x.shp = true) : eqD n x x = some (!n) := by
  unfold eqD
  rw [h, eqv_refl h]
  cases n <;> rfl
@[simp] theorem eqD_int (n : Bool) (i j : Int) : eqD n (.int i) (.int j) = some (if n then !decide (i = j) else decide (i = j)) := by
  rw [← show (i == j) = decide (i = j) from rfl]
  rfl
theorem log2_lt {a k : Nat} (h : a < 2 ^ k) (hk : 0 < k) : a.log2 < k := by
  by_cases z : a = 0
  · subst z; simpa using hk
  · exact (Nat.log2_lt z).mpr h
theorem mulOk_of {i j : Int} {a b : Nat} (h1 : i.natAbs < 2 ^ a) (h2 : j.natAbs < 2 ^ b) (ha : 0 < a) (hb : 0 < b) (h : a + b ≤ 134000000) : mulOk i j = true := by
  unfold mulOk
  have := log2_lt h1 ha
  have := log2_lt h2 hb
  exact decide_eq_true (by omega)
theorem divOk_of {i j : Int} {b : Nat} (h0 : 0 < j) (h2 : j.natAbs < 2 ^ b) (hb : 0 < b) (h : b ≤ 9000) : divOk i j = true := by
  unfold divOk
  have := log2_lt h2 hb
  rw [decide_eq_true h0, Bool.true_and]
  exact decide_eq_true (by omega)
theorem atI_in {α : Type} {xs : List α} {i : Int} (h0 : 0 ≤ i) (h1 : i.toNat < xs.length) : atI xs i = some xs[i.toNat] := by
  unfold atI ixN
  rw [if_pos h0, if_pos (by omega)]
  exact List.getElem?_eq_getElem h1
end Tq

namespace K51
open PySem PySem.Spec PyProof.Rows L2 Tq
def topS (i : Nat) : Stmt := PySem.Challenge.pw_kithwhole_k51_file_keeps_a_prefix.main.body.getD i (.Pass ⟨0, 0, 0, 0⟩)
def FT : FTab := [("File", ["lasting", "steps"])]
/-! ### File.__init__: 0=self -/
abbrev s_File____init__ : Stmt := inClass (topS 1) 0
theorem sc_File____init__ : FnScope ["self"] ["self"] (defScope s_File____init__) := ⟨rfl, rfl, rfl, by decide +kernel, rfl, by decide +kernel, by decide +kernel⟩
def b_File____init__ : MS :=
 (mSeq (mSetF FT "lasting" (mVar 0) (mLst false maNil))
 (mSetF FT "steps" (mVar 0) (mLst true maNil)))
def sem_File____init__ : Sem1 := runB 1 1 b_File____init__
/-! ### File.write: 0=self 1=data 2=steps 3=count 4=byte -/
abbrev s_File__write : Stmt := inClass (topS 1) 1
theorem sc_File__write : FnScope ["self", "data", "steps", "count", "byte"] ["self", "data", "steps"] (defScope s_File__write) := ⟨rfl, rfl, rfl, by decide +kernel, rfl, by decide +kernel, by decide +kernel⟩
def B1_File__write : MS :=
 (mDrop (mM1 tokL gApp (mUn (gFld FT "steps") (mVar 0)) (mTup (maCons (mC (.str "byte")) (maCons (mVar 4) maNil)))))
def L1_File__write : MS :=
 (mFor (mItems (mSl false (mVar 1) moN (moS (mVar 3)))) (mgName 4) B1_File__write)
def b_File__write : MS :=
 (mSeq (mSet 3 (mUn gLen (mVar 1)))
 (mSeq (mIf (mAndT (mTB (mBin (gIs true) (mVar 2) (mC .non))) (mTB (mBin gLt (mVar 2) (mVar 3)))) (mSet 3 (mVar 2)) mNx)
 (mSeq L1_File__write
 (mRet (mVar 3)))))
def sem_File__write : Sem1 := runB 3 5 b_File__write
/-! ### after_steps: 0=data 1=steps 2=result 3=word 4=number -/
abbrev s_after_steps : Stmt := topS 2
theorem sc_after_steps : FnScope ["data", "steps", "result", "word", "number"] ["data", "steps"] (defScope s_after_steps) := ⟨rfl, rfl, rfl, by decide +kernel, rfl, by decide +kernel, by decide +kernel⟩
def B1_after_steps : MS :=
 (mIf (mTB (mBin (gEq false) (mVar 3) (mC (.str "byte")))) (mDrop (mM1 tokL gApp (mVar 2) (mVar 4))) (mSet 2 (mSl true (mVar 2) moN (moS (mVar 4)))))
def L1_after_steps : MS :=
 (mFor (mItems (mVar 1)) (mgTup 2 (mgCons (mgName 3) (mgCons (mgName 4) mgNil))) B1_after_steps)
def b_after_steps : MS :=
 (mSeq (mSet 2 (mUn (gLstOf true) (mVar 0)))
 (mSeq L1_after_steps
 (mRet (mVar 2))))
def sem_after_steps : Sem1 := runB 2 5 b_after_steps
/-! ### File.lose: 0=self 1=steps -/
abbrev s_File__lose : Stmt := inClass (topS 1) 6
theorem sc_File__lose : FnScope ["self", "steps"] ["self", "steps"] (defScope s_File__lose) := ⟨rfl, rfl, rfl, by decide +kernel, rfl, by decide +kernel, by decide +kernel⟩
def b_File__lose : MS :=
 (mSeq (mSetF FT "lasting" (mVar 0) (mCallP sem_after_steps (lenIs 2 (maCons (mUn (gFld FT "lasting") (mVar 0)) (maCons (mSl false (mUn (gFld FT "steps") (mVar 0)) moN (moS (mVar 1))) maNil)))))
 (mSetF FT "steps" (mVar 0) (mLst true maNil)))
def sem_File__lose : Sem1 := runB 2 2 b_File__lose
/-! ### File.flush: 0=self 1=steps -/
abbrev s_File__flush : Stmt := inClass (topS 1) 3
theorem sc_File__flush : FnScope ["self", "steps"] ["self", "steps"] (defScope s_File__flush) := ⟨rfl, rfl, rfl, by decide +kernel, rfl, by decide +kernel, by decide +kernel⟩
def b_File__flush : MS :=
 (mSeq (mIf (mTB (mBin (gEq false) (mVar 1) (mC (.int 0)))) (mRet (mC (.int 0))) mNx)
 (mSeq (mDrop (mMeth "File" "lose" 2 sem_File__lose (mVar 0) (maCons (mUn gLen (mUn (gFld FT "steps") (mVar 0))) maNil)))
 (mRet (mC (.int 1)))))
def sem_File__flush : Sem1 := runB 2 2 b_File__flush
/-! ### _law_draw: 0=script 1=k 2=cell 3=turn 4=step -/
abbrev s__law_draw : Stmt := topS 4
theorem sc__law_draw : FnScope ["script", "k", "cell", "turn", "step"] ["script", "k"] (defScope s__law_draw) := ⟨rfl, rfl, rfl, by decide +kernel, rfl, by decide +kernel, by decide +kernel⟩
def B1__law_draw : MS :=
 (mSet 2 (mBin gDiv (mVar 2) (mC (.int 100003))))
def L1__law_draw : MS :=
 (mFor (mRange1 (mBin gMin2 (mVar 3) (mC (.int 60)))) (mgName 4) B1__law_draw)
def b__law_draw : MS :=
 (mSeq (mIf (mNotT (mTru (mVar 0))) (mRet (mBin gMod (mBin gMul (mVar 1) (mC (.int 5))) (mC (.int 7)))) mNx)
 (mSeq (mSet 2 (mUn gInt (mBin gGet (mVar 0) (mBin gMod (mVar 1) (mUn gLen (mVar 0))))))
 (mSeq (mSet 3 (mBin gDiv (mVar 1) (mUn gLen (mVar 0))))
 (mSeq (mIf (mTB (mBin gGe (mVar 2) (mC (.int 1000000000000000000)))) (mSeq L1__law_draw
 (mRet (mBin gMod (mVar 2) (mC (.int 100003))))) mNx)
 (mRet (mBin gMod (mBin gMul (mBin gMod (mBin (gAdd false) (mBin (gAdd false) (mBin gMul (mVar 2) (mC (.int 48271))) (mBin gMul (mVar 1) (mC (.int 69621)))) (mC (.int 13))) (mC (.int 2147483647))) (mC (.int 16807))) (mC (.int 2147483629))))))))
def sem__law_draw : Sem1 := runB 2 5 b__law_draw
/-! ### File.pending: 0=self -/
abbrev s_File__pending : Stmt := inClass (topS 1) 5
theorem sc_File__pending : FnScope ["self"] ["self"] (defScope s_File__pending) := ⟨rfl, rfl, rfl, by decide +kernel, rfl, by decide +kernel, by decide +kernel⟩
def b_File__pending : MS :=
 (mRet (mUn gLen (mUn (gFld FT "steps") (mVar 0))))
def sem_File__pending : Sem1 := runB 1 1 b_File__pending
/-! ### _law_after: 0=data 1=steps 2=step -/
abbrev s__law_after : Stmt := topS 5
theorem sc__law_after : FnScope ["data", "steps", "step"] ["data", "steps"] (defScope s__law_after) := ⟨rfl, rfl, rfl, by decide +kernel, rfl, by decide +kernel, by decide +kernel⟩
def B1__law_after : MS :=
 (mIf (mTB (mBin (gEq false) (mBin gGet (mVar 2) (mC (.int 0))) (mC (.int 0)))) (mDrop (mM1 tokL gApp (mVar 0) (mBin gGet (mVar 2) (mC (.int 1))))) (mSet 0 (mSl true (mVar 0) moN (moS (mBin gGet (mVar 2) (mC (.int 1)))))))
def L1__law_after : MS :=
 (mFor (mItems (mVar 1)) (mgName 2) B1__law_after)
def b__law_after : MS :=
 (mSeq (mSet 0 (mUn (gLstOf true) (mVar 0)))
 (mSeq L1__law_after
 (mRet (mVar 0))))
def sem__law_after : Sem1 := runB 2 3 b__law_after
/-! ### File.shorten: 0=self 1=size 2=steps -/
abbrev s_File__shorten : Stmt := inClass (topS 1) 2
theorem sc_File__shorten : FnScope ["self", "size", "steps"] ["self", "size", "steps"] (defScope s_File__shorten) := ⟨rfl, rfl, rfl, by decide +kernel, rfl, by decide +kernel, by decide +kernel⟩
def b_File__shorten : MS :=
 (mSeq (mIf (mTB (mBin (gEq false) (mVar 2) (mC (.int 0)))) (mRet (mC (.int 0))) mNx)
 (mSeq (mDrop (mM1 tokL gApp (mUn (gFld FT "steps") (mVar 0)) (mTup (maCons (mC (.str "size")) (maCons (mVar 1) maNil)))))
 (mRet (mC (.int 1)))))
def sem_File__shorten : Sem1 := runB 3 3 b_File__shorten
/-! ### _law_deed: 0=file 1=state 2=number 3=other 4=kind 5=limit 6=step 7=data 8=k 9=count 10=given 11=done 12=byte 13=size -/
abbrev s__law_deed : Stmt := topS 6
theorem sc__law_deed : FnScope ["file", "state", "number", "other", "kind", "limit", "step", "data", "k", "count", "given", "done", "byte", "size"] ["file", "state", "number", "other"] (defScope s__law_deed) := ⟨rfl, rfl, rfl, by decide +kernel, rfl, by decide +kernel, by decide +kernel⟩
def E1__law_deed : E Tq.A :=
 (mBin gMod (mBin (gAdd false) (mVar 2) (mBin gMul (mVar 6) (mVar 8))) (mC (.int 256)))
def C1__law_deed : E Tq.A :=
 (mLC false (mRange1 (mBin gMod (mVar 3) (mBin gGet (mLst false (maCons (mC (.int 10)) (maCons (mC (.int 10)) (maCons (mC (.int 10)) (maCons (mC (.int 300)) maNil))))) (mBin gMod (mBin gDiv (mVar 3) (mC (.int 300))) (mC (.int 4)))))) (mgName 8) mYes E1__law_deed [8])
def E2__law_deed : E Tq.A :=
 (mTup (maCons (mC (.int 0)) (maCons (mVar 12) maNil)))
def C2__law_deed : E Tq.A :=
 (mLC false (mItems (mSl false (mVar 7) moN (moS (mVar 9)))) (mgName 12) mYes E2__law_deed [12])
def b__law_deed : MS :=
 (mSeq (mSet 4 (mBin gMod (mVar 2) (mC (.int 7))))
 (mSeq (mSet 5 (mC .non))
 (mSeq (mIf (mTB (mBin (gEq false) (mBin gMod (mBin gDiv (mVar 2) (mC (.int 7))) (mC (.int 3))) (mC (.int 0)))) (mSet 5 (mBin gMod (mBin gDiv (mVar 2) (mC (.int 21))) (mBin gGet (mLst false (maCons (mC (.int 7)) (maCons (mC (.int 7)) (maCons (mC (.int 400)) maNil)))) (mBin gMod (mBin gDiv (mVar 2) (mC (.int 147))) (mC (.int 3)))))) mNx)
 (mSeq (mIf (mTB (mBin gLe (mVar 4) (mC (.int 2)))) (mSeq (mSet 6 (mBin gGet (mLst false (maCons (mC (.int 17)) (maCons (mC (.int 0)) (maCons (mC (.int 1)) maNil)))) (mBin gMod (mBin gDiv (mVar 3) (mC (.int 1200))) (mC (.int 3)))))
 (mSeq (mSet 7 C1__law_deed)
 (mSeq (mSet 9 (mUn gLen (mVar 7)))
 (mSeq (mIf (mAndT (mTB (mBin (gIs true) (mVar 5) (mC .non))) (mTB (mBin gLt (mVar 5) (mVar 9)))) (mSet 9 (mVar 5)) mNx)
 (mSeq (mSet 10 (mUn (gLstOf true) (mVar 7)))
 (mSeq (mSet 11 (mMeth "File" "write" 3 sem_File__write (mVar 0) (maCons (mVar 10) (maCons (mVar 5) maNil))))
 (mSeq (mIf (mTB (mBin (gEq true) (mVar 10) (mVar 7))) (mRet (mC (.bl false))) mNx)
 (mSeq (mDrop (mM1 tokL gApp (mVar 10) (mC (.int 99))))
 (mSeq (mDrop (mM0 tokL gRev (mVar 10)))
 (mSeq (mSetI false (mVar 1) (mC (.str "steps")) (mBin (gAdd false) (mBin gGet (mVar 1) (mC (.str "steps"))) C2__law_deed))
 (mRet (mBin (gEq false) (mVar 11) (mVar 9))))))))))))) mNx)
 (mSeq (mIf (mTB (mBin gLe (mVar 4) (mC (.int 4)))) (mSeq (mSet 13 (mBin gMod (mVar 3) (mBin (gAdd false) (mBin gGet (mLst false (maCons (mC (.int 4)) (maCons (mC (.int 4)) (maCons (mC (.int 60)) maNil)))) (mBin gMod (mBin gDiv (mVar 3) (mC (.int 401))) (mC (.int 3)))) (mUn gLen (mCallP sem__law_after (lenIs 2 (maCons (mBin gGet (mVar 1) (mC (.str "lasting"))) (maCons (mBin gGet (mVar 1) (mC (.str "steps"))) maNil))))))))
 (mSeq (mSet 11 (mMeth "File" "shorten" 3 sem_File__shorten (mVar 0) (maCons (mVar 13) (maCons (mVar 5) maNil))))
 (mSeq (mIf (mTB (mBin (gEq false) (mVar 5) (mC (.int 0)))) (mRet (mBin (gEq false) (mVar 11) (mC (.int 0)))) mNx)
 (mSeq (mSetI false (mVar 1) (mC (.str "steps")) (mBin (gAdd false) (mBin gGet (mVar 1) (mC (.str "steps"))) (mLst false (maCons (mTup (maCons (mC (.int 1)) (maCons (mVar 13) maNil))) maNil))))
 (mRet (mBin (gEq false) (mVar 11) (mC (.int 1)))))))) mNx)
 (mSeq (mIf (mTB (mBin (gEq false) (mVar 4) (mC (.int 5)))) (mSeq (mSet 11 (mMeth "File" "flush" 2 sem_File__flush (mVar 0) (maCons (mVar 5) maNil)))
 (mSeq (mIf (mTB (mBin (gEq false) (mVar 5) (mC (.int 0)))) (mRet (mBin (gEq false) (mVar 11) (mC (.int 0)))) mNx)
 (mSeq (mSetI false (mVar 1) (mC (.str "lasting")) (mCallP sem__law_after (lenIs 2 (maCons (mBin gGet (mVar 1) (mC (.str "lasting"))) (maCons (mBin gGet (mVar 1) (mC (.str "steps"))) maNil)))))
 (mSeq (mSetI false (mVar 1) (mC (.str "steps")) (mLst false maNil))
 (mRet (mBin (gEq false) (mVar 11) (mC (.int 1)))))))) mNx)
 (mSeq (mSet 9 (mBin gMod (mBin gDiv (mVar 2) (mC (.int 11))) (mBin (gAdd false) (mC (.int 5)) (mUn gLen (mBin gGet (mVar 1) (mC (.str "steps")))))))
 (mSeq (mDrop (mMeth "File" "lose" 2 sem_File__lose (mVar 0) (maCons (mVar 9) maNil)))
 (mSeq (mSetI false (mVar 1) (mC (.str "lasting")) (mCallP sem__law_after (lenIs 2 (maCons (mBin gGet (mVar 1) (mC (.str "lasting"))) (maCons (mSl false (mBin gGet (mVar 1) (mC (.str "steps"))) moN (moS (mVar 9))) maNil)))))
 (mSeq (mSetI false (mVar 1) (mC (.str "steps")) (mLst false maNil))
 (mRet (mC (.bl true)))))))))))))
def sem__law_deed : Sem1 := runB 4 14 b__law_deed
/-! ### File.content: 0=self -/
abbrev s_File__content : Stmt := inClass (topS 1) 4
theorem sc_File__content : FnScope ["self"] ["self"] (defScope s_File__content) := ⟨rfl, rfl, rfl, by decide +kernel, rfl, by decide +kernel, by decide +kernel⟩
def b_File__content : MS :=
 (mRet (mCallO sem_after_steps (lenIs 2 (maCons (mUn (gFld FT "lasting") (mVar 0)) (maCons (mUn (gFld FT "steps") (mVar 0)) maNil)))))
def sem_File__content : Sem1 := runB 1 1 b_File__content
/-! ### _law_holds: 0=file 1=state 2=told -/
abbrev s__law_holds : Stmt := topS 7
theorem sc__law_holds : FnScope ["file", "state", "told"] ["file", "state"] (defScope s__law_holds) := ⟨rfl, rfl, rfl, by decide +kernel, rfl, by decide +kernel, by decide +kernel⟩
def b__law_holds : MS :=
 (mSeq (mIf (mOrT (mTB (mBin (gEq true) (mMeth "File" "content" 1 sem_File__content (mVar 0) maNil) (mCallP sem__law_after (lenIs 2 (maCons (mBin gGet (mVar 1) (mC (.str "lasting"))) (maCons (mBin gGet (mVar 1) (mC (.str "steps"))) maNil)))))) (mTB (mBin (gEq true) (mMeth "File" "pending" 1 sem_File__pending (mVar 0) maNil) (mUn gLen (mBin gGet (mVar 1) (mC (.str "steps"))))))) (mRet (mC (.bl false))) mNx)
 (mSeq (mSet 2 (mMeth "File" "content" 1 sem_File__content (mVar 0) maNil))
 (mSeq (mDrop (mM1 tokL gApp (mVar 2) (mC (.int 7))))
 (mRet (mBin (gEq true) (mMeth "File" "content" 1 sem_File__content (mVar 0) maNil) (mVar 2))))))
def sem__law_holds : Sem1 := runB 2 3 b__law_holds
/-! ### law: 0=script 1=file 2=other 3=state 4=k 5=other_number 6=asked -/
abbrev s_law : Stmt := topS 8
theorem sc_law : FnScope ["script", "file", "other", "state", "k", "other_number", "asked"] ["script"] (defScope s_law) := ⟨rfl, rfl, rfl, by decide +kernel, rfl, by decide +kernel, by decide +kernel⟩
def B1_law : MS :=
 (mSeq (mSet 5 (mCallP sem__law_draw (lenIs 2 (maCons (mVar 0) (maCons (mBin (gAdd false) (mC (.int 64)) (mVar 4)) maNil)))))
 (mSeq (mIf (mNotT (mTru (mCall sem__law_deed (lenIs 4 (maCons (mVar 1) (maCons (mVar 3) (maCons (mCallP sem__law_draw (lenIs 2 (maCons (mVar 0) (maCons (mVar 4) maNil)))) (maCons (mVar 5) maNil)))))))) (mRet (mC (.bl false))) mNx)
 (mSeq (mSet 6 (mBin gMod (mBin gDiv (mVar 5) (mC (.int 3))) (mC (.int 4))))
 (mSeq (mIf (mAndT (mTB (mBin (gEq false) (mVar 6) (mC (.int 1)))) (mTB (mBin (gEq true) (mMeth "File" "pending" 1 sem_File__pending (mVar 1) maNil) (mUn gLen (mBin gGet (mVar 3) (mC (.str "steps"))))))) (mRet (mC (.bl false))) mNx)
 (mIf (mAndT (mTB (mBin (gEq false) (mVar 6) (mC (.int 2)))) (mNotT (mTru (mCall sem__law_holds (lenIs 2 (maCons (mVar 1) (maCons (mVar 3) maNil))))))) (mRet (mC (.bl false))) mNx)))))
def L1_law : MS :=
 (mFor (mRange1 (mBin gMin2 (mC (.int 30)) (mUn gLen (mVar 0)))) (mgName 4) B1_law)
def b_law : MS :=
 (mSeq (mSet 1 (mMake "File" 1 sem_File____init__ maNil))
 (mSeq (mSet 2 (mMake "File" 1 sem_File____init__ maNil))
 (mSeq (mDrop (mMeth "File" "write" 3 sem_File__write (mVar 2) (maCons (mLst false (maCons (mC (.int 1)) (maCons (mC (.int 2)) maNil))) (maCons (mC .non) maNil))))
 (mSeq (mDrop (mMeth "File" "flush" 2 sem_File__flush (mVar 2) (maCons (mC .non) maNil)))
 (mSeq (mDrop (mMeth "File" "write" 3 sem_File__write (mVar 2) (maCons (mLst false (maCons (mC (.int 3)) maNil)) (maCons (mC .non) maNil))))
 (mSeq (mSet 3 (mDict [(.inr "lasting"), (.inr "steps")] [(mLst false maNil), (mLst false maNil)]))
 (mSeq L1_law
 (mSeq (mIf (mAndT (mTB (mBin (gEq true) (mVar 0) (mLst false maNil))) (mAndT (mTB (mBin (gEq false) (mBin gMod (mCallP sem__law_draw (lenIs 2 (maCons (mVar 0) (maCons (mC (.int 1)) maNil)))) (mC (.int 2))) (mC (.int 0)))) (mNotT (mTru (mCall sem__law_holds (lenIs 2 (maCons (mVar 1) (maCons (mVar 3) maNil)))))))) (mRet (mC (.bl false))) mNx)
 (mSeq (mIf (mTB (mBin (gEq true) (mMeth "File" "pending" 1 sem_File__pending (mVar 1) maNil) (mUn gLen (mBin gGet (mVar 3) (mC (.str "steps")))))) (mRet (mC (.bl false))) mNx)
 (mSeq (mDrop (mMeth "File" "lose" 2 sem_File__lose (mVar 1) (maCons (mC (.int 0)) maNil)))
 (mSeq (mIf (mOrT (mTB (mBin (gEq true) (mMeth "File" "content" 1 sem_File__content (mVar 2) maNil) (mLst false (maCons (mC (.int 1)) (maCons (mC (.int 2)) (maCons (mC (.int 3)) maNil)))))) (mTB (mBin (gEq true) (mMeth "File" "pending" 1 sem_File__pending (mVar 2) maNil) (mC (.int 1))))) (mRet (mC (.bl false))) mNx)
 (mRet (mAndV (mBin (gEq false) (mMeth "File" "content" 1 sem_File__content (mVar 1) maNil) (mBin gGet (mVar 3) (mC (.str "lasting")))) (mBin (gEq false) (mMeth "File" "pending" 1 sem_File__pending (mVar 1) maNil) (mC (.int 0))))))))))))))))
def sem_law : Sem1 := runB 1 7 b_law
section
variable {Pr : Program} {w : World} {K : PySem.W.Frag} {mg : Str → Option Value} {base : Heap}
theorem ok_File____init__ (hT : ClsT K FT) (S : SrcM K "File" "__init__" s_File____init__ ["self"] "File.__init__")  : DefM Pr w K mg base 1 "File" "__init__" ["self"] sem_File____init__ :=
  defM_tr S sc_File____init__ b_File____init__ (fun fa cdv A outer s H Ex hr tk hp => by
      have nd := sc_File____init__.nd
      exact (rss_cons (rs_setF hT (rx_var 0) (rx_lst false ra_nil))
 (rss_one (rs_setF hT (rx_var 0) (rx_lst true ra_nil)))))
theorem ok_File__write (hT : ClsT K FT) (S : SrcM K "File" "write" s_File__write ["self", "data", "steps"] "File.write") (z_len : mg "len" = none) : DefM Pr w K mg base 1 "File" "write" ["self", "data", "steps"] sem_File__write :=
  defM_tr S sc_File__write b_File__write (fun fa cdv A outer s H Ex hr tk hp => by
      have nd := sc_File__write.nd
      exact (rss_cons (rs_set (i := 3) nd (rx_b1 call_len og_len (rx_var 1) z_len))
 (rss_cons (rs_if (RWt.rt (rw_and (rt_cmp op_isNotA og_is (rx_var 2) rx_non (nomark _)) (rw_and1 (rt_cmp op_lt og_lt (rx_var 2) (rx_var 3) (nomark _))))) (rss_one (rs_set (i := 3) nd (rx_var 2))) rss_nil)
 (rss_cons (rs_for (is := [4]) hp rfl (ri_items (rx_slice false (rx_var 1) ro_none (ro_some (rx_var 3)))) (rg_name (i := 4) nd) (rss_one (rs_drop (rx_append (rx_fld hT (rx_var 0)) (rx_tup (ra_cons rx_str (ra_cons (rx_var 4) ra_nil)))))))
 (rss_one (rs_ret (rx_var 3)))))))
theorem ok_after_steps (hT : ClsT K FT) (S : Src K mg "after_steps" s_after_steps ["data", "steps"]) (z_list : mg "list" = none) : Def Pr w K mg base 1 "after_steps" ["data", "steps"] sem_after_steps :=
  def_tr S sc_after_steps b_after_steps (fun fa cdv A outer s H Ex hr tk hp => by
      have nd := sc_after_steps.nd
      exact (rss_cons (rs_set (i := 2) nd (rx_t1 call_list_of og_lstOf (rx_var 0) z_list))
 (rss_cons (rs_for (is := [3, 4]) hp rfl (ri_items (rx_var 1)) (rg_tup rfl (rgs_cons (rg_name (i := 3) nd) (rgs_cons (rg_name (i := 4) nd) rgs_nil)) 2) (rss_one (rs_if (rt_cmp (op_eqD (Room_u64 hr)) og_eq (rx_var 3) rx_str (nomark _)) (rss_one (rs_drop (rx_append (rx_var 2) (rx_var 4)))) (rss_one (rs_set (i := 2) nd (rx_slice true (rx_var 2) ro_none (ro_some (rx_var 4))))))))
 (rss_one (rs_ret (rx_var 2))))))
theorem ok_File__lose (hT : ClsT K FT) (S : SrcM K "File" "lose" s_File__lose ["self", "steps"] "File.lose") (d_after_steps : Def Pr w K mg base 1 "after_steps" ["data", "steps"] sem_after_steps) : DefM Pr w K mg base 2 "File" "lose" ["self", "steps"] sem_File__lose :=
  defM_tr S sc_File__lose b_File__lose (fun fa cdv A outer s H Ex hr tk hp => by
      have nd := sc_File__lose.nd
      exact (rss_cons (rs_setF hT (rx_var 0) (rx_callP tk d_after_steps hr (by decide) (ra_cons (rx_fld hT (rx_var 0)) (ra_cons (rx_slice false (rx_fld hT (rx_var 0)) ro_none (ro_some (rx_var 1))) ra_nil))))
 (rss_one (rs_setF hT (rx_var 0) (rx_lst true ra_nil)))))
theorem ok_File__flush (hT : ClsT K FT) (S : SrcM K "File" "flush" s_File__flush ["self", "steps"] "File.flush") (d_File__lose : DefM Pr w K mg base 2 "File" "lose" ["self", "steps"] sem_File__lose) (z_len : mg "len" = none) : DefM Pr w K mg base 3 "File" "flush" ["self", "steps"] sem_File__flush :=
  defM_tr S sc_File__flush b_File__flush (fun fa cdv A outer s H Ex hr tk hp => by
      have nd := sc_File__flush.nd
      exact (rss_cons (rs_if (rt_cmp (op_eqD (Room_u64 hr)) og_eq (rx_var 1) rx_int (nomark _)) (rss_one (rs_ret rx_int)) rss_nil)
 (rss_cons (rs_drop (rx_meth tk d_File__lose hr (by decide) (rx_var 0) (ra_cons (rx_b1 call_len og_len (rx_fld hT (rx_var 0)) z_len) ra_nil)))
 (rss_one (rs_ret rx_int)))))
theorem ok__law_draw (hT : ClsT K FT) (S : Src K mg "_law_draw" s__law_draw ["script", "k"]) (z_int : mg "int" = none) (z_len : mg "len" = none) (z_min : mg "min" = none) (z_range : mg "range" = none) : Def Pr w K mg base 1 "_law_draw" ["script", "k"] sem__law_draw :=
  def_tr S sc__law_draw b__law_draw (fun fa cdv A outer s H Ex hr tk hp => by
      have nd := sc__law_draw.nd
      exact (rss_cons (rs_if (rt_not (rt_truth (rx_var 0))) (rss_one (rs_ret (rx_bin op_mod og_mod (rx_bin op_mulB og_mul (rx_var 1) rx_int) rx_int))) rss_nil)
 (rss_cons (rs_set (i := 2) nd (rx_t1 call_int1 og_int (rx_sub (Room_u1 hr) (rx_var 0) (rx_bin op_mod og_mod (rx_var 1) (rx_b1 call_len og_len (rx_var 0) z_len))) z_int))
 (rss_cons (rs_set (i := 3) nd (rx_bin op_fdivW og_div (rx_var 1) (rx_b1 call_len og_len (rx_var 0) z_len)))
 (rss_cons (rs_if (rt_cmp op_ge og_ge (rx_var 2) rx_int (nomark _)) (rss_cons (rs_for (is := [4]) hp rfl (ri_range1 (rx_b2 (call_min2 rfl) og_min2 (rx_var 3) rx_int z_min) z_range) (rg_name (i := 4) nd) (rss_one (rs_set (i := 2) nd (rx_bin op_fdivW og_div (rx_var 2) rx_int))))
 (rss_one (rs_ret (rx_bin op_mod og_mod (rx_var 2) rx_int)))) rss_nil)
 (rss_one (rs_ret (rx_bin op_mod og_mod (rx_bin op_mulB og_mul (rx_bin op_mod og_mod (rx_bin op_addA og_add (rx_bin op_addA og_add (rx_bin op_mulB og_mul (rx_var 2) rx_int) (rx_bin op_mulB og_mul (rx_var 1) rx_int)) rx_int) rx_int) rx_int) rx_int))))))))
theorem ok_File__pending (hT : ClsT K FT) (S : SrcM K "File" "pending" s_File__pending ["self"] "File.pending") (z_len : mg "len" = none) : DefM Pr w K mg base 1 "File" "pending" ["self"] sem_File__pending :=
  defM_tr S sc_File__pending b_File__pending (fun fa cdv A outer s H Ex hr tk hp => by
      have nd := sc_File__pending.nd
      exact (rss_one (rs_ret (rx_b1 call_len og_len (rx_fld hT (rx_var 0)) z_len))))
theorem ok__law_after (hT : ClsT K FT) (S : Src K mg "_law_after" s__law_after ["data", "steps"]) (z_list : mg "list" = none) : Def Pr w K mg base 1 "_law_after" ["data", "steps"] sem__law_after :=
  def_tr S sc__law_after b__law_after (fun fa cdv A outer s H Ex hr tk hp => by
      have nd := sc__law_after.nd
      exact (rss_cons (rs_set (i := 0) nd (rx_t1 call_list_of og_lstOf (rx_var 0) z_list))
 (rss_cons (rs_for (is := [2]) hp rfl (ri_items (rx_var 1)) (rg_name (i := 2) nd) (rss_one (rs_if (rt_cmp (op_eqD (Room_u64 hr)) og_eq (rx_sub (Room_u1 hr) (rx_var 2) rx_int) rx_int (nomark _)) (rss_one (rs_drop (rx_append (rx_var 0) (rx_sub (Room_u1 hr) (rx_var 2) rx_int)))) (rss_one (rs_set (i := 0) nd (rx_slice true (rx_var 0) ro_none (ro_some (rx_sub (Room_u1 hr) (rx_var 2) rx_int))))))))
 (rss_one (rs_ret (rx_var 0))))))
theorem ok_File__shorten (hT : ClsT K FT) (S : SrcM K "File" "shorten" s_File__shorten ["self", "size", "steps"] "File.shorten")  : DefM Pr w K mg base 1 "File" "shorten" ["self", "size", "steps"] sem_File__shorten :=
  defM_tr S sc_File__shorten b_File__shorten (fun fa cdv A outer s H Ex hr tk hp => by
      have nd := sc_File__shorten.nd
      exact (rss_cons (rs_if (rt_cmp (op_eqD (Room_u64 hr)) og_eq (rx_var 2) rx_int (nomark _)) (rss_one (rs_ret rx_int)) rss_nil)
 (rss_cons (rs_drop (rx_append (rx_fld hT (rx_var 0)) (rx_tup (ra_cons rx_str (ra_cons (rx_var 1) ra_nil)))))
 (rss_one (rs_ret rx_int)))))
theorem ok__law_deed (hT : ClsT K FT) (S : Src K mg "_law_deed" s__law_deed ["file", "state", "number", "other"]) (d_File__flush : DefM Pr w K mg base 3 "File" "flush" ["self", "steps"] sem_File__flush) (d_File__lose : DefM Pr w K mg base 2 "File" "lose" ["self", "steps"] sem_File__lose) (d_File__shorten : DefM Pr w K mg base 1 "File" "shorten" ["self", "size", "steps"] sem_File__shorten) (d_File__write : DefM Pr w K mg base 1 "File" "write" ["self", "data", "steps"] sem_File__write) (d__law_after : Def Pr w K mg base 1 "_law_after" ["data", "steps"] sem__law_after) (z_len : mg "len" = none) (z_list : mg "list" = none) (z_range : mg "range" = none) : Def Pr w K mg base 4 "_law_deed" ["file", "state", "number", "other"] sem__law_deed :=
  def_tr S sc__law_deed b__law_deed (fun fa cdv A outer s H Ex hr tk hp => by
      have nd := sc__law_deed.nd
      exact (rss_cons (rs_set (i := 4) nd (rx_bin op_mod og_mod (rx_var 2) rx_int))
 (rss_cons (rs_set (i := 5) nd rx_non)
 (rss_cons (rs_if (rt_cmp (op_eqD (Room_u64 hr)) og_eq (rx_bin op_mod og_mod (rx_bin op_fdivW og_div (rx_var 2) rx_int) rx_int) rx_int (nomark _)) (rss_one (rs_set (i := 5) nd (rx_bin op_mod og_mod (rx_bin op_fdivW og_div (rx_var 2) rx_int) (rx_sub (Room_u1 hr) (rx_lst false (ra_cons rx_int (ra_cons rx_int (ra_cons rx_int ra_nil)))) (rx_bin op_mod og_mod (rx_bin op_fdivW og_div (rx_var 2) rx_int) rx_int))))) rss_nil)
 (rss_cons (rs_if (rt_cmp op_le og_le (rx_var 4) rx_int (nomark _)) (rss_cons (rs_set (i := 6) nd (rx_sub (Room_u1 hr) (rx_lst false (ra_cons rx_int (ra_cons rx_int (ra_cons rx_int ra_nil)))) (rx_bin op_mod og_mod (rx_bin op_fdivW og_div (rx_var 3) rx_int) rx_int)))
 (rss_cons (rs_setLc false (i := 7) rfl nd [("k", 8)] (ri_range1 (rx_bin op_mod og_mod (rx_var 3) (rx_sub (Room_u1 hr) (rx_lst false (ra_cons rx_int (ra_cons rx_int (ra_cons rx_int (ra_cons rx_int ra_nil))))) (rx_bin op_mod og_mod (rx_bin op_fdivW og_div (rx_var 3) rx_int) rx_int))) z_range) (fun _ _ _ _ _ => (rg_name (i := 8) nd)) (fun _ _ _ _ _ => rts_nil) (fun _ _ _ _ _ => (rx_bin op_mod og_mod (rx_bin op_addA og_add (rx_var 2) (rx_bin op_mulB og_mul (rx_var 6) (rx_var 8))) rx_int)) (blkOk_by (N := ["file", "state", "number", "other", "kind", "limit", "step", "data", "k", "count", "given", "done", "byte", "size"]) (sc := defScope s__law_deed) (by decide +kernel)) (sw_true rfl rfl rfl (by decide +kernel)))
 (rss_cons (rs_set (i := 9) nd (rx_b1 call_len og_len (rx_var 7) z_len))
 (rss_cons (rs_if (RWt.rt (rw_and (rt_cmp op_isNotA og_is (rx_var 5) rx_non (nomark _)) (rw_and1 (rt_cmp op_lt og_lt (rx_var 5) (rx_var 9) (nomark _))))) (rss_one (rs_set (i := 9) nd (rx_var 5))) rss_nil)
 (rss_cons (rs_set (i := 10) nd (rx_t1 call_list_of og_lstOf (rx_var 7) z_list))
 (rss_cons (rs_set (i := 11) nd (rx_meth tk d_File__write hr (by decide) (rx_var 0) (ra_cons (rx_var 10) (ra_cons (rx_var 5) ra_nil))))
 (rss_cons (rs_if (rt_cmp (op_neD (Room_u64 hr)) og_ne (rx_var 10) (rx_var 7) (nomark _)) (rss_one (rs_ret rx_bl)) rss_nil)
 (rss_cons (rs_drop (rx_append (rx_var 10) rx_int))
 (rss_cons (rs_drop (rx_reverse (rx_var 10)))
 (rss_cons (rs_setD (Room_u1 hr) (rx_var 1) rx_str (rx_bin op_addA og_add (rx_sub (Room_u1 hr) (rx_var 1) rx_str) (rx_lc false rfl nd [("byte", 12)] (ri_items (rx_slice false (rx_var 7) ro_none (ro_some (rx_var 9)))) (fun _ _ _ _ _ => (rg_name (i := 12) nd)) (fun _ _ _ _ _ => rts_nil) (fun _ _ _ _ _ => (rx_tup (ra_cons rx_int (ra_cons (rx_var 12) ra_nil)))) (blkOk_by (N := ["file", "state", "number", "other", "kind", "limit", "step", "data", "k", "count", "given", "done", "byte", "size"]) (sc := defScope s__law_deed) (by decide +kernel)))))
 (rss_one (rs_ret (rx_cmp (op_eqD (Room_u64 hr)) og_eq (rx_var 11) (rx_var 9) (nomark _)))))))))))))) rss_nil)
 (rss_cons (rs_if (rt_cmp op_le og_le (rx_var 4) rx_int (nomark _)) (rss_cons (rs_set (i := 13) nd (rx_bin op_mod og_mod (rx_var 3) (rx_bin op_addA og_add (rx_sub (Room_u1 hr) (rx_lst false (ra_cons rx_int (ra_cons rx_int (ra_cons rx_int ra_nil)))) (rx_bin op_mod og_mod (rx_bin op_fdivW og_div (rx_var 3) rx_int) rx_int)) (rx_b1 call_len og_len (rx_callP tk d__law_after hr (by decide) (ra_cons (rx_sub (Room_u1 hr) (rx_var 1) rx_str) (ra_cons (rx_sub (Room_u1 hr) (rx_var 1) rx_str) ra_nil))) z_len))))
 (rss_cons (rs_set (i := 11) nd (rx_meth tk d_File__shorten hr (by decide) (rx_var 0) (ra_cons (rx_var 13) (ra_cons (rx_var 5) ra_nil))))
 (rss_cons (rs_if (rt_cmp (op_eqD (Room_u64 hr)) og_eq (rx_var 5) rx_int (nomark _)) (rss_one (rs_ret (rx_cmp (op_eqD (Room_u64 hr)) og_eq (rx_var 11) rx_int (nomark _)))) rss_nil)
 (rss_cons (rs_setD (Room_u1 hr) (rx_var 1) rx_str (rx_bin op_addA og_add (rx_sub (Room_u1 hr) (rx_var 1) rx_str) (rx_lst false (ra_cons (rx_tup (ra_cons rx_int (ra_cons (rx_var 13) ra_nil))) ra_nil))))
 (rss_one (rs_ret (rx_cmp (op_eqD (Room_u64 hr)) og_eq (rx_var 11) rx_int (nomark _)))))))) rss_nil)
 (rss_cons (rs_if (rt_cmp (op_eqD (Room_u64 hr)) og_eq (rx_var 4) rx_int (nomark _)) (rss_cons (rs_set (i := 11) nd (rx_meth tk d_File__flush hr (by decide) (rx_var 0) (ra_cons (rx_var 5) ra_nil)))
 (rss_cons (rs_if (rt_cmp (op_eqD (Room_u64 hr)) og_eq (rx_var 5) rx_int (nomark _)) (rss_one (rs_ret (rx_cmp (op_eqD (Room_u64 hr)) og_eq (rx_var 11) rx_int (nomark _)))) rss_nil)
 (rss_cons (rs_setD (Room_u1 hr) (rx_var 1) rx_str (rx_callP tk d__law_after hr (by decide) (ra_cons (rx_sub (Room_u1 hr) (rx_var 1) rx_str) (ra_cons (rx_sub (Room_u1 hr) (rx_var 1) rx_str) ra_nil))))
 (rss_cons (rs_setD (Room_u1 hr) (rx_var 1) rx_str (rx_lst false ra_nil))
 (rss_one (rs_ret (rx_cmp (op_eqD (Room_u64 hr)) og_eq (rx_var 11) rx_int (nomark _)))))))) rss_nil)
 (rss_cons (rs_set (i := 9) nd (rx_bin op_mod og_mod (rx_bin op_fdivW og_div (rx_var 2) rx_int) (rx_bin op_addA og_add rx_int (rx_b1 call_len og_len (rx_sub (Room_u1 hr) (rx_var 1) rx_str) z_len))))
 (rss_cons (rs_drop (rx_meth tk d_File__lose hr (by decide) (rx_var 0) (ra_cons (rx_var 9) ra_nil)))
 (rss_cons (rs_setD (Room_u1 hr) (rx_var 1) rx_str (rx_callP tk d__law_after hr (by decide) (ra_cons (rx_sub (Room_u1 hr) (rx_var 1) rx_str) (ra_cons (rx_slice false (rx_sub (Room_u1 hr) (rx_var 1) rx_str) ro_none (ro_some (rx_var 9))) ra_nil))))
 (rss_cons (rs_setD (Room_u1 hr) (rx_var 1) rx_str (rx_lst false ra_nil))
 (rss_one (rs_ret rx_bl)))))))))))))
theorem ok_File__content (hT : ClsT K FT) (S : SrcM K "File" "content" s_File__content ["self"] "File.content") (d_after_steps : Def Pr w K mg base 1 "after_steps" ["data", "steps"] sem_after_steps) : DefM Pr w K mg base 2 "File" "content" ["self"] sem_File__content :=
  defM_tr S sc_File__content b_File__content (fun fa cdv A outer s H Ex hr tk hp => by
      have nd := sc_File__content.nd
      exact (rss_one (rs_ret (rx_callO tk d_after_steps hr (by decide) (ra_cons (rx_fld hT (rx_var 0)) (ra_cons (rx_fld hT (rx_var 0)) ra_nil))))))
theorem ok__law_holds (hT : ClsT K FT) (S : Src K mg "_law_holds" s__law_holds ["file", "state"]) (d_File__content : DefM Pr w K mg base 2 "File" "content" ["self"] sem_File__content) (d_File__pending : DefM Pr w K mg base 1 "File" "pending" ["self"] sem_File__pending) (d__law_after : Def Pr w K mg base 1 "_law_after" ["data", "steps"] sem__law_after) (z_len : mg "len" = none) : Def Pr w K mg base 3 "_law_holds" ["file", "state"] sem__law_holds :=
  def_tr S sc__law_holds b__law_holds (fun fa cdv A outer s H Ex hr tk hp => by
      have nd := sc__law_holds.nd
      exact (rss_cons (rs_if (RWt.rt (rw_or (rt_cmp (op_neD (Room_u64 hr)) og_ne (rx_meth0 tk d_File__content hr (by decide) (rx_var 0)) (rx_callP tk d__law_after hr (by decide) (ra_cons (rx_sub (Room_u1 hr) (rx_var 1) rx_str) (ra_cons (rx_sub (Room_u1 hr) (rx_var 1) rx_str) ra_nil))) (nomark _)) (rw_or1 (rt_cmp (op_neD (Room_u64 hr)) og_ne (rx_meth0 tk d_File__pending hr (by decide) (rx_var 0)) (rx_b1 call_len og_len (rx_sub (Room_u1 hr) (rx_var 1) rx_str) z_len) (nomark _))))) (rss_one (rs_ret rx_bl)) rss_nil)
 (rss_cons (rs_set (i := 2) nd (rx_meth0 tk d_File__content hr (by decide) (rx_var 0)))
 (rss_cons (rs_drop (rx_append (rx_var 2) rx_int))
 (rss_one (rs_ret (rx_cmp (op_neD (Room_u64 hr)) og_ne (rx_meth0 tk d_File__content hr (by decide) (rx_var 0)) (rx_var 2) (nomark _))))))))
theorem ok_law {fa : Addr} {fd : FuncData} (hT : ClsT K FT) (F : Fun K "law" "law" s_law fa fd) (d_File____init__ : DefM Pr w K mg base 1 "File" "__init__" ["self"] sem_File____init__) (d_File__content : DefM Pr w K mg base 2 "File" "content" ["self"] sem_File__content) (d_File__flush : DefM Pr w K mg base 3 "File" "flush" ["self", "steps"] sem_File__flush) (d_File__lose : DefM Pr w K mg base 2 "File" "lose" ["self", "steps"] sem_File__lose) (d_File__pending : DefM Pr w K mg base 1 "File" "pending" ["self"] sem_File__pending) (d_File__write : DefM Pr w K mg base 1 "File" "write" ["self", "data", "steps"] sem_File__write) (d__law_deed : Def Pr w K mg base 4 "_law_deed" ["file", "state", "number", "other"] sem__law_deed) (d__law_draw : Def Pr w K mg base 1 "_law_draw" ["script", "k"] sem__law_draw) (d__law_holds : Def Pr w K mg base 3 "_law_holds" ["file", "state"] sem__law_holds) (k_File : MkC K mg "File") (z_len : mg "len" = none) (z_min : mg "min" = none) (z_range : mg "range" = none) : FnOk Pr w K mg base CX0 5 fa fd ["script"] (fun vs H Q _ => spQ K 1 sem_law vs H Q E0) :=
  fn_tr0 b_law F sc_law (fun _ _ _ h => h) (fun cdv A outer s H Ex hr tk hp => by
      have nd := sc_law.nd
      exact (rss_cons (rs_set (i := 1) nd (rx_make0 tk k_File d_File____init__ hr (by decide)))
 (rss_cons (rs_set (i := 2) nd (rx_make0 tk k_File d_File____init__ hr (by decide)))
 (rss_cons (rs_drop (rx_meth tk d_File__write hr (by decide) (rx_var 2) (ra_cons (rx_lst false (ra_cons rx_int (ra_cons rx_int ra_nil))) (ra_cons rx_non ra_nil))))
 (rss_cons (rs_drop (rx_meth tk d_File__flush hr (by decide) (rx_var 2) (ra_cons rx_non ra_nil)))
 (rss_cons (rs_drop (rx_meth tk d_File__write hr (by decide) (rx_var 2) (ra_cons (rx_lst false (ra_cons rx_int ra_nil)) (ra_cons rx_non ra_nil))))
 (rss_cons (rs_set (i := 3) nd (rx_dict (.cons (k := (.inr "lasting")) pe_str (rx_lst false ra_nil) (.cons (k := (.inr "steps")) pe_str (rx_lst false ra_nil) .nil)) (by decide +kernel)))
 (rss_cons (rs_for (is := [4]) hp rfl (ri_range1 (rx_b2 (call_min2 rfl) og_min2 rx_int (rx_b1 call_len og_len (rx_var 0) z_len) z_min) z_range) (rg_name (i := 4) nd) (rss_cons (rs_set (i := 5) nd (rx_callP tk d__law_draw hr (by decide) (ra_cons (rx_var 0) (ra_cons (rx_bin op_addA og_add rx_int (rx_var 4)) ra_nil))))
 (rss_cons (rs_if (rt_not (rt_truth (rx_call tk d__law_deed hr (by decide) (ra_cons (rx_var 1) (ra_cons (rx_var 3) (ra_cons (rx_callP tk d__law_draw hr (by decide) (ra_cons (rx_var 0) (ra_cons (rx_var 4) ra_nil))) (ra_cons (rx_var 5) ra_nil))))))) (rss_one (rs_ret rx_bl)) rss_nil)
 (rss_cons (rs_set (i := 6) nd (rx_bin op_mod og_mod (rx_bin op_fdivW og_div (rx_var 5) rx_int) rx_int))
 (rss_cons (rs_if (RWt.rt (rw_and (rt_cmp (op_eqD (Room_u64 hr)) og_eq (rx_var 6) rx_int (nomark _)) (rw_and1 (rt_cmp (op_neD (Room_u64 hr)) og_ne (rx_meth0 tk d_File__pending hr (by decide) (rx_var 1)) (rx_b1 call_len og_len (rx_sub (Room_u1 hr) (rx_var 3) rx_str) z_len) (nomark _))))) (rss_one (rs_ret rx_bl)) rss_nil)
 (rss_one (rs_if (RWt.rt (rw_and (rt_cmp (op_eqD (Room_u64 hr)) og_eq (rx_var 6) rx_int (nomark _)) (rw_and1 (rt_not (rt_truth (rx_call tk d__law_holds hr (by decide) (ra_cons (rx_var 1) (ra_cons (rx_var 3) ra_nil)))))))) (rss_one (rs_ret rx_bl)) rss_nil)))))))
 (rss_cons (rs_if (RWt.rt (rw_and (rt_cmp (op_neD (Room_u64 hr)) og_ne (rx_var 0) (rx_lst false ra_nil) (nomark _)) (rw_and (rt_cmp (op_eqD (Room_u64 hr)) og_eq (rx_bin op_mod og_mod (rx_callP tk d__law_draw hr (by decide) (ra_cons (rx_var 0) (ra_cons rx_int ra_nil))) rx_int) rx_int (nomark _)) (rw_and1 (rt_not (rt_truth (rx_call tk d__law_holds hr (by decide) (ra_cons (rx_var 1) (ra_cons (rx_var 3) ra_nil))))))))) (rss_one (rs_ret rx_bl)) rss_nil)
 (rss_cons (rs_if (rt_cmp (op_neD (Room_u64 hr)) og_ne (rx_meth0 tk d_File__pending hr (by decide) (rx_var 1)) (rx_b1 call_len og_len (rx_sub (Room_u1 hr) (rx_var 3) rx_str) z_len) (nomark _)) (rss_one (rs_ret rx_bl)) rss_nil)
 (rss_cons (rs_drop (rx_meth tk d_File__lose hr (by decide) (rx_var 1) (ra_cons rx_int ra_nil)))
 (rss_cons (rs_if (RWt.rt (rw_or (rt_cmp (op_neD (Room_u64 hr)) og_ne (rx_meth0 tk d_File__content hr (by decide) (rx_var 2)) (rx_lst false (ra_cons rx_int (ra_cons rx_int (ra_cons rx_int ra_nil)))) (nomark _)) (rw_or1 (rt_cmp (op_neD (Room_u64 hr)) og_ne (rx_meth0 tk d_File__pending hr (by decide) (rx_var 2)) rx_int (nomark _))))) (rss_one (rs_ret rx_bl)) rss_nil)
 (rss_one (rs_ret (rx_and (rx_cmp (op_eqD (Room_u64 hr)) og_eq (rx_meth0 tk d_File__content hr (by decide) (rx_var 1)) (rx_sub (Room_u1 hr) (rx_var 3) rx_str) (nomark _)) (rx_one (rx_cmp (op_eqD (Room_u64 hr)) og_eq (rx_meth0 tk d_File__pending hr (by decide) (rx_var 1)) rx_int (nomark _))))))))))))))))))
end
/-! ### all defs -/
theorem all_mk {l : PySem.W.OpenLaw} {w : World} {K : PySem.W.Frag} {h : Heap} {mg : Str → Option Value} {fa : Addr} (X : K.In h) (G : h.Ns mainGlobals mg) (hfa : mg "law" = some (.ref fa))
    {f0 f1 f2 f3 f4 f5 f6 f7 f8 f9 f10 f11 f12 C_File : Addr} {od0 an0 od1 an1 od2 an2 od3 an3 od4 an4 od5 an5 od6 an6 od7 an7 od8 an8 od9 an9 od10 an10 od11 an11 od12 an12 : Option Addr} {sl0 sl1 sl2 sl3 sl4 sl5 sl6 sl7 sl8 sl9 sl10 sl11 sl12 : Array (Option Value)} {oc0 kV0 dc0 pm0 cd0 ct0 oc1 kV1 dc1 pm1 cd1 ct1 oc2 kV2 dc2 pm2 cd2 ct2 oc3 kV3 dc3 pm3 cd3 ct3 oc4 kV4 dc4 pm4 cd4 ct4 oc5 kV5 dc5 pm5 cd5 ct5 oc6 kV6 dc6 pm6 cd6 ct6 oc7 kV7 dc7 pm7 cd7 ct7 oc8 kV8 dc8 pm8 cd8 ct8 oc9 kV9 dc9 pm9 cd9 ct9 oc10 kV10 dc10 pm10 cd10 ct10 oc11 kV11 dc11 pm11 cd11 ct11 oc12 kV12 dc12 pm12 cd12 ct12 : Value}
    (a_File : PySem.W.nsIn K mainGlobals "File" = some (some (.ref C_File))) (pg_File : PySem.W.plainGet K C_File Str.empty = true) (hd_File : PySem.W.hasDictIn K C_File = true) (po_File : PySem.W.plainOver K C_File = true) (sa_File : PySem.W.findIn K (.ref C_File) "__setattr__" = some (some (.builtin "object.__setattr__")))
    (n_File_lasting : PySem.W.findIn K (.ref C_File) "lasting" = some none)
    (n_File_steps : PySem.W.findIn K (.ref C_File) "steps" = some none)
    (mk_File : PySem.W.makesIn K C_File = true) (kc_File : PySem.W.keepIn K (.ref C_File) = true)
    (a0 : PySem.W.findIn K (.ref C_File) "__init__" = some (some (.ref f0))) (i0 : PySem.W.isFn K (.ref f0) = true)
    (l0 : K.lookup f0 = some ⟨oc0, od0, .func (PySem.W.fnOf "__init__" "File.__init__" (defArgs s_File____init__) (defBody s_File____init__) (defScope s_File____init__) .none kV0 dc0 pm0 an0 cd0 ct0), sl0⟩) (c0 : PySem.W.codeIn K cd0 "File.__init__" = true) (k0 : PySem.W.keepIn K (.ref f0) = true)
    (a1 : PySem.W.findIn K (.ref C_File) "write" = some (some (.ref f1))) (i1 : PySem.W.isFn K (.ref f1) = true)
    (l1 : K.lookup f1 = some ⟨oc1, od1, .func (PySem.W.fnOf "write" "File.write" (defArgs s_File__write) (defBody s_File__write) (defScope s_File__write) .none kV1 dc1 pm1 an1 cd1 ct1), sl1⟩) (c1 : PySem.W.codeIn K cd1 "File.write" = true) (k1 : PySem.W.keepIn K (.ref f1) = true)
    (a2 : PySem.W.nsIn K mainGlobals "after_steps" = some (some (.ref f2)))
    (l2 : K.lookup f2 = some ⟨oc2, od2, .func (PySem.W.fnOf "after_steps" "after_steps" (defArgs s_after_steps) (defBody s_after_steps) (defScope s_after_steps) .none kV2 dc2 pm2 an2 cd2 ct2), sl2⟩) (c2 : PySem.W.codeIn K cd2 "after_steps" = true) (k2 : PySem.W.keepIn K (.ref f2) = true)
    (a3 : PySem.W.findIn K (.ref C_File) "lose" = some (some (.ref f3))) (i3 : PySem.W.isFn K (.ref f3) = true)
    (l3 : K.lookup f3 = some ⟨oc3, od3, .func (PySem.W.fnOf "lose" "File.lose" (defArgs s_File__lose) (defBody s_File__lose) (defScope s_File__lose) .none kV3 dc3 pm3 an3 cd3 ct3), sl3⟩) (c3 : PySem.W.codeIn K cd3 "File.lose" = true) (k3 : PySem.W.keepIn K (.ref f3) = true)
    (a4 : PySem.W.findIn K (.ref C_File) "flush" = some (some (.ref f4))) (i4 : PySem.W.isFn K (.ref f4) = true)
    (l4 : K.lookup f4 = some ⟨oc4, od4, .func (PySem.W.fnOf "flush" "File.flush" (defArgs s_File__flush) (defBody s_File__flush) (defScope s_File__flush) .none kV4 dc4 pm4 an4 cd4 ct4), sl4⟩) (c4 : PySem.W.codeIn K cd4 "File.flush" = true) (k4 : PySem.W.keepIn K (.ref f4) = true)
    (a5 : PySem.W.nsIn K mainGlobals "_law_draw" = some (some (.ref f5)))
    (l5 : K.lookup f5 = some ⟨oc5, od5, .func (PySem.W.fnOf "_law_draw" "_law_draw" (defArgs s__law_draw) (defBody s__law_draw) (defScope s__law_draw) .none kV5 dc5 pm5 an5 cd5 ct5), sl5⟩) (c5 : PySem.W.codeIn K cd5 "_law_draw" = true) (k5 : PySem.W.keepIn K (.ref f5) = true)
    (a6 : PySem.W.findIn K (.ref C_File) "pending" = some (some (.ref f6))) (i6 : PySem.W.isFn K (.ref f6) = true)
    (l6 : K.lookup f6 = some ⟨oc6, od6, .func (PySem.W.fnOf "pending" "File.pending" (defArgs s_File__pending) (defBody s_File__pending) (defScope s_File__pending) .none kV6 dc6 pm6 an6 cd6 ct6), sl6⟩) (c6 : PySem.W.codeIn K cd6 "File.pending" = true) (k6 : PySem.W.keepIn K (.ref f6) = true)
    (a7 : PySem.W.nsIn K mainGlobals "_law_after" = some (some (.ref f7)))
    (l7 : K.lookup f7 = some ⟨oc7, od7, .func (PySem.W.fnOf "_law_after" "_law_after" (defArgs s__law_after) (defBody s__law_after) (defScope s__law_after) .none kV7 dc7 pm7 an7 cd7 ct7), sl7⟩) (c7 : PySem.W.codeIn K cd7 "_law_after" = true) (k7 : PySem.W.keepIn K (.ref f7) = true)
    (a8 : PySem.W.findIn K (.ref C_File) "shorten" = some (some (.ref f8))) (i8 : PySem.W.isFn K (.ref f8) = true)
    (l8 : K.lookup f8 = some ⟨oc8, od8, .func (PySem.W.fnOf "shorten" "File.shorten" (defArgs s_File__shorten) (defBody s_File__shorten) (defScope s_File__shorten) .none kV8 dc8 pm8 an8 cd8 ct8), sl8⟩) (c8 : PySem.W.codeIn K cd8 "File.shorten" = true) (k8 : PySem.W.keepIn K (.ref f8) = true)
    (a9 : PySem.W.nsIn K mainGlobals "_law_deed" = some (some (.ref f9)))
    (l9 : K.lookup f9 = some ⟨oc9, od9, .func (PySem.W.fnOf "_law_deed" "_law_deed" (defArgs s__law_deed) (defBody s__law_deed) (defScope s__law_deed) .none kV9 dc9 pm9 an9 cd9 ct9), sl9⟩) (c9 : PySem.W.codeIn K cd9 "_law_deed" = true) (k9 : PySem.W.keepIn K (.ref f9) = true)
    (a10 : PySem.W.findIn K (.ref C_File) "content" = some (some (.ref f10))) (i10 : PySem.W.isFn K (.ref f10) = true)
    (l10 : K.lookup f10 = some ⟨oc10, od10, .func (PySem.W.fnOf "content" "File.content" (defArgs s_File__content) (defBody s_File__content) (defScope s_File__content) .none kV10 dc10 pm10 an10 cd10 ct10), sl10⟩) (c10 : PySem.W.codeIn K cd10 "File.content" = true) (k10 : PySem.W.keepIn K (.ref f10) = true)
    (a11 : PySem.W.nsIn K mainGlobals "_law_holds" = some (some (.ref f11)))
    (l11 : K.lookup f11 = some ⟨oc11, od11, .func (PySem.W.fnOf "_law_holds" "_law_holds" (defArgs s__law_holds) (defBody s__law_holds) (defScope s__law_holds) .none kV11 dc11 pm11 an11 cd11 ct11), sl11⟩) (c11 : PySem.W.codeIn K cd11 "_law_holds" = true) (k11 : PySem.W.keepIn K (.ref f11) = true)
    (a12 : PySem.W.nsIn K mainGlobals "law" = some (some (.ref f12)))
    (l12 : K.lookup f12 = some ⟨oc12, od12, .func (PySem.W.fnOf "law" "law" (defArgs s_law) (defBody s_law) (defScope s_law) .none kV12 dc12 pm12 an12 cd12 ct12), sl12⟩) (c12 : PySem.W.codeIn K cd12 "law" = true) (k12 : PySem.W.keepIn K (.ref f12) = true)
    (y_int : PySem.W.nsIn K mainGlobals "int" = some none)
    (y_len : PySem.W.nsIn K mainGlobals "len" = some none)
    (y_list : PySem.W.nsIn K mainGlobals "list" = some none)
    (y_min : PySem.W.nsIn K mainGlobals "min" = some none)
    (y_range : PySem.W.nsIn K mainGlobals "range" = some none)
    : ∃ fd : FuncData, (∀ (s : Shared) (v : Value), BindsTo s fd ⟨[v], []⟩ [("script", v)]) ∧ ∀ base : Heap, K.In base → base.Ns mainGlobals mg → FnOk l.prog w K mg base CX0 5 fa fd ["script"] (fun vs H Q _ => spQ K 1 sem_law vs H Q E0) := by
  have e := hfa.symm.trans (PySem.W.mg_of X G a12)
  cases e
  have gl_File : glAt K "File" = some C_File := by unfold glAt; rw [a_File]
  have cl_File : Cls K C_File := ⟨pg_File, hd_File, po_File, sa_File⟩
  have hT : ClsT K FT := (clsT_cons gl_File cl_File (fun f hf => by
    simp only [List.mem_cons, List.not_mem_nil, or_false] at hf
    rcases hf with rfl | rfl
    · exact n_File_lasting
    · exact n_File_steps) clsT_nil)
  have F0 := fun_mk (st := s_File____init__) l0 c0 k0
  have S0 : SrcM K "File" "__init__" s_File____init__ ["self"] "File.__init__" := ⟨_, _, _, gl_File, cl_File, ⟨a0, i0, k0⟩, F0, F0.binds fun _ _ _ _ _ _ us hl => match us, hl with | [_], _ => rfl⟩
  have F1 := fun_mk (st := s_File__write) l1 c1 k1
  have S1 : SrcM K "File" "write" s_File__write ["self", "data", "steps"] "File.write" := ⟨_, _, _, gl_File, cl_File, ⟨a1, i1, k1⟩, F1, F1.binds fun _ _ _ _ _ _ us hl => match us, hl with | [_, _, _], _ => rfl⟩
  have F2 := fun_mk (st := s_after_steps) l2 c2 k2
  have S2 : Src K mg "after_steps" s_after_steps ["data", "steps"] := ⟨_, _, F2, PySem.W.mg_of X G a2, F2.binds fun _ _ _ _ _ _ us hl => match us, hl with | [_, _], _ => rfl⟩
  have F3 := fun_mk (st := s_File__lose) l3 c3 k3
  have S3 : SrcM K "File" "lose" s_File__lose ["self", "steps"] "File.lose" := ⟨_, _, _, gl_File, cl_File, ⟨a3, i3, k3⟩, F3, F3.binds fun _ _ _ _ _ _ us hl => match us, hl with | [_, _], _ => rfl⟩
  have F4 := fun_mk (st := s_File__flush) l4 c4 k4
  have S4 : SrcM K "File" "flush" s_File__flush ["self", "steps"] "File.flush" := ⟨_, _, _, gl_File, cl_File, ⟨a4, i4, k4⟩, F4, F4.binds fun _ _ _ _ _ _ us hl => match us, hl with | [_, _], _ => rfl⟩
  have F5 := fun_mk (st := s__law_draw) l5 c5 k5
  have S5 : Src K mg "_law_draw" s__law_draw ["script", "k"] := ⟨_, _, F5, PySem.W.mg_of X G a5, F5.binds fun _ _ _ _ _ _ us hl => match us, hl with | [_, _], _ => rfl⟩
  have F6 := fun_mk (st := s_File__pending) l6 c6 k6
  have S6 : SrcM K "File" "pending" s_File__pending ["self"] "File.pending" := ⟨_, _, _, gl_File, cl_File, ⟨a6, i6, k6⟩, F6, F6.binds fun _ _ _ _ _ _ us hl => match us, hl with | [_], _ => rfl⟩
  have F7 := fun_mk (st := s__law_after) l7 c7 k7
  have S7 : Src K mg "_law_after" s__law_after ["data", "steps"] := ⟨_, _, F7, PySem.W.mg_of X G a7, F7.binds fun _ _ _ _ _ _ us hl => match us, hl with | [_, _], _ => rfl⟩
  have F8 := fun_mk (st := s_File__shorten) l8 c8 k8
  have S8 : SrcM K "File" "shorten" s_File__shorten ["self", "size", "steps"] "File.shorten" := ⟨_, _, _, gl_File, cl_File, ⟨a8, i8, k8⟩, F8, F8.binds fun _ _ _ _ _ _ us hl => match us, hl with | [_, _, _], _ => rfl⟩
  have F9 := fun_mk (st := s__law_deed) l9 c9 k9
  have S9 : Src K mg "_law_deed" s__law_deed ["file", "state", "number", "other"] := ⟨_, _, F9, PySem.W.mg_of X G a9, F9.binds fun _ _ _ _ _ _ us hl => match us, hl with | [_, _, _, _], _ => rfl⟩
  have F10 := fun_mk (st := s_File__content) l10 c10 k10
  have S10 : SrcM K "File" "content" s_File__content ["self"] "File.content" := ⟨_, _, _, gl_File, cl_File, ⟨a10, i10, k10⟩, F10, F10.binds fun _ _ _ _ _ _ us hl => match us, hl with | [_], _ => rfl⟩
  have F11 := fun_mk (st := s__law_holds) l11 c11 k11
  have S11 : Src K mg "_law_holds" s__law_holds ["file", "state"] := ⟨_, _, F11, PySem.W.mg_of X G a11, F11.binds fun _ _ _ _ _ _ us hl => match us, hl with | [_, _], _ => rfl⟩
  have F12 := fun_mk (st := s_law) l12 c12 k12
  have S12 : Src K mg "law" s_law ["script"] := ⟨_, _, F12, PySem.W.mg_of X G a12, F12.binds fun _ _ _ _ _ _ us hl => match us, hl with | [_], _ => rfl⟩
  have k_File : MkC K mg "File" := ⟨_, _, gl_File, PySem.W.mg_of X G a_File, ⟨mk_File, a0, i0, kc_File⟩, a0⟩
  have z_int := PySem.W.mg_none_of X G y_int
  have z_len := PySem.W.mg_none_of X G y_len
  have z_list := PySem.W.mg_none_of X G y_list
  have z_min := PySem.W.mg_none_of X G y_min
  have z_range := PySem.W.mg_none_of X G y_range
  refine ⟨PySem.W.fnOf "law" "law" (defArgs s_law) (defBody s_law) (defScope s_law) .none kV12 dc12 pm12 an12 cd12 ct12, fun s v => .of_eq rfl, fun base _ _ => ?_⟩
  have d_File____init__ := ok_File____init__ (Pr := l.prog) (w := w) (mg := mg) (base := base) hT S0 
  have d_File__write := ok_File__write (Pr := l.prog) (w := w) (mg := mg) (base := base) hT S1 z_len
  have d_after_steps := ok_after_steps (Pr := l.prog) (w := w) (mg := mg) (base := base) hT S2 z_list
  have d_File__lose := ok_File__lose (Pr := l.prog) (w := w) (mg := mg) (base := base) hT S3 d_after_steps
  have d_File__flush := ok_File__flush (Pr := l.prog) (w := w) (mg := mg) (base := base) hT S4 d_File__lose z_len
  have d__law_draw := ok__law_draw (Pr := l.prog) (w := w) (mg := mg) (base := base) hT S5 z_int z_len z_min z_range
  have d_File__pending := ok_File__pending (Pr := l.prog) (w := w) (mg := mg) (base := base) hT S6 z_len
  have d__law_after := ok__law_after (Pr := l.prog) (w := w) (mg := mg) (base := base) hT S7 z_list
  have d_File__shorten := ok_File__shorten (Pr := l.prog) (w := w) (mg := mg) (base := base) hT S8 
  have d__law_deed := ok__law_deed (Pr := l.prog) (w := w) (mg := mg) (base := base) hT S9 d_File__flush d_File__lose d_File__shorten d_File__write d__law_after z_len z_list z_range
  have d_File__content := ok_File__content (Pr := l.prog) (w := w) (mg := mg) (base := base) hT S10 d_after_steps
  have d__law_holds := ok__law_holds (Pr := l.prog) (w := w) (mg := mg) (base := base) hT S11 d_File__content d_File__pending d__law_after z_len
  exact ok_law (Pr := l.prog) (w := w) (mg := mg) (base := base) hT F12 d_File____init__ d_File__content d_File__flush d_File__lose d_File__pending d_File__write d__law_deed d__law_draw d__law_holds k_File z_len z_min z_range
end K51

set_option maxHeartbeats 1000000
namespace K51
open PySem PySem.Spec PyProof.Rows L2 Tq
/-! ### the plain file: bytes and steps -/
abbrev St := Bool × Int
def aft (xs : List Int) : List St → List Int
  | [] => xs
  | s :: r => aft (if s.1 then cut xs none (some s.2) else xs ++ [s.2]) r
theorem aft_snoc (xs : List Int) (st : List St) (s : St) : aft xs (st ++ [s]) = if s.1 then cut (aft xs st) none (some s.2) else aft xs st ++ [s.2] := by
  induction st generalizing xs with
  | nil => rfl
  | cons a r ih => exact ih _
theorem cut_len {α : Type} (xs : List α) (lo hi : Option Int) : (cut xs lo hi).length ≤ xs.length := by
  unfold cut
  rw [List.length_take, List.length_drop]
  omega
theorem aft_len (xs : List Int) (st : List St) : (aft xs st).length ≤ xs.length + st.length := by
  induction st generalizing xs with
  | nil => exact Nat.le_refl _
  | cons a r ih =>
    refine Nat.le_trans (ih _) ?_
    rw [List.length_cons]
    split
    · have := cut_len xs none (some a.2)
      omega
    · rw [List.length_append, List.length_singleton]
      omega
def LI (xs : List Int) : List A := (xs.map D.int).map A.d
theorem LI_len (xs : List Int) : (LI xs).length = xs.length := by unfold LI; rw [List.length_map, List.length_map]
theorem LI_app (xs ys : List Int) : LI (xs ++ ys) = LI xs ++ LI ys := by unfold LI; rw [List.map_append, List.map_append]
theorem LI_cut (xs : List Int) (lo hi : Option Int) : LI (cut xs lo hi) = cut (LI xs) lo hi := by unfold LI; rw [map_cut, map_cut]
def fD (s : St) : D := .tup [.str (if s.1 then "size" else "byte"), .int s.2]
def lD (s : St) : D := .tup [.int (if s.1 then 1 else 0), .int s.2]
theorem take_succ {α : Type} {xs : List α} {n : Nat} {x : α} (h : xs[n]? = some x) : xs.take (n + 1) = xs.take n ++ [x] := by
  rw [List.take_add_one, h]
  rfl
/-- one turn of after_steps -/
theorem after_body (k : Nat) (v3 v4 : Option A) (d0 d1 : A) (xs : List Int) (s : St) (h : Hq) (hk : h[k]? = some (.lst (LI xs))) (hl : xs.length < LIM) : ∃ τ1 τ2 h2 k2 w3 w4,
    (mgTup 2 (mgCons (mgName 3) (mgCons (mgName 4) mgNil))) (.d (fD s)) [some d0, some d1, some (.r k), v3, v4] h = some τ1 ∧ B1_after_steps τ1 h = some (.nx τ2 h2) ∧ τ2 = [some d0, some d1, some (.r k2), w3, w4] ∧ h2[k2]? = some (.lst (LI (if s.1 then cut xs none (some s.2) else xs ++ [s.2]))) := by
  obtain ⟨b, n⟩ := s
  have hkl : k < h.length := (List.getElem?_eq_some_iff.mp hk).1
  have e0 : eqD false (.str "byte") (.str "byte") = some true := by with_unfolding_all rfl
  have e1 : eqD false (.str "size") (.str "byte") = some false := by with_unfolding_all rfl
  cases b with
  | false =>
    refine ⟨_, [some d0, some d1, some (.r k), some (.d (.str "byte")), some (.d (.int n))], h.set k (.lst (LI xs ++ [.d (.int n)])), k, some (.d (.str "byte")), some (.d (.int n)), rfl, ?_, rfl, ?_⟩
    · show B1_after_steps [some d0, some d1, some (.r k), some (.d (.str "byte")), some (.d (.int n))] h = _
      simp only [B1_after_steps, mIf, mTB, mBin, mVar, mC, List.getElem?_cons_zero, List.getElem?_cons_succ, bd_ok, sb_ok, g2V, view, vw_d, e0, mDrop, mM1, tokL, lstOf, hk, Option.isSome_some, if_true, gApp, LI_len, hl]
      try rfl
    · rw [List.getElem?_set_self hkl, if_neg (by simp), LI_app]
      try rfl
  | true =>
    refine ⟨_, [some d0, some d1, some (.r h.length), some (.d (.str "size")), some (.d (.int n))], h ++ [.lst (cut (LI xs) none (some n))], h.length, some (.d (.str "size")), some (.d (.int n)), rfl, ?_, rfl, ?_⟩
    · show B1_after_steps [some d0, some d1, some (.r k), some (.d (.str "size")), some (.d (.int n))] h = _
      have hc : (cut (LI xs) none (some n)).length ≤ LIM := by
        have := cut_len (LI xs) none (some n)
        rw [LI_len] at this
        exact Nat.le_trans this (Nat.le_of_lt hl)
      simp only [B1_after_steps, mIf, mTB, mBin, mVar, mC, List.getElem?_cons_zero, List.getElem?_cons_succ, bd_ok, sb_ok, g2V, view, vw_d, e1, mSet, mSl, moN, moS, gSl, tupOf, lstOf, hk, mkL, hc, if_true]
      rfl
    · rw [List.getElem?_append_right (Nat.le_refl _), Nat.sub_self, if_pos rfl, LI_cut]
      rfl
theorem after_steps_ok (xs : List Int) (st : List St) (hl : xs.length + st.length ≤ LIM) : ∃ k h, sem_after_steps [.d (.lst (xs.map D.int)), .d (.lst (st.map fD))] [] = some (.ok (.r k) h) ∧ h[k]? = some (.lst (LI (aft xs st))) := by
  have hx : (LI xs).length ≤ LIM := by rw [LI_len]; omega
  obtain ⟨τ', h', e, k, v3, v4, rfl, hk⟩ := forL_inv (g := mgTup 2 (mgCons (mgName 3) (mgCons (mgName 4) mgNil))) (mb := B1_after_steps) (ws := (st.map fD).map A.d)
    (fun n τ h => ∃ k v3 v4, τ = [some (.d (.lst (xs.map D.int))), some (.d (.lst (st.map fD))), some (.r k), v3, v4] ∧ h[k]? = some (.lst (LI (aft xs (st.take n)))))
    (τ := [some (.d (.lst (xs.map D.int))), some (.d (.lst (st.map fD))), some (.r 0), none, none]) (h := [.lst (LI xs)]) ⟨0, none, none, rfl, rfl⟩
    (fun n w τ h hw hi => by
      obtain ⟨k, v3, v4, rfl, hk⟩ := hi
      rw [List.getElem?_map, List.getElem?_map] at hw
      cases e : st[n]? with
      | none => rw [e] at hw; cases hw
      | some s =>
        rw [e] at hw
        cases hw
        have hn : n < st.length := (List.getElem?_eq_some_iff.mp e).1
        have hlen := aft_len xs (st.take n)
        rw [List.length_take] at hlen
        obtain ⟨τ1, τ2, h2, k2, w3, w4, a1, a2, a3, a4⟩ := after_body k v3 v4 _ _ (aft xs (st.take n)) s h hk (by omega)
        refine ⟨τ1, τ2, h2, a1, .inl a2, k2, w3, w4, a3, ?_⟩
        rw [take_succ e, aft_snoc]
        exact a4) (by rw [List.length_map, List.length_map]; omega)
  rw [List.length_map, List.length_map, List.take_length] at hk
  refine ⟨k, h', runB_rt rfl ?_, hk⟩
  show b_after_steps [some (.d (.lst (xs.map D.int))), some (.d (.lst (st.map fD))), none, none, none] [] = _
  unfold b_after_steps
  rw [seq_nx (τ1 := [some (.d (.lst (xs.map D.int))), some (.d (.lst (st.map fD))), some (.r 0), none, none]) (h1 := [.lst (LI xs)]) (by
    simp only [mSet, mUn, mVar, List.getElem?_cons_zero, bd_ok, sb_ok, gLstOf, tupOf, lstOf, mkL]
    show sb _ (if (LI xs).length ≤ LIM then _ else _) _ = _
    rw [if_pos hx]
    rfl)]
  rw [seq_nx (τ1 := [some (.d (.lst (xs.map D.int))), some (.d (.lst (st.map fD))), some (.r k), v3, v4]) (h1 := h') (by
    unfold L1_after_steps
    rw [mFor_of (nx := nxL ((st.map fD).map A.d)) (h1 := [.lst (LI xs)]) rfl]
    exact e)]
  rfl
/-- one turn of _law_after -/
theorem lafter_body (k : Nat) (v2 : Option A) (d1 : A) (xs : List Int) (s : St) (h : Hq) (hk : h[k]? = some (.lst (LI xs))) (hl : xs.length < LIM) : ∃ τ1 τ2 h2 k2 w2,
    (mgName 2) (.d (lD s)) [some (.r k), some d1, v2] h = some τ1 ∧ B1__law_after τ1 h = some (.nx τ2 h2) ∧ τ2 = [some (.r k2), some d1, w2] ∧ h2[k2]? = some (.lst (LI (if s.1 then cut xs none (some s.2) else xs ++ [s.2]))) := by
  obtain ⟨b, n⟩ := s
  have hkl : k < h.length := (List.getElem?_eq_some_iff.mp hk).1
  have g0 : ∀ (i n : Int) (h : Hq), gGet (.d (.tup [.int i, .int n])) (.d (.int 0)) h = some (.ok (.d (.int i)) h) := fun i n h => rfl
  have g1 : ∀ (i n : Int) (h : Hq), gGet (.d (.tup [.int i, .int n])) (.d (.int 1)) h = some (.ok (.d (.int n)) h) := fun i n h => rfl
  cases b with
  | false =>
    refine ⟨_, [some (.r k), some d1, some (.d (.tup [.int 0, .int n]))], h.set k (.lst (LI xs ++ [.d (.int n)])), k, some (.d (.tup [.int 0, .int n])), rfl, ?_, rfl, ?_⟩
    · show B1__law_after [some (.r k), some d1, some (.d (.tup [.int 0, .int n]))] h = _
      simp only [B1__law_after, mIf, mTB, mBin, mVar, mC, List.getElem?_cons_zero, List.getElem?_cons_succ, bd_ok, sb_ok, g0, g1, g2V, view, vw_d, eqD_int, mDrop, mM1, tokL, lstOf, hk, Option.isSome_some, if_true, gApp, LI_len, hl, decide_true, Bool.false_eq_true, if_false]
      try rfl
    · rw [List.getElem?_set_self hkl, if_neg (by simp), LI_app]
      try rfl
  | true =>
    refine ⟨_, [some (.r h.length), some d1, some (.d (.tup [.int 1, .int n]))], h ++ [.lst (cut (LI xs) none (some n))], h.length, some (.d (.tup [.int 1, .int n])), rfl, ?_, rfl, ?_⟩
    · show B1__law_after [some (.r k), some d1, some (.d (.tup [.int 1, .int n]))] h = _
      have hc : (cut (LI xs) none (some n)).length ≤ LIM := by
        have := cut_len (LI xs) none (some n)
        rw [LI_len] at this
        exact Nat.le_trans this (Nat.le_of_lt hl)
      have e10 : decide ((1 : Int) = 0) = false := by decide
      simp only [B1__law_after, mIf, mTB, mBin, mVar, mC, List.getElem?_cons_zero, List.getElem?_cons_succ, bd_ok, sb_ok, g0, g1, g2V, view, vw_d, eqD_int, e10, mSet, mSl, moN, moS, gSl, tupOf, lstOf, hk, mkL, hc, if_true, Bool.false_eq_true, if_false]
      rfl
    · rw [List.getElem?_append_right (Nat.le_refl _), Nat.sub_self, if_pos rfl, LI_cut]
      rfl
theorem law_after_ok (xs : List Int) (st : List St) (hl : xs.length + st.length ≤ LIM) : ∃ k h, sem__law_after [.d (.lst (xs.map D.int)), .d (.lst (st.map lD))] [] = some (.ok (.r k) h) ∧ h[k]? = some (.lst (LI (aft xs st))) := by
  have hx : (LI xs).length ≤ LIM := by rw [LI_len]; omega
  obtain ⟨τ', h', e, k, v2, rfl, hk⟩ := forL_inv (g := mgName 2) (mb := B1__law_after) (ws := (st.map lD).map A.d)
    (fun n τ h => ∃ k v2, τ = [some (.r k), some (.d (.lst (st.map lD))), v2] ∧ h[k]? = some (.lst (LI (aft xs (st.take n)))))
    (τ := [some (.r 0), some (.d (.lst (st.map lD))), none]) (h := [.lst (LI xs)]) ⟨0, none, rfl, rfl⟩
    (fun n w τ h hw hi => by
      obtain ⟨k, v2, rfl, hk⟩ := hi
      rw [List.getElem?_map, List.getElem?_map] at hw
      cases e : st[n]? with
      | none => rw [e] at hw; cases hw
      | some s =>
        rw [e] at hw
        cases hw
        have hn : n < st.length := (List.getElem?_eq_some_iff.mp e).1
        have hlen := aft_len xs (st.take n)
        rw [List.length_take] at hlen
        obtain ⟨τ1, τ2, h2, k2, w2, a1, a2, a3, a4⟩ := lafter_body k v2 _ (aft xs (st.take n)) s h hk (by omega)
        refine ⟨τ1, τ2, h2, a1, .inl a2, k2, w2, a3, ?_⟩
        rw [take_succ e, aft_snoc]
        exact a4) (by rw [List.length_map, List.length_map]; omega)
  rw [List.length_map, List.length_map, List.take_length] at hk
  refine ⟨k, h', runB_rt rfl ?_, hk⟩
  show b__law_after [some (.d (.lst (xs.map D.int))), some (.d (.lst (st.map lD))), none] [] = _
  unfold b__law_after
  rw [seq_nx (τ1 := [some (.r 0), some (.d (.lst (st.map lD))), none]) (h1 := [.lst (LI xs)]) (by
    simp only [mSet, mUn, mVar, List.getElem?_cons_zero, bd_ok, sb_ok, gLstOf, tupOf, lstOf, mkL]
    show sb _ (if (LI xs).length ≤ LIM then _ else _) _ = _
    rw [if_pos hx]
    rfl)]
  rw [seq_nx (τ1 := [some (.r k), some (.d (.lst (st.map lD))), v2]) (h1 := h') (by
    unfold L1__law_after
    rw [mFor_of (nx := nxL ((st.map lD).map A.d)) (h1 := [.lst (LI xs)]) rfl]
    exact e)]
  rfl
end K51

set_option maxHeartbeats 1000000
namespace K51
open PySem PySem.Spec PyProof.Rows L2 Tq
abbrev FF : Hd := .ins "File" ["lasting", "steps"]
def FL (L : List Int) (m : Nat) : O := .nd FF [.d (.lst (L.map D.int)), .r m]
def SL (st : List St) : O := .lst ((st.map fD).map A.d)
theorem fok_l : fOk FT "File" "lasting" = true := by decide +kernel
theorem fok_s : fOk FT "File" "steps" = true := by decide +kernel
theorem fg_l (x y : A) : fGet "lasting" ["lasting", "steps"] [x, y] = some x := by with_unfolding_all rfl
theorem fg_s (x y : A) : fGet "steps" ["lasting", "steps"] [x, y] = some y := by with_unfolding_all rfl
theorem fp_l (w x y : A) : fPut "lasting" w ["lasting", "steps"] [x, y] = (([("lasting" : Str), "steps"] : List Str), [w, y]) := by with_unfolding_all rfl
theorem fp_s (w x y : A) : fPut "steps" w ["lasting", "steps"] [x, y] = (([("lasting" : Str), "steps"] : List Str), [x, w]) := by with_unfolding_all rfl
theorem SL_snoc (st : List St) (s : St) : SL (st ++ [s]) = .lst (((st.map fD).map A.d) ++ [.d (fD s)]) := by
  unfold SL
  rw [List.map_append, List.map_append]
  rfl
structure FileAt (h : Hq) (a m : Nat) (L : List Int) (st : List St) : Prop where
  f : h[a]? = some (FL L m)
  s : h[m]? = some (SL st)
theorem FileAt.ne {h : Hq} {a m : Nat} {L : List Int} {st : List St} (x : FileAt h a m L st) : a ≠ m := fun e => by
  have h1 := x.f
  have h2 := x.s
  rw [e, h2] at h1
  cases h1
theorem fld_l {h : Hq} {a m : Nat} {L : List Int} (e : h[a]? = some (FL L m)) : gFld FT "lasting" (.r a) h = some (.ok (.d (.lst (L.map D.int))) h) := by
  unfold gFld dicOf
  simp only [e, FL, fok_l, if_true, fg_l]
theorem fld_s {h : Hq} {a m : Nat} {L : List Int} (e : h[a]? = some (FL L m)) : gFld FT "steps" (.r a) h = some (.ok (.r m) h) := by
  unfold gFld dicOf
  simp only [e, FL, fok_s, if_true, fg_s]
theorem ins_of {h : Hq} {a m : Nat} {L : List Int} {f : Str} (e : h[a]? = some (FL L m)) (hf : decide (f ∈ ([("lasting" : Str), "steps"] : List Str)) = false) : insOf "File" f (.r a) h = true := by
  unfold insOf dicOf
  simp only [e, FL]
  rw [hf]
  simp
theorem cut_take {α : Type} (xs : List α) (n : Int) (h : 0 ≤ n) : cut xs none (some n) = xs.take n.toNat := by
  unfold cut
  have e1 : HT.sIx xs.length 0 none = 0 := rfl
  have e2 : HT.sIx xs.length xs.length (some n) = min n.toNat xs.length := by
    unfold HT.sIx
    simp only []
    split <;> omega
  rw [e1, e2, List.drop_zero, Nat.sub_zero, List.take_eq_take_iff]
  omega
def cnt (n : Nat) : Option Nat → Nat
  | none => n
  | some l => min l n
theorem cnt_le (n : Nat) (l : Option Nat) : cnt n l ≤ n := by
  cases l with
  | none => exact Nat.le_refl _
  | some l => exact Nat.min_le_right _ _
def limD : Option Nat → D
  | none => .non
  | some l => .int (l : Nat)
/-- data handed in: a cell or a list that stands -/
inductive Given (h : Hq) (xs : List Int) : A → Prop
  | c {g : Nat} : h[g]? = some (.lst (LI xs)) → Given h xs (.r g)
  | d : Given h xs (.d (.lst (xs.map D.int)))
theorem Given.len {h : Hq} {xs : List Int} {a : A} (x : Given h xs a) : lenA h a = some xs.length := by
  cases x with
  | c e => simp only [lenA, tupOf, lstOf, e, LI_len]
  | d => simp only [lenA, tupOf, lstOf, List.length_map]
theorem Given.sl {h : Hq} {xs : List Int} {a : A} (x : Given h xs a) (n : Nat) (hx : xs.length ≤ LIM) : gSl false a none (some (n : Int)) h = some (.ok (.d (.lst ((xs.take n).map D.int))) h) := by
  have e0 : cut (LI xs) none (some (n : Int)) = ((xs.take n).map D.int).map A.d := by
    rw [cut_take _ _ (Int.natCast_nonneg n), Int.toNat_natCast]
    unfold LI
    rw [List.map_take, List.map_take]
  have e1 : (((xs.take n).map D.int).map A.d).length ≤ LIM := by
    rw [List.length_map, List.length_map, List.length_take]
    omega
  cases x with
  | c e =>
    simp only [gSl, tupOf, lstOf, e]
    unfold mkL
    rw [e0, if_pos e1, allD_map]
    rfl
  | d =>
    simp only [gSl, tupOf, lstOf]
    unfold mkL
    rw [show (xs.map D.int).map A.d = LI xs from rfl, e0, if_pos e1, allD_map]
    rfl
def bs (xs : List Int) : List St := xs.map fun b => (false, b)
theorem bs_snoc (xs : List Int) (b : Int) : bs (xs ++ [b]) = bs xs ++ [(false, b)] := by
  unfold bs
  rw [List.map_append]
  rfl
theorem write_ok {h : Hq} {a m : Nat} {L : List Int} {st : List St} {xs : List Int} {d : A} (F : FileAt h a m L st) (G : Given h xs d) (l : Option Nat) (hl : st.length + xs.length ≤ LIM) :
    sem_File__write [.r a, d, .d (limD l)] h = some (.ok (.d (.int (cnt xs.length l : Nat))) (h.set m (SL (st ++ bs (xs.take (cnt xs.length l)))))) := by
  have hm : m < h.length := (List.getElem?_eq_some_iff.mp F.s).1
  have hx : xs.length ≤ LIM := by omega
  generalize hc : cnt xs.length l = c
  have hcx : c ≤ xs.length := by rw [← hc]; exact cnt_le _ _
  refine runB_rt rfl ?_
  show b_File__write [some (.r a), some d, some (.d (limD l)), none, none] h = _
  unfold b_File__write
  rw [seq_nx (τ1 := [some (.r a), some d, some (.d (limD l)), some (.d (.int (xs.length : Nat))), none]) (h1 := h) (by
    simp only [mSet, mUn, mVar, List.getElem?_cons_zero, List.getElem?_cons_succ, bd_ok, sb_ok, gLen, G.len]
    rfl)]
  rw [seq_nx (τ1 := [some (.r a), some d, some (.d (limD l)), some (.d (.int (c : Nat))), none]) (h1 := h) (by
    cases l with
    | none =>
      have hc : xs.length = c := hc
      subst hc
      simp only [mIf, mAndT, mTB, mBin, mVar, mC, limD, List.getElem?_cons_zero, List.getElem?_cons_succ, bd_ok, sb_ok, gIs, A.isNon, mNx]
      rfl
    | some l =>
      have hc : min l xs.length = c := hc
      simp only [mIf, mAndT, mTB, mBin, mVar, mC, limD, List.getElem?_cons_zero, List.getElem?_cons_succ, bd_ok, sb_ok, gIs, A.isNon, gCmp, mNx, mSet]
      by_cases z : l < xs.length
      · have : l = c := by omega
        subst this
        have z2 : decide ((l : Int) < (xs.length : Int)) = true := decide_eq_true (by omega)
        rw [z2]
        rfl
      · have : xs.length = c := by omega
        subst this
        have z2 : decide ((l : Int) < (xs.length : Int)) = false := decide_eq_false (by omega)
        rw [z2]
        rfl)]
  obtain ⟨τ', h', e, ⟨v4, rfl⟩, rfl⟩ := forL_inv (g := mgName 4) (mb := B1_File__write) (ws := ((xs.take c).map D.int).map A.d)
    (fun n τ h' => (∃ v4, τ = [some (.r a), some d, some (.d (limD l)), some (.d (.int (c : Nat))), v4]) ∧ h' = h.set m (SL (st ++ bs ((xs.take c).take n))))
    (τ := [some (.r a), some d, some (.d (limD l)), some (.d (.int (c : Nat))), none]) (h := h) ⟨⟨none, rfl⟩, by
      rw [List.take_zero, show bs [] = [] from rfl, List.append_nil]
      exact (set_same F.s).symm⟩
    (fun n w τ h' hw hi => by
      obtain ⟨⟨v4, rfl⟩, rfl⟩ := hi
      rw [List.getElem?_map, List.getElem?_map] at hw
      cases e : (xs.take c)[n]? with
      | none => rw [e] at hw; cases hw
      | some b =>
        rw [e] at hw
        cases hw
        refine ⟨_, [some (.r a), some d, some (.d (limD l)), some (.d (.int (c : Nat))), some (.d (.int b))], _, rfl, .inl ?_, ⟨_, rfl⟩, rfl⟩
        show B1_File__write [some (.r a), some d, some (.d (limD l)), some (.d (.int (c : Nat))), some (.d (.int b))] _ = _
        have hn : n < (xs.take c).length := (List.getElem?_eq_some_iff.mp e).1
        have ea : (h.set m (SL (st ++ bs ((xs.take c).take n))))[a]? = some (FL L m) := by rw [List.getElem?_set_ne (Ne.symm F.ne)]; exact F.f
        have em : (h.set m (SL (st ++ bs ((xs.take c).take n))))[m]? = some (SL (st ++ bs ((xs.take c).take n))) := List.getElem?_set_self hm
        have hlen : (((st ++ bs ((xs.take c).take n)).map fD).map A.d).length < LIM := by
          unfold bs
          simp only [List.length_map, List.length_append, List.length_take] at hn ⊢
          omega
        unfold B1_File__write
        rw [append_of (k := m) (ws := ((st ++ bs ((xs.take c).take n)).map fD).map A.d) (w := .d (.tup [.str "byte", .int b])) (by rw [un_of (var_of rfl)]; exact fld_s ea) em rfl hlen]
        rw [List.set_set, take_succ e, bs_snoc, ← List.append_assoc, SL_snoc]
        rfl) (by
      simp only [List.length_map, List.length_take]
      omega)
  rw [seq_nx (τ1 := [some (.r a), some d, some (.d (limD l)), some (.d (.int (c : Nat))), v4]) (h1 := h.set m (SL (st ++ bs (xs.take c)))) (by
    unfold L1_File__write
    rw [mFor_of (nx := nxL (((xs.take c).map D.int).map A.d)) (h1 := h) (by
      simp only [mItems, mSl, mVar, moN, moS, List.getElem?_cons_zero, List.getElem?_cons_succ, bd_ok, G.sl c hx]
      rfl)]
    rw [e]
    rw [List.length_map, List.length_map, List.take_length])]
  rfl
theorem mIfEq0 {l : Option Nat} {τ : Sl} {h : Hq} {i : Nat} {m1 m2 : MS} (e : τ[i]? = some (some (.d (limD l)))) : mIf (mTB (mBin (gEq false) (mVar i) (mC (.int 0)))) m1 m2 τ h = if l = some 0 then m1 τ h else m2 τ h := by
  cases l with
  | none =>
    rw [if_neg (by simp), if_ff]
    refine tb_of ?_
    rw [bin_of (var_of e) rfl]
    rfl
  | some l =>
    by_cases z : l = 0
    · subst z
      rw [if_pos rfl, if_tt]
      refine tb_of ?_
      rw [bin_of (var_of e) rfl]
      rfl
    · rw [if_neg (by simpa using z), if_ff]
      refine tb_of ?_
      rw [bin_of (var_of e) rfl]
      show g2V (eqD false) (.d (.int (l : Nat))) (.d (.int 0)) h = _
      unfold g2V view
      rw [vw_d, vw_d]
      dsimp only
      rw [eqD_int, if_neg (by simp), decide_eq_false (by omega)]
theorem shorten_ok {h : Hq} {a m : Nat} {L : List Int} {st : List St} {n : Int} (F : FileAt h a m L st) (l : Option Nat) (hl : st.length < LIM) :
    sem_File__shorten [.r a, .d (.int n), .d (limD l)] h = if l = some 0 then some (.ok (.d (.int 0)) h) else some (.ok (.d (.int 1)) (h.set m (SL (st ++ [(true, n)])))) := by
  by_cases z : l = some 0
  · rw [if_pos z]
    refine runB_rt rfl ?_
    show b_File__shorten [some (.r a), some (.d (.int n)), some (.d (limD l))] h = _
    unfold b_File__shorten
    rw [seq_rt (w := .d (.int 0)) (h1 := h) (by rw [mIfEq0 (l := l) rfl, if_pos z]; rfl)]
  · rw [if_neg z]
    refine runB_rt rfl ?_
    show b_File__shorten [some (.r a), some (.d (.int n)), some (.d (limD l))] h = _
    unfold b_File__shorten
    rw [seq_nx (τ1 := [some (.r a), some (.d (.int n)), some (.d (limD l))]) (h1 := h) (by rw [mIfEq0 (l := l) rfl, if_neg z]; rfl)]
    rw [seq_nx (append_of (k := m) (ws := (st.map fD).map A.d) (w := .d (fD (true, n))) (by rw [un_of (var_of rfl)]; exact fld_s F.f) F.s rfl (by rw [List.length_map, List.length_map]; exact hl)), SL_snoc]
    rfl
theorem pending_ok {h : Hq} {a m : Nat} {L : List Int} {st : List St} (F : FileAt h a m L st) : sem_File__pending [.r a] h = some (.ok (.d (.int (st.length : Nat))) h) := by
  refine runB_rt rfl ?_
  show b_File__pending [some (.r a)] h = _
  unfold b_File__pending
  refine ret_of ?_
  rw [un_of (show mUn (gFld FT "steps") (mVar 0) [some (.r a)] h = some (.ok (.r m) h) by rw [un_of (var_of rfl)]; exact fld_s F.f)]
  unfold gLen lenA
  simp only [tupOf, lstOf, F.s, SL, List.length_map]
/-- the file behind lose -/
def loseH (h : Hq) (a : Nat) (L : List Int) (st : List St) (c : Nat) : Hq := (h ++ [O.lst []]).set a (FL (aft L (st.take c)) h.length)
theorem lose_ok {h : Hq} {a m : Nat} {L : List Int} {st : List St} {c : Nat} (F : FileAt h a m L st) (hl : L.length + st.length ≤ LIM) : sem_File__lose [.r a, .d (.int (c : Nat))] h = some (.ok (.d .non) (loseH h a L st c)) := by
  have ha : a < h.length := (List.getElem?_eq_some_iff.mp F.f).1
  refine runB_nx (τ := [some (.r a), some (.d (.int (c : Nat)))]) rfl ?_
  show b_File__lose [some (.r a), some (.d (.int (c : Nat)))] h = _
  obtain ⟨k, h', e1, e2⟩ := after_steps_ok L (st.take c) (by rw [List.length_take]; omega)
  have hc : (cut ((st.map fD).map A.d) none (some (c : Int))) = ((st.take c).map fD).map A.d := by
    rw [cut_take _ _ (Int.natCast_nonneg c), Int.toNat_natCast, List.map_take, List.map_take]
  have e3 : mSl false (mUn (gFld FT "steps") (mVar 0)) moN (moS (mVar 1)) [some (.r a), some (.d (.int (c : Nat)))] h = some (.ok (.d (.lst ((st.take c).map fD))) h) := by
    unfold mSl moN moS
    rw [show mUn (gFld FT "steps") (mVar 0) [some (.r a), some (.d (.int (c : Nat)))] h = some (.ok (.r m) h) by rw [un_of (var_of rfl)]; exact fld_s F.f]
    show gSl false (.r m) none (some (c : Int)) h = _
    simp only [gSl, tupOf, lstOf, F.s, SL]
    unfold mkL
    rw [hc, if_pos (by simp only [List.length_map, List.length_take]; omega), allD_map]
    rfl
  have e4 : mCallP sem_after_steps (lenIs 2 (maCons (mUn (gFld FT "lasting") (mVar 0)) (maCons (mSl false (mUn (gFld FT "steps") (mVar 0)) moN (moS (mVar 1))) maNil))) [some (.r a), some (.d (.int (c : Nat)))] h = some (.ok (.d (.lst ((aft L (st.take c)).map D.int))) h) := by
    refine callP_of (ds := [.lst (L.map D.int), .lst ((st.take c).map fD)]) (len_of (cons_of (a := .d (.lst (L.map D.int))) (by rw [un_of (var_of rfl)]; exact fld_l F.f) (cons_of e3 rfl)) rfl) e1 (view_lst e2)
  unfold b_File__lose
  rw [seq_nx (τ1 := [some (.r a), some (.d (.int (c : Nat)))]) (h1 := h.set a (FL (aft L (st.take c)) m)) (by
    unfold mSetF
    rw [e4, sb_ok, var_of rfl, sb_ok]
    dsimp only
    rw [F.f]
    dsimp only [FL]
    rw [if_pos ⟨fok_l, by decide⟩, fp_l])]
  unfold mSetF
  show sb [some (.r a), some (.d (.int (c : Nat)))] (some (Rs.ok (A.r (h.set a (FL (aft L (st.take c)) m)).length) (h.set a (FL (aft L (st.take c)) m) ++ [O.lst []]))) _ = _
  rw [sb_ok, var_of rfl, sb_ok]
  dsimp only
  rw [List.getElem?_append_left (by rw [List.length_set]; exact ha), List.getElem?_set_self ha]
  dsimp only [FL]
  rw [if_pos ⟨fok_s, by decide⟩, fp_s]
  unfold loseH
  dsimp only
  rw [List.length_set, List.set_append_left _ _ (by rw [List.length_set]; exact ha), List.set_set, List.set_append_left _ _ ha]
  rfl
theorem loseH_at {h : Hq} {a m : Nat} {L : List Int} {st : List St} {c : Nat} (F : FileAt h a m L st) : FileAt (loseH h a L st c) a h.length (aft L (st.take c)) [] := by
  have ha : a < h.length := (List.getElem?_eq_some_iff.mp F.f).1
  unfold loseH
  refine ⟨List.getElem?_set_self (by rw [List.length_append]; omega), ?_⟩
  rw [List.getElem?_set_ne (by omega), List.getElem?_append_right (Nat.le_refl _), Nat.sub_self]
  rfl
theorem loseH_ne {h : Hq} {a k : Nat} {L : List Int} {st : List St} {c : Nat} {o : O} (hk : k ≠ a) (e : h[k]? = some o) : (loseH h a L st c)[k]? = some o := by
  have hk' : k < h.length := (List.getElem?_eq_some_iff.mp e).1
  unfold loseH
  rw [List.getElem?_set_ne (Ne.symm hk), List.getElem?_append_left hk']
  exact e
theorem flush_ok {h : Hq} {a m : Nat} {L : List Int} {st : List St} (F : FileAt h a m L st) (l : Option Nat) (hl : L.length + st.length ≤ LIM) :
    sem_File__flush [.r a, .d (limD l)] h = if l = some 0 then some (.ok (.d (.int 0)) h) else some (.ok (.d (.int 1)) (loseH h a L st st.length)) := by
  by_cases z : l = some 0
  · rw [if_pos z]
    refine runB_rt rfl ?_
    show b_File__flush [some (.r a), some (.d (limD l))] h = _
    unfold b_File__flush
    rw [seq_rt (w := .d (.int 0)) (h1 := h) (by rw [mIfEq0 (l := l) rfl, if_pos z]; rfl)]
  · rw [if_neg z]
    refine runB_rt rfl ?_
    show b_File__flush [some (.r a), some (.d (limD l))] h = _
    unfold b_File__flush
    rw [seq_nx (τ1 := [some (.r a), some (.d (limD l))]) (h1 := h) (by rw [mIfEq0 (l := l) rfl, if_neg z]; rfl)]
    rw [seq_nx (drop_of (show mMeth "File" "lose" 2 sem_File__lose (mVar 0) (maCons (mUn gLen (mUn (gFld FT "steps") (mVar 0))) maNil) [some (.r a), some (.d (limD l))] h = some (.ok (.d .non) (loseH h a L st st.length)) by
        rw [meth_of (n := 2) (ws := [.d (.int (st.length : Nat))]) (var_of rfl) (ins_of F.f (by decide +kernel)) (cons_of (by
          rw [un_of (show mUn (gFld FT "steps") (mVar 0) [some (.r a), some (.d (limD l))] h = some (.ok (.r m) h) by rw [un_of (var_of rfl)]; exact fld_s F.f)]
          show gLen (.r m) h = some (.ok (.d (.int (st.length : Nat))) h)
          unfold gLen lenA
          simp only [tupOf, lstOf, F.s, SL, List.length_map]) rfl) rfl]
        exact lose_ok F hl))]
    rfl
theorem vwA_list {k q : Nat} {h : Hq} {xs : List Int} : mapMn (vwA k 32 h) (LI xs) = some (xs.map D.int) := mapMn_d _ _ (vwA_d k 32 h)
theorem content_ok {h : Hq} {a m : Nat} {L : List Int} {st : List St} (F : FileAt h a m L st) (hl : L.length + st.length ≤ LIM) : sem_File__content [.r a] h = some (.ok (.r h.length) (h ++ [.lst (LI (aft L st))])) := by
  obtain ⟨k, h', e1, e2⟩ := after_steps_ok L st hl
  refine runB_rt rfl ?_
  show b_File__content [some (.r a)] h = _
  unfold b_File__content
  refine ret_of ?_
  unfold mCallO
  rw [len_of (n := 2) (ws := [A.d (.lst (L.map D.int)), A.r m]) (cons_of (a := .d (.lst (L.map D.int))) (r := [.r m]) (by rw [un_of (var_of rfl)]; exact fld_l F.f) (cons_of (by rw [un_of (var_of rfl)]; exact fld_s F.f) rfl)) rfl, bd_ok]
  unfold callO
  have v1 : view h (.r m) = some (.lst (st.map fD)) := view_lst F.s
  have v2 : mapMn (view h) [.d (.lst (L.map D.int)), .r m] = some [.lst (L.map D.int), .lst (st.map fD)] := by
    unfold mapMn
    rw [show view h (.d (.lst (L.map D.int))) = some (.lst (L.map D.int)) from vw_d _ _ _]
    unfold mapMn
    rw [v1]
    rfl
  rw [v2]
  dsimp only [List.map]
  rw [e1]
  dsimp only
  rw [e2]
  dsimp only
  rw [vwA_list (q := 0)]
  dsimp only
  rw [if_pos (by
    rw [Bool.or_eq_true]
    right
    rw [List.all_map]
    exact List.all_eq_true.mpr fun _ _ => rfl)]
  rfl
end K51

set_option maxHeartbeats 1000000
namespace K51
open PySem PySem.Spec PyProof.Rows L2 Tq
theorem bits_log {z : Int} (h : Builtin.Int.intBits z ≤ 1048576) : z.natAbs.log2 ≤ 1048576 := by
  unfold Builtin.Int.intBits at h
  split at h
  · rename_i e
    have e : z = 0 := by
      first
        | exact e
        | simpa using e
    subst e
    decide
  · omega
theorem gMul_ok {i j : Int} (h : Hq) (e : mulOk i j = true) : gMul (.d (.int i)) (.d (.int j)) h = some (.ok (.d (.int (i * j))) h) := by
  show (if mulOk i j = true then _ else _) = _
  rw [if_pos e]
theorem gDiv_ok {i j : Int} (h : Hq) (e : divOk i j = true) : gDiv (.d (.int i)) (.d (.int j)) h = some (.ok (.d (.int (i / j))) h) := by
  show (if divOk i j = true then _ else _) = _
  rw [if_pos e]
theorem gMod_ok {i j : Int} (h : Hq) (e : 0 < j) : gMod (.d (.int i)) (.d (.int j)) h = some (.ok (.d (.int (i % j))) h) := by
  show (if modOk i j = true then _ else _) = _
  rw [if_pos (by unfold modOk; exact decide_eq_true e)]
theorem gAdd_int (o : Bool) (i j : Int) (h : Hq) : gAdd o (.d (.int i)) (.d (.int j)) h = some (.ok (.d (.int (i + j))) h) := rfl
theorem mul_small {i j : Int} (h1 : i.natAbs < 2 ^ 64) (h2 : j.natAbs < 2 ^ 64) : mulOk i j = true := mulOk_of h1 h2 (by decide) (by decide) (by decide)
theorem draw_ok {ns : List Int} (hl : ns.length ≤ 63) (hb : ∀ z ∈ ns, Builtin.Int.intBits z ≤ 1048576) {k : Int} (hk : 0 ≤ k) (hk2 : k < 1000) :
    ∃ v h', sem__law_draw [.d (.scr ns), .d (.int k)] [] = some (.ok (.d (.int v)) h') ∧ 0 ≤ v ∧ v < 2147483647 := by
  by_cases hn : ns = []
  · subst hn
    refine ⟨k * 5 % 7, [], runB_rt rfl ?_, by omega, by omega⟩
    show b__law_draw [some (.d (.scr [])), some (.d (.int k)), none, none, none] [] = _
    unfold b__law_draw
    rw [seq_rt (w := .d (.int (k * 5 % 7))) (h1 := []) (by
      rw [if_tt (h1 := []) rfl]
      refine ret_of ?_
      rw [bin_of (show mBin gMul (mVar 1) (mC (.int 5)) [some (.d (.scr [])), some (.d (.int k)), none, none, none] [] = some (.ok (.d (.int (k * 5))) []) by
        rw [bin_of (var_of rfl) rfl]
        exact gMul_ok _ (mul_small (by omega) (by decide))) rfl]
      exact gMod_ok _ (by decide))]
  · have hlen : 0 < ns.length := List.length_pos_iff.mpr hn
    have hlc : (0 : Int) < (ns.length : Int) := by omega
    generalize hN : (ns.length : Int) = N at hlc
    have hN2 : N ≤ 63 := by omega
    have hm0 : 0 ≤ k % N := Int.emod_nonneg _ (by omega)
    have hm1 : k % N < N := Int.emod_lt_of_pos _ hlc
    have hat := atI_in (xs := ns) hm0 (by omega)
    have hmem : ns[(k % N).toNat]'(by omega) ∈ ns := List.getElem_mem _
    generalize hcell : ns[(k % N).toNat]'(by omega) = cell at hat hmem
    have hbits := bits_log (hb cell hmem)
    have ht0 : 0 ≤ k / N := Int.ediv_nonneg hk (by omega)
    have ht1 : k / N ≤ k := Int.ediv_le_self _ hk
    have s1 : ∀ (τ : Sl) (h : Hq), τ[0]? = some (some (.d (.scr ns))) → mUn gLen (mVar 0) τ h = some (.ok (.d (.int N)) h) := fun τ h e => by
      rw [un_of (var_of e), ← hN]
      rfl
    have e1 : mSet 2 (mUn gInt (mBin gGet (mVar 0) (mBin gMod (mVar 1) (mUn gLen (mVar 0))))) [some (.d (.scr ns)), some (.d (.int k)), none, none, none] [] = some (.nx [some (.d (.scr ns)), some (.d (.int k)), some (.d (.int cell)), none, none] []) := by
      refine set_of ?_
      rw [un_of (a := .d (.int cell)) (h1 := [])]
      · rfl
      · rw [bin_of (a := .d (.scr ns)) (b := .d (.int (k % N))) (h1 := []) (h2 := []) (var_of rfl) (by
          rw [bin_of (var_of rfl) (s1 _ _ rfl)]
          exact gMod_ok _ hlc)]
        show gIx (.d (.scr ns)) (.d (.int (k % N))) [] = _
        show (match atI ns (k % N) with | some n => some (Rs.ok (A.d (D.int n)) []) | none => none) = _
        rw [hat]
    have e2 : mSet 3 (mBin gDiv (mVar 1) (mUn gLen (mVar 0))) [some (.d (.scr ns)), some (.d (.int k)), some (.d (.int cell)), none, none] [] = some (.nx [some (.d (.scr ns)), some (.d (.int k)), some (.d (.int cell)), some (.d (.int (k / N))), none] []) := by
      refine set_of ?_
      rw [bin_of (var_of rfl) (s1 _ _ rfl)]
      exact gDiv_ok _ (divOk_of hlc (b := 6) (by omega) (by decide) (by decide))
    have e0 : mIf (mNotT (mTru (mVar 0))) (mRet (mBin gMod (mBin gMul (mVar 1) (mC (.int 5))) (mC (.int 7)))) mNx [some (.d (.scr ns)), some (.d (.int k)), none, none, none] [] = some (.nx [some (.d (.scr ns)), some (.d (.int k)), none, none, none] []) := by
      have ht : mNotT (mTru (mVar 0)) [some (.d (.scr ns)), some (.d (.int k)), none, none, none] [] = some (.ok false []) := by
        have : ns.isEmpty = false := by
          cases ns with
          | nil => exact absurd rfl hn
          | cons _ _ => rfl
        show some (Rs.ok (!(!ns.isEmpty)) []) = _
        rw [this]
        rfl
      rw [if_ff ht]
      rfl
    by_cases hc : 1000000000000000000 ≤ cell
    · have hT : mTB (mBin gGe (mVar 2) (mC (.int 1000000000000000000))) [some (.d (.scr ns)), some (.d (.int k)), some (.d (.int cell)), some (.d (.int (k / N))), none] [] = some (.ok true []) := by
        refine tb_of ?_
        rw [bin_of (var_of rfl) rfl]
        show some (Rs.ok (A.d (D.bl (decide ((1000000000000000000 : Int) ≤ cell)))) []) = _
        rw [decide_eq_true hc]
      obtain ⟨τ', h', e3, ⟨c, v4, rfl, hc0⟩, rfl⟩ := forL_inv (g := mgName 4) (mb := B1__law_draw) (ws := rangeA 0 (if (60 : Int) < k / N then 60 else k / N).toNat)
        (fun n τ h => (∃ c v4, τ = [some (.d (.scr ns)), some (.d (.int k)), some (.d (.int c)), some (.d (.int (k / N))), v4] ∧ 0 ≤ c) ∧ h = [])
        (τ := [some (.d (.scr ns)), some (.d (.int k)), some (.d (.int cell)), some (.d (.int (k / N))), none]) (h := []) ⟨⟨cell, none, rfl, by omega⟩, rfl⟩
        (fun n w τ h hw hi => by
          obtain ⟨⟨c, v4, rfl, hc0⟩, rfl⟩ := hi
          refine ⟨_, [some (.d (.scr ns)), some (.d (.int k)), some (.d (.int (c / 100003))), some (.d (.int (k / N))), some w], [], rfl, .inl ?_, ⟨_, _, rfl, Int.ediv_nonneg hc0 (by decide)⟩, rfl⟩
          show B1__law_draw [some (.d (.scr ns)), some (.d (.int k)), some (.d (.int c)), some (.d (.int (k / N))), some w] [] = _
          unfold B1__law_draw
          rw [set_of (w := .d (.int (c / 100003))) (h1 := []) (by
            rw [bin_of (var_of rfl) rfl]
            exact gDiv_ok _ rfl)]
          rfl) (by rw [rangeA_len]; show _ ≤ 16777216; split <;> omega)
      refine ⟨c % 100003, [], runB_rt rfl ?_, by omega, by omega⟩
      show b__law_draw [some (.d (.scr ns)), some (.d (.int k)), none, none, none] [] = _
      unfold b__law_draw
      rw [seq_nx e0, seq_nx e1, seq_nx e2]
      rw [seq_rt (w := .d (.int (c % 100003))) (h1 := []) (by
        rw [if_tt hT]
        rw [seq_nx (τ1 := [some (.d (.scr ns)), some (.d (.int k)), some (.d (.int c)), some (.d (.int (k / N))), v4]) (h1 := []) (by
          unfold L1__law_draw
          rw [mFor_of (nx := nxL (rangeA 0 (if (60 : Int) < k / N then 60 else k / N).toNat)) (h1 := []) (mRange1_of (j := if (60 : Int) < k / N then 60 else k / N) (by
            rw [bin_of (var_of rfl) rfl]
            rfl) (by split <;> omega) (by split <;> omega))]
          exact e3)]
        refine ret_of ?_
        rw [bin_of (var_of rfl) rfl]
        exact gMod_ok _ (by decide))]
    · have hT : mTB (mBin gGe (mVar 2) (mC (.int 1000000000000000000))) [some (.d (.scr ns)), some (.d (.int k)), some (.d (.int cell)), some (.d (.int (k / N))), none] [] = some (.ok false []) := by
        refine tb_of ?_
        rw [bin_of (var_of rfl) rfl]
        show some (Rs.ok (A.d (D.bl (decide ((1000000000000000000 : Int) ≤ cell)))) []) = _
        rw [decide_eq_false hc]
      refine ⟨(cell * 48271 + k * 69621 + 13) % 2147483647 * 16807 % 2147483629, [], runB_rt rfl ?_, by omega, by omega⟩
      show b__law_draw [some (.d (.scr ns)), some (.d (.int k)), none, none, none] [] = _
      unfold b__law_draw
      rw [seq_nx e0, seq_nx e1, seq_nx e2]
      generalize hτ : ([some (.d (.scr ns)), some (.d (.int k)), some (.d (.int cell)), some (.d (.int (k / N))), none] : Sl) = τ
      have v1 : τ[1]? = some (some (.d (.int k))) := by rw [← hτ]; rfl
      have v2 : τ[2]? = some (some (.d (.int cell))) := by rw [← hτ]; rfl
      rw [hτ] at hT
      rw [seq_nx (τ1 := τ) (h1 := []) (by rw [if_ff hT]; rfl)]
      refine ret_of ?_
      have a1 : mBin gMul (mVar 2) (mC (.int 48271)) τ [] = some (.ok (.d (.int (cell * 48271))) []) := by
        rw [bin_of (var_of v2) rfl]
        refine gMul_ok _ ?_
        unfold mulOk
        refine decide_eq_true ?_
        have : (48271 : Int).natAbs.log2 < 16 := by decide
        omega
      have a2 : mBin gMul (mVar 1) (mC (.int 69621)) τ [] = some (.ok (.d (.int (k * 69621))) []) := by
        rw [bin_of (var_of v1) rfl]
        exact gMul_ok _ (mul_small (by omega) (by decide))
      have a3 : mBin (gAdd false) (mBin (gAdd false) (mBin gMul (mVar 2) (mC (.int 48271))) (mBin gMul (mVar 1) (mC (.int 69621)))) (mC (.int 13)) τ [] = some (.ok (.d (.int (cell * 48271 + k * 69621 + 13))) []) := by
        rw [bin_of (a := .d (.int (cell * 48271 + k * 69621))) (h1 := []) (by rw [bin_of a1 a2]; rfl) rfl]
        rfl
      have a4 : mBin gMod (mBin (gAdd false) (mBin (gAdd false) (mBin gMul (mVar 2) (mC (.int 48271))) (mBin gMul (mVar 1) (mC (.int 69621)))) (mC (.int 13))) (mC (.int 2147483647)) τ [] = some (.ok (.d (.int ((cell * 48271 + k * 69621 + 13) % 2147483647))) []) := by
        rw [bin_of a3 rfl]
        exact gMod_ok _ (by decide)
      rw [bin_of (a := .d (.int ((cell * 48271 + k * 69621 + 13) % 2147483647 * 16807))) (h1 := []) (by
        rw [bin_of a4 rfl]
        exact gMul_ok _ (mul_small (by omega) (by decide))) rfl]
      exact gMod_ok _ (by decide)
end K51

set_option maxHeartbeats 1000000
namespace K51
open PySem PySem.Spec PyProof.Rows L2 Tq
def bk1t : E Bool :=
 (mTB (mBin gLe (mVar 4) (mC (.int 2))))
def bk1 : MS :=
 (mSeq (mSet 6 (mBin gGet (mLst false (maCons (mC (.int 17)) (maCons (mC (.int 0)) (maCons (mC (.int 1)) maNil)))) (mBin gMod (mBin gDiv (mVar 3) (mC (.int 1200))) (mC (.int 3)))))
 (mSeq (mSet 7 C1__law_deed)
 (mSeq (mSet 9 (mUn gLen (mVar 7)))
 (mSeq (mIf (mAndT (mTB (mBin (gIs true) (mVar 5) (mC .non))) (mTB (mBin gLt (mVar 5) (mVar 9)))) (mSet 9 (mVar 5)) mNx)
 (mSeq (mSet 10 (mUn (gLstOf true) (mVar 7)))
 (mSeq (mSet 11 (mMeth "File" "write" 3 sem_File__write (mVar 0) (maCons (mVar 10) (maCons (mVar 5) maNil))))
 (mSeq (mIf (mTB (mBin (gEq true) (mVar 10) (mVar 7))) (mRet (mC (.bl false))) mNx)
 (mSeq (mDrop (mM1 tokL gApp (mVar 10) (mC (.int 99))))
 (mSeq (mDrop (mM0 tokL gRev (mVar 10)))
 (mSeq (mSetI false (mVar 1) (mC (.str "steps")) (mBin (gAdd false) (mBin gGet (mVar 1) (mC (.str "steps"))) C2__law_deed))
 (mRet (mBin (gEq false) (mVar 11) (mVar 9)))))))))))))
def bk2t : E Bool :=
 (mTB (mBin gLe (mVar 4) (mC (.int 4))))
def bk2 : MS :=
 (mSeq (mSet 13 (mBin gMod (mVar 3) (mBin (gAdd false) (mBin gGet (mLst false (maCons (mC (.int 4)) (maCons (mC (.int 4)) (maCons (mC (.int 60)) maNil)))) (mBin gMod (mBin gDiv (mVar 3) (mC (.int 401))) (mC (.int 3)))) (mUn gLen (mCallP sem__law_after (lenIs 2 (maCons (mBin gGet (mVar 1) (mC (.str "lasting"))) (maCons (mBin gGet (mVar 1) (mC (.str "steps"))) maNil))))))))
 (mSeq (mSet 11 (mMeth "File" "shorten" 3 sem_File__shorten (mVar 0) (maCons (mVar 13) (maCons (mVar 5) maNil))))
 (mSeq (mIf (mTB (mBin (gEq false) (mVar 5) (mC (.int 0)))) (mRet (mBin (gEq false) (mVar 11) (mC (.int 0)))) mNx)
 (mSeq (mSetI false (mVar 1) (mC (.str "steps")) (mBin (gAdd false) (mBin gGet (mVar 1) (mC (.str "steps"))) (mLst false (maCons (mTup (maCons (mC (.int 1)) (maCons (mVar 13) maNil))) maNil))))
 (mRet (mBin (gEq false) (mVar 11) (mC (.int 1))))))))
def bk3t : E Bool :=
 (mTB (mBin (gEq false) (mVar 4) (mC (.int 5))))
def bk3 : MS :=
 (mSeq (mSet 11 (mMeth "File" "flush" 2 sem_File__flush (mVar 0) (maCons (mVar 5) maNil)))
 (mSeq (mIf (mTB (mBin (gEq false) (mVar 5) (mC (.int 0)))) (mRet (mBin (gEq false) (mVar 11) (mC (.int 0)))) mNx)
 (mSeq (mSetI false (mVar 1) (mC (.str "lasting")) (mCallP sem__law_after (lenIs 2 (maCons (mBin gGet (mVar 1) (mC (.str "lasting"))) (maCons (mBin gGet (mVar 1) (mC (.str "steps"))) maNil)))))
 (mSeq (mSetI false (mVar 1) (mC (.str "steps")) (mLst false maNil))
 (mRet (mBin (gEq false) (mVar 11) (mC (.int 1))))))))
def bk4 : MS :=
 (mSeq (mSet 9 (mBin gMod (mBin gDiv (mVar 2) (mC (.int 11))) (mBin (gAdd false) (mC (.int 5)) (mUn gLen (mBin gGet (mVar 1) (mC (.str "steps")))))))
 (mSeq (mDrop (mMeth "File" "lose" 2 sem_File__lose (mVar 0) (maCons (mVar 9) maNil)))
 (mSeq (mSetI false (mVar 1) (mC (.str "lasting")) (mCallP sem__law_after (lenIs 2 (maCons (mBin gGet (mVar 1) (mC (.str "lasting"))) (maCons (mSl false (mBin gGet (mVar 1) (mC (.str "steps"))) moN (moS (mVar 9))) maNil)))))
 (mSeq (mSetI false (mVar 1) (mC (.str "steps")) (mLst false maNil))
 (mRet (mC (.bl true)))))))
def lim0 : MS :=
 (mIf (mTB (mBin (gEq false) (mBin gMod (mBin gDiv (mVar 2) (mC (.int 7))) (mC (.int 3))) (mC (.int 0)))) (mSet 5 (mBin gMod (mBin gDiv (mVar 2) (mC (.int 21))) (mBin gGet (mLst false (maCons (mC (.int 7)) (maCons (mC (.int 7)) (maCons (mC (.int 400)) maNil)))) (mBin gMod (mBin gDiv (mVar 2) (mC (.int 147))) (mC (.int 3)))))) mNx)
theorem deed_eq : b__law_deed = mSeq (mSet 4 (mBin gMod (mVar 2) (mC (.int 7)))) (mSeq (mSet 5 (mC .non)) (mSeq lim0 (mSeq (mIf bk1t bk1 mNx) (mSeq (mIf bk2t bk2 mNx) (mSeq (mIf bk3t bk3 mNx) bk4))))) := rfl
/-! ### the law's own record -/
abbrev KS : List Key := [.inr "lasting", .inr "steps"]
def SD (x y : D) : O := .nd (.dic KS) [.d x, .d y]
theorem hg_l (x y : A) : hGet (.dic KS) [x, y] (.d (.str "lasting")) = some (some x) := by with_unfolding_all rfl
theorem hg_s (x y : A) : hGet (.dic KS) [x, y] (.d (.str "steps")) = some (some y) := by with_unfolding_all rfl
theorem hp_l (w x y : A) : hPut (.dic KS) [x, y] (.d (.str "lasting")) w = some (.dic KS, [w, y]) := by
  unfold hPut
  dsimp only
  rw [if_pos (by decide +kernel)]
  with_unfolding_all rfl
theorem hp_s (w x y : A) : hPut (.dic KS) [x, y] (.d (.str "steps")) w = some (.dic KS, [x, w]) := by
  unfold hPut
  dsimp only
  rw [if_pos (by decide +kernel)]
  with_unfolding_all rfl
theorem get_l {h : Hq} {s : Nat} {x y : D} {τ : Sl} (e0 : τ[1]? = some (some (.r s))) (e : h[s]? = some (SD x y)) : mBin gGet (mVar 1) (mC (.str "lasting")) τ h = some (.ok (.d x) h) := by
  rw [bin_of (var_of e0) rfl]
  unfold gGet
  have d : dicOf h (.r s) = some (.dic KS, [.d x, .d y]) := by unfold dicOf; dsimp only; rw [e]; rfl
  rw [d]
  unfold gGetD
  rw [d]
  dsimp only
  rw [hg_l]
  rfl
theorem get_s {h : Hq} {s : Nat} {x y : D} {τ : Sl} (e0 : τ[1]? = some (some (.r s))) (e : h[s]? = some (SD x y)) : mBin gGet (mVar 1) (mC (.str "steps")) τ h = some (.ok (.d y) h) := by
  rw [bin_of (var_of e0) rfl]
  unfold gGet
  have d : dicOf h (.r s) = some (.dic KS, [.d x, .d y]) := by unfold dicOf; dsimp only; rw [e]; rfl
  rw [d]
  unfold gGetD
  rw [d]
  dsimp only
  rw [hg_s]
  rfl
theorem put_l {h h1 : Hq} {s : Nat} {x y z : D} {τ : Sl} {mv : E A} (e0 : τ[1]? = some (some (.r s))) (e1 : mv τ h = some (.ok (.d z) h1)) (e : h1[s]? = some (SD x y)) : mSetI false (mVar 1) (mC (.str "lasting")) mv τ h = some (.nx τ (h1.set s (SD z y))) := by
  unfold mSetI
  rw [e1, sb_ok, var_of e0, sb_ok]
  show sb τ (some (Rs.ok (A.d (.str "lasting")) h1)) _ = _
  rw [sb_ok, if_pos (by unfold isLst; dsimp only; rw [e]; rfl)]
  unfold putA
  dsimp only
  rw [e]
  dsimp only [SD]
  rw [hp_l]
theorem put_s {h h1 : Hq} {s : Nat} {x y z : D} {τ : Sl} {mv : E A} (e0 : τ[1]? = some (some (.r s))) (e1 : mv τ h = some (.ok (.d z) h1)) (e : h1[s]? = some (SD x y)) : mSetI false (mVar 1) (mC (.str "steps")) mv τ h = some (.nx τ (h1.set s (SD x z))) := by
  unfold mSetI
  rw [e1, sb_ok, var_of e0, sb_ok]
  show sb τ (some (Rs.ok (A.d (.str "steps")) h1)) _ = _
  rw [sb_ok, if_pos (by unfold isLst; dsimp only; rw [e]; rfl)]
  unfold putA
  dsimp only
  rw [e]
  dsimp only [SD]
  rw [hp_s]
abbrev LD (L : List Int) : D := .lst (L.map D.int)
abbrev TD (st : List St) : D := .lst (st.map lD)
structure Wd (h : Hq) (f q m : Nat) (L : List Int) (st : List St) : Prop extends FileAt h f m L st where
  d : h[q]? = some (SD (LD L) (TD st))
theorem Wd.fs {h : Hq} {f q m : Nat} {L : List Int} {st : List St} (w : Wd h f q m L st) : f ≠ q := fun e => by
  have h1 := w.f
  have h2 := w.d
  rw [e, h2] at h1
  cases h1
theorem Wd.ms {h : Hq} {f q m : Nat} {L : List Int} {st : List St} (w : Wd h f q m L st) : m ≠ q := fun e => by
  have h1 := w.s
  have h2 := w.d
  rw [e, h2] at h1
  cases h1
/-- what a deed does to the rest -/
def Else (h h' : Hq) (f q m : Nat) : Prop := ∀ k o, k ≠ f → k ≠ q → k ≠ m → h[k]? = some o → h'[k]? = some o
def Goes (h : Hq) (f q m : Nat) (L : List Int) (st : List St) (r : Option So) : Prop := ∃ h' m' L' st', r = some (.rt (.d (.bl true)) h') ∧ Wd h' f q m' L' st' ∧ Else h h' f q m ∧ (m' = m ∨ h.length ≤ m') ∧ L'.length + st'.length ≤ L.length + st.length + 300
theorem pick3 (a b c i : Int) (h : Hq) (h0 : 0 ≤ i) (h3 : i < 3) : ∃ v, gGet (.d (.lst [.int a, .int b, .int c])) (.d (.int i)) h = some (.ok (.d (.int v)) h) ∧ (v = a ∨ v = b ∨ v = c) := by
  rcases (by omega : i = 0 ∨ i = 1 ∨ i = 2) with e | e | e
  · exact ⟨a, by rw [e]; rfl, .inl rfl⟩
  · exact ⟨b, by rw [e]; rfl, .inr (.inl rfl)⟩
  · exact ⟨c, by rw [e]; rfl, .inr (.inr rfl)⟩
theorem pick4 (a b c d i : Int) (h : Hq) (h0 : 0 ≤ i) (h3 : i < 4) : ∃ v, gGet (.d (.lst [.int a, .int b, .int c, .int d])) (.d (.int i)) h = some (.ok (.d (.int v)) h) ∧ (v = a ∨ v = b ∨ v = c ∨ v = d) := by
  rcases (by omega : i = 0 ∨ i = 1 ∨ i = 2 ∨ i = 3) with e | e | e | e
  · exact ⟨a, by rw [e]; rfl, .inl rfl⟩
  · exact ⟨b, by rw [e]; rfl, .inr (.inl rfl)⟩
  · exact ⟨c, by rw [e]; rfl, .inr (.inr (.inl rfl))⟩
  · exact ⟨d, by rw [e]; rfl, .inr (.inr (.inr rfl))⟩
/-- i // a % b by places -/
theorem dm_of {τ : Sl} {h : Hq} {j : Nat} {i a b : Int} (e : τ[j]? = some (some (.d (.int i)))) (ha : divOk i a = true) (hb : 0 < b) : mBin gMod (mBin gDiv (mVar j) (mC (.int a))) (mC (.int b)) τ h = some (.ok (.d (.int (i / a % b))) h) := by
  rw [bin_of (show mBin gDiv (mVar j) (mC (.int a)) τ h = some (.ok (.d (.int (i / a))) h) by rw [bin_of (var_of e) rfl]; exact gDiv_ok _ ha) rfl]
  exact gMod_ok _ hb
theorem if0_of {l : Option Nat} {τ : Sl} {h : Hq} {i : Nat} {m1 m2 : MS} (e : τ[i]? = some (some (.d (limD l)))) : mIf (mTB (mBin (gEq false) (mVar i) (mC (.int 0)))) m1 m2 τ h = if l = some 0 then m1 τ h else m2 τ h := mIfEq0 e
theorem eqi_of {τ : Sl} {h : Hq} {i j : Int} {a b : E A} (e1 : a τ h = some (.ok (.d (.int i)) h)) (e2 : b τ h = some (.ok (.d (.int j)) h)) : mBin (gEq false) a b τ h = some (.ok (.d (.bl (decide (i = j)))) h) := by
  rw [bin_of e1 e2]
  unfold gEq g2V view
  rw [vw_d, vw_d]
  dsimp only
  rw [eqD_int, if_neg (by simp)]
/-- a limit is drawn -/
theorem lim_ok {τ : Sl} {h : Hq} {n : Int} (h0 : 0 ≤ n) (e2 : τ[2]? = some (some (.d (.int n)))) (e5 : τ[5]? = some (some (.d .non))) : ∃ l : Option Nat, lim0 τ h = some (.nx (τ.set 5 (some (.d (limD l)))) h) := by
  have q := dm_of (τ := τ) (h := h) (a := 7) (b := 3) e2 rfl (by decide)
  unfold lim0
  by_cases z : n / 7 % 3 = 0
  · rw [if_tt (tb_of (k := true) (by rw [eqi_of q rfl, decide_eq_true z]))]
    obtain ⟨v, e, hv⟩ := pick3 7 7 400 (n / 147 % 3) h (by omega) (by omega)
    have hv0 : 0 < v := by omega
    refine ⟨some (n / 21 % v).toNat, set_of ?_⟩
    rw [bin_of (a := .d (.int (n / 21))) (b := .d (.int v)) (h1 := h) (h2 := h) (by rw [bin_of (var_of e2) rfl]; exact gDiv_ok _ rfl) (by
      rw [bin_of (a := .d (.lst [.int 7, .int 7, .int 400])) (h1 := h) rfl (dm_of e2 rfl (by decide))]
      exact e), gMod_ok _ hv0]
    have hm : 0 ≤ n / 21 % v := Int.emod_nonneg _ (by omega)
    show some (Rs.ok (A.d (D.int (n / 21 % v))) h) = some (Rs.ok (A.d (D.int ((n / 21 % v).toNat : Nat))) h)
    rw [Int.toNat_of_nonneg hm]
  · rw [if_ff (tb_of (k := false) (by rw [eqi_of q rfl, decide_eq_false z]))]
    refine ⟨none, ?_⟩
    have : τ.set 5 (some (.d (limD none))) = τ := by
      obtain ⟨hk, hh⟩ := List.getElem?_eq_some_iff.mp e5
      have : (some (A.d (limD none)) : Option A) = τ[5] := hh.symm
      rw [this]
      exact List.set_getElem_self hk
    rw [this]
    rfl
end K51

set_option maxHeartbeats 1000000
namespace K51
open PySem PySem.Spec PyProof.Rows L2 Tq
abbrev R14 (f s : Nat) (n o : Int) (a4 a5 a6 a7 a8 a9 a10 a11 a12 a13 : Option A) : Sl := [some (.r f), some (.r s), some (.d (.int n)), some (.d (.int o)), a4, a5, a6, a7, a8, a9, a10, a11, a12, a13]
theorem after_cell {h h' : Hq} {s k : Nat} {L z : List Int} {st : List St} (τ : Sl) (e0 : τ[1]? = some (some (.r s))) (hd : h[s]? = some (SD (LD L) (TD st))) (x1 : sem__law_after [.d (.lst (L.map D.int)), .d (.lst (st.map lD))] [] = some (.ok (.r k) h')) (x2 : h'[k]? = some (.lst (LI z))) :
    mCallP sem__law_after (lenIs 2 (maCons (mBin gGet (mVar 1) (mC (.str "lasting"))) (maCons (mBin gGet (mVar 1) (mC (.str "steps"))) maNil))) τ h = some (.ok (.d (LD z)) h) :=
  callP_of (ds := [LD L, TD st]) (len_of (n := 2) (cons_of (get_l e0 hd) (cons_of (r := []) (get_s e0 hd) rfl)) rfl) x1 (view_lst x2)
/-- flush -/
theorem bk3_ok {h : Hq} {f s m : Nat} {L : List Int} {st : List St} (w : Wd h f s m L st) (hl : L.length + st.length + 300 ≤ LIM) (l : Option Nat) {n o : Int} {a4 a6 a7 a8 a9 a10 a11 a12 a13 : Option A} :
    Goes h f s m L st (bk3 (R14 f s n o a4 (some (.d (limD l))) a6 a7 a8 a9 a10 a11 a12 a13) h) := by
  unfold bk3
  have hF := flush_ok w.toFileAt l (by omega)
  have e1 : mMeth "File" "flush" 2 sem_File__flush (mVar 0) (maCons (mVar 5) maNil) (R14 f s n o a4 (some (.d (limD l))) a6 a7 a8 a9 a10 a11 a12 a13) h = sem_File__flush [.r f, .d (limD l)] h := by
    rw [meth_of (n := 2) (ws := [.d (limD l)]) (var_of rfl) (ins_of w.f (by decide +kernel)) (cons_of (var_of rfl) rfl) rfl]
  by_cases z : l = some 0
  · rw [if_pos z] at hF
    rw [seq_nx (set_of (e1.trans hF))]
    refine ⟨h, m, L, st, ?_, w, fun k o _ _ _ e => e, .inl rfl, by omega⟩
    rw [seq_rt (w := .d (.bl true)) (h1 := h)]
    rw [if0_of (l := l) rfl, if_pos z]
    refine ret_of ?_
    rw [eqi_of (i := 0) (j := 0) (var_of rfl) rfl]
    rfl
  · rw [if_neg z] at hF
    rw [seq_nx (set_of (e1.trans hF))]
    have F2 := loseH_at (c := st.length) w.toFileAt
    rw [List.take_length] at F2
    have hd : (loseH h f L st st.length)[s]? = some (SD (LD L) (TD st)) := loseH_ne (Ne.symm w.fs) w.d
    generalize hH : loseH h f L st st.length = H2 at F2 hd
    obtain ⟨k, h', x1, x2⟩ := law_after_ok L st (by omega)
    have hs2 : s < H2.length := (List.getElem?_eq_some_iff.mp hd).1
    have hlen : H2.length = h.length + 1 := by
      rw [← hH]
      unfold loseH
      rw [List.length_set, List.length_append]
      rfl
    have ns : s ≠ h.length := by
      have := (List.getElem?_eq_some_iff.mp w.d).1
      omega
    rw [seq_nx (τ1 := R14 f s n o a4 (some (.d (limD l))) a6 a7 a8 a9 a10 (some (.d (.int 1))) a12 a13) (h1 := H2) (by rw [if0_of (l := l) rfl, if_neg z]; rfl)]
    have ec := after_cell (z := aft L st) (R14 f s n o a4 (some (.d (limD l))) a6 a7 a8 a9 a10 (some (.d (.int 1))) a12 a13) rfl hd x1 x2
    rw [seq_nx (put_l (z := LD (aft L st)) rfl ec hd)]
    have hd3 : (H2.set s (SD (LD (aft L st)) (TD st)))[s]? = some (SD (LD (aft L st)) (TD st)) := List.getElem?_set_self hs2
    rw [seq_nx (put_s (z := TD []) rfl rfl hd3), List.set_set]
    refine ⟨_, h.length, aft L st, [], ret_of ?_, ⟨⟨?_, ?_⟩, List.getElem?_set_self hs2⟩, fun k o k1 k2 k3 e => ?_, .inr (Nat.le_refl _), ?_⟩
    · rw [eqi_of (i := 1) (j := 1) (var_of rfl) rfl]
      rfl
    · rw [List.getElem?_set_ne (Ne.symm w.fs)]; exact F2.f
    · rw [List.getElem?_set_ne ns]; exact F2.s
    · rw [List.getElem?_set_ne (Ne.symm k2), ← hH]
      exact loseH_ne k1 e
    · have := aft_len L st
      simp only [List.length_nil]
      omega
/-- power is lost -/
theorem bk4_ok {h : Hq} {f s m : Nat} {L : List Int} {st : List St} (w : Wd h f s m L st) (hl : L.length + st.length + 300 ≤ LIM) {n o : Int} (h0 : 0 ≤ n) {a4 a5 a6 a7 a8 a9 a10 a11 a12 a13 : Option A} :
    Goes h f s m L st (bk4 (R14 f s n o a4 a5 a6 a7 a8 a9 a10 a11 a12 a13) h) := by
  unfold bk4
  have hlen : mUn gLen (mBin gGet (mVar 1) (mC (.str "steps"))) (R14 f s n o a4 a5 a6 a7 a8 a9 a10 a11 a12 a13) h = some (.ok (.d (.int (st.length : Nat))) h) := by
    rw [un_of (get_s rfl w.d)]
    show some (Rs.ok (A.d (D.int ((((st.map lD).map A.d).length : Nat) : Int))) h) = _
    rw [List.length_map, List.length_map]
  generalize hN : ((st.length : Nat) : Int) = N at hlen
  have hN0 : 0 ≤ N := by omega
  have hpos : (0 : Int) < 5 + N := by omega
  have hc0 : 0 ≤ n / 11 % (5 + N) := Int.emod_nonneg _ (by omega)
  generalize hc : (n / 11 % (5 + N)).toNat = c
  have hcc : n / 11 % (5 + N) = (c : Int) := by omega
  rw [seq_nx (set_of (w := .d (.int (c : Nat))) (h1 := h) (by
    rw [bin_of (a := .d (.int (n / 11))) (b := .d (.int (5 + N))) (h1 := h) (h2 := h) (by rw [bin_of (var_of rfl) rfl]; exact gDiv_ok _ rfl) (by rw [bin_of rfl hlen]; rfl)]
    rw [gMod_ok _ hpos, hcc]))]
  have hF := lose_ok (c := c) w.toFileAt (by omega)
  rw [seq_nx (drop_of (by
    rw [meth_of (n := 2) (ws := [.d (.int (c : Nat))]) (var_of rfl) (ins_of w.f (by decide +kernel)) (cons_of (var_of rfl) rfl) rfl]
    exact hF))]
  have F2 := loseH_at (c := c) w.toFileAt
  have hd : (loseH h f L st c)[s]? = some (SD (LD L) (TD st)) := loseH_ne (Ne.symm w.fs) w.d
  have hlen2 : (loseH h f L st c).length = h.length + 1 := by
    unfold loseH
    rw [List.length_set, List.length_append]
    rfl
  have els : ∀ k o, k ≠ f → h[k]? = some o → (loseH h f L st c)[k]? = some o := fun k o k1 e => loseH_ne k1 e
  generalize hH : loseH h f L st c = H2 at F2 hd hlen2 els
  obtain ⟨k, h', x1, x2⟩ := law_after_ok L (st.take c) (by rw [List.length_take]; omega)
  have hs2 : s < H2.length := (List.getElem?_eq_some_iff.mp hd).1
  have ns : s ≠ h.length := by
    have := (List.getElem?_eq_some_iff.mp w.d).1
    omega
  have hcut : cut ((st.map lD).map A.d) none (some (c : Int)) = ((st.take c).map lD).map A.d := by
    rw [cut_take _ _ (Int.natCast_nonneg c), Int.toNat_natCast, List.map_take, List.map_take]
  have esl : mSl false (mBin gGet (mVar 1) (mC (.str "steps"))) moN (moS (mVar 9)) ((R14 f s n o a4 a5 a6 a7 a8 a9 a10 a11 a12 a13).set 9 (some (.d (.int (c : Nat))))) H2 = some (.ok (.d (TD (st.take c))) H2) := by
    unfold mSl
    rw [get_s rfl hd]
    show gSl false (.d (TD st)) none (some (c : Int)) H2 = _
    simp only [gSl, tupOf, lstOf]
    unfold mkL
    rw [hcut, if_pos (by simp only [List.length_map, List.length_take]; omega), allD_map]
    rfl
  have ec : mCallP sem__law_after (lenIs 2 (maCons (mBin gGet (mVar 1) (mC (.str "lasting"))) (maCons (mSl false (mBin gGet (mVar 1) (mC (.str "steps"))) moN (moS (mVar 9))) maNil))) ((R14 f s n o a4 a5 a6 a7 a8 a9 a10 a11 a12 a13).set 9 (some (.d (.int (c : Nat))))) H2 = some (.ok (.d (LD (aft L (st.take c)))) H2) :=
    callP_of (ds := [LD L, TD (st.take c)]) (len_of (n := 2) (cons_of (get_l rfl hd) (cons_of (r := []) esl rfl)) rfl) x1 (view_lst x2)
  rw [seq_nx (put_l (z := LD (aft L (st.take c))) rfl ec hd)]
  have hd3 : (H2.set s (SD (LD (aft L (st.take c))) (TD st)))[s]? = some (SD (LD (aft L (st.take c))) (TD st)) := List.getElem?_set_self hs2
  rw [seq_nx (put_s (z := TD []) rfl rfl hd3), List.set_set]
  refine ⟨_, h.length, aft L (st.take c), [], ret_of rfl, ⟨⟨?_, ?_⟩, List.getElem?_set_self hs2⟩, fun k o k1 k2 k3 e => ?_, .inr (Nat.le_refl _), ?_⟩
  · rw [List.getElem?_set_ne (Ne.symm w.fs)]; exact F2.f
  · rw [List.getElem?_set_ne ns]; exact F2.s
  · rw [List.getElem?_set_ne (Ne.symm k2)]
    exact els k o k1 e
  · have := aft_len L (st.take c)
    rw [List.length_take] at this
    simp only [List.length_nil]
    omega
/-- cut off -/
theorem bk2_ok {h : Hq} {f s m : Nat} {L : List Int} {st : List St} (w : Wd h f s m L st) (hl : L.length + st.length + 300 ≤ LIM) (l : Option Nat) {n o : Int} (h0 : 0 ≤ o) {a4 a6 a7 a8 a9 a10 a11 a12 a13 : Option A} :
    Goes h f s m L st (bk2 (R14 f s n o a4 (some (.d (limD l))) a6 a7 a8 a9 a10 a11 a12 a13) h) := by
  unfold bk2
  obtain ⟨k, h', x1, x2⟩ := law_after_ok L st (by omega)
  have hlen : mUn gLen (mCallP sem__law_after (lenIs 2 (maCons (mBin gGet (mVar 1) (mC (.str "lasting"))) (maCons (mBin gGet (mVar 1) (mC (.str "steps"))) maNil)))) (R14 f s n o a4 (some (.d (limD l))) a6 a7 a8 a9 a10 a11 a12 a13) h = some (.ok (.d (.int ((aft L st).length : Nat))) h) := by
    rw [un_of (after_cell (z := aft L st) (R14 f s n o a4 (some (.d (limD l))) a6 a7 a8 a9 a10 a11 a12 a13) rfl w.d x1 x2)]
    show some (Rs.ok (A.d (D.int (((((aft L st).map D.int).map A.d).length : Nat) : Int))) h) = _
    rw [List.length_map, List.length_map]
  obtain ⟨v, e4, hv⟩ := pick3 4 4 60 (o / 401 % 3) h (by omega) (by omega)
  generalize hN : (((aft L st).length : Nat) : Int) = N at hlen
  have hpos : (0 : Int) < v + N := by omega
  generalize hz : o % (v + N) = z
  rw [seq_nx (set_of (w := .d (.int z)) (h1 := h) (by
    rw [bin_of (a := .d (.int o)) (b := .d (.int (v + N))) (h1 := h) (h2 := h) (var_of rfl) (by
      rw [bin_of (a := .d (.int v)) (h1 := h) (by
        rw [bin_of (a := .d (.lst [.int 4, .int 4, .int 60])) (h1 := h) rfl (dm_of (i := o) rfl rfl (by decide))]
        exact e4) hlen]
      rfl)]
    rw [gMod_ok _ hpos, hz]))]
  have hF := shorten_ok (n := z) w.toFileAt l (by omega)
  have e1 : mMeth "File" "shorten" 3 sem_File__shorten (mVar 0) (maCons (mVar 13) (maCons (mVar 5) maNil)) ((R14 f s n o a4 (some (.d (limD l))) a6 a7 a8 a9 a10 a11 a12 a13).set 13 (some (.d (.int z)))) h = sem_File__shorten [.r f, .d (.int z), .d (limD l)] h := by
    rw [meth_of (n := 3) (ws := [.d (.int z), .d (limD l)]) (var_of rfl) (ins_of w.f (by decide +kernel)) (cons_of (var_of rfl) (cons_of (var_of rfl) rfl)) rfl]
  have hs : s < h.length := (List.getElem?_eq_some_iff.mp w.d).1
  have hm : m < h.length := (List.getElem?_eq_some_iff.mp w.s).1
  by_cases zz : l = some 0
  · rw [if_pos zz] at hF
    rw [seq_nx (set_of (e1.trans hF))]
    refine ⟨h, m, L, st, ?_, w, fun k o _ _ _ e => e, .inl rfl, by omega⟩
    rw [seq_rt (w := .d (.bl true)) (h1 := h)]
    rw [if0_of (l := l) rfl, if_pos zz]
    refine ret_of ?_
    rw [eqi_of (i := 0) (j := 0) (var_of rfl) rfl]
    rfl
  · rw [if_neg zz] at hF
    rw [seq_nx (set_of (e1.trans hF))]
    have hd : (h.set m (SL (st ++ [(true, z)])))[s]? = some (SD (LD L) (TD st)) := by rw [List.getElem?_set_ne w.ms]; exact w.d
    rw [seq_nx (τ1 := R14 f s n o a4 (some (.d (limD l))) a6 a7 a8 a9 a10 (some (.d (.int 1))) a12 (some (.d (.int z)))) (h1 := h.set m (SL (st ++ [(true, z)]))) (by rw [if0_of (l := l) rfl, if_neg zz]; rfl)]
    have hap : (st.map lD).map A.d ++ [A.d (.tup [.int 1, .int z])] = ((st ++ [(true, z)]).map lD).map A.d := by
      rw [List.map_append, List.map_append]
      rfl
    generalize hH : h.set m (SL (st ++ [(true, z)])) = H2 at hd
    have ev : mBin (gAdd false) (mBin gGet (mVar 1) (mC (.str "steps"))) (mLst false (maCons (mTup (maCons (mC (.int 1)) (maCons (mVar 13) maNil))) maNil)) (R14 f s n o a4 (some (.d (limD l))) a6 a7 a8 a9 a10 (some (.d (.int 1))) a12 (some (.d (.int z)))) H2 = some (.ok (.d (TD (st ++ [(true, z)]))) H2) := by
      rw [bin_of (a := .d (TD st)) (b := .d (.lst [.tup [.int 1, .int z]])) (h1 := H2) (h2 := H2) (get_s rfl hd) rfl]
      show mkL false ((st.map lD).map A.d ++ [A.d (.tup [.int 1, .int z])]) _ = _
      unfold mkL
      rw [hap, if_pos (by simp only [List.length_map, List.length_append, List.length_singleton]; omega), allD_map]
      rfl
    rw [seq_nx (put_s (z := TD (st ++ [(true, z)])) rfl ev hd), ← hH]
    refine ⟨(h.set m (SL (st ++ [(true, z)]))).set s (SD (LD L) (TD (st ++ [(true, z)]))), m, L, st ++ [(true, z)], ret_of ?_, ⟨⟨?_, ?_⟩, List.getElem?_set_self (by rw [List.length_set]; exact hs)⟩, fun k o k1 k2 k3 e => ?_, .inl rfl, ?_⟩
    · rw [eqi_of (i := 1) (j := 1) (var_of rfl) rfl]
      rfl
    · rw [List.getElem?_set_ne (Ne.symm w.fs), List.getElem?_set_ne (Ne.symm w.ne)]; exact w.f
    · rw [List.getElem?_set_ne (Ne.symm w.ms)]; exact List.getElem?_set_self hm
    · rw [List.getElem?_set_ne (Ne.symm k2), List.getElem?_set_ne (Ne.symm k3)]
      exact e
    · rw [List.length_append, List.length_singleton]
      omega
end K51

set_option maxHeartbeats 1000000
namespace K51
open PySem PySem.Spec PyProof.Rows L2 Tq
theorem lc_of {o : Bool} {mi : E Nxt} {g : A → Sl → Hq → Option Sl} {me : E A} {vs : List Nat} {τ : Sl} {h h1 : Hq} {ws : List A} (f : A → A) (e : mi τ h = some (.ok (nxL ws) h1)) (hs : ∀ w ∈ ws, ∃ τ1, g w (wipeT τ vs) h1 = some τ1 ∧ me τ1 h1 = some (.ok (f w) h1)) (hl : ws.length ≤ LIM) : mLC o mi g mYes me vs τ h = mkL o (ws.map f) h1 := by
  unfold mLC
  rw [e, bd_ok]
  rw [compL_map f hs hl]
  dsimp only
  rw [if_pos (by rw [List.length_map]; exact hl)]
theorem LI_fok (xs : List Int) : (xs.map D.int).all D.fok = true := by
  rw [List.all_map]
  exact List.all_eq_true.mpr fun _ _ => rfl
theorem mkL_d {ds : List D} {h : Hq} (hl : ds.length ≤ LIM) : mkL false (ds.map A.d) h = some (.ok (.d (.lst ds)) h) := by
  unfold mkL
  rw [if_pos (by rw [List.length_map]; exact hl), allD_map]
  rfl
theorem gLe_int (i j : Int) (h : Hq) : gLe (.d (.int i)) (.d (.int j)) h = some (.ok (.d (.bl (decide (i ≤ j)))) h) := rfl
theorem gLt_int (i j : Int) (h : Hq) : gLt (.d (.int i)) (.d (.int j)) h = some (.ok (.d (.bl (decide (i < j)))) h) := rfl
def f1 (n v : Int) : A → A
  | .d (.int k) => .d (.int ((n + v * k) % 256))
  | w => w
def bys (n v : Int) (j : Nat) : List Int := (List.range j).map fun i => (n + v * (0 + ((i : Nat) : Int))) % 256
theorem c1_ok {h : Hq} {f s : Nat} {n o v : Int} (hn : 0 ≤ n ∧ n < 2147483647) (hv : v = 17 ∨ v = 0 ∨ v = 1) {a4 a5 a7 a8 a9 a10 a11 a12 a13 : Option A} : ∃ j : Nat, j ≤ 300 ∧ C1__law_deed (R14 f s n o a4 a5 (some (.d (.int v))) a7 a8 a9 a10 a11 a12 a13) h = some (.ok (.d (LD (bys n v j))) h) := by
  obtain ⟨u, e, hu⟩ := pick4 10 10 10 300 (o / 300 % 4) h (by omega) (by omega)
  have hu0 : 0 < u := by omega
  have hj0 : 0 ≤ o % u := Int.emod_nonneg _ (by omega)
  have hj1 : o % u < u := Int.emod_lt_of_pos _ hu0
  refine ⟨(o % u).toNat, by omega, ?_⟩
  unfold C1__law_deed
  have eb : mBin gMod (mVar 3) (mBin gGet (mLst false (maCons (mC (.int 10)) (maCons (mC (.int 10)) (maCons (mC (.int 10)) (maCons (mC (.int 300)) maNil))))) (mBin gMod (mBin gDiv (mVar 3) (mC (.int 300))) (mC (.int 4)))) (R14 f s n o a4 a5 (some (.d (.int v))) a7 a8 a9 a10 a11 a12 a13) h = some (.ok (.d (.int (o % u))) h) := by
    rw [bin_of (a := .d (.int o)) (b := .d (.int u)) (h1 := h) (h2 := h) (var_of rfl) (by
      rw [bin_of (a := .d (.lst [.int 10, .int 10, .int 10, .int 300])) (h1 := h) rfl (dm_of (i := o) rfl rfl (by decide))]
      exact e)]
    exact gMod_ok _ hu0
  rw [lc_of (ws := rangeA 0 (o % u).toNat) (h1 := h) (f1 n v) (mRange1_of eb (by omega) (by omega)) (fun w hw => by
    obtain ⟨i, hi, rfl⟩ := rangeA_mem hw
    refine ⟨R14 f s n o a4 a5 (some (.d (.int v))) a7 (some (.d (.int (0 + ((i : Nat) : Int))))) a9 a10 a11 a12 a13, rfl, ?_⟩
    generalize hk : (0 + ((i : Nat) : Int)) = k
    have e1 : mBin gMul (mVar 6) (mVar 8) (R14 f s n o a4 a5 (some (.d (.int v))) a7 (some (.d (.int k))) a9 a10 a11 a12 a13) h = some (.ok (.d (.int (v * k))) h) := by
      rw [bin_of (var_of rfl) (var_of rfl)]
      exact gMul_ok _ (mul_small (by omega) (by omega))
    unfold E1__law_deed
    rw [bin_of (a := .d (.int (n + v * k))) (h1 := h) (by rw [bin_of (var_of rfl) e1]; rfl) rfl]
    exact gMod_ok _ (by decide)) (by rw [rangeA_len]; show _ ≤ 16777216; omega)]
  rw [rangeA_map]
  have : ((List.range (o % u).toNat).map fun i => f1 n v (.d (.int (0 + ((i : Nat) : Int))))) = ((bys n v (o % u).toNat).map D.int).map A.d := by
    unfold bys
    rw [List.map_map, List.map_map]
    rfl
  rw [this]
  exact mkL_d (by
    unfold bys
    rw [List.length_map, List.length_map, List.length_range]
    show _ ≤ 16777216
    omega)
def f2 : A → A
  | .d d => .d (.tup [.int 0, d])
  | w => w
theorem c2_ok {h : Hq} {f s c : Nat} {n o : Int} {xs : List Int} (hl : xs.length ≤ LIM) {a4 a5 a6 a8 a10 a11 a12 a13 : Option A} : C2__law_deed (R14 f s n o a4 a5 a6 (some (.d (LD xs))) a8 (some (.d (.int (c : Nat)))) a10 a11 a12 a13) h = some (.ok (.d (TD (bs (xs.take c)))) h) := by
  unfold C2__law_deed
  have ec : cut ((xs.map D.int).map A.d) none (some (c : Int)) = ((xs.take c).map D.int).map A.d := by
    rw [cut_take _ _ (Int.natCast_nonneg c), Int.toNat_natCast, List.map_take, List.map_take]
  have hc : (xs.take c).length ≤ LIM := by rw [List.length_take]; omega
  have esl : mSl false (mVar 7) moN (moS (mVar 9)) (R14 f s n o a4 a5 a6 (some (.d (LD xs))) a8 (some (.d (.int (c : Nat)))) a10 a11 a12 a13) h = some (.ok (.d (LD (xs.take c))) h) := by
    show gSl false (.d (LD xs)) none (some (c : Int)) h = _
    simp only [gSl, tupOf, lstOf]
    rw [ec]
    exact mkL_d (by rw [List.length_map]; exact hc)
  rw [lc_of (ws := ((xs.take c).map D.int).map A.d) (h1 := h) f2 (by
    unfold mItems
    rw [esl, bd_ok]
    rfl) (fun w hw => by
      obtain ⟨d, hd, rfl⟩ := List.mem_map.mp hw
      refine ⟨R14 f s n o a4 a5 a6 (some (.d (LD xs))) a8 (some (.d (.int (c : Nat)))) a10 a11 (some (.d d)) a13, rfl, ?_⟩
      rfl) (by rw [List.length_map, List.length_map]; exact hc)]
  have : (((xs.take c).map D.int).map A.d).map f2 = ((bs (xs.take c)).map lD).map A.d := by
    unfold bs
    rw [List.map_map, List.map_map, List.map_map, List.map_map]
    rfl
  rw [this]
  exact mkL_d (by unfold bs; rw [List.length_map, List.length_map]; exact hc)
theorem bk1_ok {h : Hq} {f s m : Nat} {L : List Int} {st : List St} (w : Wd h f s m L st) (hl : L.length + st.length + 300 ≤ LIM) (l : Option Nat) {n o : Int} (hn : 0 ≤ n ∧ n < 2147483647) {a4 a6 a7 a8 a9 a10 a11 a12 a13 : Option A} :
    Goes h f s m L st (bk1 (R14 f s n o a4 (some (.d (limD l))) a6 a7 a8 a9 a10 a11 a12 a13) h) := by
  unfold bk1
  obtain ⟨v, e1, hv⟩ := pick3 17 0 1 (o / 1200 % 3) h (by omega) (by omega)
  rw [seq_nx (τ1 := R14 f s n o a4 (some (.d (limD l))) (some (.d (.int v))) a7 a8 a9 a10 a11 a12 a13) (h1 := h) (set_of (w := .d (.int v)) (h1 := h) (by
    rw [bin_of (a := .d (.lst [.int 17, .int 0, .int 1])) (h1 := h) rfl (dm_of (i := o) rfl rfl (by decide))]
    exact e1))]
  obtain ⟨j, hj, e2⟩ := c1_ok (h := h) (f := f) (s := s) (o := o) hn hv (a4 := a4) (a5 := some (.d (limD l))) (a7 := a7) (a8 := a8) (a9 := a9) (a10 := a10) (a11 := a11) (a12 := a12) (a13 := a13)
  rw [seq_nx (τ1 := R14 f s n o a4 (some (.d (limD l))) (some (.d (.int v))) (some (.d (LD (bys n v j)))) a8 a9 a10 a11 a12 a13) (h1 := h) (set_of e2)]
  have hx : (bys n v j).length ≤ 300 := by
    unfold bys
    rw [List.length_map, List.length_range]
    exact hj
  generalize bys n v j = xs at hx e2
  have hL : LIM = 16777216 := rfl
  have hxL : xs.length ≤ LIM := by omega
  rw [seq_nx (τ1 := R14 f s n o a4 (some (.d (limD l))) (some (.d (.int v))) (some (.d (LD xs))) a8 (some (.d (.int (xs.length : Nat)))) a10 a11 a12 a13) (h1 := h) (set_of (by
    rw [un_of (var_of rfl)]
    show some (Rs.ok (A.d (D.int ((((xs.map D.int).map A.d).length : Nat) : Int))) h) = _
    rw [List.length_map, List.length_map]))]
  have hcx := cnt_le xs.length l
  rw [seq_nx (τ1 := R14 f s n o a4 (some (.d (limD l))) (some (.d (.int v))) (some (.d (LD xs))) a8 (some (.d (.int (cnt xs.length l : Nat)))) a10 a11 a12 a13) (h1 := h) (by
    cases l with
    | none => rfl
    | some l =>
      have t1 : mTB (mBin (gIs true) (mVar 5) (mC .non)) (R14 f s n o a4 (some (.d (limD (some l)))) (some (.d (.int v))) (some (.d (LD xs))) a8 (some (.d (.int (xs.length : Nat)))) a10 a11 a12 a13) h = some (.ok true h) := rfl
      have t2 : mTB (mBin gLt (mVar 5) (mVar 9)) (R14 f s n o a4 (some (.d (limD (some l)))) (some (.d (.int v))) (some (.d (LD xs))) a8 (some (.d (.int (xs.length : Nat)))) a10 a11 a12 a13) h = some (.ok (decide ((l : Int) < (xs.length : Int))) h) := tb_of (by
        rw [bin_of (a := .d (.int (l : Nat))) (b := .d (.int (xs.length : Nat))) (var_of rfl) (var_of rfl)]
        exact gLt_int _ _ _)
      have t3 : mAndT (mTB (mBin (gIs true) (mVar 5) (mC .non))) (mTB (mBin gLt (mVar 5) (mVar 9))) (R14 f s n o a4 (some (.d (limD (some l)))) (some (.d (.int v))) (some (.d (LD xs))) a8 (some (.d (.int (xs.length : Nat)))) a10 a11 a12 a13) h = some (.ok (decide ((l : Int) < (xs.length : Int))) h) := by
        unfold mAndT
        rw [t1, bd_ok]
        exact t2
      by_cases z : l < xs.length
      · rw [decide_eq_true (by omega)] at t3
        rw [if_tt t3, show cnt xs.length (some l) = l from Nat.min_eq_left (by omega)]
        rfl
      · rw [decide_eq_false (by omega)] at t3
        rw [if_ff t3, show cnt xs.length (some l) = xs.length from Nat.min_eq_right (by omega)]
        rfl)]
  have hw := fun (h0 : Hq) (F : FileAt h0 f m L st) (G : Given h0 xs (.r h.length)) => write_ok F G l (by omega)
  generalize hc : cnt xs.length l = c at hcx hw
  rw [seq_nx (τ1 := R14 f s n o a4 (some (.d (limD l))) (some (.d (.int v))) (some (.d (LD xs))) a8 (some (.d (.int (c : Nat)))) (some (.r h.length)) a11 a12 a13) (h1 := h ++ [O.lst (LI xs)]) (set_of (by
    rw [un_of (var_of rfl)]
    show mkL true (LI xs) h = _
    unfold mkL
    rw [LI_len, if_pos hxL]
    rfl))]
  have lf : f < h.length := (List.getElem?_eq_some_iff.mp w.f).1
  have lm : m < h.length := (List.getElem?_eq_some_iff.mp w.s).1
  have ls : s < h.length := (List.getElem?_eq_some_iff.mp w.d).1
  have e3 := hw (h ++ [O.lst (LI xs)]) ⟨by rw [List.getElem?_append_left lf]; exact w.f, by rw [List.getElem?_append_left lm]; exact w.s⟩ (.c (by rw [List.getElem?_append_right (Nat.le_refl _), Nat.sub_self]; rfl))
  have if1 : (h ++ [O.lst (LI xs)])[f]? = some (FL L m) := by rw [List.getElem?_append_left lf]; exact w.f
  rw [seq_nx (τ1 := R14 f s n o a4 (some (.d (limD l))) (some (.d (.int v))) (some (.d (LD xs))) a8 (some (.d (.int (c : Nat)))) (some (.r h.length)) (some (.d (.int (c : Nat)))) a12 a13) (set_of (by
    rw [meth_of (n := 3) (ws := [.r h.length, .d (limD l)]) (var_of rfl) (ins_of if1 (by decide +kernel)) (cons_of (var_of rfl) (cons_of (var_of rfl) rfl)) rfl]
    exact e3))]
  have F1 : ((h ++ [O.lst (LI xs)]).set m (SL (st ++ bs (xs.take c))))[f]? = some (FL L m) := by rw [List.getElem?_set_ne (Ne.symm w.ne)]; exact if1
  have S1 : ((h ++ [O.lst (LI xs)]).set m (SL (st ++ bs (xs.take c))))[m]? = some (SL (st ++ bs (xs.take c))) := List.getElem?_set_self (by rw [List.length_append]; omega)
  have D1 : ((h ++ [O.lst (LI xs)]).set m (SL (st ++ bs (xs.take c))))[s]? = some (SD (LD L) (TD st)) := by rw [List.getElem?_set_ne w.ms, List.getElem?_append_left ls]; exact w.d
  have G1 : ((h ++ [O.lst (LI xs)]).set m (SL (st ++ bs (xs.take c))))[h.length]? = some (.lst (LI xs)) := by rw [List.getElem?_set_ne (by omega), List.getElem?_append_right (Nat.le_refl _), Nat.sub_self]; rfl
  have R1 : ∀ k o, k ≠ f → k ≠ s → k ≠ m → h[k]? = some o → ((h ++ [O.lst (LI xs)]).set m (SL (st ++ bs (xs.take c))))[k]? = some o := fun k o _ _ k3 e => by
    rw [List.getElem?_set_ne (Ne.symm k3), List.getElem?_append_left (List.getElem?_eq_some_iff.mp e).1]
    exact e
  generalize (h ++ [O.lst (LI xs)]).set m (SL (st ++ bs (xs.take c))) = H1 at F1 S1 D1 G1 R1 e3
  generalize hτ : R14 f s n o a4 (some (.d (limD l))) (some (.d (.int v))) (some (.d (LD xs))) a8 (some (.d (.int (c : Nat)))) (some (.r h.length)) (some (.d (.int (c : Nat)))) a12 a13 = τ
  have t1 : τ[1]? = some (some (.r s)) := by rw [← hτ]; rfl
  have t7 : τ[7]? = some (some (.d (LD xs))) := by rw [← hτ]; rfl
  have t9 : τ[9]? = some (some (.d (.int (c : Nat)))) := by rw [← hτ]; rfl
  have t10 : τ[10]? = some (some (.r h.length)) := by rw [← hτ]; rfl
  have t11 : τ[11]? = some (some (.d (.int (c : Nat)))) := by rw [← hτ]; rfl
  have tst : mBin (gEq true) (mVar 10) (mVar 7) τ H1 = some (.ok (.d (.bl false)) H1) := by
    rw [bin_of (var_of t10) (var_of t7)]
    show g2V (eqD true) (.r h.length) (.d (LD xs)) H1 = _
    unfold g2V
    rw [show view H1 (.r h.length) = some (.lst (xs.map D.int)) from view_lst G1, show view H1 (.d (LD xs)) = some (.lst (xs.map D.int)) from vw_d _ _ _]
    dsimp only
    rw [eqD_same (shp_lst (LI_fok xs))]
    rfl
  rw [seq_nx (τ1 := τ) (h1 := H1) (by rw [if_ff (tb_of tst)]; rfl)]
  rw [seq_nx (append_of (k := h.length) (ws := LI xs) (w := .d (.int 99)) (var_of t10) G1 rfl (by rw [LI_len]; omega))]
  have lg : h.length < H1.length := (List.getElem?_eq_some_iff.mp G1).1
  have er : mDrop (mM0 tokL gRev (mVar 10)) τ (H1.set h.length (O.lst (LI xs ++ [A.d (D.int 99)]))) = some (.nx τ (H1.set h.length (O.lst (LI xs ++ [A.d (D.int 99)]).reverse))) := by
    have g2 : (H1.set h.length (O.lst (LI xs ++ [A.d (D.int 99)])))[h.length]? = some (.lst (LI xs ++ [A.d (D.int 99)])) := List.getElem?_set_self lg
    refine drop_of (w := .d .non) ?_
    unfold mM0
    rw [var_of t10, bd_ok, if_pos (by unfold tokL lstOf; dsimp only; rw [g2]; rfl)]
    unfold gRev
    dsimp only
    rw [g2]
    dsimp only
    rw [List.set_set]
  rw [seq_nx er]
  have F2 : (H1.set h.length (O.lst (LI xs ++ [A.d (D.int 99)]).reverse))[f]? = some (FL L m) := by rw [List.getElem?_set_ne (by omega)]; exact F1
  have S2 : (H1.set h.length (O.lst (LI xs ++ [A.d (D.int 99)]).reverse))[m]? = some (SL (st ++ bs (xs.take c))) := by rw [List.getElem?_set_ne (by omega)]; exact S1
  have D2 : (H1.set h.length (O.lst (LI xs ++ [A.d (D.int 99)]).reverse))[s]? = some (SD (LD L) (TD st)) := by rw [List.getElem?_set_ne (by omega)]; exact D1
  have R2 : ∀ k o, k ≠ f → k ≠ s → k ≠ m → h[k]? = some o → (H1.set h.length (O.lst (LI xs ++ [A.d (D.int 99)]).reverse))[k]? = some o := fun k o k1 k2 k3 e => by
    have := (List.getElem?_eq_some_iff.mp e).1
    rw [List.getElem?_set_ne (by omega)]
    exact R1 k o k1 k2 k3 e
  generalize H1.set h.length (O.lst (LI xs ++ [A.d (D.int 99)]).reverse) = H2 at F2 S2 D2 R2
  have hb : (bs (xs.take c)).length ≤ 300 := by
    unfold bs
    rw [List.length_map, List.length_take]
    omega
  have e5 : C2__law_deed τ H2 = some (.ok (.d (TD (bs (xs.take c)))) H2) := by rw [← hτ]; exact c2_ok hxL
  have e6 : mBin (gAdd false) (mBin gGet (mVar 1) (mC (.str "steps"))) C2__law_deed τ H2 = some (.ok (.d (TD (st ++ bs (xs.take c)))) H2) := by
    rw [bin_of (get_s t1 D2) e5]
    show mkL false ((st.map lD).map A.d ++ ((bs (xs.take c)).map lD).map A.d) H2 = _
    rw [← List.map_append, ← List.map_append]
    exact mkL_d (by rw [List.length_map, List.length_append]; omega)
  rw [seq_nx (put_s t1 e6 D2)]
  have l2 : s < H2.length := (List.getElem?_eq_some_iff.mp D2).1
  refine ⟨H2.set s (SD (LD L) (TD (st ++ bs (xs.take c)))), m, L, st ++ bs (xs.take c), ret_of ?_, ⟨⟨?_, ?_⟩, List.getElem?_set_self l2⟩, fun k o k1 k2 k3 e => ?_, .inl rfl, ?_⟩
  · rw [eqi_of (var_of t11) (var_of t9), decide_eq_true rfl]
  · rw [List.getElem?_set_ne (Ne.symm w.fs)]; exact F2
  · rw [List.getElem?_set_ne (Ne.symm w.ms)]; exact S2
  · rw [List.getElem?_set_ne (Ne.symm k2)]
    exact R2 k o k1 k2 k3 e
  · rw [List.length_append]
    omega
end K51

set_option maxHeartbeats 1000000
namespace K51
open PySem PySem.Spec PyProof.Rows L2 Tq
theorem deed_ok {h : Hq} {f s m : Nat} {L : List Int} {st : List St} (w : Wd h f s m L st) (hl : L.length + st.length + 300 ≤ LIM) {n o : Int} (hn : 0 ≤ n ∧ n < 2147483647) (ho : 0 ≤ o) :
    ∃ h' m' L' st', sem__law_deed [.r f, .r s, .d (.int n), .d (.int o)] h = some (.ok (.d (.bl true)) h') ∧ Wd h' f s m' L' st' ∧ Else h h' f s m ∧ (m' = m ∨ h.length ≤ m') ∧ L'.length + st'.length ≤ L.length + st.length + 300 := by
  suffices G : Goes h f s m L st (b__law_deed (R14 f s n o none none none none none none none none none none) h) by
    obtain ⟨h', m', L', st', e, r⟩ := G
    exact ⟨h', m', L', st', runB_rt rfl e, r⟩
  rw [deed_eq]
  rw [seq_nx (τ1 := R14 f s n o (some (.d (.int (n % 7)))) none none none none none none none none none) (h1 := h) (set_of (by rw [bin_of (var_of rfl) rfl]; exact gMod_ok _ (by decide)))]
  rw [seq_nx (τ1 := R14 f s n o (some (.d (.int (n % 7)))) (some (.d .non)) none none none none none none none none) (h1 := h) (set_of rfl)]
  obtain ⟨l, e⟩ := lim_ok (τ := R14 f s n o (some (.d (.int (n % 7)))) (some (.d .non)) none none none none none none none none) (h := h) hn.1 rfl rfl
  rw [seq_nx (τ1 := R14 f s n o (some (.d (.int (n % 7)))) (some (.d (limD l))) none none none none none none none none) (h1 := h) e]
  generalize hk : n % 7 = k
  have t1 : bk1t (R14 f s n o (some (.d (.int k))) (some (.d (limD l))) none none none none none none none none) h = some (.ok (decide (k ≤ 2)) h) := tb_of (by rw [bin_of (var_of rfl) rfl]; exact gLe_int _ _ _)
  have t2 : bk2t (R14 f s n o (some (.d (.int k))) (some (.d (limD l))) none none none none none none none none) h = some (.ok (decide (k ≤ 4)) h) := tb_of (by rw [bin_of (var_of rfl) rfl]; exact gLe_int _ _ _)
  have t3 : bk3t (R14 f s n o (some (.d (.int k))) (some (.d (limD l))) none none none none none none none none) h = some (.ok (decide (k = 5)) h) := tb_of (eqi_of (var_of rfl) rfl)
  by_cases z1 : k ≤ 2
  · rw [decide_eq_true z1] at t1
    obtain ⟨h', m', L', st', e, r⟩ := bk1_ok w hl l (n := n) (o := o) hn (a4 := some (.d (.int k))) (a6 := none) (a7 := none) (a8 := none) (a9 := none) (a10 := none) (a11 := none) (a12 := none) (a13 := none)
    refine ⟨h', m', L', st', ?_, r⟩
    exact seq_rt (by rw [if_tt t1]; exact e)
  · rw [decide_eq_false z1] at t1
    rw [seq_nx (τ1 := R14 f s n o (some (.d (.int k))) (some (.d (limD l))) none none none none none none none none) (h1 := h) (by rw [if_ff t1]; rfl)]
    by_cases z2 : k ≤ 4
    · rw [decide_eq_true z2] at t2
      obtain ⟨h', m', L', st', e, r⟩ := bk2_ok w hl l (n := n) (o := o) ho (a4 := some (.d (.int k))) (a6 := none) (a7 := none) (a8 := none) (a9 := none) (a10 := none) (a11 := none) (a12 := none) (a13 := none)
      refine ⟨h', m', L', st', ?_, r⟩
      exact seq_rt (by rw [if_tt t2]; exact e)
    · rw [decide_eq_false z2] at t2
      rw [seq_nx (τ1 := R14 f s n o (some (.d (.int k))) (some (.d (limD l))) none none none none none none none none) (h1 := h) (by rw [if_ff t2]; rfl)]
      by_cases z3 : k = 5
      · rw [decide_eq_true z3] at t3
        obtain ⟨h', m', L', st', e, r⟩ := bk3_ok w hl l (n := n) (o := o) (a4 := some (.d (.int k))) (a6 := none) (a7 := none) (a8 := none) (a9 := none) (a10 := none) (a11 := none) (a12 := none) (a13 := none)
        refine ⟨h', m', L', st', ?_, r⟩
        exact seq_rt (by rw [if_tt t3]; exact e)
      · rw [decide_eq_false z3] at t3
        rw [seq_nx (τ1 := R14 f s n o (some (.d (.int k))) (some (.d (limD l))) none none none none none none none none) (h1 := h) (by rw [if_ff t3]; rfl)]
        exact bk4_ok w hl (n := n) (o := o) hn.1
/-! ### the two tellings -/
theorem Wd.app {h : Hq} {f s m : Nat} {L : List Int} {st : List St} (w : Wd h f s m L st) (os : List O) : Wd (h ++ os) f s m L st := by
  refine ⟨⟨?_, ?_⟩, ?_⟩
  · rw [List.getElem?_append_left (List.getElem?_eq_some_iff.mp w.f).1]; exact w.f
  · rw [List.getElem?_append_left (List.getElem?_eq_some_iff.mp w.s).1]; exact w.s
  · rw [List.getElem?_append_left (List.getElem?_eq_some_iff.mp w.d).1]; exact w.d
theorem cell_app (h : Hq) (o : O) : (h ++ [o])[h.length]? = some o := by
  rw [List.getElem?_append_right (Nat.le_refl _), Nat.sub_self]
  rfl
theorem mcont_ok {h : Hq} {τ : Sl} {i f m : Nat} {L : List Int} {st : List St} (F : FileAt h f m L st) (hl : L.length + st.length ≤ LIM) (e : τ[i]? = some (some (.r f))) : mMeth "File" "content" 1 sem_File__content (mVar i) maNil τ h = some (.ok (.r h.length) (h ++ [.lst (LI (aft L st))])) := by
  rw [meth_of (n := 1) (ws := []) (var_of e) (ins_of F.f (by decide +kernel)) rfl rfl]
  exact content_ok F hl
theorem mpend_ok {h : Hq} {τ : Sl} {i f m : Nat} {L : List Int} {st : List St} (F : FileAt h f m L st) (e : τ[i]? = some (some (.r f))) : mMeth "File" "pending" 1 sem_File__pending (mVar i) maNil τ h = some (.ok (.d (.int (st.length : Nat))) h) := by
  rw [meth_of (n := 1) (ws := []) (var_of e) (ins_of F.f (by decide +kernel)) rfl rfl]
  exact pending_ok F
theorem nei_of {τ : Sl} {h : Hq} {i j : Int} {a b : E A} (e1 : a τ h = some (.ok (.d (.int i)) h)) (e2 : b τ h = some (.ok (.d (.int j)) h)) : mBin (gEq true) a b τ h = some (.ok (.d (.bl (!decide (i = j)))) h) := by
  rw [bin_of e1 e2]
  unfold gEq g2V view
  rw [vw_d, vw_d]
  dsimp only
  rw [eqD_int, if_pos rfl]
theorem slen_ok {h : Hq} {s : Nat} {L : List Int} {st : List St} {τ : Sl} {i : Nat} (e0 : τ[i]? = some (some (.r s))) (e : h[s]? = some (SD (LD L) (TD st))) : mUn gLen (mBin gGet (mVar i) (mC (.str "steps"))) τ h = some (.ok (.d (.int (st.length : Nat))) h) := by
  have d : dicOf h (.r s) = some (.dic KS, [.d (LD L), .d (TD st)]) := by unfold dicOf; dsimp only; rw [e]; rfl
  rw [un_of (a := .d (TD st)) (h1 := h) (by
    rw [bin_of (var_of e0) rfl]
    unfold gGet
    rw [d]
    unfold gGetD
    rw [d]
    dsimp only
    rw [hg_s]
    rfl)]
  show some (Rs.ok (A.d (D.int ((((st.map lD).map A.d).length : Nat) : Int))) h) = _
  rw [List.length_map, List.length_map]
/-- a cell of bytes beside a list that stands -/
theorem cmp_cell {n : Bool} {h : Hq} {k : Nat} {xs : List Int} {b : A} (e : h[k]? = some (.lst (LI xs))) (v : view h b = some (LD xs)) : gEq n (.r k) b h = some (.ok (.d (.bl (!n))) h) := by
  show g2V (eqD n) (.r k) b h = _
  unfold g2V
  rw [show view h (.r k) = some (.lst (xs.map D.int)) from view_lst e, v]
  dsimp only
  rw [eqD_same (shp_lst (LI_fok xs))]
theorem eqvAll_len : ∀ {xs ys : List PyData}, xs.length ≠ ys.length → PyData.eqvAll xs ys = false
  | [], [], h => absurd rfl h
  | [], _ :: _, _ => by unfold PyData.eqvAll; rfl
  | _ :: _, [], _ => by unfold PyData.eqvAll; rfl
  | x :: xs, y :: ys, h => by
    unfold PyData.eqvAll
    rw [eqvAll_len (xs := xs) (ys := ys) (fun e => h (by rw [List.length_cons, List.length_cons, e])), Bool.and_false]
theorem toPs_len : ∀ {ds : List D}, (D.toPs ds).length = ds.length
  | [] => rfl
  | _ :: r => congrArg (· + 1) (toPs_len (ds := r))
theorem eqv_lstne {xs ys : List D} (h : xs.length ≠ ys.length) : D.eqv (.lst xs) (.lst ys) = false := by
  show PyData.eqvAll (D.toPs xs) (D.toPs ys) = false
  exact eqvAll_len (by rw [toPs_len, toPs_len]; exact h)
theorem holds_ok {h : Hq} {f s m : Nat} {L : List Int} {st : List St} (w : Wd h f s m L st) (hl : L.length + st.length + 300 ≤ LIM) : ∃ h', sem__law_holds [.r f, .r s] h = some (.ok (.d (.bl true)) h') ∧ (∀ (k : Nat) (o : O), h[k]? = some o → h'[k]? = some o) := by
  obtain ⟨k, hx, x1, x2⟩ := law_after_ok L st (by omega)
  have hal := aft_len L st
  generalize hB : aft L st = B at x2 hal
  have c1 := mcont_ok (τ := [some (.r f), some (.r s), none]) (i := 0) w.toFileAt (by omega) rfl
  rw [hB] at c1
  have w1 := w.app [.lst (LI B)]
  have g1 := cell_app h (.lst (LI B))
  generalize hH1 : h ++ [O.lst (LI B)] = H1 at c1 w1 g1
  have t1 : mTB (mBin (gEq true) (mMeth "File" "content" 1 sem_File__content (mVar 0) maNil) (mCallP sem__law_after (lenIs 2 (maCons (mBin gGet (mVar 1) (mC (.str "lasting"))) (maCons (mBin gGet (mVar 1) (mC (.str "steps"))) maNil))))) [some (.r f), some (.r s), none] h = some (.ok false H1) := by
    refine tb_of ?_
    rw [bin_of c1 (after_cell (z := B) [some (.r f), some (.r s), none] rfl w1.d x1 x2)]
    exact cmp_cell g1 (vw_d _ _ _)
  have t2 : mTB (mBin (gEq true) (mMeth "File" "pending" 1 sem_File__pending (mVar 0) maNil) (mUn gLen (mBin gGet (mVar 1) (mC (.str "steps"))))) [some (.r f), some (.r s), none] H1 = some (.ok false H1) := by
    refine tb_of ?_
    rw [nei_of (mpend_ok w1.toFileAt rfl) (slen_ok rfl w1.d), decide_eq_true rfl]
    rfl
  have c2 := mcont_ok (τ := [some (.r f), some (.r s), none]) (i := 0) w1.toFileAt (by omega) rfl
  rw [hB] at c2
  have w2 := w1.app [.lst (LI B)]
  have g2 := cell_app H1 (.lst (LI B))
  have p2 : ∀ (k : Nat) (o : O), H1[k]? = some o → (H1 ++ [O.lst (LI B)])[k]? = some o := fun k o e => by rw [List.getElem?_append_left (List.getElem?_eq_some_iff.mp e).1]; exact e
  have l2 : (H1 ++ [O.lst (LI B)]).length = H1.length + 1 := by rw [List.length_append]; rfl
  generalize hH2 : H1 ++ [O.lst (LI B)] = H2 at c2 w2 g2 p2 l2
  have fne : ∀ {i : Nat} {o : O}, H1[i]? = some o → i ≠ H1.length := fun e => Nat.ne_of_lt (List.getElem?_eq_some_iff.mp e).1
  have w3 : Wd (H2.set H1.length (.lst (LI B ++ [A.d (D.int 7)]))) f s m L st := ⟨⟨by rw [List.getElem?_set_ne (Ne.symm (fne w1.f))]; exact w2.f, by rw [List.getElem?_set_ne (Ne.symm (fne w1.s))]; exact w2.s⟩, by rw [List.getElem?_set_ne (Ne.symm (fne w1.d))]; exact w2.d⟩
  have g3 : (H2.set H1.length (.lst (LI B ++ [A.d (D.int 7)])))[H1.length]? = some (.lst (LI (B ++ [7]))) := by
    rw [List.getElem?_set_self (by omega), LI_app]
    rfl
  have p3 : ∀ (k : Nat) (o : O), H1[k]? = some o → (H2.set H1.length (.lst (LI B ++ [A.d (D.int 7)])))[k]? = some o := fun k o e => by
    rw [List.getElem?_set_ne (Ne.symm (fne e))]
    exact p2 k o e
  have ea : mDrop (mM1 tokL gApp (mVar 2) (mC (.int 7))) [some (.r f), some (.r s), some (.r H1.length)] H2 = some (.nx [some (.r f), some (.r s), some (.r H1.length)] (H2.set H1.length (.lst (LI B ++ [A.d (D.int 7)])))) := append_of (k := H1.length) (ws := LI B) (w := .d (.int 7)) (var_of rfl) g2 rfl (by rw [LI_len]; omega)
  generalize hH3 : H2.set H1.length (.lst (LI B ++ [A.d (D.int 7)])) = H3 at w3 g3 p3 ea
  have c3 := mcont_ok (τ := [some (.r f), some (.r s), some (.r H1.length)]) (i := 0) w3.toFileAt (by omega) rfl
  rw [hB] at c3
  have g4 := cell_app H3 (.lst (LI B))
  have p4 : ∀ (k : Nat) (o : O), H3[k]? = some o → (H3 ++ [O.lst (LI B)])[k]? = some o := fun k o e => by rw [List.getElem?_append_left (List.getElem?_eq_some_iff.mp e).1]; exact e
  generalize hH4 : H3 ++ [O.lst (LI B)] = H4 at c3 g4 p4
  have t4 : mBin (gEq true) (mMeth "File" "content" 1 sem_File__content (mVar 0) maNil) (mVar 2) [some (.r f), some (.r s), some (.r H1.length)] H3 = some (.ok (.d (.bl true)) H4) := by
    rw [bin_of c3 (var_of rfl)]
    show g2V (eqD true) (.r H3.length) (.r H1.length) H4 = _
    unfold g2V
    rw [show view H4 (.r H3.length) = some (.lst (B.map D.int)) from view_lst g4, show view H4 (.r H1.length) = some (.lst ((B ++ [7]).map D.int)) from view_lst (ds := (B ++ [7]).map D.int) (p4 _ _ g3)]
    dsimp only
    unfold eqD
    rw [shp_lst (LI_fok B), shp_lst (LI_fok (B ++ [7])), eqv_lstne (by rw [List.length_map, List.length_map, List.length_append]; simp)]
    rfl
  refine ⟨H4, runB_rt rfl ?_, fun k o e => p4 _ _ (p3 _ _ ?_)⟩
  · show b__law_holds [some (.r f), some (.r s), none] h = _
    unfold b__law_holds
    rw [seq_nx (τ1 := [some (.r f), some (.r s), none]) (h1 := H1) (by
      rw [if_ff (h1 := H1) (by unfold mOrT; rw [t1, bd_ok]; exact t2)]
      rfl)]
    rw [seq_nx (τ1 := [some (.r f), some (.r s), some (.r H1.length)]) (h1 := H2) (set_of c2)]
    rw [seq_nx ea]
    exact ret_of t4
  · rw [← hH1, List.getElem?_append_left (List.getElem?_eq_some_iff.mp e).1]
    exact e
end K51

set_option maxHeartbeats 1000000
namespace K51
open PySem PySem.Spec PyProof.Rows L2 Tq
theorem lays_ints : ∀ (ns : List Int), PyData.canLayAll0 (ns.map PyData.int) = true ∧ PyData.depthAll (ns.map PyData.int) = 0
  | [] => ⟨rfl, rfl⟩
  | n :: r => by
    obtain ⟨h1, h2⟩ := lays_ints r
    constructor
    · show ((PyData.int n).canLay0 && PyData.canLayAll0 (r.map PyData.int)) = true
      rw [h1]
      rfl
    · show max (PyData.int n).depth (PyData.depthAll (r.map PyData.int)) = 0
      rw [h2]
      rfl
theorem shp_scr (ns : List Int) : (D.scr ns).shp = true := by
  obtain ⟨h1, h2⟩ := lays_ints ns
  show (PyData.canLayAll0 (ns.map PyData.int) && decide (PyData.depthAll (ns.map PyData.int) + 1 ≤ 64)) = true
  rw [h1, h2]
  rfl
theorem drawp_ok {ns : List Int} (hl : ns.length ≤ 63) (hb : ∀ z ∈ ns, Builtin.Int.intBits z ≤ 1048576) {k : Int} (hk : 0 ≤ k) (hk2 : k < 1000) {τ : Sl} {h : Hq} {m : E A} (e0 : τ[0]? = some (some (.d (.scr ns)))) (e1 : m τ h = some (.ok (.d (.int k)) h)) :
    ∃ v, mCallP sem__law_draw (lenIs 2 (maCons (mVar 0) (maCons m maNil))) τ h = some (.ok (.d (.int v)) h) ∧ 0 ≤ v ∧ v < 2147483647 := by
  obtain ⟨v, h', e, r⟩ := draw_ok hl hb hk hk2
  refine ⟨v, callP_of (ds := [.scr ns, .int k]) (len_of (n := 2) (cons_of (var_of e0) (cons_of (r := []) e1 rfl)) rfl) e (vw_d _ _ _), r⟩
theorem and_ff {a b : E Bool} {τ : Sl} {h h1 : Hq} (k : Bool) (e1 : a τ h = some (.ok k h)) (e2 : b τ h = some (.ok false h1)) : ∃ h2, mAndT a b τ h = some (.ok false h2) ∧ (h2 = h ∨ h2 = h1) := by
  unfold mAndT
  rw [e1, bd_ok]
  cases k with
  | true => exact ⟨h1, e2, .inr rfl⟩
  | false => exact ⟨h, rfl, .inl rfl⟩
abbrev R7 (ns : List Int) (a4 a5 a6 : Option A) : Sl := [some (.d (.scr ns)), some (.r 0), some (.r 2), some (.r 5), a4, a5, a6]
def Inv51 (ns : List Int) (n : Nat) (τ : Sl) (h : Hq) : Prop := ∃ m L st a4 a5 a6, τ = R7 ns a4 a5 a6 ∧ Wd h 0 5 m L st ∧ FileAt h 2 4 [1, 2] [(false, 3)] ∧ m ≠ 2 ∧ m ≠ 4 ∧ L.length + st.length ≤ 300 * n
theorem Wd.keep {h h' : Hq} {f s m : Nat} {L : List Int} {st : List St} (w : Wd h f s m L st) (p : ∀ (k : Nat) (o : O), h[k]? = some o → h'[k]? = some o) : Wd h' f s m L st := ⟨⟨p _ _ w.f, p _ _ w.s⟩, p _ _ w.d⟩
theorem tru_bl {m : E A} {τ : Sl} {h h1 : Hq} {b : Bool} (e : m τ h = some (.ok (.d (.bl b)) h1)) : mNotT (mTru m) τ h = some (.ok (!b) h1) := by
  unfold mNotT mTru
  rw [e, bd_ok]
  rfl
theorem holdsT_ok {h : Hq} {ns : List Int} {m : Nat} {L : List Int} {st : List St} {a4 a5 a6 : Option A} (w : Wd h 0 5 m L st) (hl : L.length + st.length + 300 ≤ LIM) : ∃ h', mNotT (mTru (mCall sem__law_holds (lenIs 2 (maCons (mVar 1) (maCons (mVar 3) maNil))))) (R7 ns a4 a5 a6) h = some (.ok false h') ∧ (∀ (k : Nat) (o : O), h[k]? = some o → h'[k]? = some o) := by
  obtain ⟨h', e, p⟩ := holds_ok w hl
  refine ⟨h', tru_bl (b := true) ?_, p⟩
  rw [call_of (ws := [.r 0, .r 5]) (h1 := h) (len_of (n := 2) (cons_of (var_of rfl) (cons_of (r := []) (var_of rfl) rfl)) rfl)]
  exact e
theorem body_ok {ns : List Int} (hl : ns.length ≤ 63) (hb : ∀ z ∈ ns, Builtin.Int.intBits z ≤ 1048576) {n : Nat} {w : A} {τ : Sl} {h : Hq} (hn : n < 30) (hw : w = .d (.int (0 + ((n : Nat) : Int)))) (i : Inv51 ns n τ h) :
    ∃ τ1 τ2 h2, mgName 4 w τ h = some τ1 ∧ (B1_law τ1 h = some (.nx τ2 h2) ∨ B1_law τ1 h = some (.ct τ2 h2)) ∧ Inv51 ns (n + 1) τ2 h2 := by
  obtain ⟨m, L, st, a4, a5, a6, rfl, wd, fo, m2, m4, ll⟩ := i
  have hL : LIM = 16777216 := rfl
  generalize hk : (0 + ((n : Nat) : Int)) = k at hw
  subst hw
  obtain ⟨v, ev, hv⟩ := drawp_ok hl hb (k := 64 + k) (by omega) (by omega) (τ := R7 ns (some (.d (.int k))) a5 a6) (h := h) (m := mBin (gAdd false) (mC (.int 64)) (mVar 4)) rfl rfl
  obtain ⟨u, eu, hu⟩ := drawp_ok hl hb (k := k) (by omega) (by omega) (τ := R7 ns (some (.d (.int k))) (some (.d (.int v))) a6) (h := h) (m := mVar 4) rfl rfl
  obtain ⟨h', m', L', st', ed, wd', els, hm', ll'⟩ := deed_ok wd (by omega) hu hv.1
  have fo' : FileAt h' 2 4 [1, 2] [(false, 3)] := ⟨els 2 _ (by omega) (by omega) (Ne.symm m2) fo.f, els 4 _ (by omega) (by omega) (Ne.symm m4) fo.s⟩
  have h4 : 4 < h.length := (List.getElem?_eq_some_iff.mp fo.s).1
  have lim : L'.length + st'.length + 300 ≤ LIM := by omega
  have s1 : mNotT (mTru (mCall sem__law_deed (lenIs 4 (maCons (mVar 1) (maCons (mVar 3) (maCons (mCallP sem__law_draw (lenIs 2 (maCons (mVar 0) (maCons (mVar 4) maNil)))) (maCons (mVar 5) maNil))))))) (R7 ns (some (.d (.int k))) (some (.d (.int v))) a6) h = some (.ok false h') := by
    refine tru_bl (b := true) ?_
    rw [call_of (ws := [.r 0, .r 5, .d (.int u), .d (.int v)]) (h1 := h) (len_of (n := 4) (cons_of (var_of rfl) (cons_of (var_of rfl) (cons_of eu (cons_of (r := []) (var_of rfl) rfl)))) rfl)]
    exact ed
  generalize ha : v / 3 % 4 = a
  have s2 : mSet 6 (mBin gMod (mBin gDiv (mVar 5) (mC (.int 3))) (mC (.int 4))) (R7 ns (some (.d (.int k))) (some (.d (.int v))) a6) h' = some (.nx (R7 ns (some (.d (.int k))) (some (.d (.int v))) (some (.d (.int a)))) h') := by
    refine set_of ?_
    rw [← ha]
    exact dm_of rfl rfl (by decide)
  obtain ⟨h1, s3, hh1⟩ := and_ff (τ := R7 ns (some (.d (.int k))) (some (.d (.int v))) (some (.d (.int a)))) (h := h') (h1 := h') (a := mTB (mBin (gEq false) (mVar 6) (mC (.int 1)))) (b := mTB (mBin (gEq true) (mMeth "File" "pending" 1 sem_File__pending (mVar 1) maNil) (mUn gLen (mBin gGet (mVar 3) (mC (.str "steps")))))) (decide (a = 1)) (tb_of (eqi_of (var_of rfl) rfl)) (tb_of (by
    rw [nei_of (mpend_ok wd'.toFileAt rfl) (slen_ok rfl wd'.d), decide_eq_true rfl]
    rfl))
  obtain rfl : h1 = h' := by rcases hh1 with e | e <;> exact e
  obtain ⟨hx, ex, px⟩ := holdsT_ok (ns := ns) (a4 := some (.d (.int k))) (a5 := some (.d (.int v))) (a6 := some (.d (.int a))) wd' lim
  obtain ⟨h2, s4, hh2⟩ := and_ff (τ := R7 ns (some (.d (.int k))) (some (.d (.int v))) (some (.d (.int a)))) (h := h1) (h1 := hx) (a := mTB (mBin (gEq false) (mVar 6) (mC (.int 2)))) (decide (a = 2)) (tb_of (eqi_of (var_of rfl) rfl)) ex
  have p2 : ∀ (k : Nat) (o : O), h1[k]? = some o → h2[k]? = some o := by
    rcases hh2 with e | e
    · subst e; exact fun _ _ e => e
    · subst e; exact px
  refine ⟨R7 ns (some (.d (.int k))) a5 a6, R7 ns (some (.d (.int k))) (some (.d (.int v))) (some (.d (.int a))), h2, rfl, .inl ?_, m', L', st', _, _, _, rfl, wd'.keep p2, ⟨p2 _ _ fo'.f, p2 _ _ fo'.s⟩, by omega, by omega, by omega⟩
  unfold B1_law
  rw [seq_nx (τ1 := R7 ns (some (.d (.int k))) (some (.d (.int v))) a6) (h1 := h) (set_of ev)]
  rw [seq_nx (τ1 := R7 ns (some (.d (.int k))) (some (.d (.int v))) a6) (h1 := h1) (by rw [if_ff s1]; rfl)]
  rw [seq_nx s2]
  rw [seq_nx (τ1 := R7 ns (some (.d (.int k))) (some (.d (.int v))) (some (.d (.int a)))) (h1 := h1) (by rw [if_ff s3]; rfl)]
  rw [if_ff s4]
  rfl
def H0 : Hq := [FL [] 1, SL [], FL [1, 2] 4, SL [(false, 1), (false, 2)], SL [(false, 3)], SD (LD []) (TD [])]
def pre : MS → MS := fun r =>
 (mSeq (mSet 1 (mMake "File" 1 sem_File____init__ maNil))
 (mSeq (mSet 2 (mMake "File" 1 sem_File____init__ maNil))
 (mSeq (mDrop (mMeth "File" "write" 3 sem_File__write (mVar 2) (maCons (mLst false (maCons (mC (.int 1)) (maCons (mC (.int 2)) maNil))) (maCons (mC .non) maNil))))
 (mSeq (mDrop (mMeth "File" "flush" 2 sem_File__flush (mVar 2) (maCons (mC .non) maNil)))
 (mSeq (mDrop (mMeth "File" "write" 3 sem_File__write (mVar 2) (maCons (mLst false (maCons (mC (.int 3)) maNil)) (maCons (mC .non) maNil))))
 (mSeq (mSet 3 (mDict [(.inr "lasting"), (.inr "steps")] [(mLst false maNil), (mLst false maNil)])) r))))))
def tl1 : MS := (mIf (mAndT (mTB (mBin (gEq true) (mVar 0) (mLst false maNil))) (mAndT (mTB (mBin (gEq false) (mBin gMod (mCallP sem__law_draw (lenIs 2 (maCons (mVar 0) (maCons (mC (.int 1)) maNil)))) (mC (.int 2))) (mC (.int 0)))) (mNotT (mTru (mCall sem__law_holds (lenIs 2 (maCons (mVar 1) (maCons (mVar 3) maNil)))))))) (mRet (mC (.bl false))) mNx)
def tl : MS :=
 (mSeq (mIf (mTB (mBin (gEq true) (mMeth "File" "pending" 1 sem_File__pending (mVar 1) maNil) (mUn gLen (mBin gGet (mVar 3) (mC (.str "steps")))))) (mRet (mC (.bl false))) mNx)
 (mSeq (mDrop (mMeth "File" "lose" 2 sem_File__lose (mVar 1) (maCons (mC (.int 0)) maNil)))
 (mSeq (mIf (mOrT (mTB (mBin (gEq true) (mMeth "File" "content" 1 sem_File__content (mVar 2) maNil) (mLst false (maCons (mC (.int 1)) (maCons (mC (.int 2)) (maCons (mC (.int 3)) maNil)))))) (mTB (mBin (gEq true) (mMeth "File" "pending" 1 sem_File__pending (mVar 2) maNil) (mC (.int 1))))) (mRet (mC (.bl false))) mNx)
 (mRet (mAndV (mBin (gEq false) (mMeth "File" "content" 1 sem_File__content (mVar 1) maNil) (mBin gGet (mVar 3) (mC (.str "lasting")))) (mBin (gEq false) (mMeth "File" "pending" 1 sem_File__pending (mVar 1) maNil) (mC (.int 0))))))))
theorem law_eq : b_law = pre (mSeq L1_law (mSeq tl1 tl)) := rfl
theorem new_ok (h : Hq) (τ : Sl) : mMake "File" 1 sem_File____init__ maNil τ h = some (.ok (.r h.length) (h ++ [FL [] (h.length + 1), SL []])) := by
  have c1 : (h ++ [O.nd (.ins "File" []) []])[h.length]? = some (O.nd (.ins "File" []) []) := cell_app _ _
  generalize hH : h ++ [O.nd (.ins "File" []) []] = H1 at c1
  have l1 : H1.length = h.length + 1 := by rw [← hH, List.length_append]; rfl
  have f1 : fPut "lasting" (.d (.lst [])) [] [] = (([("lasting" : Str)] : List Str), [.d (.lst [])]) := rfl
  have f2 : fPut "steps" (.r H1.length) ["lasting"] [.d (.lst [])] = (([("lasting" : Str), "steps"] : List Str), [.d (.lst []), .r H1.length]) := by with_unfolding_all rfl
  have e1 : mSetF FT "lasting" (mVar 0) (mLst false maNil) [some (.r h.length)] H1 = some (.nx [some (.r h.length)] (H1.set h.length (.nd (.ins "File" ["lasting"]) [.d (.lst [])]))) := by
    unfold mSetF
    rw [show mLst false maNil [some (.r h.length)] H1 = some (.ok (.d (.lst [])) H1) from rfl, sb_ok, var_of rfl, sb_ok]
    dsimp only
    rw [c1]
    dsimp only
    rw [if_pos ⟨fok_l, by decide⟩, f1]
  have c2 : (H1.set h.length (.nd (.ins "File" ["lasting"]) [.d (.lst [])]) ++ [O.lst []])[h.length]? = some (.nd (.ins "File" ["lasting"]) [.d (.lst [])]) := by
    rw [List.getElem?_append_left (by rw [List.length_set]; omega)]
    exact List.getElem?_set_self (by omega)
  have e2 : mSetF FT "steps" (mVar 0) (mLst true maNil) [some (.r h.length)] (H1.set h.length (.nd (.ins "File" ["lasting"]) [.d (.lst [])])) = some (.nx [some (.r h.length)] ((H1.set h.length (.nd (.ins "File" ["lasting"]) [.d (.lst [])]) ++ [O.lst []]).set h.length (FL [] (h.length + 1)))) := by
    unfold mSetF
    rw [show mLst true maNil [some (.r h.length)] (H1.set h.length (.nd (.ins "File" ["lasting"]) [.d (.lst [])])) = some (.ok (.r (H1.set h.length (.nd (.ins "File" ["lasting"]) [.d (.lst [])])).length) (H1.set h.length (.nd (.ins "File" ["lasting"]) [.d (.lst [])]) ++ [O.lst []])) from rfl, sb_ok, var_of rfl, sb_ok]
    dsimp only
    rw [c2]
    dsimp only
    rw [if_pos ⟨fok_s, by decide⟩, List.length_set, f2]
    dsimp only
    rw [l1]
    rfl
  unfold mMake
  rw [show maNil τ h = some (.ok [] h) from rfl, bd_ok, if_pos (show ([] : List A).length + 1 = 1 from rfl)]
  rw [hH]
  rw [show sem_File____init__ [.r h.length] H1 = some (.ok (.d .non) ((H1.set h.length (.nd (.ins "File" ["lasting"]) [.d (.lst [])]) ++ [O.lst []]).set h.length (FL [] (h.length + 1)))) from runB_nx (τ := [some (.r h.length)]) rfl (by
    show b_File____init__ [some (.r h.length)] H1 = _
    unfold b_File____init__
    rw [seq_nx e1]
    exact e2)]
  dsimp only
  rw [List.set_append_left _ _ (by rw [List.length_set]; omega), List.set_set, ← hH, List.set_append_right _ _ (Nat.le_refl _), Nat.sub_self, List.append_assoc]
  rfl
theorem pre_ok (ns : List Int) (r : MS) : pre r [some (.d (.scr ns)), none, none, none, none, none, none] [] = r (R7 ns none none none) H0 := by
  unfold pre
  have e0 := new_ok [] [some (.d (.scr ns)), none, none, none, none, none, none]
  have e1 := new_ok [FL [] 1, SL []] [some (.d (.scr ns)), some (.r 0), none, none, none, none, none]
  rw [seq_nx (τ1 := [some (.d (.scr ns)), some (.r 0), none, none, none, none, none]) (h1 := [FL [] 1, SL []]) (set_of e0)]
  rw [seq_nx (τ1 := [some (.d (.scr ns)), some (.r 0), some (.r 2), none, none, none, none]) (h1 := [FL [] 1, SL [], FL [] 3, SL []]) (set_of e1)]
  have w1 := write_ok (h := [FL [] 1, SL [], FL [] 3, SL []]) (a := 2) (m := 3) (L := []) (st := []) (xs := [1, 2]) (d := .d (.lst [.int 1, .int 2])) ⟨rfl, rfl⟩ .d none (by decide)
  rw [seq_nx (τ1 := [some (.d (.scr ns)), some (.r 0), some (.r 2), none, none, none, none]) (h1 := [FL [] 1, SL [], FL [] 3, SL [(false, 1), (false, 2)]]) (drop_of (by
    rw [meth_of (n := 3) (a := .r 2) (h1 := [FL [] 1, SL [], FL [] 3, SL []]) (ws := [.d (.lst [.int 1, .int 2]), .d .non]) (var_of rfl) (ins_of (L := []) (m := 3) rfl (by decide +kernel)) rfl rfl]
    exact w1))]
  have w2 := flush_ok (h := [FL [] 1, SL [], FL [] 3, SL [(false, 1), (false, 2)]]) (a := 2) (m := 3) (L := []) (st := [(false, 1), (false, 2)]) ⟨rfl, rfl⟩ none (by decide)
  rw [if_neg (by simp)] at w2
  rw [seq_nx (τ1 := [some (.d (.scr ns)), some (.r 0), some (.r 2), none, none, none, none]) (h1 := [FL [] 1, SL [], FL [1, 2] 4, SL [(false, 1), (false, 2)], SL []]) (drop_of (by
    rw [meth_of (n := 2) (a := .r 2) (h1 := [FL [] 1, SL [], FL [] 3, SL [(false, 1), (false, 2)]]) (ws := [.d .non]) (var_of rfl) (ins_of (L := []) (m := 3) rfl (by decide +kernel)) rfl rfl]
    exact w2))]
  have w3 := write_ok (h := [FL [] 1, SL [], FL [1, 2] 4, SL [(false, 1), (false, 2)], SL []]) (a := 2) (m := 4) (L := [1, 2]) (st := []) (xs := [3]) (d := .d (.lst [.int 3])) ⟨rfl, rfl⟩ .d none (by decide)
  rw [seq_nx (τ1 := [some (.d (.scr ns)), some (.r 0), some (.r 2), none, none, none, none]) (h1 := [FL [] 1, SL [], FL [1, 2] 4, SL [(false, 1), (false, 2)], SL [(false, 3)]]) (drop_of (by
    rw [meth_of (n := 3) (a := .r 2) (h1 := [FL [] 1, SL [], FL [1, 2] 4, SL [(false, 1), (false, 2)], SL []]) (ws := [.d (.lst [.int 3]), .d .non]) (var_of rfl) (ins_of (L := [1, 2]) (m := 4) rfl (by decide +kernel)) rfl rfl]
    exact w3))]
  rw [seq_nx (τ1 := R7 ns none none none) (h1 := H0) (set_of rfl)]
theorem law_ok {ns : List Int} (hl : ns.length ≤ 63) (hb : ∀ z ∈ ns, Builtin.Int.intBits z ≤ 1048576) : ∃ h', sem_law [.d (.scr ns)] [] = some (.ok (.d (.bl true)) h') := by
  have hL : LIM = 16777216 := rfl
  obtain ⟨τ', h1, e1, m, L, st, a4, a5, a6, rfl, wd, fo, m2, m4, ll⟩ := forL_inv (g := mgName 4) (mb := B1_law) (ws := rangeA 0 (if (ns.length : Int) < 30 then (ns.length : Int) else 30).toNat) (Inv51 ns) (τ := R7 ns none none none) (h := H0)
    ⟨1, [], [], none, none, none, rfl, ⟨⟨rfl, rfl⟩, rfl⟩, ⟨rfl, rfl⟩, by decide, by decide, by decide⟩
    (fun n w τ h hw i => by
      obtain ⟨hn, e⟩ := rangeA_get hw
      exact body_ok hl hb (by split at hn <;> omega) e i)
    (by rw [rangeA_len]; split <;> omega)
  have hlen : (rangeA 0 (if (ns.length : Int) < 30 then (ns.length : Int) else 30).toNat).length ≤ 30 := by rw [rangeA_len]; split <;> omega
  generalize (rangeA 0 (if (ns.length : Int) < 30 then (ns.length : Int) else 30).toNat).length = N at ll hlen
  have eL : L1_law (R7 ns none none none) H0 = some (.nx (R7 ns a4 a5 a6) h1) := by
    unfold L1_law
    rw [mFor_of (h1 := H0) (mRange1_of (j := if (ns.length : Int) < 30 then (ns.length : Int) else 30) (by
      rw [bin_of (a := .d (.int 30)) (b := .d (.int (ns.length : Nat))) rfl (by rw [un_of (var_of rfl)]; rfl)]
      rfl) (by split <;> omega) (by split <;> omega))]
    exact e1
  obtain ⟨v, ev, hv⟩ := drawp_ok hl hb (k := 1) (by omega) (by omega) (τ := R7 ns a4 a5 a6) (h := h1) (m := mC (.int 1)) rfl rfl
  obtain ⟨hx, ex, px⟩ := holdsT_ok (ns := ns) (a4 := a4) (a5 := a5) (a6 := a6) wd (by omega)
  obtain ⟨h2, q1, hh2⟩ := and_ff (τ := R7 ns a4 a5 a6) (h := h1) (h1 := hx) (a := mTB (mBin (gEq false) (mBin gMod (mCallP sem__law_draw (lenIs 2 (maCons (mVar 0) (maCons (mC (.int 1)) maNil)))) (mC (.int 2))) (mC (.int 0)))) (decide (v % 2 = 0)) (tb_of (eqi_of (by rw [bin_of ev rfl]; exact gMod_ok _ (by decide)) rfl)) ex
  obtain ⟨h3, q2, hh3⟩ := and_ff (τ := R7 ns a4 a5 a6) (h := h1) (h1 := h2) (a := mTB (mBin (gEq true) (mVar 0) (mLst false maNil))) (!D.eqv (.scr ns) (.lst [])) (tb_of (by
    rw [bin_of (a := .d (.scr ns)) (b := .d (.lst [])) (h1 := h1) (h2 := h1) (var_of rfl) rfl]
    unfold gEq g2V view
    rw [vw_d, vw_d]
    dsimp only
    unfold eqD
    rw [shp_scr, shp_lst (ds := []) rfl]
    rfl)) q1
  have p3 : ∀ (k : Nat) (o : O), h1[k]? = some o → h3[k]? = some o := by
    rcases hh3 with e | e
    · subst e; exact fun _ _ e => e
    · subst e
      rcases hh2 with e | e
      · subst e; exact fun _ _ e => e
      · subst e; exact px
  have wd3 := wd.keep p3
  have fo3 : FileAt h3 2 4 [1, 2] [(false, 3)] := ⟨p3 _ _ fo.f, p3 _ _ fo.s⟩
  have r1 : mTB (mBin (gEq true) (mMeth "File" "pending" 1 sem_File__pending (mVar 1) maNil) (mUn gLen (mBin gGet (mVar 3) (mC (.str "steps"))))) (R7 ns a4 a5 a6) h3 = some (.ok false h3) := tb_of (by
    rw [nei_of (mpend_ok wd3.toFileAt rfl) (slen_ok rfl wd3.d), decide_eq_true rfl]
    rfl)
  have r2 := lose_ok (c := 0) wd3.toFileAt (by omega)
  have F4 := loseH_at (c := 0) wd3.toFileAt
  rw [List.take_zero] at F4
  have fo4 : FileAt (loseH h3 0 L st 0) 2 4 [1, 2] [(false, 3)] := ⟨loseH_ne (by decide) fo3.f, loseH_ne (by decide) fo3.s⟩
  have d4 : (loseH h3 0 L st 0)[5]? = some (SD (LD L) (TD st)) := loseH_ne (by decide) wd3.d
  generalize loseH h3 0 L st 0 = h4 at r2 F4 fo4 d4
  have c5 := mcont_ok (τ := R7 ns a4 a5 a6) (i := 2) fo4 (by decide) rfl
  have g5 := cell_app h4 (.lst (LI (aft [1, 2] [(false, 3)])))
  have p5 : ∀ (k : Nat) (o : O), h4[k]? = some o → (h4 ++ [O.lst (LI (aft [1, 2] [(false, 3)]))])[k]? = some o := fun k o e => by rw [List.getElem?_append_left (List.getElem?_eq_some_iff.mp e).1]; exact e
  generalize h4 ++ [O.lst (LI (aft [1, 2] [(false, 3)]))] = h5 at c5 g5 p5
  have fo5 : FileAt h5 2 4 [1, 2] [(false, 3)] := ⟨p5 _ _ fo4.f, p5 _ _ fo4.s⟩
  have F5 : FileAt h5 0 h3.length (aft L []) [] := ⟨p5 _ _ F4.f, p5 _ _ F4.s⟩
  have r3 : mOrT (mTB (mBin (gEq true) (mMeth "File" "content" 1 sem_File__content (mVar 2) maNil) (mLst false (maCons (mC (.int 1)) (maCons (mC (.int 2)) (maCons (mC (.int 3)) maNil)))))) (mTB (mBin (gEq true) (mMeth "File" "pending" 1 sem_File__pending (mVar 2) maNil) (mC (.int 1)))) (R7 ns a4 a5 a6) h4 = some (.ok false h5) := by
    unfold mOrT
    rw [tb_of (k := false) (h1 := h5) (by
      rw [bin_of (b := .d (.lst [.int 1, .int 2, .int 3])) (h2 := h5) c5 rfl]
      exact cmp_cell (xs := [1, 2, 3]) g5 (vw_d _ _ _)), bd_ok]
    exact tb_of (by
      rw [nei_of (mpend_ok fo5 rfl) (j := 1) rfl]
      rfl)
  have c6 := mcont_ok (τ := R7 ns a4 a5 a6) (i := 1) F5 (by rw [show aft L [] = L from rfl]; show L.length + 0 ≤ LIM; omega) rfl
  rw [show aft (aft L []) [] = L from rfl] at c6
  have g6 := cell_app h5 (.lst (LI L))
  have p6 : ∀ (k : Nat) (o : O), h5[k]? = some o → (h5 ++ [O.lst (LI L)])[k]? = some o := fun k o e => by rw [List.getElem?_append_left (List.getElem?_eq_some_iff.mp e).1]; exact e
  generalize h5 ++ [O.lst (LI L)] = h6 at c6 g6 p6
  have F6 : FileAt h6 0 h3.length (aft L []) [] := ⟨p6 _ _ F5.f, p6 _ _ F5.s⟩
  have d6 : h6[5]? = some (SD (LD L) (TD st)) := p6 _ _ (p5 _ _ d4)
  have eg : mBin gGet (mVar 3) (mC (.str "lasting")) (R7 ns a4 a5 a6) h6 = some (.ok (.d (LD L)) h6) := by
    have d : dicOf h6 (.r 5) = some (.dic KS, [.d (LD L), .d (TD st)]) := by unfold dicOf; dsimp only; rw [d6]; rfl
    rw [bin_of (a := .r 5) (h1 := h6) (var_of rfl) rfl]
    unfold gGet
    rw [d]
    unfold gGetD
    rw [d]
    dsimp only
    rw [hg_l]
    rfl
  refine ⟨h6, runB_rt rfl ?_⟩
  show b_law [some (.d (.scr ns)), none, none, none, none, none, none] [] = _
  rw [law_eq, pre_ok, seq_nx eL]
  rw [seq_nx (τ1 := R7 ns a4 a5 a6) (h1 := h3) (by unfold tl1; rw [if_ff q2]; rfl)]
  unfold tl
  rw [seq_nx (τ1 := R7 ns a4 a5 a6) (h1 := h3) (by rw [if_ff r1]; rfl)]
  rw [seq_nx (τ1 := R7 ns a4 a5 a6) (h1 := h4) (drop_of (by
    rw [meth_of (n := 2) (ws := [.d (.int 0)]) (var_of rfl) (ins_of wd3.f (by decide +kernel)) rfl rfl]
    exact r2))]
  rw [seq_nx (τ1 := R7 ns a4 a5 a6) (h1 := h5) (by rw [if_ff r3]; rfl)]
  refine ret_of ?_
  unfold mAndV
  rw [bin_of c6 eg, show gEq false (.r h5.length) (.d (LD L)) h6 = some (.ok (.d (.bl true)) h6) from cmp_cell g6 (vw_d _ _ _), bd_ok]
  dsimp only
  rw [eqi_of (i := 0) (j := 0) (mpend_ok F6 rfl) rfl]
  rfl
end K51

open PySem PySem.W PyProof.Rows
set_option maxHeartbeats 0 in
theorem PySem.Challenge.cw_kithwhole_k51_file_keeps_a_prefix_holds : PySem.Challenge.rw_kithwhole_k51_file_keeps_a_prefix.Holds := by
  w_on; o_law; k_head; (case hw => w_witness2)
  k_fill
  refine L2.walk_ofB (l := PySem.Challenge.rw_kithwhole_k51_file_keeps_a_prefix) (n := 63) (k := 5) (x := "script") (CX := fun _ => L2.CX0) (sp := fun w => (fun vs H Q _ => Tq.spQ _ 1 K51.sem_law vs H Q L2.E0)) rfl (by decide) rfl ⟨rfl, by decide, by decide⟩ (fun w h Y => PySem.W.kIn_of Y) ?F (fun _ _ _ ns hl hb _ hS => Tq.sp_law hS (K51.law_ok hl hb)) (fun _ _ _ _ _ h => h)
  case F =>
    intro w mg fa h KX G hmg
    refine' K51.all_mk KX G hmg ?a_File ?pg_File ?hd_File ?po_File ?sa_File ?n_File_lasting ?n_File_steps ?mk_File ?kc_File ?a0 ?i0 ?l0 ?c0 ?k0 ?a1 ?i1 ?l1 ?c1 ?k1 ?a2 ?l2 ?c2 ?k2 ?a3 ?i3 ?l3 ?c3 ?k3 ?a4 ?i4 ?l4 ?c4 ?k4 ?a5 ?l5 ?c5 ?k5 ?a6 ?i6 ?l6 ?c6 ?k6 ?a7 ?l7 ?c7 ?k7 ?a8 ?i8 ?l8 ?c8 ?k8 ?a9 ?l9 ?c9 ?k9 ?a10 ?i10 ?l10 ?c10 ?k10 ?a11 ?l11 ?c11 ?k11 ?a12 ?l12 ?c12 ?k12 ?y_int ?y_len ?y_list ?y_min ?y_range
    (case a_File => k_is); (case pg_File => k_is); (case hd_File => k_is); (case po_File => k_is); (case sa_File => k_is); (case n_File_lasting => k_is); (case n_File_steps => k_is); (case mk_File => k_is); (case kc_File => k_is); (case a0 => k_is); (case i0 => k_is); (case l0 => k_is); (case c0 => k_is); (case k0 => k_is); (case a1 => k_is); (case i1 => k_is); (case l1 => k_is); (case c1 => k_is); (case k1 => k_is); (case a2 => k_is); (case l2 => k_is); (case c2 => k_is); (case k2 => k_is); (case a3 => k_is); (case i3 => k_is); (case l3 => k_is); (case c3 => k_is); (case k3 => k_is); (case a4 => k_is); (case i4 => k_is); (case l4 => k_is); (case c4 => k_is); (case k4 => k_is); (case a5 => k_is); (case l5 => k_is); (case c5 => k_is); (case k5 => k_is); (case a6 => k_is); (case i6 => k_is); (case l6 => k_is); (case c6 => k_is); (case k6 => k_is); (case a7 => k_is); (case l7 => k_is); (case c7 => k_is); (case k7 => k_is); (case a8 => k_is); (case i8 => k_is); (case l8 => k_is); (case c8 => k_is); (case k8 => k_is); (case a9 => k_is); (case l9 => k_is); (case c9 => k_is); (case k9 => k_is); (case a10 => k_is); (case i10 => k_is); (case l10 => k_is); (case c10 => k_is); (case k10 => k_is); (case a11 => k_is); (case l11 => k_is); (case c11 => k_is); (case k11 => k_is); (case a12 => k_is); (case l12 => k_is); (case c12 => k_is); (case k12 => k_is); (case y_int => k_is); (case y_len => k_is); (case y_list => k_is); (case y_min => k_is); (case y_range => k_is)

