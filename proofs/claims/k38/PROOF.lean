import PyProof.Rows.All
import Wide.All
import OpenK.AllK
import Wide.FinOn
import HandS.ForMost
import HandS.Wide
import HandS.Evl
import HandS.TupAny
import HandS.IsInst
import HandS.Deep
import HandS.Words
import HandS.TupLe
import PyProof.P3Eq
import HandS.More
import HandS.Dict
import PySem.Challenge.RW_kithwhole_k38_came_and_went
set_option Elab.async false
set_option linter.all false
set_option maxRecDepth 100000
/-! trees: what values stand for, who owns what -/
namespace Tr
open PySem PySem.Spec PyProof.Rows L2

/-- the other kinds of objects with parts: a dict by ints and texts, a dict by tuples of these, an instance of the class that is known by a global name -/
inductive Hd where
  | dic (ks : List Key) | dit (ks : List (List Key)) | ins (C : Str) (fs : List Str)
/-- data that nobody changes any more -/
inductive D where
  | non | bl (b : Bool) | int (i : Int) | str (x : Str) | tup (xs : List D) | lst (xs : List D) | scr (ns : List Int) | nd (h : Hd) (xs : List D)
/-- what a name may hold: data, or an object of its own -/
inductive S where
  | d (x : D) | lst (xs : List S) | nd (h : Hd) (xs : List S)
abbrev Sl := List (Option S)
abbrev M (α : Type) := Sl → Option (α × Sl)

/-! ### data by the heap -/
def clsAt (K : PySem.W.Frag) (C : Str) : Option Addr := match PySem.W.nsIn K mainGlobals C with | some (some (.ref c)) => some c | _ => none
/-- the object of kind h at a has the parts vs; own: its addresses -/
inductive HdAt (K : PySem.W.Frag) (H : Hp) (a : Addr) : Hd → List V → List Addr → Prop
  | dic {ks : List Key} {vs : List V} : H a = some (.dK (ks.zip vs)) → ks.length = vs.length → HdAt K H a (.dic ks) vs [a]
  | dit {ks : List (List Key)} {vs : List V} : H a = some (.dT (ks.zip vs)) → ks.length = vs.length → HdAt K H a (.dit ks) vs [a]
  | ins {C : Str} {ca dx : Addr} {fs : List Str} {vs : List V} : clsAt K C = some ca → H a = some (.ins ca dx (fs.zip vs)) → H dx = some (.own a) → a ≠ dx → fs.length = vs.length → HdAt K H a (.ins C fs) vs [a, dx]
theorem HdAt.to {K : PySem.W.Frag} {H H' : Hp} {a : Addr} {h : Hd} {vs : List V} {own : List Addr} (x : HdAt K H a h vs own) (e : ∀ b ∈ own, ∀ o, H b = some o → H' b = some o) : HdAt K H' a h vs own := by
  cases x with
  | dic h1 h2 => exact .dic (e _ (by simp) _ h1) h2
  | dit h1 h2 => exact .dit (e _ (by simp) _ h1) h2
  | ins h0 h1 h2 h3 h4 => exact .ins h0 (e _ (by simp) _ h1) (e _ (by simp) _ h2) h3 h4
theorem HdAt.some {K : PySem.W.Frag} {H : Hp} {a : Addr} {h : Hd} {vs : List V} {own : List Addr} (x : HdAt K H a h vs own) : ∀ b ∈ own, H b ≠ none := by
  cases x with
  | dic h1 h2 => intro b hb; rw [List.mem_singleton.mp hb, h1]; simp
  | dit h1 h2 => intro b hb; rw [List.mem_singleton.mp hb, h1]; simp
  | ins h0 h1 h2 h3 h4 =>
    intro b hb
    rcases List.mem_cons.mp hb with z | hb
    · rw [z, h1]; simp
    · rw [List.mem_singleton.mp hb, h2]; simp
mutual
inductive Rp (K : PySem.W.Frag) (B : Hp) : V → D → Prop
  | non : Rp K B .non .non
  | bl (b : Bool) : Rp K B (.bl b) (.bl b)
  | int (i : Int) : Rp K B (.int i) (.int i)
  | str (x : Str) : Rp K B (.str x) (.str x)
  | tup {a : Addr} {vs : List V} {ds : List D} : B a = some (.tup vs) → RpL K B vs ds → Rp K B (.ref a) (.tup ds)
  | lst {a : Addr} {vs : List V} {ds : List D} : B a = some (.lst vs) → RpL K B vs ds → Rp K B (.ref a) (.lst ds)
  | scr {a : Addr} {ns : List Int} : SqL K B a (ns.map V.int) → Rp K B (.ref a) (.scr ns)
  | nd {a : Addr} {h : Hd} {vs : List V} {ds : List D} {own : List Addr} : HdAt K B a h vs own → RpL K B vs ds → Rp K B (.ref a) (.nd h ds)
inductive RpL (K : PySem.W.Frag) (B : Hp) : List V → List D → Prop
  | nil : RpL K B [] []
  | cons {v : V} {vs : List V} {d : D} {ds : List D} : Rp K B v d → RpL K B vs ds → RpL K B (v :: vs) (d :: ds)
end
theorem sqt_of {K : PySem.W.Frag} {B : Hp} {a : Addr} {xs : List V} (h : B a = some (.tup xs)) : SqT K B a xs := .inl (.inl h)
theorem sqt_mono {K : PySem.W.Frag} {B B' : Hp} {a : Addr} {xs : List V} (e : Same B B') (h : SqT K B a xs) : SqT K B' a xs := by
  rcases h with (h | ⟨o, h⟩) | h
  · exact .inl (.inl (e _ _ h))
  · exact .inl (.inr ⟨o, e _ _ h⟩)
  · exact .inr h
section
variable {K : PySem.W.Frag} {B B' H H' : Hp}
mutual
theorem Rp.mono (e : Same B B') : ∀ {v : V} {d : D}, Rp K B v d → Rp K B' v d
  | _, _, .non => .non
  | _, _, .bl b => .bl b
  | _, _, .int i => .int i
  | _, _, .str x => .str x
  | _, _, .tup h r => .tup (e _ _ h) (RpL.mono e r)
  | _, _, .lst h r => .lst (e _ _ h) (RpL.mono e r)
  | _, _, .scr h => .scr (e.seq h)
  | _, _, .nd h r => .nd (h.to fun _ _ _ z => e _ _ z) (RpL.mono e r)
theorem RpL.mono (e : Same B B') : ∀ {vs : List V} {ds : List D}, RpL K B vs ds → RpL K B' vs ds
  | _, _, .nil => .nil
  | _, _, .cons h r => .cons (Rp.mono e h) (RpL.mono e r)
end
theorem RpL.length : ∀ {vs : List V} {ds : List D}, RpL K B vs ds → vs.length = ds.length
  | _, _, .nil => rfl
  | _, _, .cons _ r => congrArg (· + 1) r.length
theorem RpL.get : ∀ {vs : List V} {ds : List D} {i : Nat} {d : D}, RpL K B vs ds → ds[i]? = some d → ∃ v, vs[i]? = some v ∧ Rp K B v d
  | _, _, _, _, .nil, e => by simp at e
  | _, _, 0, _, .cons r _, e => by simp at e; subst e; exact ⟨_, rfl, r⟩
  | _, _, i + 1, d, .cons _ t, e => by
    obtain ⟨u, h1, h2⟩ := RpL.get (i := i) (d := d) t (by simpa using e)
    exact ⟨u, by simpa using h1, h2⟩
theorem RpL.getV : ∀ {vs : List V} {ds : List D} {i : Nat} {v : V}, RpL K B vs ds → vs[i]? = some v → ∃ d, ds[i]? = some d ∧ Rp K B v d
  | _, _, _, _, .nil, e => by simp at e
  | _, _, 0, _, .cons r _, e => by simp at e; subst e; exact ⟨_, rfl, r⟩
  | _, _, i + 1, d, .cons _ t, e => by
    obtain ⟨u, h1, h2⟩ := RpL.getV (i := i) (v := d) t (by simpa using e)
    exact ⟨u, by simpa using h1, h2⟩
theorem RpL.append : ∀ {vs ws : List V} {ds es : List D}, RpL K B vs ds → RpL K B ws es → RpL K B (vs ++ ws) (ds ++ es)
  | _, _, _, _, .nil, s => s
  | _, _, _, _, .cons r t, s => .cons r (RpL.append t s)
theorem RpL.take : ∀ {vs : List V} {ds : List D} (n : Nat), RpL K B vs ds → RpL K B (vs.take n) (ds.take n)
  | _, _, 0, _ => .nil
  | _, _, _ + 1, .nil => .nil
  | _, _, n + 1, .cons r t => .cons r (RpL.take n t)
theorem RpL.drop : ∀ {vs : List V} {ds : List D} (n : Nat), RpL K B vs ds → RpL K B (vs.drop n) (ds.drop n)
  | _, _, 0, r => r
  | _, _, _ + 1, .nil => .nil
  | _, _, n + 1, .cons _ t => RpL.drop n t
theorem rpl_ints : ∀ (ns : List Int), RpL K B (ns.map V.int) (ns.map D.int)
  | [] => .nil
  | n :: r => .cons (.int n) (rpl_ints r)

/-! ### trees with owners -/
mutual
inductive Ow (K : PySem.W.Frag) (B H : Hp) : V → S → List Addr → Prop
  | d {v : V} {x : D} : Rp K B v x → Ow K B H v (.d x) []
  | lst {a : Addr} {vs : List V} {ss : List S} {os : List Addr} : B a = none → H a = some (.lst vs) → OwL K B H vs ss os → Ow K B H (.ref a) (.lst ss) (a :: os)
  | nd {a : Addr} {h : Hd} {vs : List V} {ss : List S} {own os : List Addr} : (∀ b ∈ own, B b = none) → HdAt K H a h vs own → OwL K B H vs ss os → Ow K B H (.ref a) (.nd h ss) (own ++ os)
inductive OwL (K : PySem.W.Frag) (B H : Hp) : List V → List S → List Addr → Prop
  | nil : OwL K B H [] [] []
  | cons {v : V} {vs : List V} {s : S} {ss : List S} {o os : List Addr} : Ow K B H v s o → OwL K B H vs ss os → OwL K B H (v :: vs) (s :: ss) (o ++ os)
end
mutual
theorem Ow.mono (e : Same B B') : ∀ {v : V} {s : S} {os : List Addr}, Ow K B H v s os → (∀ a ∈ os, B' a = none ∧ H' a = H a) → Ow K B' H' v s os
  | _, _, _, .d r, _ => .d (r.mono e)
  | _, _, _, .lst h1 h2 r, k => by
    refine .lst (k _ List.mem_cons_self).1 ?_ (OwL.mono e r fun a ha => k a (List.mem_cons_of_mem _ ha))
    rw [(k _ List.mem_cons_self).2]
    exact h2
  | _, _, _, .nd h1 h2 r, k => .nd (fun b hb => (k b (List.mem_append_left _ hb)).1) (h2.to fun b hb o z => by rw [(k b (List.mem_append_left _ hb)).2]; exact z) (OwL.mono e r fun a ha => k a (List.mem_append_right _ ha))
theorem OwL.mono (e : Same B B') : ∀ {vs : List V} {ss : List S} {os : List Addr}, OwL K B H vs ss os → (∀ a ∈ os, B' a = none ∧ H' a = H a) → OwL K B' H' vs ss os
  | _, _, _, .nil, _ => .nil
  | _, _, _, .cons h r, k => .cons (Ow.mono e h fun a ha => k a (List.mem_append_left _ ha)) (OwL.mono e r fun a ha => k a (List.mem_append_right _ ha))
end
mutual
theorem Ow.mem : ∀ {v : V} {s : S} {os : List Addr}, Ow K B H v s os → ∀ a ∈ os, B a = none ∧ H a ≠ none
  | _, _, _, .d _, _, h => by simp at h
  | _, _, _, .lst h1 h2 r, a, h => by
    rcases List.mem_cons.mp h with rfl | h
    · exact ⟨h1, by rw [h2]; simp⟩
    · exact OwL.mem r a h
  | _, _, _, .nd h1 h2 r, a, h => by
    rcases List.mem_append.mp h with h | h
    · exact ⟨h1 a h, h2.some a h⟩
    · exact OwL.mem r a h
theorem OwL.mem : ∀ {vs : List V} {ss : List S} {os : List Addr}, OwL K B H vs ss os → ∀ a ∈ os, B a = none ∧ H a ≠ none
  | _, _, _, .nil, _, h => by simp at h
  | _, _, _, .cons h r, a, m => by
    rcases List.mem_append.mp m with m | m
    · exact Ow.mem h a m
    · exact OwL.mem r a m
end
theorem OwL.length : ∀ {vs : List V} {ss : List S} {os : List Addr}, OwL K B H vs ss os → vs.length = ss.length
  | _, _, _, .nil => rfl
  | _, _, _, .cons _ r => congrArg (· + 1) r.length
theorem OwL.get : ∀ {vs : List V} {ss : List S} {os : List Addr} {i : Nat} {s : S}, OwL K B H vs ss os → ss[i]? = some s → ∃ v o, vs[i]? = some v ∧ Ow K B H v s o ∧ ∀ a ∈ o, a ∈ os
  | _, _, _, _, _, .nil, e => by simp at e
  | _, _, _, 0, _, .cons r _, e => by simp at e; subst e; exact ⟨_, _, rfl, r, fun a h => List.mem_append_left _ h⟩
  | _, _, _, i + 1, d, .cons _ t, e => by
    obtain ⟨u, o, h1, h2, h3⟩ := OwL.get (i := i) (s := d) t (by simpa using e)
    exact ⟨u, o, by simpa using h1, h2, fun a h => List.mem_append_right _ (h3 a h)⟩

mutual
def S.view : S → D
  | .d x => x
  | .lst xs => .lst (S.views xs)
  | .nd h xs => .nd h (S.views xs)
def S.views : List S → List D
  | [] => []
  | s :: r => s.view :: S.views r
end
theorem S.views_eq : ∀ xs : List S, S.views xs = xs.map S.view
  | [] => rfl
  | s :: r => by rw [S.views, S.views_eq r, List.map_cons]
theorem S.view_lst (xs : List S) : (S.lst xs).view = .lst (xs.map S.view) := by rw [S.view, S.views_eq]
theorem S.view_nd (h : Hd) (xs : List S) : (S.nd h xs).view = .nd h (xs.map S.view) := by rw [S.view, S.views_eq]
mutual
theorem Ow.rp (e : Same B B') : ∀ {v : V} {s : S} {os : List Addr}, Ow K B H v s os → (∀ a ∈ os, B' a = H a) → Rp K B' v s.view
  | _, _, _, .d r, _ => by rw [S.view]; exact r.mono e
  | _, _, _, .lst h1 h2 r, k => by
    rw [S.view_lst]
    refine .lst ?_ (OwL.rp e r fun a ha => k a (List.mem_cons_of_mem _ ha))
    rw [k _ List.mem_cons_self]
    exact h2
  | _, _, _, .nd h1 h2 r, k => by
    rw [S.view_nd]
    exact .nd (h2.to fun b hb o z => by rw [k b (List.mem_append_left _ hb)]; exact z) (OwL.rp e r fun a ha => k a (List.mem_append_right _ ha))
theorem OwL.rp (e : Same B B') : ∀ {vs : List V} {ss : List S} {os : List Addr}, OwL K B H vs ss os → (∀ a ∈ os, B' a = H a) → RpL K B' vs (ss.map S.view)
  | _, _, _, .nil, _ => .nil
  | _, _, _, .cons h r, k => .cons (Ow.rp e h fun a ha => k a (List.mem_append_left _ ha)) (OwL.rp e r fun a ha => k a (List.mem_append_right _ ha))
end
/-- read at the whole heap -/
theorem Ow.see (e : Same B H) {v : V} {s : S} {os : List Addr} (h : Ow K B H v s os) : Rp K H v s.view := h.rp e fun _ _ => rfl
theorem OwL.see (e : Same B H) {vs : List V} {ss : List S} {os : List Addr} (h : OwL K B H vs ss os) : RpL K H vs (ss.map S.view) := h.rp e fun _ _ => rfl

/-! ### the slots of a frame -/
inductive OwS (K : PySem.W.Frag) (B H : Hp) : L2.St → Sl → List Addr → Prop
  | nil : OwS K B H [] [] []
  | none {v : Option V} {σ : L2.St} {τ : Sl} {os : List Addr} : OwS K B H σ τ os → OwS K B H (v :: σ) (none :: τ) os
  | some {v : V} {s : S} {σ : L2.St} {τ : Sl} {o os : List Addr} : Ow K B H v s o → OwS K B H σ τ os → OwS K B H (some v :: σ) (some s :: τ) (o ++ os)
theorem OwS.mono (e : Same B B') : ∀ {σ : L2.St} {τ : Sl} {os : List Addr}, OwS K B H σ τ os → (∀ a ∈ os, B' a = Option.none ∧ H' a = H a) → OwS K B' H' σ τ os
  | _, _, _, .nil, _ => .nil
  | _, _, _, .none r, k => .none (OwS.mono e r k)
  | _, _, _, .some h r, k => .some (h.mono e fun a ha => k a (List.mem_append_left _ ha)) (OwS.mono e r fun a ha => k a (List.mem_append_right _ ha))
theorem OwS.mem : ∀ {σ : L2.St} {τ : Sl} {os : List Addr}, OwS K B H σ τ os → ∀ a ∈ os, B a = Option.none ∧ H a ≠ Option.none
  | _, _, _, .nil, _, h => by simp at h
  | _, _, _, .none r, a, h => OwS.mem r a h
  | _, _, _, .some h r, a, m => by
    rcases List.mem_append.mp m with m | m
    · exact Ow.mem h a m
    · exact OwS.mem r a m
theorem OwS.length : ∀ {σ : L2.St} {τ : Sl} {os : List Addr}, OwS K B H σ τ os → σ.length = τ.length
  | _, _, _, .nil => rfl
  | _, _, _, .none r => congrArg (· + 1) r.length
  | _, _, _, .some _ r => congrArg (· + 1) r.length
theorem OwS.get : ∀ {σ : L2.St} {τ : Sl} {os : List Addr} {i : Nat} {s : S}, OwS K B H σ τ os → τ[i]? = Option.some (Option.some s) → ∃ v o, σ[i]? = Option.some (Option.some v) ∧ Ow K B H v s o ∧ ∀ a ∈ o, a ∈ os
  | _, _, _, _, _, .nil, e => by simp at e
  | _, _, _, 0, _, .none _, e => by simp at e
  | _, _, _, i + 1, s, .none r, e => by
    obtain ⟨v, o, h1, h2, h3⟩ := OwS.get (i := i) (s := s) r (by simpa using e)
    exact ⟨v, o, by simpa using h1, h2, h3⟩
  | _, _, _, 0, _, .some h _, e => by simp at e; subst e; exact ⟨_, _, rfl, h, fun a m => List.mem_append_left _ m⟩
  | _, _, _, i + 1, s, .some _ r, e => by
    obtain ⟨v, o, h1, h2, h3⟩ := OwS.get (i := i) (s := s) r (by simpa using e)
    exact ⟨v, o, by simpa using h1, h2, fun a m => List.mem_append_right _ (h3 a m)⟩
/-- a slot is taken out -/
theorem OwS.take : ∀ {σ : L2.St} {τ : Sl} {os : List Addr} {i : Nat} {s : S}, OwS K B H σ τ os → τ[i]? = Option.some (Option.some s) →
    ∃ v o r, σ[i]? = Option.some (Option.some v) ∧ Ow K B H v s o ∧ OwS K B H σ (τ.set i Option.none) r ∧ os.Perm (o ++ r)
  | _, _, _, _, _, .nil, e => by simp at e
  | _, _, _, 0, _, .none _, e => by simp at e
  | _, _, _, i + 1, s, .none r, e => by
    obtain ⟨v, o, q, h1, h2, h3, h4⟩ := OwS.take (i := i) (s := s) r (by simpa using e)
    exact ⟨v, o, q, by simpa using h1, h2, .none h3, h4⟩
  | _, _, _, 0, _, .some (o := o) h r, e => by simp at e; subst e; exact ⟨_, _, _, rfl, h, .none r, List.Perm.refl _⟩
  | _, _, _, i + 1, s, .some (o := oo) h r, e => by
    obtain ⟨v, o, q, h1, h2, h3, h4⟩ := OwS.take (i := i) (s := s) r (by simpa using e)
    refine ⟨v, o, oo ++ q, by simpa using h1, h2, .some h h3, ?_⟩
    have p1 := h4.append_left oo
    refine p1.trans ?_
    rw [← List.append_assoc, ← List.append_assoc]
    exact (List.perm_append_comm).append_right q
/-- the slot's value may be anything, if nothing is said of it -/
theorem OwS.clear : ∀ {σ : L2.St} {τ : Sl} {os : List Addr} (i : Nat), OwS K B H σ τ os → ∃ r, OwS K B H σ (τ.set i Option.none) r ∧ (∀ a ∈ r, a ∈ os) ∧ (os.Nodup → r.Nodup)
  | _, _, _, _, .nil => ⟨[], by simpa using OwS.nil, by simp, by simp⟩
  | _, _, _, 0, .none r => ⟨_, .none r, fun _ h => h, fun h => h⟩
  | _, _, _, i + 1, .none r => by
    obtain ⟨q, h1, h2, h3⟩ := OwS.clear i r
    exact ⟨q, .none h1, h2, h3⟩
  | _, _, _, 0, .some h r => ⟨_, .none r, fun a m => List.mem_append_right _ m, fun n => (List.nodup_append.mp n).2.1⟩
  | _, _, _, i + 1, .some (o := oo) h r => by
    obtain ⟨q, h1, h2, h3⟩ := OwS.clear i r
    refine ⟨oo ++ q, .some h h1, fun a m => ?_, fun n => ?_⟩
    · rcases List.mem_append.mp m with m | m
      · exact List.mem_append_left _ m
      · exact List.mem_append_right _ (h2 a m)
    · obtain ⟨n1, n2, n3⟩ := List.nodup_append.mp n
      exact List.nodup_append.mpr ⟨n1, h3 n2, fun a ha b hb => n3 a ha b (h2 b hb)⟩
/-- a slot is filled -/
theorem OwS.put : ∀ {σ : L2.St} {τ : Sl} {os : List Addr} {i : Nat} {v : V} {s : S} {o : List Addr}, OwS K B H σ τ os → i < σ.length → τ[i]? = Option.some Option.none → Ow K B H v s o →
    ∃ r, OwS K B H (σ.set i (Option.some v)) (τ.set i (Option.some s)) r ∧ r.Perm (o ++ os)
  | _, _, _, _, _, _, _, .nil, hi, _, _ => by simp at hi
  | _, _, _, 0, _, _, _, .none r, _, _, h => ⟨_, .some h r, List.Perm.refl _⟩
  | _, _, _, i + 1, v, s, o, .none r, hi, e, h => by
    obtain ⟨q, h1, h2⟩ := OwS.put (i := i) r (by simpa using hi) (by simpa using e) h
    exact ⟨q, .none h1, h2⟩
  | _, _, _, 0, _, _, _, .some _ _, _, e, _ => by simp at e
  | _, _, _, i + 1, v, s, o, .some (o := oo) h0 r, hi, e, h => by
    obtain ⟨q, h1, h2⟩ := OwS.put (i := i) r (by simpa using hi) (by simpa using e) h
    refine ⟨oo ++ q, .some h0 h1, ?_⟩
    refine (h2.append_left oo).trans ?_
    rw [← List.append_assoc, ← List.append_assoc]
    exact (List.perm_append_comm).append_right _
/-- the same value put back -/
theorem OwS.back : ∀ {σ : L2.St} {τ : Sl} {os : List Addr} {i : Nat} {v : V} {s : S} {o : List Addr}, OwS K B H σ τ os → σ[i]? = Option.some (Option.some v) → τ[i]? = Option.some Option.none → Ow K B H v s o →
    ∃ r, OwS K B H σ (τ.set i (Option.some s)) r ∧ r.Perm (o ++ os) := fun {σ τ os i v s o} h hv e w => by
  have hi : i < σ.length := by
    rcases List.getElem?_eq_some_iff.mp hv with ⟨q, _⟩
    exact q
  obtain ⟨r, h1, h2⟩ := h.put hi e w
  have es : σ.set i (Option.some v) = σ := by
    rcases List.getElem?_eq_some_iff.mp hv with ⟨q, z⟩
    rw [← z]
    exact List.set_getElem_self q
  rw [es] at h1
  exact ⟨r, h1, h2⟩
/-- names that hold nothing of their own may hold any value -/
theorem OwS.free : ∀ {σ : L2.St} {τ : Sl} {os : List Addr} {i : Nat} {v : Option V}, OwS K B H σ τ os → τ[i]? = Option.some Option.none → OwS K B H (σ.set i v) τ os
  | _, _, _, _, _, .nil, e => by simp at e
  | _, _, _, 0, _, .none r, _ => .none r
  | _, _, _, i + 1, v, .none r, e => .none (OwS.free (i := i) r (by simpa using e))
  | _, _, _, 0, _, .some _ _, e => by simp at e
  | _, _, _, i + 1, v, .some h r, e => .some h (OwS.free (i := i) r (by simpa using e))

structure Ok (K : PySem.W.Frag) (B H : Hp) (σ : L2.St) (τ : Sl) (os : List Addr) : Prop where
  ex : Same B H
  sl : OwS K B H σ τ os
  nd : os.Nodup
/-- what may happen on the way from one state to another; p: nothing that is owned has turned -/
structure Fr (p : Bool) (B H : Hp) (os : List Addr) (B' H' : Hp) (os' : List Addr) : Prop where
  bb : Same B B'
  keep : ∀ a o, H a = some o → (p = true ∨ a ∉ os) → H' a = some o
  thr : ∀ a, H' a = none → H a = none
  own : ∀ a ∈ os', a ∈ os ∨ H a = none
  frz : ∀ a, B a = none → B' a ≠ none → (p = false ∧ a ∈ os) ∨ H a = none
end
section
variable {K : PySem.W.Frag} {B B' B1 B2 H H' H1 H2 : Hp} {os os' os1 os1' os2 ov : List Addr} {p p1 p2 : Bool} {σ : L2.St} {τ τ' : Sl} {v : V} {s : S}
theorem Fr.refl : Fr p B H os B H os := ⟨fun _ _ h => h, fun _ _ h _ => h, fun _ h => h, fun _ h => .inl h, fun _ h h' => absurd h h'⟩
theorem Fr.trans (f1 : Fr p1 B H os B1 H1 os1) (f2 : Fr p2 B1 H1 os1' B2 H2 os2) (hs : ∀ a ∈ os1', a ∈ os1) : Fr (p1 && p2) B H os B2 H2 os2 := by
  refine ⟨fun a o h => f2.bb a o (f1.bb a o h), fun a o h q => ?_, fun a h => f1.thr a (f2.thr a h), fun a h => ?_, fun a h q => ?_⟩
  · rcases q with q | q
    · have q1 : p1 = true := by cases p1 <;> simp_all
      have q2 : p2 = true := by cases p2 <;> simp_all
      exact f2.keep a o (f1.keep a o h (.inl q1)) (.inl q2)
    · refine f2.keep a o (f1.keep a o h (.inr q)) (.inr fun m => ?_)
      rcases f1.own a (hs a m) with z | z
      · exact q z
      · rw [h] at z; cases z
  · rcases f2.own a h with z | z
    · exact f1.own a (hs a z)
    · exact .inr (f1.thr a z)
  · by_cases e : B1 a = none
    · rcases f2.frz a e q with ⟨z1, z⟩ | z
      · rcases f1.own a (hs a z) with y | y
        · exact .inl ⟨by rw [z1]; simp, y⟩
        · exact .inr y
      · exact .inr (f1.thr a z)
    · rcases f1.frz a h e with ⟨z1, z⟩ | z
      · exact .inl ⟨by rw [z1]; simp, z⟩
      · exact .inr z
theorem Fr.weak (f : Fr p B H os B' H' os') : Fr false B H os B' H' os' := by
  refine ⟨f.bb, fun a o h q => f.keep a o h (q.elim (fun z => by cases z) .inr), f.thr, f.own, fun a h q => ?_⟩
  rcases f.frz a h q with ⟨_, z⟩ | z
  · exact .inl ⟨rfl, z⟩
  · exact .inr z
theorem Fr.sub (f : Fr p B H os B' H' os') (h : ∀ a ∈ os2, a ∈ os') : Fr p B H os B' H' os2 := ⟨f.bb, f.keep, f.thr, fun a m => f.own a (h a m), f.frz⟩
/-- something more is owned, and stays -/
theorem Fr.more (f : Fr p B H os B' H' os') (ex : List Addr) : Fr p B H (ex ++ os) B' H' (ex ++ os') := by
  refine ⟨f.bb, fun a o h q => f.keep a o h (q.imp id fun z m => z (List.mem_append_right _ m)), f.thr, fun a m => ?_, fun a h q => ?_⟩
  · rcases List.mem_append.mp m with m | m
    · exact .inl (List.mem_append_left _ m)
    · exact (f.own a m).imp (List.mem_append_right _) id
  · rcases f.frz a h q with ⟨z1, z⟩ | z
    · exact .inl ⟨z1, List.mem_append_right _ z⟩
    · exact .inr z
/-- the owned set may be named otherwise -/
theorem Fr.perm (f : Fr p B H os B' H' os') (h : ∀ a ∈ os, a ∈ os1) (h' : ∀ a ∈ os1, a ∈ os) : Fr p B H os1 B' H' os' := by
  refine ⟨f.bb, fun a o e q => f.keep a o e (q.imp id fun z m => z (h a m)), f.thr, fun a m => (f.own a m).imp (h a) id, fun a e q => ?_⟩
  exact (f.frz a e q).imp (fun z => ⟨z.1, h a z.2⟩) id
/-- what stands aside stays -/
theorem Fr.stay (f : Fr p B H os B' H' os') (hv : ∀ a ∈ ov, B a = none ∧ H a ≠ none) (hd : p = true ∨ ∀ a ∈ ov, a ∉ os) : ∀ a ∈ ov, B' a = none ∧ H' a = H a := fun a ha => by
  obtain ⟨h1, h2⟩ := hv a ha
  have hk : p = true ∨ a ∉ os := hd.imp id fun z => z a ha
  constructor
  · cases e : B' a with
    | none => rfl
    | some o =>
      rcases f.frz a h1 (by rw [e]; simp) with ⟨z1, z⟩ | z
      · rcases hk with q | q
        · rw [z1] at q; cases q
        · exact absurd z q
      · exact absurd z h2
  · cases e : H a with
    | none => exact absurd e h2
    | some o => exact f.keep a o e hk
theorem Ow.stay (w : Ow K B H v s ov) (f : Fr p B H os B' H' os') (hd : p = true ∨ ∀ a ∈ ov, a ∉ os) : Ow K B' H' v s ov := w.mono f.bb (f.stay w.mem hd)
theorem OwS.stay (w : OwS K B H σ τ ov) (f : Fr p B H os B' H' os') (hd : p = true ∨ ∀ a ∈ ov, a ∉ os) : OwS K B' H' σ τ ov := w.mono f.bb (f.stay w.mem hd)
/-- the heaps grow alone -/
structure Gr (B H B' H' : Hp) : Prop where
  bb : Same B B'
  bh : Same B' H'
  hh : Same H H'
  frz : ∀ a, B a = none → B' a ≠ none → H a = none
theorem Gr.refl (e : Same B H) : Gr B H B H := ⟨fun _ _ h => h, e, fun _ _ h => h, fun _ h h' => absurd h h'⟩
theorem Gr.fr (g : Gr B H B' H') : Fr p B H os B' H' os := by
  refine ⟨g.bb, fun a o h _ => g.hh a o h, fun a h => ?_, fun a h => .inl h, fun a h q => .inr (g.frz a h q)⟩
  cases e : H a with
  | none => rfl
  | some o => rw [g.hh a o e] at h; cases h
theorem Gr.ok (g : Gr B H B' H') (k : Ok K B H σ τ os) : Ok K B' H' σ τ os := ⟨g.bh, k.sl.stay (p := true) (os := os) (os' := os) g.fr (.inl rfl), k.nd⟩
theorem Gr.ow (g : Gr B H B' H') (w : Ow K B H v s ov) : Ow K B' H' v s ov := w.stay (p := true) (os := ov) (os' := ov) g.fr (.inl rfl)
/-- a new object, at once frozen -/
theorem Gr.new {q : Addr} {o : HO} (e : Same B H) (hq : H q = none) : Gr B H (upd B q o) (upd H q o) := by
  have hb : B q = none := by
    cases z : B q with
    | none => rfl
    | some u => rw [e q u z] at hq; cases hq
  refine ⟨fun a u h => ?_, fun a u h => ?_, fun a u h => ?_, fun a h z => ?_⟩
  · rw [upd_ne (ne_of_none h hb)]; exact h
  · by_cases z : a = q
    · subst z; rw [upd_same] at h ⊢; exact h
    · rw [upd_ne z] at h ⊢; exact e a u h
  · rw [upd_ne (ne_of_none h hq)]; exact h
  · by_cases y : a = q
    · subst y; exact hq
    · rw [upd_ne y] at z; exact absurd h z
end
end Tr

/-! expressions as partial functions on slots -/
namespace Tr
open PySem PySem.Spec PyProof.Rows L2

abbrev LIM : Nat := 16777216
theorem lim_eq : LIM = sizeLine := by rw [sizeLine_eq]

/-- what is new of a value's own -/
def Fresh (p : Bool) (H : Hp) (os ov os' : List Addr) : Prop := (ov ++ os').Nodup ∧ ∀ a ∈ ov, (p = false ∧ a ∈ os) ∨ H a = none
theorem Fresh.nil {p : Bool} {H : Hp} {os os' : List Addr} (h : os'.Nodup) : Fresh p H os [] os' := ⟨by simpa using h, by simp⟩

def PostE (K : PySem.W.Frag) (p f : Bool) (σ : L2.St) (B H : Hp) (os : List Addr) (Q : VK) : Option (S × Sl) → Prop
  | none => False
  | some (s, τ') => ∀ v B' H' ov os', Ow K B' H' v s ov → Ok K B' H' σ τ' os' → (f = true → Fresh p H os ov os') → Fr p B H os B' H' os' → Q v H'
def tOf (K : PySem.W.Frag) (p f : Bool) (m : M S) : TE := fun σ H Q => ∃ B τ os, Ok K B H σ τ os ∧ PostE K p f σ B H os Q (m τ)
def Pure {α : Type} (m : M α) : Prop := ∀ τ s τ', m τ = some (s, τ') → τ' = τ
/-- e is m; p: nothing owned turns; f: the value is nobody else's -/
structure RX (X : Cx) (p f : Bool) (e : Expr) (m : M S) : Prop where
  pe : PE X e (tOf X.K p f m)
  pu : p = true → Pure m
theorem pe_imp {X : Cx} {e : Expr} {t t' : TE} (h : PE X e t) (i : ∀ σ H Q, t' σ H Q → t σ H Q) : PE X e t' := ⟨fun pins s σ H Q I q => h.run pins s σ H Q I (i _ _ _ q)⟩
theorem pt_imp {X : Cx} {e : Expr} {t t' : TT} (h : PT X e t) (i : ∀ σ H Q, t' σ H Q → t σ H Q) : PT X e t' := ⟨fun pins s σ H Q I q => h.run pins s σ H Q I (i _ _ _ q)⟩
theorem pa_imp {X : Cx} {e : List Expr} {t t' : TA} (h : PA X e t) (i : ∀ σ H Q, t' σ H Q → t σ H Q) : PA X e t' := ⟨fun pos pins s σ H Q I q => h.run pos pins s σ H Q I (i _ _ _ q)⟩
theorem ps_imp {X : Cx} {e : Stmt} {t t' : TS} (h : PS X e t) (i : ∀ D σ H, t' D σ H → t D σ H) : PS X e t' := ⟨fun pins s σ H D I q => h.run pins s σ H D I (i _ _ _ q)⟩
theorem pss_imp {X : Cx} {e : List Stmt} {t t' : TS} (h : PSs X e t) (i : ∀ D σ H, t' D σ H → t D σ H) : PSs X e t' := ⟨fun pins s σ H D I q => h.run pins s σ H D I (i _ _ _ q)⟩

/-! ### m's own words -/
def mC (d : D) : M S := fun τ => some (.d d, τ)
def mVar (i : Nat) : M S := fun τ => match τ[i]? with | some (some s) => some (s, τ) | _ => none
def mVarD (i : Nat) : M S := fun τ => match τ[i]? with | some (some (.d x)) => some (.d x, τ) | _ => none
def S.isD : S → Bool | .d _ => true | _ => false
def mD (m : M S) : M S := fun τ => match m τ with | some (.d x, τ') => some (.d x, τ') | _ => none
def mZ (m : M S) : M S := fun τ => match m τ with | some (s, τ') => some (.d s.view, τ') | none => none
/-- two values, one behind the other -/
def m2 (p2 : Bool) (ma mb : M S) : M (S × S) := fun τ => match ma τ with
  | some (s, τ1) => if (p2 || s.isD) = true then (match mb τ1 with | some (u, τ2) => some ((s, u), τ2) | none => none) else none
  | none => none
def mBin (p2 : Bool) (g : S → S → Option D) (ma mb : M S) : M S := fun τ => match m2 p2 ma mb τ with
  | some (r, τ') => (match g r.1 r.2 with | some d => some (.d d, τ') | none => none)
  | none => none
def mBinS (p2 : Bool) (g : S → S → Option S) (ma mb : M S) : M S := fun τ => match m2 p2 ma mb τ with
  | some (r, τ') => (match g r.1 r.2 with | some d => some (d, τ') | none => none)
  | none => none
def mUn (g : S → Option D) (ma : M S) : M S := fun τ => match ma τ with
  | some (s, τ') => (match g s with | some d => some (.d d, τ') | none => none)
  | none => none

section
variable {X : Cx} {e a b c : Expr} {m ma mb mc : M S} {p p1 p2 p3 f f1 f2 : Bool} {pos : Pos}

theorem pure_mC {d : D} : Pure (mC d) := fun τ s τ' h => by unfold mC at h; cases h; rfl
theorem pure_mVar {i : Nat} : Pure (mVar i) := fun τ s τ' h => by
  unfold mVar at h; split at h <;> cases h; rfl
theorem pure_mVarD {i : Nat} : Pure (mVarD i) := fun τ s τ' h => by
  unfold mVarD at h; split at h <;> cases h; rfl
theorem pure_mD (h : Pure m) : Pure (mD m) := fun τ s τ' q => by
  unfold mD at q
  split at q
  · cases q; exact h _ _ _ (by assumption)
  · cases q
theorem pure_mZ (h : Pure m) : Pure (mZ m) := fun τ s τ' q => by
  unfold mZ at q
  split at q
  · cases q; exact h _ _ _ (by assumption)
  · cases q
theorem pure_m2 (ha : Pure ma) (hb : Pure mb) : Pure (m2 p2 ma mb) := fun τ s τ' q => by
  unfold m2 at q
  split at q
  · rename_i s1 τ1 e1
    split at q
    · split at q
      · rename_i u τ2 e2
        cases q
        rw [hb _ _ _ e2, ha _ _ _ e1]
      · cases q
    · cases q
  · cases q
theorem pure_mBin {g} (ha : Pure ma) (hb : Pure mb) : Pure (mBin p2 g ma mb) := fun τ s τ' q => by
  unfold mBin at q
  split at q
  · rename_i r τ1 e1
    split at q
    · cases q; exact pure_m2 ha hb _ _ _ e1
    · cases q
  · cases q
theorem pure_mBinS {g} (ha : Pure ma) (hb : Pure mb) : Pure (mBinS p2 g ma mb) := fun τ s τ' q => by
  unfold mBinS at q
  split at q
  · rename_i r τ1 e1
    split at q
    · cases q; exact pure_m2 ha hb _ _ _ e1
    · cases q
  · cases q
theorem pure_mUn {g} (ha : Pure ma) : Pure (mUn g ma) := fun τ s τ' q => by
  unfold mUn at q
  split at q
  · rename_i r τ1 e1
    split at q
    · cases q; exact ha _ _ _ e1
    · cases q
  · cases q

theorem and_tt {p1 p2 : Bool} (h : (p1 && p2) = true) : p1 = true ∧ p2 = true := by
  cases p1 <;> cases p2 <;> simp_all

/-! ### leaves -/
theorem rx_const {v : V} {d : D} (h : PE X e (tC v)) (r : ∀ B, Rp X.K B v d) : RX X p f e (mC d) := by
  refine ⟨pe_imp h fun σ H Q q => ?_, fun _ => pure_mC⟩
  obtain ⟨B, τ, os, ok, q⟩ := q
  exact q v B H [] os (.d (r B)) ok (fun _ => .nil ok.nd) Fr.refl
theorem rx_int {i j pos} : RX X true f (.Constant (.int i) j pos) (mC (.int i)) := rx_const pe_int fun _ => .int i
theorem rx_bl {i j pos} : RX X true f (.Constant (.bool i) j pos) (mC (.bl i)) := rx_const pe_bl fun _ => .bl i
theorem rx_str {i j pos} : RX X true f (.Constant (.str i) j pos) (mC (.str i)) := rx_const pe_str fun _ => .str i
theorem rx_non {j pos} : RX X true f (.Constant .none j pos) (mC .non) := rx_const pe_non fun _ => .non
/-- a constant of the module -/
theorem rx_glob {x : Str} {v : V} {d : D} {u : Value} (hg : Gl X x) (hm : X.mg x = some u) (r : RelV v u) (rp : ∀ B, Rp X.K B v d) (hd : (x == ("__debug__" : Str)) = false := by decide) : RX X true f (.Name x pos) (mC d) :=
  rx_const (pe_glob hg hm r hd) rp
theorem rx_var (i : Nat) {x : Str} (hN : X.N[i]? = some x := by rfl) (hv : Vis X.env.scope x := by first | exact Or.inl rfl | exact Or.inr (Or.inl rfl) | exact Or.inr (Or.inr rfl)) (hd : (x == ("__debug__" : Str)) = false := by decide)
    (hcd : (x == ("__classdict__" : Str)) = false := by decide) : RX X true false (.Name x pos) (mVar i) := by
  refine ⟨pe_imp (pv i hN hv hd hcd) fun σ H Q q => ?_, fun _ => pure_mVar⟩
  obtain ⟨B, τ, os, ok, q⟩ := q
  unfold mVar at q
  split at q
  · rename_i s e1
    obtain ⟨v, o, h1, h2, h3⟩ := ok.sl.get e1
    exact ⟨v, h1, q v B H o os h2 ok (fun z => by cases z) Fr.refl⟩
  · exact q.elim
theorem rx_varD (i : Nat) {x : Str} (hN : X.N[i]? = some x := by rfl) (hv : Vis X.env.scope x := by first | exact Or.inl rfl | exact Or.inr (Or.inl rfl) | exact Or.inr (Or.inr rfl)) (hd : (x == ("__debug__" : Str)) = false := by decide)
    (hcd : (x == ("__classdict__" : Str)) = false := by decide) : RX X true f (.Name x pos) (mVarD i) := by
  refine ⟨pe_imp (pv i hN hv hd hcd) fun σ H Q q => ?_, fun _ => pure_mVarD⟩
  obtain ⟨B, τ, os, ok, q⟩ := q
  unfold mVarD at q
  split at q
  · rename_i s e1
    obtain ⟨v, o, h1, h2, h3⟩ := ok.sl.get e1
    cases h2 with
    | d r => exact ⟨v, h1, q v B H [] os (.d r) ok (fun _ => .nil ok.nd) Fr.refl⟩
  · exact q.elim
/-- a value that is data is nobody's -/
theorem RX.asD (h : RX X p f e m) : RX X p f1 e (mD m) := by
  refine ⟨pe_imp h.pe fun σ H Q q => ?_, fun z => pure_mD (h.pu z)⟩
  obtain ⟨B, τ, os, ok, q⟩ := q
  refine ⟨B, τ, os, ok, ?_⟩
  unfold mD at q
  split at q
  · rename_i x τ' e1
    rw [e1]
    intro v B' H' ov os' w ok' _ fr
    cases w with
    | d r => exact q v B' H' [] os' (.d r) ok' (fun _ => .nil ok'.nd) fr
  · exact q.elim
/-- a value of its own is frozen -/
theorem RX.frz (h : RX X p true e m) : RX X p f e (mZ m) := by
  refine ⟨pe_imp h.pe fun σ H Q q => ?_, fun z => pure_mZ (h.pu z)⟩
  obtain ⟨B, τ, os, ok, q⟩ := q
  refine ⟨B, τ, os, ok, ?_⟩
  unfold mZ at q
  split at q
  · rename_i s τ' e1
    rw [e1]
    intro v B' H' ov os' w ok' fh fr
    obtain ⟨nd, fo⟩ := fh rfl
    obtain ⟨n1, n2, n3⟩ := List.nodup_append.mp nd
    let B2 : Hp := fun a => if a ∈ ov then H' a else B' a
    have b2 : Same B' B2 := fun a o ha => by
      show (if a ∈ ov then H' a else B' a) = some o
      split
      · exact ok'.ex a o ha
      · exact ha
    have b3 : Same B2 H' := fun a o ha => by
      have ha : (if a ∈ ov then H' a else B' a) = some o := ha
      split at ha
      · exact ha
      · exact ok'.ex a o ha
    have b4 : ∀ a ∈ ov, B2 a = H' a := fun a ha => if_pos ha
    have b5 : ∀ a, a ∉ ov → B2 a = B' a := fun a ha => if_neg ha
    have ok2 : Ok X.K B2 H' σ τ' os' := ⟨b3, ok'.sl.mono b2 fun a ha => ⟨by
      rw [b5 a fun z => n3 a z a ha rfl]
      exact (ok'.sl.mem a ha).1, rfl⟩, ok'.nd⟩
    refine q v B2 H' [] os' (.d (w.rp b2 b4)) ok2 (fun _ => .nil ok2.nd) ?_
    refine ⟨fun a o ha => b2 a o (fr.bb a o ha), fr.keep, fr.thr, fr.own, fun a ha z => ?_⟩
    by_cases m : a ∈ ov
    · exact fo a m
    · rw [b5 a m] at z
      exact fr.frz a ha z
  · exact q.elim

/-! ### two in a row -/
theorem two (ha : RX X p1 f1 a ma) (hb : RX X p2 f2 b mb) {σ : L2.St} {H : Hp} {R : V → V → Hp → Prop} {B : Hp} {τ : Sl} {os : List Addr} (ok : Ok X.K B H σ τ os) {s u : S} {τ' : Sl} (e : m2 p2 ma mb τ = some ((s, u), τ'))
    (k : ∀ x y B' H' ox oy os', Ow X.K B' H' x s ox → Ow X.K B' H' y u oy → Ok X.K B' H' σ τ' os' → Fr (p1 && p2) B H os B' H' os' → R x y H') :
    tOf X.K p1 f1 ma σ H fun x H1 => tOf X.K p2 f2 mb σ H1 fun y H2 => R x y H2 := by
  refine ⟨B, τ, os, ok, ?_⟩
  unfold m2 at e
  split at e
  · rename_i s1 τ1 e1
    split at e
    · rename_i hp
      split at e
      · rename_i u1 τ2 e2
        cases e
        rw [e1]
        intro x B1 H1 ox os1 w1 ok1 _ fr1
        refine ⟨B1, τ1, os1, ok1, ?_⟩
        rw [e2]
        intro y B2 H2 oy os2 w2 ok2 _ fr2
        have w1' : Ow X.K B2 H2 x s ox := by
          rcases Bool.or_eq_true_iff.mp hp with z | z
          · exact w1.stay fr2 (.inl z)
          · cases w1 with
            | d r => exact .d (r.mono fr2.bb)
            | lst _ _ _ => cases z
            | nd _ _ _ => cases z
        exact k x y B2 H2 ox oy os2 w1' w2 ok2 (fr1.trans fr2 fun _ h => h)
      · cases e
    · cases e
  · cases e
/-- an operation on two values that gives data -/
def Op2 (K : PySem.W.Frag) (r : R2) (g : S → S → Option D) : Prop := ∀ (B H : Hp) (x y : V) (s u : S) (ox oy : List Addr) (d : D) (Q : VK), Same B H → Ow K B H x s ox → Ow K B H y u oy → g s u = some d →
  (∀ v B' H', Rp K B' v d → Gr B H B' H' → Q v H') → r x y H Q
theorem rx_op2 {g : S → S → Option D} {r : R2} {ee : Expr} (ha : RX X p1 f1 a ma) (hb : RX X p2 f2 b mb) (og : Op2 X.K r g) (he : ∀ {ta tb : TE}, PE X a ta → PE X b tb → PE X ee (tOp r ta tb)) : RX X (p1 && p2) f ee (mBin p2 g ma mb) := by
  refine ⟨pe_imp (he ha.pe hb.pe) fun σ H Q q => ?_, fun z => pure_mBin (ha.pu (and_tt z).1) (hb.pu (and_tt z).2)⟩
  obtain ⟨B, τ, os, ok, q⟩ := q
  unfold mBin at q
  split at q
  · rename_i rr τ' e1
    split at q
    · rename_i d e2
      obtain ⟨s, u⟩ := rr
      refine two ha hb (R := fun x y H2 => r x y H2 Q) ok e1 fun x y B' H' ox oy os' w1 w2 ok' fr => ?_
      refine og B' H' x y s u ox oy d Q ok'.ex w1 w2 e2 fun v B2 H2 rp gr => ?_
      exact q v B2 H2 [] os' (.d rp) (gr.ok ok') (fun _ => .nil ok'.nd) (by
        have z := fr.trans (gr.fr (p := true) (os := os')) fun _ h => h
        rwa [Bool.and_true] at z)
    · exact q.elim
  · exact q.elim
theorem rx_bin {op : Operator} {g : S → S → Option D} {r : R2} (ho : OpR X (binaryOp op) r) (og : Op2 X.K r g) (ha : RX X p1 f1 a ma) (hb : RX X p2 f2 b mb) : RX X (p1 && p2) f (.BinOp a op b pos) (mBin p2 g ma mb) :=
  rx_op2 ha hb og fun h1 h2 => pe_op ho h1 h2
theorem rx_cmp {op : CmpOp} {g : S → S → Option D} {r : R2} (ho : OpR X (compareOp op) r) (og : Op2 X.K r g) (ha : RX X p1 f1 a ma) (hb : RX X p2 f2 b mb) (hm : behindInMarks op b = false) : RX X (p1 && p2) f (.Compare a [op] [b] pos) (mBin p2 g ma mb) :=
  rx_op2 ha hb og fun h1 h2 => pe_cmpR ho h1 h2 hm
/-- an operation on one value -/
def Op1 (K : PySem.W.Frag) (r : V → Hp → VK → Prop) (g : S → Option D) : Prop := ∀ (B H : Hp) (x : V) (s : S) (ox : List Addr) (d : D) (Q : VK), Same B H → Ow K B H x s ox → g s = some d →
  (∀ v B' H', Rp K B' v d → Gr B H B' H' → Q v H') → r x H Q
theorem rx_op1 {g : S → Option D} {r : V → Hp → VK → Prop} {ee : Expr} (ha : RX X p1 f1 a ma) (og : Op1 X.K r g) (he : ∀ {ta : TE}, PE X a ta → PE X ee (tUn r ta)) : RX X p1 f ee (mUn g ma) := by
  refine ⟨pe_imp (he ha.pe) fun σ H Q q => ?_, fun z => pure_mUn (ha.pu z)⟩
  obtain ⟨B, τ, os, ok, q⟩ := q
  unfold mUn at q
  split at q
  · rename_i s τ' e1
    split at q
    · rename_i d e2
      refine ⟨B, τ, os, ok, ?_⟩
      rw [e1]
      intro x B1 H1 ox os1 w1 ok1 _ fr1
      refine og B1 H1 x s ox d Q ok1.ex w1 e2 fun v B2 H2 rp gr => ?_
      exact q v B2 H2 [] os1 (.d rp) (gr.ok ok1) (fun _ => .nil ok1.nd) (by
        have z := fr1.trans (gr.fr (p := true) (os := os1)) fun _ h => h
        rwa [Bool.and_true] at z)
    · exact q.elim
  · exact q.elim
theorem rx_un {op : UnaryOp} {g : S → Option D} {r : V → Hp → VK → Prop} (ho : UnR X (unaryOp op) r) (og : Op1 X.K r g) (ha : RX X p1 f1 a ma) : RX X p1 f (.UnaryOp op a pos) (mUn g ma) :=
  rx_op1 ha og fun h1 => pe_un ho h1

/-! ### argument lists, their values data -/
def PostA (K : PySem.W.Frag) (p : Bool) (σ : L2.St) (B H : Hp) (os : List Addr) (Q : List V → Hp → Prop) : Option (List D × Sl) → Prop
  | none => False
  | some (ds, τ') => ∀ vs B' H' os', RpL K B' vs ds → Ok K B' H' σ τ' os' → Fr p B H os B' H' os' → Q vs H'
def taOf (K : PySem.W.Frag) (p : Bool) (m : M (List D)) : TA := fun σ H Q => ∃ B τ os, Ok K B H σ τ os ∧ PostA K p σ B H os Q (m τ)
structure RA (X : Cx) (p : Bool) (es : List Expr) (m : M (List D)) : Prop where
  pa : PA X es (taOf X.K p m)
  pu : p = true → Pure m
def maNil : M (List D) := fun τ => some ([], τ)
def maCons (ma : M S) (mr : M (List D)) : M (List D) := fun τ => match ma τ with
  | some (.d x, τ1) => (match mr τ1 with | some (xs, τ2) => some (x :: xs, τ2) | none => none)
  | _ => none
theorem pure_maNil : Pure maNil := fun τ s τ' h => by unfold maNil at h; cases h; rfl
theorem pure_maCons {mr : M (List D)} (ha : Pure ma) (hb : Pure mr) : Pure (maCons ma mr) := fun τ s τ' q => by
  unfold maCons at q
  split at q
  · rename_i x τ1 e1
    split at q
    · rename_i xs τ2 e2
      cases q
      rw [hb _ _ _ e2, ha _ _ _ e1]
    · cases q
  · cases q
variable {es : List Expr} {mr : M (List D)}
theorem ra_nil : RA X true [] maNil := by
  refine ⟨pa_imp pa_nil fun σ H Q q => ?_, fun _ => pure_maNil⟩
  obtain ⟨B, τ, os, ok, q⟩ := q
  exact q [] B H os .nil ok Fr.refl
theorem ra_cons (ha : RX X p1 f1 a ma) (hr : RA X p2 es mr) (hs : starEach (a :: es) X.env = (false, eval a X.env) :: starEach es X.env := by rfl) : RA X (p1 && p2) (a :: es) (maCons ma mr) := by
  refine ⟨pa_imp (pa_cons ha.pe hr.pa hs) fun σ H Q q => ?_, fun z => pure_maCons (ha.pu (and_tt z).1) (hr.pu (and_tt z).2)⟩
  obtain ⟨B, τ, os, ok, q⟩ := q
  unfold maCons at q
  split at q
  · rename_i x τ1 e1
    split at q
    · rename_i xs τ2 e2
      refine ⟨B, τ, os, ok, ?_⟩
      rw [e1]
      intro v B1 H1 ov os1 w1 ok1 _ fr1
      cases w1 with
      | d r1 =>
        refine ⟨B1, τ1, os1, ok1, ?_⟩
        rw [e2]
        intro vs B2 H2 os2 r2 ok2 fr2
        exact q (v :: vs) B2 H2 os2 (.cons (r1.mono fr2.bb) r2) ok2 (fr1.trans fr2 fun _ h => h)
    · exact q.elim
  · exact q.elim
theorem RA.star (h : RA X p es mr) : RA X p es mr := h

def mTup (mr : M (List D)) : M S := fun τ => match mr τ with | some (ds, τ') => if ds.length ≤ LIM then some (.d (.tup ds), τ') else none | none => none
def mLstZ (mr : M (List D)) : M S := fun τ => match mr τ with | some (ds, τ') => if ds.length ≤ LIM then some (.d (.lst ds), τ') else none | none => none
def mLst (mr : M (List D)) : M S := fun τ => match mr τ with | some (ds, τ') => if ds.length ≤ LIM then some (.lst (ds.map S.d), τ') else none | none => none
theorem pure_mTup (h : Pure mr) : Pure (mTup mr) := fun τ s τ' q => by
  unfold mTup at q
  split at q
  · split at q <;> cases q
    exact h _ _ _ (by assumption)
  · cases q
theorem pure_mLstZ (h : Pure mr) : Pure (mLstZ mr) := fun τ s τ' q => by
  unfold mLstZ at q
  split at q
  · split at q <;> cases q
    exact h _ _ _ (by assumption)
  · cases q
theorem pure_mLst (h : Pure mr) : Pure (mLst mr) := fun τ s τ' q => by
  unfold mLst at q
  split at q
  · split at q <;> cases q
    exact h _ _ _ (by assumption)
  · cases q
theorem owl_ds {K : PySem.W.Frag} {B H : Hp} : ∀ {vs : List V} {ds : List D}, RpL K B vs ds → OwL K B H vs (ds.map S.d) []
  | _, _, .nil => .nil
  | _, _, .cons r t => .cons (o := []) (.d r) (owl_ds t)
theorem rx_tup {x1} (h : RA X p es mr) : RX X p f (.Tuple es x1 pos) (mTup mr) := by
  refine ⟨pe_imp (pe_tup h.pa) fun σ H Q q => ?_, fun z => pure_mTup (h.pu z)⟩
  obtain ⟨B, τ, os, ok, q⟩ := q
  refine ⟨B, τ, os, ok, ?_⟩
  unfold mTup at q
  split at q
  · rename_i ds τ' e1
    rw [e1]
    intro vs B1 H1 os1 r1 ok1 fr1
    split at q
    · rename_i hl
      refine ⟨by rw [r1.length, ← lim_eq]; exact hl, fun a ha => ?_⟩
      have gr := Gr.new (o := .tup vs) ok1.ex ha
      refine q (.ref a) _ _ [] os1 (.d (.tup upd_same (r1.mono gr.bb))) (gr.ok ok1) (fun _ => .nil ok1.nd) ?_
      have z := fr1.trans (gr.fr (p := true) (os := os1)) fun _ h => h
      rwa [Bool.and_true] at z
    · exact q.elim
  · exact q.elim
theorem rx_lstZ (h : RA X p es mr) : RX X p f (.List es pos) (mLstZ mr) := by
  refine ⟨pe_imp (pe_lst h.pa) fun σ H Q q => ?_, fun z => pure_mLstZ (h.pu z)⟩
  obtain ⟨B, τ, os, ok, q⟩ := q
  refine ⟨B, τ, os, ok, ?_⟩
  unfold mLstZ at q
  split at q
  · rename_i ds τ' e1
    rw [e1]
    intro vs B1 H1 os1 r1 ok1 fr1
    split at q
    · rename_i hl
      refine ⟨by rw [r1.length, ← lim_eq]; exact hl, fun a ha => ?_⟩
      have gr := Gr.new (o := .lst vs) ok1.ex ha
      refine q (.ref a) _ _ [] os1 (.d (.lst upd_same (r1.mono gr.bb))) (gr.ok ok1) (fun _ => .nil ok1.nd) ?_
      have z := fr1.trans (gr.fr (p := true) (os := os1)) fun _ h => h
      rwa [Bool.and_true] at z
    · exact q.elim
  · exact q.elim
/-- a new object of one's own -/
theorem laidO {K : PySem.W.Frag} {B H : Hp} {σ : L2.St} {τ : Sl} {os : List Addr} {a : Addr} {o : HO} (ok : Ok K B H σ τ os) (ha : H a = none) :
    B a = none ∧ Ok K B (upd H a o) σ τ os ∧ Fr true B H os B (upd H a o) os ∧ a ∉ os := by
  have hb : B a = none := by
    cases z : B a with
    | none => rfl
    | some u => rw [ok.ex a u z] at ha; cases ha
  have na : a ∉ os := fun m => (ok.sl.mem a m).2 ha
  have fr : Fr true B H os B (upd H a o) os := ⟨fun _ _ h => h, fun c u h _ => by rw [upd_ne (ne_of_none h ha)]; exact h, fun c h => by
    by_cases z : c = a
    · subst z; exact ha
    · rw [upd_ne z] at h; exact h, fun _ h => .inl h, fun c h z => absurd h z⟩
  exact ⟨hb, ⟨fun c u h => by rw [upd_ne (ne_of_none h hb)]; exact ok.ex c u h, ok.sl.stay fr (.inl rfl), ok.nd⟩, fr, na⟩
theorem rx_lst (h : RA X p es mr) : RX X p f (.List es pos) (mLst mr) := by
  refine ⟨pe_imp (pe_lst h.pa) fun σ H Q q => ?_, fun z => pure_mLst (h.pu z)⟩
  obtain ⟨B, τ, os, ok, q⟩ := q
  refine ⟨B, τ, os, ok, ?_⟩
  unfold mLst at q
  split at q
  · rename_i ds τ' e1
    rw [e1]
    intro vs B1 H1 os1 r1 ok1 fr1
    split at q
    · rename_i hl
      refine ⟨by rw [r1.length, ← lim_eq]; exact hl, fun a ha => ?_⟩
      obtain ⟨hb, ok2, fr2, na⟩ := laidO (o := .lst vs) ok1 ha
      refine q (.ref a) B1 _ [a] os1 (.lst hb upd_same (owl_ds r1)) ok2 (fun _ => ⟨?_, fun c hc => ?_⟩) ?_
      · exact List.nodup_append.mpr ⟨by simp, ok1.nd, fun c hc d hd e => na (by rw [List.mem_singleton] at hc; rw [← hc, e]; exact hd)⟩
      · rw [List.mem_singleton] at hc
        subst hc
        exact .inr (fr1.thr c ha)
      · have z := fr1.trans fr2 fun _ h => h
        rwa [Bool.and_true] at z
    · exact q.elim
  · exact q.elim
end
end Tr

/-! operations -/
namespace Tr
open PySem PySem.Spec PyProof.Rows L2

/-! ### data as the library's data -/
mutual
def D.toP : D → PyData
  | .non => .none | .bl b => .bool b | .int i => .int i | .str x => .str x
  | .tup xs => .tuple (D.toPs xs)
  | .lst xs => .list (D.toPs xs)
  | .scr ns => .list (ns.map PyData.int)
  | .nd _ _ => .dict []
def D.toPs : List D → List PyData
  | [] => []
  | d :: r => d.toP :: D.toPs r
end
theorem D.toPs_eq : ∀ xs : List D, D.toPs xs = xs.map D.toP
  | [] => rfl
  | d :: r => by rw [D.toPs, D.toPs_eq r, List.map_cons]
theorem D.toP_tup (xs : List D) : (D.tup xs).toP = .tuple (xs.map D.toP) := by rw [D.toP, D.toPs_eq]
theorem D.toP_lst (xs : List D) : (D.lst xs).toP = .list (xs.map D.toP) := by rw [D.toP, D.toPs_eq]
theorem dp_ints {K : PySem.W.Frag} {H : Hp} : ∀ ns : List Int, DpAll K H (ns.map V.int) (ns.map PyData.int)
  | [] => .nil
  | n :: r => .cons (.int n) (dp_ints r)
section
variable {K : PySem.W.Frag} {B H : Hp}
mutual
theorem Rp.dp0 : ∀ {v : V} {d : D}, Rp K B v d → d.toP.canLay0 = true → Dp K B v d.toP
  | _, _, .non, _ => .non
  | _, _, .bl b, _ => .bl b
  | _, _, .int i, _ => .int i
  | _, _, .str x, _ => .str x
  | _, _, .tup h r, c => by rw [D.toP_tup] at c ⊢; exact .tup (sqt_of h) (RpL.dp0 r c)
  | _, _, .lst h r, c => by rw [D.toP_lst] at c ⊢; exact .lst (SqL.of h) (RpL.dp0 r c)
  | _, _, .scr h, _ => by rw [D.toP]; exact .lst h (dp_ints _)
  | _, _, .nd _ _, c => by rw [D.toP] at c; cases c
theorem RpL.dp0 : ∀ {vs : List V} {ds : List D}, RpL K B vs ds → PyData.canLayAll0 (ds.map D.toP) = true → DpAll K B vs (ds.map D.toP)
  | _, _, .nil, _ => .nil
  | _, _, .cons h r, c => by
    have c2 := Bool.and_eq_true_iff.mp c
    exact .cons (Rp.dp0 h c2.1) (RpL.dp0 r c2.2)
end
theorem Rp.dp {v : V} {d : D} (h : Rp K B v d) (hs : SeqAt.shaped d.toP = true) : Dp K B v d.toP := h.dp0 (SeqAt.canLay_of_shaped hs)
end
def D.eqv (a b : D) : Bool := PyData.eqv a.toP b.toP
def D.shp (a : D) : Bool := SeqAt.shaped a.toP

/-! ### lists of data -/
def S.toD? : S → Option D
  | .d x => some x
  | _ => none
def S.dl : S → Option (List D)
  | .d (.lst xs) => some xs
  | .lst ss => ss.mapM S.toD?
  | _ => none
theorem mapM_d : ∀ ds : List D, (ds.map S.d).mapM S.toD? = some ds
  | [] => rfl
  | d :: r => by
    rw [List.map_cons, List.mapM_cons, mapM_d r]
    rfl
@[simp] theorem S.dl_map (ds : List D) : (S.lst (ds.map S.d)).dl = some ds := mapM_d ds
theorem mapM_of : ∀ {ss : List S} {ds : List D}, ss.mapM S.toD? = some ds → ss = ds.map S.d
  | [], ds, h => by cases h; rfl
  | s :: r, ds, h => by
    rw [List.mapM_cons] at h
    cases s with
    | lst _ => cases h
    | nd _ _ => cases h
    | d x =>
      cases e : r.mapM S.toD? with
      | none => rw [e] at h; cases h
      | some es =>
        rw [e] at h
        cases h
        rw [mapM_of e]
        rfl
theorem owl_rpl {K : PySem.W.Frag} {B H : Hp} : ∀ {vs : List V} {ds : List D} {os : List Addr}, OwL K B H vs (ds.map S.d) os → RpL K B vs ds
  | _, [], _, .nil => .nil
  | _, _ :: _, _, .cons h r => by
    cases h with
    | d x => exact .cons x (owl_rpl r)
theorem dl_ow {K : PySem.W.Frag} {B H : Hp} {v : V} {s : S} {os : List Addr} {ds : List D} (ex : Same B H) (w : Ow K B H v s os) (h : s.dl = some ds) : ∃ a vs, v = .ref a ∧ H a = some (.lst vs) ∧ RpL K B vs ds := by
  cases w with
  | d r =>
    cases r with
    | lst e r => cases h; exact ⟨_, _, rfl, ex _ _ e, r⟩
    | _ => cases h
  | lst h1 h2 r =>
    have e := mapM_of (show _ = some ds from h)
    subst e
    exact ⟨_, _, rfl, h2, owl_rpl r⟩
  | nd _ _ _ => cases h
theorem ow_d {K : PySem.W.Frag} {B H : Hp} {v : V} {x : D} {os : List Addr} (w : Ow K B H v (.d x) os) : Rp K B v x := by
  cases w with
  | d r => exact r
theorem rp_int {K : PySem.W.Frag} {B : Hp} {v : V} {i : Int} (r : Rp K B v (.int i)) : v = .int i := by cases r; rfl
theorem rp_str {K : PySem.W.Frag} {B : Hp} {v : V} {i : Str} (r : Rp K B v (.str i)) : v = .str i := by cases r; rfl
theorem rp_bl {K : PySem.W.Frag} {B : Hp} {v : V} {i : Bool} (r : Rp K B v (.bl i)) : v = .bl i := by cases r; rfl
theorem rp_non {K : PySem.W.Frag} {B : Hp} {v : V} (r : Rp K B v .non) : v = .non := by cases r; rfl

/-! ### arithmetic -/
def gAdd : S → S → Option D
  | .d (.int i), .d (.int j) => some (.int (i + j))
  | .d (.str a), .d (.str b) => if a.length + b.length ≤ LIM then some (.str (a ++ b)) else none
  | .d (.tup a), .d (.tup b) => if a.length + b.length ≤ LIM then some (.tup (a ++ b)) else none
  | s, u => match s.dl, u.dl with
    | some xs, some ys => if xs.length + ys.length ≤ LIM then some (.lst (xs ++ ys)) else none
    | _, _ => none
abbrev rAddA (K : PySem.W.Frag) : R2 := fun x y H Q => rI0 (fun i j => .int (i + j)) x y H Q ∨ (∃ i j, x = .str i ∧ y = .str j ∧ i.length + j.length ≤ sizeLine ∧ Q (.str (i ++ j)) H) ∨ rCatA K x y H Q ∨ rCat x y H Q
theorem op_addA {X : Cx} : OpR X (binaryOp .Add) (rAddA X.K) := op_add.or (op_add_str.or (op_catA.or op_cat))
theorem og_add {K : PySem.W.Frag} : Op2 K (rAddA K) gAdd := by
  intro B H x y s u ox oy d Q ex w1 w2 h k
  unfold gAdd at h
  split at h
  · cases h
    cases rp_int (ow_d w1)
    cases rp_int (ow_d w2)
    exact .inl ⟨_, _, rfl, rfl, k _ _ _ (.int _) (Gr.refl ex)⟩
  · rename_i a b
    split at h
    · rename_i hl
      cases h
      cases rp_str (ow_d w1)
      cases rp_str (ow_d w2)
      exact .inr (.inl ⟨_, _, rfl, rfl, by rw [← lim_eq]; exact hl, k _ _ _ (.str _) (Gr.refl ex)⟩)
    · cases h
  · rename_i a b
    split at h
    · rename_i hl
      cases h
      cases ow_d w1 with
      | tup h1 r1 =>
        cases ow_d w2 with
        | tup h2 r2 =>
          rename_i p vs q ws
          refine .inr (.inr (.inl ⟨p, q, vs, ws, rfl, rfl, sqt_of (ex _ _ h1), sqt_of (ex _ _ h2), by rw [r1.length, r2.length, ← lim_eq]; exact hl, fun e => ?_, fun _ e => ?_, fun _ _ c hc => ?_⟩))
          · subst e
            cases r1
            exact k _ _ _ (.tup h2 r2) (Gr.refl ex)
          · subst e
            cases r2
            rw [List.append_nil] at k
            exact k _ _ _ (.tup h1 r1) (Gr.refl ex)
          · have gr := Gr.new (o := .tup (vs ++ ws)) ex hc
            exact k _ _ _ (.tup upd_same ((r1.append r2).mono gr.bb)) gr
    · cases h
  · split at h
    · rename_i xs ys e1 e2
      split at h
      · rename_i hl
        cases h
        obtain ⟨p, vs, rfl, h1, r1⟩ := dl_ow ex w1 e1
        obtain ⟨q, ws, rfl, h2, r2⟩ := dl_ow ex w2 e2
        refine .inr (.inr (.inr ⟨p, q, vs, ws, rfl, rfl, h1, h2, by rw [r1.length, r2.length, ← lim_eq]; exact hl, fun c hc => ?_⟩))
        have gr := Gr.new (o := .lst (vs ++ ws)) ex hc
        exact k _ _ _ (.lst upd_same ((r1.append r2).mono gr.bb)) gr
      · cases h
    · cases h
def gII (C : Int → Int → Bool) (f : Int → Int → Int) : S → S → Option D
  | .d (.int i), .d (.int j) => if C i j then some (.int (f i j)) else none
  | _, _ => none
theorem og_ii {K : PySem.W.Frag} {C : Int → Int → Bool} {P : Int → Int → Prop} {f : Int → Int → Int} (hc : ∀ i j, C i j = true → P i j) : Op2 K (rI P fun i j => .int (f i j)) (gII C f) := by
  intro B H x y s u ox oy d Q ex w1 w2 h k
  unfold gII at h
  split at h
  · split at h
    · rename_i hl
      cases h
      cases rp_int (ow_d w1)
      cases rp_int (ow_d w2)
      exact ⟨_, _, rfl, rfl, hc _ _ hl, k _ _ _ (.int _) (Gr.refl ex)⟩
    · cases h
  · cases h
def gSub : S → S → Option D
  | .d (.int i), .d (.int j) => some (.int (i - j))
  | _, _ => none
theorem og_sub {K : PySem.W.Frag} : Op2 K (rI0 fun i j => .int (i - j)) gSub := by
  intro B H x y s u ox oy d Q ex w1 w2 h k
  unfold gSub at h
  split at h
  · cases h
    cases rp_int (ow_d w1)
    cases rp_int (ow_d w2)
    exact ⟨_, _, rfl, rfl, k _ _ _ (.int _) (Gr.refl ex)⟩
  · cases h
/-- of great ints: together below a million bits -/
def mulOk (i j : Int) : Bool := decide (i.natAbs.log2 + j.natAbs.log2 < 1000000)
def divOk (_ j : Int) : Bool := decide (0 < j) && decide (j.natAbs.log2 < 9000)
def modOk (_ j : Int) : Bool := decide (0 < j)
def powOk (i j : Int) : Bool := decide (0 ≤ j) && decide (j ≤ 1000000) && decide (i.natAbs < 2 ^ 64)
abbrev gMul := gII mulOk fun i j => i * j
abbrev gDiv := gII divOk fun i j => i / j
abbrev gMod := gII modOk fun i j => i % j
abbrev gPow := gII powOk fun i j => i ^ j.toNat
theorem og_mul {K : PySem.W.Frag} : Op2 K (rI CMulW fun i j => .int (i * j)) gMul := og_ii fun i j h => show i.natAbs.log2 + j.natAbs.log2 < 1000000 from of_decide_eq_true h
theorem og_div {K : PySem.W.Frag} : Op2 K (rI CDivW fun i j => .int (i / j)) gDiv := og_ii fun i j h => by
  unfold divOk at h
  rw [Bool.and_eq_true] at h
  exact ⟨of_decide_eq_true h.1, of_decide_eq_true h.2⟩
theorem og_mod {K : PySem.W.Frag} : Op2 K (rI (fun _ j => 0 < j) fun i j => .int (i % j)) gMod := og_ii fun i j h => of_decide_eq_true h
theorem og_pow {K : PySem.W.Frag} : Op2 K (rI CPow fun i j => .int (i ^ j.toNat)) gPow := og_ii fun i j h => by
  unfold powOk at h
  rw [Bool.and_eq_true, Bool.and_eq_true] at h
  exact ⟨of_decide_eq_true h.1.1, of_decide_eq_true h.1.2, of_decide_eq_true h.2⟩
def gNeg : S → Option D
  | .d (.int i) => some (.int (-i))
  | _ => none
theorem og_neg {K : PySem.W.Frag} : Op1 K (rU fun i => .int (-i)) gNeg := by
  intro B H x s ox d Q ex w1 h k
  unfold gNeg at h
  split at h
  · cases h
    cases rp_int (ow_d w1)
    exact ⟨_, rfl, k _ _ _ (.int _) (Gr.refl ex)⟩
  · cases h

/-! ### comparisons -/
def gEq (neg : Bool) (s u : S) : Option D := if s.view.shp && u.view.shp then some (.bl (if neg then !D.eqv s.view u.view else D.eqv s.view u.view)) else none
theorem og_eq {K : PySem.W.Frag} : Op2 K (rEqD K) (gEq false) := by
  intro B H x y s u ox oy d Q ex w1 w2 h k
  unfold gEq at h
  split at h
  · rename_i hs
    rw [Bool.and_eq_true] at hs
    cases h
    exact ⟨_, _, (w1.see ex).dp hs.1, (w2.see ex).dp hs.2, hs.1, hs.2, k _ _ _ (.bl _) (Gr.refl ex)⟩
  · cases h
theorem og_ne {K : PySem.W.Frag} : Op2 K (rNeD K) (gEq true) := by
  intro B H x y s u ox oy d Q ex w1 w2 h k
  unfold gEq at h
  split at h
  · rename_i hs
    rw [Bool.and_eq_true] at hs
    cases h
    exact ⟨_, _, (w1.see ex).dp hs.1, (w2.see ex).dp hs.2, hs.1, hs.2, k _ _ _ (.bl _) (Gr.refl ex)⟩
  · cases h
def gCmp (p : Int → Int → Bool) : S → S → Option D
  | .d (.int i), .d (.int j) => some (.bl (p i j))
  | _, _ => none
theorem og_cmp {K : PySem.W.Frag} {p : Int → Int → Bool} : Op2 K (rI0 fun i j => .bl (p i j)) (gCmp p) := by
  intro B H x y s u ox oy d Q ex w1 w2 h k
  unfold gCmp at h
  split at h
  · cases h
    cases rp_int (ow_d w1)
    cases rp_int (ow_d w2)
    exact ⟨_, _, rfl, rfl, k _ _ _ (.bl _) (Gr.refl ex)⟩
  · cases h
abbrev gLt := gCmp fun i j => decide (i < j)
abbrev gLe := gCmp fun i j => decide (i ≤ j)
abbrev gGt := gCmp fun i j => decide (j < i)
abbrev gGe := gCmp fun i j => decide (j ≤ i)
def S.isNon : S → Bool | .d .non => true | _ => false
def S.isBl (b : Bool) : S → Bool | .d (.bl c) => c == b | _ => false
/-- is None, True, False -/
def gIs (neg : Bool) (s u : S) : Option D := match u with
  | .d .non => some (.bl (neg != s.isNon))
  | .d (.bl b) => some (.bl (neg != s.isBl b))
  | _ => none
def rIsA (neg : Bool) : R2 := fun x y H Q => (y = .non ∨ ∃ b, y = .bl b) ∧ Q (.bl (neg != decide (x = y))) H
theorem plain_of {x y : V} {v u : Value} (rx : RelV x v) (ry : RelV y u) (h : y = .non ∨ ∃ b, y = .bl b) : plainIs v u = true ∧ (v == u) = decide (x = y) := by
  rcases h with rfl | ⟨b, rfl⟩
  · cases ry
    cases x with
    | non => cases rx; exact ⟨rfl, rfl⟩
    | bl _ => cases rx; exact ⟨rfl, rfl⟩
    | int _ => obtain ⟨t, rfl⟩ := rx; exact ⟨rfl, rfl⟩
    | str _ => obtain ⟨t, rfl⟩ := rx; exact ⟨rfl, rfl⟩
    | byt _ => obtain ⟨t, rfl⟩ := rx; exact ⟨rfl, rfl⟩
    | flt _ => obtain ⟨t, rfl⟩ := rx; exact ⟨rfl, rfl⟩
    | ref _ => cases rx; exact ⟨rfl, rfl⟩
    | ty _ => cases rx; exact ⟨rfl, rfl⟩
  · cases ry
    cases x with
    | non => cases rx; exact ⟨rfl, rfl⟩
    | bl c => cases rx; exact ⟨rfl, by cases c <;> cases b <;> rfl⟩
    | int _ => obtain ⟨t, rfl⟩ := rx; exact ⟨rfl, rfl⟩
    | str _ => obtain ⟨t, rfl⟩ := rx; exact ⟨rfl, rfl⟩
    | byt _ => obtain ⟨t, rfl⟩ := rx; exact ⟨rfl, rfl⟩
    | flt _ => obtain ⟨t, rfl⟩ := rx; exact ⟨rfl, rfl⟩
    | ref _ => cases rx; exact ⟨rfl, rfl⟩
    | ty _ => cases rx; exact ⟨rfl, rfl⟩
theorem op_isA {X : Cx} : OpR X (compareOp .Is) (rIsA false) := by
  intro pins s σ H x y v u Q I rx ry h
  obtain ⟨hy, q⟩ := h
  obtain ⟨h1, h2⟩ := plain_of rx ry hy
  exact wpAny_is_plain h1 (fin_bl I q (by rw [h2]; simp))
theorem op_isNotA {X : Cx} : OpR X (compareOp .IsNot) (rIsA true) := by
  intro pins s σ H x y v u Q I rx ry h
  obtain ⟨hy, q⟩ := h
  obtain ⟨h1, h2⟩ := plain_of rx ry hy
  exact wpAny_isNot_plain h1 (fin_bl I q (by rw [h2]; simp))
theorem og_is {K : PySem.W.Frag} {neg : Bool} : Op2 K (rIsA neg) (gIs neg) := by
  intro B H x y s u ox oy d Q ex w1 w2 h k
  unfold gIs at h
  split at h
  · cases h
    cases rp_non (ow_d w2)
    refine ⟨.inl rfl, ?_⟩
    have z : decide (x = V.non) = s.isNon := by
      cases w1 with
      | d r => cases r <;> rfl
      | lst _ _ _ => rfl
      | nd _ _ _ => rfl
    rw [z]
    exact k _ _ _ (.bl _) (Gr.refl ex)
  · rename_i b
    cases h
    cases rp_bl (ow_d w2)
    refine ⟨.inr ⟨b, rfl⟩, ?_⟩
    have z : decide (x = V.bl b) = s.isBl b := by
      cases w1 with
      | d r =>
        cases r <;> first | rfl | (rename_i c; cases c <;> cases b <;> rfl)
      | lst _ _ _ => rfl
      | nd _ _ _ => rfl
    rw [z]
    exact k _ _ _ (.bl _) (Gr.refl ex)
  · cases h

/-! ### items -/
def gIx : S → S → Option S
  | .d (.lst xs), .d (.int i) => (atI xs i).map S.d
  | .d (.tup xs), .d (.int i) => (atI xs i).map S.d
  | .d (.str z), .d (.int i) => if z.length ≤ LIM then (atI z.cps.toList i).map fun c => .d (.str ⟨#[c]⟩) else none
  | .d (.scr ns), .d (.int i) => (atI ns i).map fun n => .d (.int n)
  | .lst ss, .d (.int i) => atI ss i
  | _, _ => none
theorem atI_some {α : Type} {xs : List α} {i : Int} {v : α} (h : atI xs i = some v) : ∃ j, ixN xs.length i = some j ∧ xs[j]? = some v := by
  unfold atI at h
  cases e : ixN xs.length i with
  | none => rw [e] at h; cases h
  | some j => rw [e] at h; exact ⟨j, rfl, h⟩
theorem atI_of {α β : Type} {xs : List α} {ys : List β} {i : Int} {j : Nat} {v : β} (hl : ys.length = xs.length) (h : ixN xs.length i = some j) (h2 : ys[j]? = some v) : atI ys i = some v := by
  unfold atI
  rw [hl, h]
  exact h2
theorem rx_ix {X : Cx} {a b : Expr} {pos : Pos} {p1 p2 f1 f2 : Bool} {ma mb : M S} (ha : RX X p1 f1 a ma) (hb : RX X p2 f2 b mb) (hs : PlainIx b := by exact fun _ _ => rfl) : RX X (p1 && p2) false (.Subscript a b pos) (mBinS p2 gIx ma mb) := by
  refine ⟨pe_imp (pe_ix ix_seq ha.pe hb.pe hs) fun σ H Q q => ?_, fun z => pure_mBinS (ha.pu (and_tt z).1) (hb.pu (and_tt z).2)⟩
  obtain ⟨B, τ, os, ok, q⟩ := q
  unfold mBinS at q
  split at q
  · rename_i rr τ' e1
    split at q
    · rename_i d e2
      obtain ⟨s, u⟩ := rr
      refine two ha hb (R := fun x y H2 => rIx X.K x y H2 Q) ok e1 fun x y B' H' ox oy os' w1 w2 ok' fr => ?_
      have fin : ∀ {v : V} {ov : List Addr}, Ow X.K B' H' v d ov → Q v H' := fun w => q _ B' H' _ os' w ok' (fun z => by cases z) fr
      have e2 : gIx s u = some d := e2
      unfold gIx at e2
      split at e2
      · rename_i xs i
        cases rp_int (ow_d w2)
        cases ow_d w1 with
        | lst h1 r1 =>
          obtain ⟨x, e3, rfl⟩ := Option.map_eq_some_iff.mp e2
          obtain ⟨j, e4, e5⟩ := atI_some e3
          obtain ⟨v, e6, r2⟩ := r1.get e5
          exact .inl ⟨_, _, _, _, rfl, rfl, SqL.of (ok'.ex _ _ h1), atI_of r1.length e4 e6, fin (.d r2)⟩
      · rename_i xs i
        cases rp_int (ow_d w2)
        cases ow_d w1 with
        | tup h1 r1 =>
          obtain ⟨x, e3, rfl⟩ := Option.map_eq_some_iff.mp e2
          obtain ⟨j, e4, e5⟩ := atI_some e3
          obtain ⟨v, e6, r2⟩ := r1.get e5
          exact .inr (.inl ⟨_, _, _, _, rfl, rfl, sqt_of (ok'.ex _ _ h1), atI_of r1.length e4 e6, fin (.d r2)⟩)
      · rename_i z i
        split at e2
        · rename_i hl
          cases rp_int (ow_d w2)
          cases rp_str (ow_d w1)
          obtain ⟨c, e3, rfl⟩ := Option.map_eq_some_iff.mp e2
          exact .inr (.inr ⟨_, _, _, rfl, rfl, by rw [← lim_eq]; exact hl, e3, fin (.d (.str _))⟩)
        · cases e2
      · rename_i ns i
        cases rp_int (ow_d w2)
        cases ow_d w1 with
        | scr h1 =>
          obtain ⟨c, e3, rfl⟩ := Option.map_eq_some_iff.mp e2
          obtain ⟨j, e4, e5⟩ := atI_some e3
          exact .inl ⟨_, _, _, .int c, rfl, rfl, ok'.ex.seq h1, atI_of (List.length_map ..) e4 (by rw [List.getElem?_map, e5]; rfl), fin (.d (.int c))⟩
      · rename_i ss i
        cases rp_int (ow_d w2)
        cases w1 with
        | lst h1 h2 r1 =>
          obtain ⟨j, e4, e5⟩ := atI_some e2
          obtain ⟨v, o, e6, w3, _⟩ := r1.get e5
          exact .inl ⟨_, _, _, _, rfl, rfl, SqL.of h2, atI_of r1.length e4 e6, fin w3⟩
      · cases e2
    · exact q.elim
  · exact q.elim

/-! ### slices -/
def PostO (K : PySem.W.Frag) (p : Bool) (σ : L2.St) (B H : Hp) (os : List Addr) (Q : Option Int → Hp → Prop) : Option (Option Int × Sl) → Prop
  | none => False
  | some (o, τ') => ∀ B' H' os', Ok K B' H' σ τ' os' → Fr p B H os B' H' os' → Q o H'
def toOf (K : PySem.W.Frag) (p : Bool) (m : M (Option Int)) : TO := fun σ H Q => ∃ B τ os, Ok K B H σ τ os ∧ PostO K p σ B H os Q (m τ)
structure RO (X : Cx) (p : Bool) (e : Option Expr) (m : M (Option Int)) : Prop where
  po : PO X e (toOf X.K p m)
  pu : p = true → Pure m
def moN : M (Option Int) := fun τ => some (none, τ)
def moS (m : M S) : M (Option Int) := fun τ => match m τ with | some (.d (.int i), τ') => some (some i, τ') | _ => none
theorem po_imp {X : Cx} {e : Option Expr} {t t' : TO} (h : PO X e t) (i : ∀ σ H Q, t' σ H Q → t σ H Q) : PO X e t' := by
  constructor
  intros
  rename_i I q
  exact h.run _ _ _ _ _ I (i _ _ _ q)
theorem ro_none {X : Cx} : RO X true none moN := by
  refine ⟨po_imp po_none fun σ H Q q => ?_, fun _ τ s τ' h => by unfold moN at h; cases h; rfl⟩
  obtain ⟨B, τ, os, ok, q⟩ := q
  exact q B H os ok Fr.refl
theorem ro_some {X : Cx} {p f : Bool} {e : Expr} {m : M S} (h : RX X p f e m) : RO X p (some e) (moS m) := by
  refine ⟨po_imp (po_some h.pe) fun σ H Q q => ?_, fun z τ s τ' q => ?_⟩
  · obtain ⟨B, τ, os, ok, q⟩ := q
    refine ⟨B, τ, os, ok, ?_⟩
    unfold moS at q
    split at q
    · rename_i i τ' e1
      rw [e1]
      intro v B' H' ov os' w ok' _ fr
      cases rp_int (ow_d w)
      exact ⟨i, rfl, q B' H' os' ok' fr⟩
    · exact q.elim
  · unfold moS at q
    split at q
    · cases q; exact h.pu z _ _ _ (by assumption)
    · cases q
def cut {α : Type} (xs : List α) (lo hi : Option Int) : List α := (xs.drop (HT.sIx xs.length 0 lo)).take (HT.sIx xs.length xs.length hi - HT.sIx xs.length 0 lo)
theorem RpL.cut {K : PySem.W.Frag} {B : Hp} {vs : List V} {ds : List D} (r : RpL K B vs ds) (lo hi : Option Int) : RpL K B (cutV vs lo hi) (cut ds lo hi) := by
  unfold cutV Tr.cut
  rw [r.length]
  exact (r.drop _).take _
def gSl (s : S) (lo hi : Option Int) : Option D := match s with
  | .d (.tup xs) => some (.tup (cut xs lo hi))
  | .d (.str z) => if z.length ≤ LIM then some (.str (cutS z lo hi)) else none
  | .d (.scr ns) => some (.lst ((cut ns lo hi).map D.int))
  | s => s.dl.map fun xs => .lst (cut xs lo hi)
def mSl (pp : Bool) (ma : M S) (ml mh : M (Option Int)) : M S := fun τ => match ma τ with
  | some (s, τ1) => if (pp || s.isD) = true then (match ml τ1 with
      | some (lo, τ2) => (match mh τ2 with
        | some (hi, τ3) => (match gSl s lo hi with | some d => some (.d d, τ3) | none => none)
        | none => none)
      | none => none) else none
  | none => none
abbrev rSlAll (K : PySem.W.Frag) : V → Option Int → Option Int → Hp → VK → Prop := fun x lo hi H Q => rSlL K x lo hi H Q ∨ rSlA K x lo hi H Q ∨ rSlS x lo hi H Q
theorem map_cut {α β : Type} (f : α → β) (xs : List α) (lo hi : Option Int) : cut (xs.map f) lo hi = (cut xs lo hi).map f := by
  unfold cut
  rw [List.length_map, List.map_take, List.map_drop]
theorem og_sl {K : PySem.W.Frag} {B H : Hp} {x : V} {s : S} {ox : List Addr} {lo hi : Option Int} {d : D} {Q : VK} (ex : Same B H) (w1 : Ow K B H x s ox) (h : gSl s lo hi = some d) (k : ∀ v B' H', Rp K B' v d → Gr B H B' H' → Q v H') : rSlAll K x lo hi H Q := by
  unfold gSl at h
  split at h
  · rename_i xs
    cases h
    cases ow_d w1 with
    | tup h1 r1 =>
      rename_i a vs
      refine .inr (.inl ⟨a, vs, rfl, sqt_of (ex _ _ h1), fun e => ?_, fun _ q hq => ?_⟩)
      · have z : cut xs lo hi = xs := by
          unfold cut
          rw [← r1.length, e.1, e.2, List.drop_zero, Nat.sub_zero, r1.length, List.take_length]
        rw [z] at k
        exact k _ _ _ (.tup h1 r1) (Gr.refl ex)
      · have gr := Gr.new (o := .tup (cutV vs lo hi)) ex hq
        exact k _ _ _ (.tup upd_same ((r1.cut lo hi).mono gr.bb)) gr
  · rename_i z
    split at h
    · rename_i hl
      cases h
      cases rp_str (ow_d w1)
      exact .inr (.inr ⟨z, rfl, by rw [← lim_eq]; exact hl, k _ _ _ (.str _) (Gr.refl ex)⟩)
    · cases h
  · rename_i ns
    cases h
    cases ow_d w1 with
    | scr h1 =>
      refine .inl ⟨_, _, rfl, ex.seq h1, fun q hq => ?_⟩
      have gr := Gr.new (o := .lst (cutV (ns.map V.int) lo hi)) ex hq
      have z : cutV (ns.map V.int) lo hi = (cut ns lo hi).map V.int := map_cut V.int ns lo hi
      refine k _ _ _ (.lst upd_same ?_) gr
      rw [z]
      exact rpl_ints _
  · obtain ⟨xs, e1, rfl⟩ := Option.map_eq_some_iff.mp h
    obtain ⟨a, vs, rfl, h1, r1⟩ := dl_ow ex w1 e1
    refine .inl ⟨a, vs, rfl, SqL.of h1, fun q hq => ?_⟩
    have gr := Gr.new (o := .lst (cutV vs lo hi)) ex hq
    exact k _ _ _ (.lst upd_same ((r1.cut lo hi).mono gr.bb)) gr
theorem rx_slice {X : Cx} {a : Expr} {lo hi : Option Expr} {p2 pos : Pos} {pa pl ph fa f : Bool} {ma : M S} {ml mh : M (Option Int)} (ha : RX X pa fa a ma) (hl : RO X pl lo ml) (hh : RO X ph hi mh) :
    RX X (pa && (pl && ph)) f (.Subscript a (.Slice lo hi none p2) pos) (mSl (pl && ph) ma ml mh) := by
  refine ⟨pe_imp (pe_slice (sl_list.or (sl_tupA.or sl_str)) ha.pe hl.po hh.po) fun σ H Q q => ?_, fun z τ s τ' q => ?_⟩
  · obtain ⟨B, τ, os, ok, q⟩ := q
    refine ⟨B, τ, os, ok, ?_⟩
    unfold mSl at q
    split at q
    · rename_i s τ1 e1
      split at q
      · rename_i hp
        split at q
        · rename_i lo' τ2 e2
          split at q
          · rename_i hi' τ3 e3
            split at q
            · rename_i d e4
              rw [e1]
              intro x B1 H1 ox os1 w1 ok1 _ fr1
              refine ⟨B1, τ1, os1, ok1, ?_⟩
              rw [e2]
              intro B2 H2 os2 ok2 fr2
              refine ⟨B2, τ2, os2, ok2, ?_⟩
              rw [e3]
              intro B3 H3 os3 ok3 fr3
              have fr23 := fr2.trans fr3 fun _ h => h
              have w1' : Ow X.K B3 H3 x s ox := by
                rcases Bool.or_eq_true_iff.mp hp with z | z
                · exact w1.stay fr23 (.inl z)
                · cases w1 with
                  | d r => exact .d (r.mono fr23.bb)
                  | lst _ _ _ => cases z
                  | nd _ _ _ => cases z
              refine og_sl ok3.ex w1' e4 fun v B4 H4 rp gr => ?_
              refine q v B4 H4 [] os3 (.d rp) (gr.ok ok3) (fun _ => .nil ok3.nd) ?_
              have z := (fr1.trans fr23 fun _ h => h).trans (gr.fr (p := true) (os := os3)) fun _ h => h
              rwa [Bool.and_true] at z
            · exact q.elim
          · exact q.elim
        · exact q.elim
      · exact q.elim
    · exact q.elim
  · have z1 := and_tt z
    have z2 := and_tt z1.2
    unfold mSl at q
    split at q
    · rename_i s τ1 e1
      split at q
      · split at q
        · rename_i lo' τ2 e2
          split at q
          · rename_i hi' τ3 e3
            split at q
            · cases q
              rw [hh.pu z2.2 _ _ _ e3, hl.pu z2.1 _ _ _ e2, ha.pu z1.1 _ _ _ e1]
            · cases q
          · cases q
        · cases q
      · cases q
    · cases q
end Tr

/-! tests, calls of built-ins, conditional values -/
namespace Tr
open PySem PySem.Spec PyProof.Rows L2

/-! ### tests -/
def PostT (K : PySem.W.Frag) (p : Bool) (σ : L2.St) (B H : Hp) (os : List Addr) (Q : Bool → Hp → Prop) : Option (Bool × Sl) → Prop
  | none => False
  | some (b, τ') => ∀ B' H' os', Ok K B' H' σ τ' os' → Fr p B H os B' H' os' → Q b H'
def ttOf (K : PySem.W.Frag) (p : Bool) (m : M Bool) : TT := fun σ H Q => ∃ B τ os, Ok K B H σ τ os ∧ PostT K p σ B H os Q (m τ)
structure RT (X : Cx) (p : Bool) (e : Expr) (m : M Bool) : Prop where
  pt : PT X e (ttOf X.K p m)
  pu : p = true → Pure m
structure RW (X : Cx) (p : Bool) (e : Expr) (m : M Bool) : Prop where
  pw : PW X e (ttOf X.K p m)
  pu : p = true → Pure m
theorem pw_imp {X : Cx} {e : Expr} {t t' : TT} (h : PW X e t) (i : ∀ σ H Q, t' σ H Q → t σ H Q) : PW X e t' := ⟨fun w pins s σ H Q I q => h.run w pins s σ H Q I (i _ _ _ q)⟩

def truD : D → Option Bool
  | .non => some false | .bl b => some b | .int i => some (i != 0)
  | .str x => if x.length ≤ LIM then some ((x.length : Int) != 0) else none
  | .lst xs => some (!xs.isEmpty) | .tup xs => some (!xs.isEmpty) | .scr ns => some (!ns.isEmpty)
  | .nd _ _ => none
def mTru (m : M S) : M Bool := fun τ => match m τ with
  | some (s, τ') => (match truD s.view with | some b => some (b, τ') | none => none)
  | none => none
def mTB (m : M S) : M Bool := fun τ => match m τ with | some (.d (.bl b), τ') => some (b, τ') | _ => none
def mNotT (m : M Bool) : M Bool := fun τ => match m τ with | some (b, τ') => some (!b, τ') | none => none
def mAndT (ma mb : M Bool) : M Bool := fun τ => match ma τ with | some (true, τ') => mb τ' | some (false, τ') => some (false, τ') | none => none
def mOrT (ma mb : M Bool) : M Bool := fun τ => match ma τ with | some (false, τ') => mb τ' | some (true, τ') => some (true, τ') | none => none

section
variable {X : Cx} {e a b c : Expr} {es rest : List Expr} {m ma mb mc : M S} {t ta tb : M Bool} {p p1 p2 p3 f f1 f2 : Bool} {pos : Pos}
theorem pure_mTru (h : Pure m) : Pure (mTru m) := fun τ s τ' q => by
  unfold mTru at q
  split at q
  · split at q <;> cases q
    exact h _ _ _ (by assumption)
  · cases q
theorem pure_mTB (h : Pure m) : Pure (mTB m) := fun τ s τ' q => by
  unfold mTB at q
  split at q <;> cases q
  exact h _ _ _ (by assumption)
theorem pure_mNotT (h : Pure t) : Pure (mNotT t) := fun τ s τ' q => by
  unfold mNotT at q
  split at q <;> cases q
  exact h _ _ _ (by assumption)
theorem pure_mAndT (h1 : Pure ta) (h2 : Pure tb) : Pure (mAndT ta tb) := fun τ s τ' q => by
  unfold mAndT at q
  split at q
  · rw [h2 _ _ _ q]; exact h1 _ _ _ (by assumption)
  · cases q; exact h1 _ _ _ (by assumption)
  · cases q
theorem pure_mOrT (h1 : Pure ta) (h2 : Pure tb) : Pure (mOrT ta tb) := fun τ s τ' q => by
  unfold mOrT at q
  split at q
  · rw [h2 _ _ _ q]; exact h1 _ _ _ (by assumption)
  · cases q; exact h1 _ _ _ (by assumption)
  · cases q
theorem tru_rp {K : PySem.W.Frag} {H : Hp} {v : V} {d : D} {k : Bool} (r : Rp K H v d) (h : truD d = some k) : TruV K v H k := by
  cases r with
  | non => cases h; rfl
  | bl b => cases h; rfl
  | int i => cases h; rfl
  | str x =>
    have h : (if x.length ≤ LIM then some ((x.length : Int) != 0) else none) = some k := h
    split at h
    · rename_i hl
      cases h
      exact ⟨by rw [← lim_eq]; exact hl, rfl⟩
    · cases h
  | tup h1 r1 =>
    cases h
    refine .inr (.inl ⟨_, sqt_of h1, ?_⟩)
    cases r1 <;> rfl
  | lst h1 r1 =>
    cases h
    refine .inl ⟨_, SqL.of h1, ?_⟩
    cases r1 <;> rfl
  | scr h1 =>
    rename_i a ns
    cases h
    refine .inl ⟨_, h1, ?_⟩
    cases ns <;> rfl
  | nd _ _ => cases h
theorem rt_truth (ha : RX X p f a m) (he : ∀ whole, isTrue a X.env whole = (do let v ← whole; standAt a.pos; holding [v] (truthy v)) := by exact fun _ => rfl) : RT X p a (mTru m) := by
  refine ⟨pt_imp (pt_truth ha.pe he) fun σ H Q q => ?_, fun z => pure_mTru (ha.pu z)⟩
  obtain ⟨B, τ, os, ok, q⟩ := q
  refine ⟨B, τ, os, ok, ?_⟩
  unfold mTru at q
  split at q
  · rename_i s τ' e1
    split at q
    · rename_i k e2
      rw [e1]
      intro v B' H' ov os' w ok' _ fr
      exact ⟨k, tru_rp (w.see ok'.ex) e2, q B' H' os' ok' fr⟩
    · exact q.elim
  · exact q.elim
theorem rt_cmp {op : CmpOp} {g : S → S → Option D} {r : R2} (ho : OpR X (compareOp op) r) (og : Op2 X.K r g) (ha : RX X p1 f1 a ma) (hb : RX X p2 f2 b mb) (hm : behindInMarks op b = false) : RT X (p1 && p2) (.Compare a [op] [b] pos) (mTB (mBin p2 g ma mb)) := by
  refine ⟨pt_imp (pt_cmpR ho ha.pe hb.pe hm) fun σ H Q q => ?_, fun z => pure_mTB (pure_mBin (ha.pu (and_tt z).1) (hb.pu (and_tt z).2))⟩
  obtain ⟨B, τ, os, ok, q⟩ := q
  unfold mTB at q
  split at q
  · rename_i k τ' e0
    unfold mBin at e0
    split at e0
    · rename_i rr τ2 e1
      split at e0
      · rename_i d e2
        cases e0
        obtain ⟨s, u⟩ := rr
        refine two ha hb (R := fun x y H2 => r x y H2 fun x H' => ∃ k, x = .bl k ∧ Q k H') ok e1 fun x y B' H' ox oy os' w1 w2 ok' fr => ?_
        refine og B' H' x y s u ox oy _ _ ok'.ex w1 w2 e2 fun v B2 H2 rp gr => ?_
        cases rp_bl rp
        refine ⟨k, rfl, q B2 H2 os' (gr.ok ok') ?_⟩
        have z := fr.trans (gr.fr (p := true) (os := os')) fun _ h => h
        rwa [Bool.and_true] at z
      · cases e0
    · cases e0
  · exact q.elim
theorem rt_not (h : RT X p a t) : RT X p (.UnaryOp .Not a pos) (mNotT t) := by
  refine ⟨pt_imp (pt_not h.pt) fun σ H Q q => ?_, fun z => pure_mNotT (h.pu z)⟩
  obtain ⟨B, τ, os, ok, q⟩ := q
  refine ⟨B, τ, os, ok, ?_⟩
  unfold mNotT at q
  split at q
  · rename_i k τ' e1
    rw [e1]
    exact q
  · exact q.elim
theorem RW.rt (h : RW X p e t) : RT X p e t := ⟨h.pw.pt, h.pu⟩
theorem rw_and1 (h : RT X p a t) : RW X p (.BoolOp .And [a] pos) t := ⟨pw_and1 h.pt, h.pu⟩
theorem rw_or1 (h : RT X p a t) : RW X p (.BoolOp .Or [a] pos) t := ⟨pw_or1 h.pt, h.pu⟩
theorem PostT.from {K : PySem.W.Frag} {σ : L2.St} {B H B1 H1 : Hp} {os os1 : List Addr} {Q : Bool → Hp → Prop} {r : Option (Bool × Sl)} (h : PostT K (p1 && p2) σ B H os Q r) (fr : Fr p1 B H os B1 H1 os1) : PostT K p2 σ B1 H1 os1 Q r := by
  cases r with
  | none => exact h
  | some r => exact fun B' H' os' ok' fr' => h B' H' os' ok' (fr.trans fr' fun _ h => h)
theorem rw_and (ha : RT X p1 a ta) (hb : RW X p2 (.BoolOp .And (b :: rest) pos) tb) : RW X (p1 && p2) (.BoolOp .And (a :: b :: rest) pos) (mAndT ta tb) := by
  refine ⟨pw_imp (pw_and ha.pt hb.pw) fun σ H Q q => ?_, fun z => pure_mAndT (ha.pu (and_tt z).1) (hb.pu (and_tt z).2)⟩
  obtain ⟨B, τ, os, ok, q⟩ := q
  refine ⟨B, τ, os, ok, ?_⟩
  unfold mAndT at q
  split at q
  · rename_i τ1 e1
    rw [e1]
    intro B1 H1 os1 ok1 fr1
    show ttOf X.K p2 tb σ H1 Q
    exact ⟨B1, τ1, os1, ok1, q.from fr1⟩
  · rename_i τ1 e1
    rw [e1]
    intro B1 H1 os1 ok1 fr1
    show Q false H1
    refine q B1 H1 os1 ok1 ?_
    have z := fr1.trans (Fr.refl (p := true)) fun _ h => h
    rw [Bool.and_true] at z
    cases p2 with
    | true => rw [Bool.and_true]; exact z
    | false => rw [Bool.and_false]; exact z.weak
  · exact q.elim
theorem rw_or (ha : RT X p1 a ta) (hb : RW X p2 (.BoolOp .Or (b :: rest) pos) tb) : RW X (p1 && p2) (.BoolOp .Or (a :: b :: rest) pos) (mOrT ta tb) := by
  refine ⟨pw_imp (pw_or ha.pt hb.pw) fun σ H Q q => ?_, fun z => pure_mOrT (ha.pu (and_tt z).1) (hb.pu (and_tt z).2)⟩
  obtain ⟨B, τ, os, ok, q⟩ := q
  refine ⟨B, τ, os, ok, ?_⟩
  unfold mOrT at q
  split at q
  · rename_i τ1 e1
    rw [e1]
    intro B1 H1 os1 ok1 fr1
    show ttOf X.K p2 tb σ H1 Q
    exact ⟨B1, τ1, os1, ok1, q.from fr1⟩
  · rename_i τ1 e1
    rw [e1]
    intro B1 H1 os1 ok1 fr1
    show Q true H1
    refine q B1 H1 os1 ok1 ?_
    cases p2 with
    | true => rw [Bool.and_true]; exact fr1
    | false => rw [Bool.and_false]; exact fr1.weak
  · exact q.elim

/-! ### and, or, not as values; a if t else b -/
def mAndV (ma mb : M S) : M S := fun τ => match ma τ with | some (.d (.bl true), τ') => mb τ' | some (.d (.bl false), τ') => some (.d (.bl false), τ') | _ => none
def mOrV (ma mb : M S) : M S := fun τ => match ma τ with | some (.d (.bl false), τ') => mb τ' | some (.d (.bl true), τ') => some (.d (.bl true), τ') | _ => none
def mNotV (ma : M S) : M S := fun τ => match ma τ with | some (.d (.bl b), τ') => some (.d (.bl (!b)), τ') | _ => none
def mIfE (t : M Bool) (ma mb : M S) : M S := fun τ => match t τ with | some (true, τ') => ma τ' | some (false, τ') => mb τ' | none => none
theorem pure_mAndV (h1 : Pure ma) (h2 : Pure mb) : Pure (mAndV ma mb) := fun τ s τ' q => by
  unfold mAndV at q
  split at q
  · rw [h2 _ _ _ q]; exact h1 _ _ _ (by assumption)
  · cases q; exact h1 _ _ _ (by assumption)
  · cases q
theorem pure_mOrV (h1 : Pure ma) (h2 : Pure mb) : Pure (mOrV ma mb) := fun τ s τ' q => by
  unfold mOrV at q
  split at q
  · rw [h2 _ _ _ q]; exact h1 _ _ _ (by assumption)
  · cases q; exact h1 _ _ _ (by assumption)
  · cases q
theorem pure_mNotV (h : Pure ma) : Pure (mNotV ma) := fun τ s τ' q => by
  unfold mNotV at q
  split at q <;> cases q
  exact h _ _ _ (by assumption)
theorem pure_mIfE (h : Pure t) (h1 : Pure ma) (h2 : Pure mb) : Pure (mIfE t ma mb) := fun τ s τ' q => by
  unfold mIfE at q
  split at q
  · rw [h1 _ _ _ q]; exact h _ _ _ (by assumption)
  · rw [h2 _ _ _ q]; exact h _ _ _ (by assumption)
  · cases q
theorem PostE.from {K : PySem.W.Frag} {σ : L2.St} {B H B1 H1 : Hp} {os os1 : List Addr} {Q : VK} {r : Option (S × Sl)} (h : PostE K (p1 && p2) f σ B H os Q r) (fr : Fr p1 B H os B1 H1 os1) : PostE K p2 f σ B1 H1 os1 Q r := by
  cases r with
  | none => exact h
  | some r =>
    refine fun v B' H' ov os' w ok' fh fr' => h v B' H' ov os' w ok' (fun z => ?_) (fr.trans fr' fun _ h => h)
    obtain ⟨n, k⟩ := fh z
    refine ⟨n, fun a ha => ?_⟩
    rcases k a ha with ⟨z1, z2⟩ | z2
    · exact (fr.own a z2).imp (fun y => ⟨by rw [z1]; simp, y⟩) id
    · exact .inr (fr.thr a z2)
theorem Fr.to {B H B' H' : Hp} {os os' : List Addr} (f : Fr p B H os B' H' os') (h : p1 = true → p = true) : Fr p1 B H os B' H' os' := by
  cases p1 with
  | true =>
    rw [h rfl] at f
    exact f
  | false => exact f.weak
theorem PostE.by {K : PySem.W.Frag} {σ : L2.St} {B H B1 H1 : Hp} {os os1 : List Addr} {Q : VK} {r : Option (S × Sl)} (h : PostE K p f σ B H os Q r) (fr : Fr p1 B H os B1 H1 os1) (hp : p = true → p1 = true ∧ p2 = true) : PostE K p2 f σ B1 H1 os1 Q r := by
  cases r with
  | none => exact h
  | some r =>
    refine fun v B' H' ov os' w ok' fh fr' => h v B' H' ov os' w ok' (fun z => ?_) ((fr.trans fr' fun _ h => h).to fun z => by rw [(hp z).1, (hp z).2] <;> rfl)
    obtain ⟨n, k⟩ := fh z
    refine ⟨n, fun a ha => ?_⟩
    rcases k a ha with ⟨z1, z2⟩ | z2
    · refine (fr.own a z2).imp (fun y => ⟨?_, y⟩) id
      cases p with
      | false => rfl
      | true => rw [(hp rfl).2] at z1; cases z1
    · exact .inr (fr.thr a z2)
theorem imp3 {p q r : Bool} (z : (p && (q && r)) = true) : p = true ∧ q = true ∧ r = true := by
  cases p <;> cases q <;> cases r <;> simp_all
theorem rx_if (hc : RT X p1 c t) (ha : RX X p2 f a ma) (hb : RX X p3 f b mb) : RX X (p1 && (p2 && p3)) f (.IfExp c a b pos) (mIfE t ma mb) := by
  refine ⟨pe_imp (pe_ifExp hc.pt ha.pe hb.pe) fun σ H Q q => ?_, fun z => pure_mIfE (hc.pu (imp3 z).1) (ha.pu (imp3 z).2.1) (hb.pu (imp3 z).2.2)⟩
  obtain ⟨B, τ, os, ok, q⟩ := q
  refine ⟨B, τ, os, ok, ?_⟩
  unfold mIfE at q
  split at q
  · rename_i τ1 e1
    rw [e1]
    intro B1 H1 os1 ok1 fr1
    exact iteT ⟨B1, τ1, os1, ok1, q.by fr1 fun z => ⟨(imp3 z).1, (imp3 z).2.1⟩⟩
  · rename_i τ1 e1
    rw [e1]
    intro B1 H1 os1 ok1 fr1
    exact iteF ⟨B1, τ1, os1, ok1, q.by fr1 fun z => ⟨(imp3 z).1, (imp3 z).2.2⟩⟩
  · exact q.elim
theorem rx_one {op} (h : RX X p f a m) : RX X p f (.BoolOp op [a] pos) m := ⟨pe_one h.pe, h.pu⟩
theorem rx_and (ha : RX X p1 f1 a ma) (hb : RX X p2 f (.BoolOp .And (b :: rest) pos) mb) : RX X (p1 && p2) f (.BoolOp .And (a :: b :: rest) pos) (mAndV ma mb) := by
  refine ⟨pe_imp (pe_and ha.pe hb.pe) fun σ H Q q => ?_, fun z => pure_mAndV (ha.pu (and_tt z).1) (hb.pu (and_tt z).2)⟩
  obtain ⟨B, τ, os, ok, q⟩ := q
  refine ⟨B, τ, os, ok, ?_⟩
  unfold mAndV at q
  split at q
  · rename_i τ1 e1
    rw [e1]
    intro v B1 H1 ov os1 w1 ok1 _ fr1
    cases rp_bl (ow_d w1)
    exact ⟨true, rfl, iteT ⟨B1, τ1, os1, ok1, q.from fr1⟩⟩
  · rename_i τ1 e1
    rw [e1]
    intro v B1 H1 ov os1 w1 ok1 _ fr1
    cases rp_bl (ow_d w1)
    exact ⟨false, rfl, iteF (q _ B1 H1 [] os1 (.d (.bl false)) ok1 (fun _ => .nil ok1.nd) (fr1.to fun z => (and_tt z).1))⟩
  · exact q.elim
theorem rx_or (ha : RX X p1 f1 a ma) (hb : RX X p2 f (.BoolOp .Or (b :: rest) pos) mb) : RX X (p1 && p2) f (.BoolOp .Or (a :: b :: rest) pos) (mOrV ma mb) := by
  refine ⟨pe_imp (pe_or ha.pe hb.pe) fun σ H Q q => ?_, fun z => pure_mOrV (ha.pu (and_tt z).1) (hb.pu (and_tt z).2)⟩
  obtain ⟨B, τ, os, ok, q⟩ := q
  refine ⟨B, τ, os, ok, ?_⟩
  unfold mOrV at q
  split at q
  · rename_i τ1 e1
    rw [e1]
    intro v B1 H1 ov os1 w1 ok1 _ fr1
    cases rp_bl (ow_d w1)
    exact ⟨false, rfl, iteF ⟨B1, τ1, os1, ok1, q.from fr1⟩⟩
  · rename_i τ1 e1
    rw [e1]
    intro v B1 H1 ov os1 w1 ok1 _ fr1
    cases rp_bl (ow_d w1)
    exact ⟨true, rfl, iteT (q _ B1 H1 [] os1 (.d (.bl true)) ok1 (fun _ => .nil ok1.nd) (fr1.to fun z => (and_tt z).1))⟩
  · exact q.elim
theorem rx_not (ha : RX X p f1 a ma) : RX X p f (.UnaryOp .Not a pos) (mNotV ma) := by
  refine ⟨pe_imp (pe_not ha.pe) fun σ H Q q => ?_, fun z => pure_mNotV (ha.pu z)⟩
  obtain ⟨B, τ, os, ok, q⟩ := q
  refine ⟨B, τ, os, ok, ?_⟩
  unfold mNotV at q
  split at q
  · rename_i k τ1 e1
    rw [e1]
    intro v B1 H1 ov os1 w1 ok1 _ fr1
    cases rp_bl (ow_d w1)
    exact ⟨k, rfl, q _ B1 H1 [] os1 (.d (.bl _)) ok1 (fun _ => .nil ok1.nd) fr1⟩
  · exact q.elim

/-! ### calls of built-ins -/
/-- one argument, that may be borrowed -/
def Fn1 (K : PySem.W.Frag) (r : List V → Hp → VK → Prop) (g : S → Option D) : Prop := Op1 K (fun x H Q => r [x] H Q) g
theorem rx_b1 {id : String} {x : Str} {r : List V → Hp → VK → Prop} {g : S → Option D} {px : Pos} (hc : CallR X (.builtin id) r) (og : Fn1 X.K r g) (ha : RX X p f1 a ma) (hm : X.mg x = none) (hv : bootBuiltins x = some (.builtin id) := by decide +kernel) (hg : Gl X x := by rfl)
    (hn : x ≠ "__name__" := by decide) (hdb : (x == ("__debug__" : Str)) = false := by decide) (he : starEach [a] X.env = (false, eval a X.env) :: starEach [] X.env := by rfl) : RX X p f (.Call (.Name x px) [a] [] pos) (mUn g ma) :=
  rx_op1 ha og fun h1 => pe_callB hc hg hm hv (pa_cons h1 pa_nil he) hn hdb he
theorem rx_t1 {T : String} {x : Str} {r : List V → Hp → VK → Prop} {g : S → Option D} {px : Pos} (hc : CallR X (.type T) r) (og : Fn1 X.K r g) (ha : RX X p f1 a ma) (hm : X.mg x = none) (hv : bootBuiltins x = some (.type T) := by decide +kernel) (hg : Gl X x := by rfl)
    (hn : x ≠ "__name__" := by decide) (hdb : (x == ("__debug__" : Str)) = false := by decide) (he : starEach [a] X.env = (false, eval a X.env) :: starEach [] X.env := by rfl) : RX X p f (.Call (.Name x px) [a] [] pos) (mUn g ma) :=
  rx_op1 ha og fun h1 => pe_callTy hc hg hm hv (pa_cons h1 pa_nil he) hn hdb he
/-- len -/
def lenD : D → Option Nat
  | .str x => if x.length ≤ LIM then some x.length else none
  | .lst xs => some xs.length | .tup xs => some xs.length | .scr ns => some ns.length
  | _ => none
def gLen (s : S) : Option D := match lenD s.view with | some n => some (.int (n : Nat)) | none => none
theorem lenD_rp {K : PySem.W.Frag} {H : Hp} {x : V} {n : Nat} : ∀ {d : D}, lenD d = some n → Rp K H x d → LenV K x H n
  | .str z, e, r => by
    cases rp_str r
    have e : (if z.length ≤ LIM then some z.length else none) = some n := e
    split at e
    · cases e
      exact ⟨by rw [← lim_eq]; assumption, rfl⟩
    · cases e
  | .lst xs, e, r => by
    cases e
    cases r with
    | lst h r => exact .inl ⟨_, SqL.of h, r.length.symm⟩
  | .tup xs, e, r => by
    cases e
    cases r with
    | tup h r => exact .inr ⟨_, sqt_of h, r.length.symm⟩
  | .scr ns, e, r => by
    cases e
    cases r with
    | scr h => exact .inl ⟨_, h, (List.length_map ..).symm⟩
theorem og_len {K : PySem.W.Frag} : Fn1 K (fun xs H Q => ∃ x n, xs = [x] ∧ LenV K x H n ∧ Q (.int n) H) gLen := by
  intro B H x s ox d Q ex w h k
  unfold gLen at h
  split at h
  · rename_i n e
    cases h
    refine ⟨x, n, rfl, ?_, k _ _ _ (.int _) (Gr.refl ex)⟩
    have r := w.see ex
    revert r e
    exact lenD_rp
  · cases h

/-- int of an int, of a bool -/
def gInt : S → Option D
  | .d (.int i) => some (.int i)
  | .d (.bl b) => some (.int (if b then 1 else 0))
  | _ => none
theorem og_int {K : PySem.W.Frag} : Fn1 K (fun xs H Q => (∃ i, xs = [.int i] ∧ Q (.int i) H) ∨ ∃ k, xs = [.bl k] ∧ Q (.int (if k then 1 else 0)) H) gInt := by
  intro B H x s ox d Q ex w h k
  unfold gInt at h
  split at h
  · cases h
    cases rp_int (ow_d w)
    exact .inl ⟨_, rfl, k _ _ _ (.int _) (Gr.refl ex)⟩
  · cases h
    cases rp_bl (ow_d w)
    exact .inr ⟨_, rfl, k _ _ _ (.int _) (Gr.refl ex)⟩
  · cases h
def gAbs : S → Option D
  | .d (.int i) => some (.int (if i < 0 then -i else i))
  | _ => none
theorem og_abs {K : PySem.W.Frag} : Fn1 K (fun xs H Q => ∃ i, xs = [.int i] ∧ Q (.int (if i < 0 then -i else i)) H) gAbs := by
  intro B H x s ox d Q ex w h k
  unfold gAbs at h
  split at h
  · cases h
    cases rp_int (ow_d w)
    exact ⟨_, rfl, k _ _ _ (.int _) (Gr.refl ex)⟩
  · cases h
/-- tuple(list), tuple(tuple) -/
def gTupOf (s : S) : Option D := match s with
  | .d (.tup xs) => some (.tup xs)
  | s => s.dl.map D.tup
theorem og_tupOf {K : PySem.W.Frag} : Fn1 K (fun xs H Q => ∃ p ys, xs = [.ref p] ∧ ((SqL K H p ys ∧ ∀ l, H l = none → Q (.ref l) (upd H l (.tup ys))) ∨ (SqT K H p ys ∧ Q (.ref p) H))) gTupOf := by
  intro B H x s ox d Q ex w h k
  unfold gTupOf at h
  split at h
  · cases h
    cases ow_d w with
    | tup h1 r1 => exact ⟨_, _, rfl, .inr ⟨sqt_of (ex _ _ h1), k _ _ _ (.tup h1 r1) (Gr.refl ex)⟩⟩
  · obtain ⟨xs, e1, rfl⟩ := Option.map_eq_some_iff.mp h
    obtain ⟨a, vs, rfl, h1, r1⟩ := dl_ow ex w e1
    refine ⟨a, vs, rfl, .inl ⟨SqL.of h1, fun q hq => ?_⟩⟩
    have gr := Gr.new (o := .tup vs) ex hq
    exact k _ _ _ (.tup upd_same (r1.mono gr.bb)) gr
/-- list(list), list(tuple), list(script): frozen at once -/
def gLstOf (s : S) : Option D := match s with
  | .d (.tup xs) => some (.lst xs)
  | .d (.scr ns) => some (.lst (ns.map D.int))
  | s => s.dl.map D.lst
theorem og_lstOf {K : PySem.W.Frag} : Fn1 K (fun xs H Q => ∃ p ys, xs = [.ref p] ∧ (SqL K H p ys ∨ SqT K H p ys) ∧ ∀ l, H l = none → Q (.ref l) (upd H l (.lst ys))) gLstOf := by
  intro B H x s ox d Q ex w h k
  unfold gLstOf at h
  split at h
  · cases h
    cases ow_d w with
    | tup h1 r1 =>
      refine ⟨_, _, rfl, .inr (sqt_of (ex _ _ h1)), fun q hq => ?_⟩
      rename_i vs
      have gr := Gr.new (o := .lst vs) ex hq
      exact k _ _ _ (.lst upd_same (r1.mono gr.bb)) gr
  · rename_i ns
    cases h
    cases ow_d w with
    | scr h1 =>
      refine ⟨_, _, rfl, .inl (ex.seq h1), fun q hq => ?_⟩
      have gr := Gr.new (o := .lst (ns.map V.int)) ex hq
      exact k _ _ _ (.lst upd_same (rpl_ints ns)) gr
  · obtain ⟨xs, e1, rfl⟩ := Option.map_eq_some_iff.mp h
    obtain ⟨a, vs, rfl, h1, r1⟩ := dl_ow ex w e1
    refine ⟨a, vs, rfl, .inl (SqL.of h1), fun q hq => ?_⟩
    have gr := Gr.new (o := .lst vs) ex hq
    exact k _ _ _ (.lst upd_same (r1.mono gr.bb)) gr
/-- sep.join(texts) -/
def strsD : List D → Option (List Str)
  | [] => some []
  | .str x :: r => (strsD r).map (x :: ·)
  | _ => none
theorem strsD_map : ∀ ys : List Str, strsD (ys.map D.str) = some ys
  | [] => rfl
  | y :: r => by
    rw [List.map_cons]
    show (strsD (r.map D.str)).map (y :: ·) = _
    rw [strsD_map r]
    rfl
theorem strsD_rp {K : PySem.W.Frag} {B : Hp} : ∀ {vs : List V} {ds : List D} {ys : List Str}, RpL K B vs ds → strsD ds = some ys → vs = ys.map V.str
  | _, _, ys, .nil, h => by cases h; rfl
  | _, _, ys, .cons (d := d) r t, h => by
    cases r with
    | str x =>
      obtain ⟨zs, e, rfl⟩ := Option.map_eq_some_iff.mp (show (strsD _).map (x :: ·) = some ys from h)
      rw [strsD_rp t e, List.map_cons]
    | _ => cases h
theorem twoC (ha : RX X p1 f1 a ma) (hb : RX X p2 f2 b mb) {σ : L2.St} {H : Hp} {C : V → Hp → Prop} {R : V → V → Hp → Prop} {B : Hp} {τ : Sl} {os : List Addr} (ok : Ok X.K B H σ τ os) {s u : S} {τ' : Sl} (e : m2 p2 ma mb τ = some ((s, u), τ'))
    (hC : ∀ x B' H' ox, Same B' H' → Ow X.K B' H' x s ox → C x H')
    (k : ∀ x y B' H' ox oy os', Ow X.K B' H' x s ox → Ow X.K B' H' y u oy → Ok X.K B' H' σ τ' os' → Fr (p1 && p2) B H os B' H' os' → R x y H') :
    tOf X.K p1 f1 ma σ H fun x H1 => C x H1 ∧ tOf X.K p2 f2 mb σ H1 fun y H2 => R x y H2 := by
  refine ⟨B, τ, os, ok, ?_⟩
  unfold m2 at e
  split at e
  · rename_i s1 τ1 e1
    split at e
    · rename_i hp
      split at e
      · rename_i u1 τ2 e2
        cases e
        rw [e1]
        intro x B1 H1 ox os1 w1 ok1 _ fr1
        refine ⟨hC x B1 H1 ox ok1.ex w1, B1, τ1, os1, ok1, ?_⟩
        rw [e2]
        intro y B2 H2 oy os2 w2 ok2 _ fr2
        have w1' : Ow X.K B2 H2 x s ox := by
          rcases Bool.or_eq_true_iff.mp hp with z | z
          · exact w1.stay fr2 (.inl z)
          · cases w1 with
            | d r => exact .d (r.mono fr2.bb)
            | lst _ _ _ => cases z
            | nd _ _ _ => cases z
        exact k x y B2 H2 ox oy os2 w1' w2 ok2 (fr1.trans fr2 fun _ h => h)
      · cases e
    · cases e
  · cases e
/-- a method of a built-in type with one argument, the value data -/
theorem rx_m1 {T id : String} {name : Str} {apos : Pos} {r : V → List V → Hp → VK → Prop} {g : S → S → Option D} (pa : PlainAttrs T) (slot : Slot T name id) (hty : typeOf (.builtin id) = pure (.type "method_descriptor")) (hm : MtR X id r)
    (hC : ∀ (B H : Hp) (x : V) (s u : S) (ox : List Addr) (d : D), Same B H → Ow X.K B H x s ox → g s u = some d → tyV X.K T x H) (og : Op2 X.K (fun x y H Q => r x [y] H Q) g) (ha : RX X p1 f1 a ma) (hb : RX X p2 f2 b mb)
    (hbase : attributeBase a name X.env (eval a X.env) = eval a X.env := by rfl)
    (hfew : ((backTo pos (starEach (b :: []) X.env)).all (fun x => !x.1) && (backToKw pos (keywordEach [] X.env)).all (fun x => x.1.isSome)
      && decide ((b :: []).length + ([] : List Keyword).length + (if ([] : List Keyword).isEmpty then 0 else 1) < 30)) = true := by rfl)
    (hline : (apos.endLine == pos.line) = true := by rfl) (hs : starEach (b :: []) X.env = (false, eval b X.env) :: starEach [] X.env := by rfl) :
    RX X (p1 && p2) f (.Call (.Attribute a name apos) [b] [] pos) (mBin p2 g ma mb) := by
  refine ⟨pe_imp (pe_bm pa slot hty hm ha.pe (pa_cons hb.pe pa_nil hs) hbase hfew hline hs) fun σ H Q q => ?_, fun z => pure_mBin (ha.pu (and_tt z).1) (hb.pu (and_tt z).2)⟩
  obtain ⟨B, τ, os, ok, q⟩ := q
  unfold mBin at q
  split at q
  · rename_i rr τ' e1
    split at q
    · rename_i d e2
      obtain ⟨s, u⟩ := rr
      refine twoC ha hb (C := fun x H1 => tyV X.K T x H1) (R := fun x y H2 => r x [y] H2 Q) ok e1 (fun x B' H' ox ex w => hC B' H' x s u ox d ex w e2) fun x y B' H' ox oy os' w1 w2 ok' fr => ?_
      refine og B' H' x y s u ox oy d Q ok'.ex w1 w2 e2 fun v B2 H2 rp gr => ?_
      exact q v B2 H2 [] os' (.d rp) (gr.ok ok') (fun _ => .nil ok'.nd) (by
        have z := fr.trans (gr.fr (p := true) (os := os')) fun _ h => h
        rwa [Bool.and_true] at z)
    · exact q.elim
  · exact q.elim
def textsOf : S → Option (List Str)
  | .d (.tup xs) => strsD xs
  | u => u.dl.bind strsD
def gJoin (s u : S) : Option D := match s with
  | .d (.str a) => (match textsOf u with
    | some ys => if (ys.map (·.length)).sum + ys.length * a.length ≤ LIM then some (.str (Txt.join a ys)) else none
    | none => none)
  | _ => none
theorem textsOf_ow {K : PySem.W.Frag} {B H : Hp} {y : V} {u : S} {oy : List Addr} {ys : List Str} (ex : Same B H) (w : Ow K B H y u oy) (h : textsOf u = some ys) : ∃ p, y = .ref p ∧ (SqL K H p (ys.map V.str) ∨ SqT K H p (ys.map V.str)) := by
  unfold textsOf at h
  split at h
  · cases ow_d w with
    | tup h1 r1 => exact ⟨_, rfl, .inr (by rw [← strsD_rp r1 h]; exact sqt_of (ex _ _ h1))⟩
  · obtain ⟨zs, e1, e2⟩ := Option.bind_eq_some_iff.mp h
    obtain ⟨q, vs, rfl, h1, r1⟩ := dl_ow ex w e1
    exact ⟨_, rfl, .inl (by rw [← strsD_rp r1 e2]; exact SqL.of h1)⟩
theorem og_join {K : PySem.W.Frag} : Op2 K (fun x y H Q => ∃ a p, ∃ ys : List Str, x = .str a ∧ [y] = [.ref p] ∧ (SqL K H p (ys.map V.str) ∨ SqT K H p (ys.map V.str)) ∧
      (ys.map (·.length)).sum + ys.length * a.length ≤ 16777216 ∧ Q (.str (Txt.join a ys)) H) gJoin := by
  intro B H x y s u ox oy d Q ex w1 w2 h k
  unfold gJoin at h
  split at h
  · rename_i a
    split at h
    · rename_i ys e
      split at h
      · rename_i hl
        cases h
        cases rp_str (ow_d w1)
        obtain ⟨p, rfl, hp⟩ := textsOf_ow ex w2 e
        exact ⟨a, p, ys, rfl, rfl, hp, hl, k _ _ _ (.str _) (Gr.refl ex)⟩
      · cases h
    · cases h
  · cases h
theorem gJoin_str {K : PySem.W.Frag} (B H : Hp) (x : V) (s u : S) (ox : List Addr) (d : D) (ex : Same B H) (w : Ow K B H x s ox) (h : gJoin s u = some d) : tyV K "str" x H := by
  unfold gJoin at h
  split at h
  · cases rp_str (ow_d w)
    rfl
  · cases h
theorem rx_join {apos : Pos} (ha : RX X p1 f1 a ma) (hb : RX X p2 f2 b mb) (hbase : attributeBase a "join" X.env (eval a X.env) = eval a X.env := by rfl)
    (hfew : ((backTo pos (starEach (b :: []) X.env)).all (fun x => !x.1) && (backToKw pos (keywordEach [] X.env)).all (fun x => x.1.isSome)
      && decide ((b :: []).length + ([] : List Keyword).length + (if ([] : List Keyword).isEmpty then 0 else 1) < 30)) = true := by rfl)
    (hline : (apos.endLine == pos.line) = true := by rfl) (hs : starEach (b :: []) X.env = (false, eval b X.env) :: starEach [] X.env := by rfl) : RX X (p1 && p2) f (.Call (.Attribute a "join" apos) [b] [] pos) (mBin p2 gJoin ma mb) :=
  rx_m1 F.plainAttrs_str F.slot_str_join F.type_str_join mt_join gJoin_str og_join ha hb hbase hfew hline hs

/-! ### isinstance of a built-in class -/
def tyN : D → String
  | .non => "NoneType" | .bl _ => "bool" | .int _ => "int" | .str _ => "str" | .tup _ => "tuple" | .lst _ => "list" | .scr _ => "list" | .nd _ _ => "NoneType"
def D.isNd : D → Bool
  | .nd _ _ => true
  | _ => false
abbrev tyD (d : D) : Value := .type (tyN d)
def isiN (T n : String) : Bool := n == T || (n == "bool" && T == "int")
/-- what isinstance says -/
def isiD (T : String) (d : D) : Bool := isiN T (tyN d)
def gIsi (T : String) (s : S) : Option D := if s.view.isNd then none else some (.bl (isiD T s.view))
theorem tyx_rp {K : PySem.W.Frag} {H : Hp} {v : V} {d : D} (r : Rp K H v d) (hn : d.isNd = false) : TyX K H v (tyD d) := by
  have seqL : ∀ {a : Addr} {xs : List V}, SqL K H a xs → TyX K H (.ref a) (.type "list") := fun {a xs} h => by
    rcases h with (h | ⟨o, h⟩) | ⟨o, its, n, h, hc, _⟩
    · exact .base (.lst h)
    · exact .base (.frz h)
    · exact .kList h hc
  cases r with
  | non => exact .base .non
  | bl b => exact .base (.bl b)
  | int i => exact .base (.int i)
  | str x => exact .base (.str x)
  | tup h r => exact .base (.tup h)
  | lst h r => exact .base (.lst h)
  | scr h => exact seqL h
  | nd _ _ => cases hn
theorem kit_isiN {K : PySem.W.Frag} {T n : String} (hT : T ∈ ["bool", "int", "str", "tuple", "list", "dict"]) (hn : n ∈ ["NoneType", "bool", "int", "str", "tuple", "list"]) : PySem.W.kitOne K (.type n) (.type T) = some (isiN T n) := by
  rcases (by simpa using hT : T = "bool" ∨ T = "int" ∨ T = "str" ∨ T = "tuple" ∨ T = "list" ∨ T = "dict") with rfl | rfl | rfl | rfl | rfl | rfl <;>
    rcases (by simpa using hn : n = "NoneType" ∨ n = "bool" ∨ n = "int" ∨ n = "str" ∨ n = "tuple" ∨ n = "list") with rfl | rfl | rfl | rfl | rfl | rfl <;> exact kit_ty (by decide +kernel)
theorem kit_isi {K : PySem.W.Frag} {T : String} {d : D} (hT : T ∈ ["bool", "int", "str", "tuple", "list", "dict"]) : PySem.W.kitOne K (tyD d) (.type T) = some (isiD T d) := kit_isiN hT (by cases d <;> simp [tyN])
theorem og_isi {K : PySem.W.Frag} {T : String} (hT : T ∈ ["bool", "int", "str", "tuple", "list", "dict"]) : Op1 K (fun x H Q => rIsi K [x, .ty T] H Q) (gIsi T) := by
  intro B H x s ox d Q ex w h k
  unfold gIsi at h
  split at h
  · cases h
  · rename_i hn
    cases h
    exact ⟨x, .ty T, tyD s.view, .type T, _, rfl, .ty T, tyx_rp (w.see ex) (by simpa using hn), kit_isi hT, k _ _ _ (.bl _) (Gr.refl ex)⟩
theorem rx_isi {x : Str} {Ts : String} {px py : Pos} (ha : RX X p f1 a ma) (hmi : X.mg "isinstance" = none) (hmT : X.mg x = none) (hv : bootBuiltins x = some (.type Ts) := by decide +kernel) (hT : Ts ∈ ["bool", "int", "str", "tuple", "list", "dict"] := by decide)
    (hgi : Gl X "isinstance" := by rfl) (hg : Gl X x := by rfl) (hn : x ≠ "__name__" := by decide) (hdb : (x == ("__debug__" : Str)) = false := by decide)
    (he : starEach [a, .Name x py] X.env = (false, eval a X.env) :: starEach [.Name x py] X.env := by rfl) (he2 : starEach [.Name x py] X.env = (false, eval (.Name x py) X.env) :: starEach [] X.env := by rfl) (hpl : (backTo pos (starEach [.Name x py] X.env)).any (·.1) = false := by rfl) :
    RX X p f (.Call (.Name "isinstance" px) [a, .Name x py] [] pos) (mUn (gIsi Ts) ma) :=
  rx_op1 ha (og_isi hT) fun h1 => pe_callB call_isi hgi hmi (by decide +kernel) (pa_cons h1 (pa_cons (pe_bltn (v := .ty Ts) hg hmT hv rfl hn hdb) pa_nil he2) he) (by decide) (by decide) he hpl
end
end Tr

/-! statements, targets, calls of own defs -/
namespace Tr
open PySem PySem.Spec PyProof.Rows L2

inductive SOut where
  | nx | bk | ct | rt (s : S)
abbrev MS := Sl → Option (SOut × Sl)
/-- slots that no statement may store to -/
def Pin (P : List Nat) (σ σ' : L2.St) : Prop := ∀ i ∈ P, σ'[i]? = σ[i]?
theorem Pin.refl {P : List Nat} {σ : L2.St} : Pin P σ σ := fun _ _ => rfl
theorem Pin.trans {P : List Nat} {σ σ1 σ2 : L2.St} (a : Pin P σ σ1) (b : Pin P σ1 σ2) : Pin P σ σ2 := fun i h => (b i h).trans (a i h)
theorem Pin.set {P : List Nat} {σ : L2.St} {i : Nat} {v : Option V} (h : i ∉ P) : Pin P σ (σ.set i v) := fun j hj => List.getElem?_set_ne fun e => h (by rw [e]; exact hj)

def PostS (K : PySem.W.Frag) (P : List Nat) (σ : L2.St) (B H : Hp) (os : List Addr) (D : Ends) : Option (SOut × Sl) → Prop
  | none => False
  | some (.nx, τ') => ∀ σ' B' H' os', Pin P σ σ' → Ok K B' H' σ' τ' os' → Fr false B H os B' H' os' → D.nx σ' H'
  | some (.bk, τ') => ∀ σ' B' H' os', Pin P σ σ' → Ok K B' H' σ' τ' os' → Fr false B H os B' H' os' → D.bk σ' H'
  | some (.ct, τ') => ∀ σ' B' H' os', Pin P σ σ' → Ok K B' H' σ' τ' os' → Fr false B H os B' H' os' → D.ct σ' H'
  | some (.rt s, τ') => ∀ σ' v B' H' ov os', Pin P σ σ' → Ow K B' H' v s ov → Ok K B' H' σ' τ' os' → (ov ++ os').Nodup → Fr false B H os B' H' (ov ++ os') → D.rt v H'
def tsOf (K : PySem.W.Frag) (P : List Nat) (m : MS) : TS := fun D σ H => ∃ B τ os, Ok K B H σ τ os ∧ PostS K P σ B H os D (m τ)
structure RS (X : Cx) (P : List Nat) (st : Stmt) (m : MS) : Prop where
  ps : PS X st (tsOf X.K P m)
structure RSs (X : Cx) (P : List Nat) (st : List Stmt) (m : MS) : Prop where
  ps : PSs X st (tsOf X.K P m)
theorem PostS.from {K : PySem.W.Frag} {P : List Nat} {σ σ1 : L2.St} {B H B1 H1 : Hp} {os os1 : List Addr} {D : Ends} {r : Option (SOut × Sl)} (h : PostS K P σ B H os D r) (pn : Pin P σ σ1) {p : Bool} (fr : Fr p B H os B1 H1 os1) : PostS K P σ1 B1 H1 os1 D r := by
  have fr := fr.weak
  match r, h with
  | none, h => exact h
  | some (.nx, τ'), h => exact fun σ' B' H' os' pn' ok' fr' => h σ' B' H' os' (pn.trans pn') ok' (fr.trans fr' fun _ h => h)
  | some (.bk, τ'), h => exact fun σ' B' H' os' pn' ok' fr' => h σ' B' H' os' (pn.trans pn') ok' (fr.trans fr' fun _ h => h)
  | some (.ct, τ'), h => exact fun σ' B' H' os' pn' ok' fr' => h σ' B' H' os' (pn.trans pn') ok' (fr.trans fr' fun _ h => h)
  | some (.rt s, τ'), h => exact fun σ' v B' H' ov os' pn' w ok' nd fr' => h σ' v B' H' ov os' (pn.trans pn') w ok' nd (fr.trans fr' fun _ h => h)
/-- other ends -/
theorem PostS.ends {K : PySem.W.Frag} {P : List Nat} {σ : L2.St} {B H : Hp} {os : List Addr} {D D' : Ends} {r : Option (SOut × Sl)} (h : PostS K P σ B H os D r) (h1 : ∀ σ' H', D.nx σ' H' → D'.nx σ' H') (h2 : ∀ σ' H', D.bk σ' H' → D'.bk σ' H')
    (h3 : ∀ σ' H', D.ct σ' H' → D'.ct σ' H') (h4 : ∀ v H', D.rt v H' → D'.rt v H') : PostS K P σ B H os D' r := by
  match r, h with
  | none, h => exact h
  | some (.nx, τ'), h => exact fun σ' B' H' os' pn' ok' fr' => h1 _ _ (h σ' B' H' os' pn' ok' fr')
  | some (.bk, τ'), h => exact fun σ' B' H' os' pn' ok' fr' => h2 _ _ (h σ' B' H' os' pn' ok' fr')
  | some (.ct, τ'), h => exact fun σ' B' H' os' pn' ok' fr' => h3 _ _ (h σ' B' H' os' pn' ok' fr')
  | some (.rt s, τ'), h => exact fun σ' v B' H' ov os' pn' w ok' nd fr' => h4 _ _ (h σ' v B' H' ov os' pn' w ok' nd fr')

/-! ### m's -/
def mNx : MS := fun τ => some (.nx, τ)
def mSeq (m1 m2 : MS) : MS := fun τ => match m1 τ with | some (.nx, τ') => m2 τ' | r => r
def mIf (t : M Bool) (m1 m2 : MS) : MS := fun τ => match t τ with | some (true, τ') => m1 τ' | some (false, τ') => m2 τ' | none => none
def mSet (i : Nat) (m : M S) : MS := fun τ => match m τ with | some (s, τ') => if i < τ'.length then some (.nx, τ'.set i (some s)) else none | none => none
def mDrop (m : M S) : MS := fun τ => match m τ with | some (_, τ') => some (.nx, τ') | none => none
def mRet (m : M S) : MS := fun τ => match m τ with | some (s, τ') => some (.rt s, τ') | none => none
def mRetN : MS := fun τ => some (.rt (.d .non), τ)
def mBk : MS := fun τ => some (.bk, τ)
def mCt : MS := fun τ => some (.ct, τ)

section
variable {X : Cx} {P : List Nat} {st : Stmt} {rest b1 b2 : List Stmt} {m m1 m2' : MS} {me : M S} {t : M Bool} {e c : Expr} {p f : Bool} {pos : Pos}
theorem rss_nil : RSs X P [] mNx := ⟨pss_imp pss_nil fun D σ H q => by
  obtain ⟨B, τ, os, ok, q⟩ := q
  exact q σ B H os Pin.refl ok Fr.refl⟩
theorem rss_cons (h1 : RS X P st m1) (h2 : RSs X P rest m2') : RSs X P (st :: rest) (mSeq m1 m2') := by
  refine ⟨pss_imp (pss_cons h1.ps h2.ps) fun D σ H q => ?_⟩
  obtain ⟨B, τ, os, ok, q⟩ := q
  refine ⟨B, τ, os, ok, ?_⟩
  unfold mSeq at q
  split at q
  · rename_i τ1 e1
    rw [e1]
    exact fun σ' B' H' os' pn ok' fr => ⟨B', τ1, os', ok', q.from pn fr⟩
  · rename_i hn
    revert q hn
    cases e1 : m1 τ with
    | none => exact fun _ q => q.elim
    | some r =>
      obtain ⟨o, τ1⟩ := r
      cases o with
      | nx => exact fun hn _ => (hn _ rfl).elim
      | bk => exact fun _ q => q
      | ct => exact fun _ q => q
      | rt s => exact fun _ q => q
theorem rss_one (h1 : RS X P st m1) : RSs X P [st] m1 := ⟨pss_one h1.ps⟩
theorem rs_pass : RS X P (.Pass pos) mNx := ⟨ps_imp ps_pass fun D σ H q => by
  obtain ⟨B, τ, os, ok, q⟩ := q
  exact q σ B H os Pin.refl ok Fr.refl⟩
theorem rs_break : RS X P (.Break pos) mBk := ⟨ps_imp ps_break fun D σ H q => by
  obtain ⟨B, τ, os, ok, q⟩ := q
  exact q σ B H os Pin.refl ok Fr.refl⟩
theorem rs_cont : RS X P (.Continue pos) mCt := ⟨ps_imp ps_continue fun D σ H q => by
  obtain ⟨B, τ, os, ok, q⟩ := q
  exact q σ B H os Pin.refl ok Fr.refl⟩
theorem rs_doc {x j pos'} : RS X P (.Expr (.Constant (.str x) j pos) pos') mNx := ⟨ps_imp ps_doc fun D σ H q => by
  obtain ⟨B, τ, os, ok, q⟩ := q
  exact q σ B H os Pin.refl ok Fr.refl⟩
theorem rs_if (hc : RT X p c t) (ha : RSs X P b1 m1) (hb : RSs X P b2 m2') : RS X P (.If c b1 b2 pos) (mIf t m1 m2') := by
  refine ⟨ps_imp (ps_if hc.pt ha.ps hb.ps) fun D σ H q => ?_⟩
  obtain ⟨B, τ, os, ok, q⟩ := q
  refine ⟨B, τ, os, ok, ?_⟩
  unfold mIf at q
  split at q
  · rename_i τ1 e1
    rw [e1]
    exact fun B1 H1 os1 ok1 fr1 => iteT ⟨B1, τ1, os1, ok1, q.from Pin.refl fr1⟩
  · rename_i τ1 e1
    rw [e1]
    exact fun B1 H1 os1 ok1 fr1 => iteF ⟨B1, τ1, os1, ok1, q.from Pin.refl fr1⟩
  · exact q.elim
/-- a slot gets another value -/
theorem Ok.put {K : PySem.W.Frag} {B H : Hp} {σ : L2.St} {τ : Sl} {os ov : List Addr} {v : V} {s : S} {i : Nat} (ok : Ok K B H σ τ os) (w : Ow K B H v s ov) (nd : (ov ++ os).Nodup) (hi : i < τ.length) :
    ∃ os', Ok K B H (σ.set i (some v)) (τ.set i (some s)) os' ∧ ∀ a ∈ os', a ∈ ov ∨ a ∈ os := by
  obtain ⟨r, h1, h2, h3⟩ := ok.sl.clear i
  have hl : σ.length = τ.length := ok.sl.length
  have he : (τ.set i none)[i]? = some none := by rw [List.getElem?_set_self hi]
  obtain ⟨q, h4, h5⟩ := h1.put (by rw [hl]; exact hi) he w
  rw [List.set_set] at h4
  refine ⟨q, ⟨ok.ex, h4, ?_⟩, fun a ha => ?_⟩
  · obtain ⟨n1, n2, n3⟩ := List.nodup_append.mp nd
    exact h5.nodup_iff.mpr (List.nodup_append.mpr ⟨n1, h3 n2, fun a ha b hb => n3 a ha b (h2 b hb)⟩)
  · rcases List.mem_append.mp (h5.mem_iff.mp ha) with z | z
    · exact .inl z
    · exact .inr (h2 a z)
theorem rs_set {i : Nat} {x : Str} {pos' : Pos} (hN : X.N.Nodup) (he : RX X p true e me) (hP : i ∉ P := by decide) (hi : X.N[i]? = some x := by rfl) (hx : Loc X.env.scope x := by first | exact .inl rfl | exact .inr rfl) (hs : swapsWith e (some (.Name x pos')) pos.line X.env = pure false := by rfl)
    (hf : X.fn x = true ∨ X.env.scope.names.lookup x = some .local := by first | exact .inl rfl | exact .inr rfl | assumption) : RS X P (.Assign [.Name x pos'] e pos) (mSet i me) := by
  refine ⟨ps_imp (ps_set hN hi hx he.pe hs hf) fun D σ H q => ?_⟩
  obtain ⟨B, τ, os, ok, q⟩ := q
  refine ⟨B, τ, os, ok, ?_⟩
  unfold mSet at q
  split at q
  · rename_i s τ1 e1
    split at q
    · rename_i hl
      rw [e1]
      intro v B1 H1 ov os1 w1 ok1 fh fr1
      obtain ⟨nd, fo⟩ := fh rfl
      obtain ⟨os2, ok2, h2⟩ := ok1.put w1 nd hl
      refine q _ B1 H1 os2 (Pin.set hP) ok2 ?_
      refine ⟨fr1.weak.bb, fr1.weak.keep, fr1.weak.thr, fun a ha => ?_, fr1.weak.frz⟩
      rcases h2 a ha with z | z
      · exact (fo a z).imp (·.2) id
      · exact fr1.own a z
    · exact q.elim
  · exact q.elim
theorem rs_drop (he : RX X p f e me) (hs : swapsWith e none pos.line X.env = pure false := by rfl) : RS X P (.Expr e pos) (mDrop me) := by
  refine ⟨ps_imp (ps_expr he.pe hs) fun D σ H q => ?_⟩
  obtain ⟨B, τ, os, ok, q⟩ := q
  refine ⟨B, τ, os, ok, ?_⟩
  unfold mDrop at q
  split at q
  · rename_i s τ1 e1
    rw [e1]
    exact fun v B1 H1 ov os1 w1 ok1 fh fr1 => q σ B1 H1 os1 Pin.refl ok1 fr1.weak
  · exact q.elim
theorem rs_ret (he : RX X p true e me) : RS X P (.Return (some e) pos) (mRet me) := by
  refine ⟨ps_imp (ps_ret he.pe) fun D σ H q => ?_⟩
  obtain ⟨B, τ, os, ok, q⟩ := q
  refine ⟨B, τ, os, ok, ?_⟩
  unfold mRet at q
  split at q
  · rename_i s τ1 e1
    rw [e1]
    intro v B1 H1 ov os1 w1 ok1 fh fr1
    obtain ⟨nd, fo⟩ := fh rfl
    refine q σ v B1 H1 ov os1 Pin.refl w1 ok1 nd ⟨fr1.weak.bb, fr1.weak.keep, fr1.weak.thr, fun a ha => ?_, fr1.weak.frz⟩
    rcases List.mem_append.mp ha with z | z
    · exact (fo a z).imp (·.2) id
    · exact fr1.own a z
  · exact q.elim
theorem rs_retN : RS X P (.Return none pos) mRetN := ⟨ps_imp ps_retN fun D σ H q => by
  obtain ⟨B, τ, os, ok, q⟩ := q
  exact q σ .non B H [] os Pin.refl (.d .non) ok (by simpa using ok.nd) (by simpa using Fr.refl)⟩
/-- return x, x a list of the def's own: it is handed over -/
def mTake (i : Nat) : MS := fun τ => match τ[i]? with | some (some s) => some (.rt s, τ.set i none) | _ => none
theorem rs_take (i : Nat) {x : Str} {px : Pos} (hN : X.N[i]? = some x := by rfl) (hv : Vis X.env.scope x := by first | exact Or.inl rfl | exact Or.inr (Or.inl rfl) | exact Or.inr (Or.inr rfl)) (hd : (x == ("__debug__" : Str)) = false := by decide)
    (hcd : (x == ("__classdict__" : Str)) = false := by decide) : RS X P (.Return (some (.Name x px)) pos) (mTake i) := by
  refine ⟨ps_imp (ps_ret (pv i hN hv hd hcd)) fun D σ H q => ?_⟩
  obtain ⟨B, τ, os, ok, q⟩ := q
  unfold mTake at q
  split at q
  · rename_i s e1
    obtain ⟨v, o, r, h1, h2, h3, h4⟩ := ok.sl.take e1
    refine ⟨v, h1, q σ v B H o r Pin.refl h2 ⟨ok.ex, h3, (List.nodup_append.mp (h4.nodup_iff.mp ok.nd)).2.1⟩ (h4.nodup_iff.mp ok.nd) ?_⟩
    exact Fr.refl.sub fun a ha => h4.mem_iff.mpr ha
  · exact q.elim

/-! ### targets that take data -/
structure RG (X : Cx) (P : List Nat) (tg : Expr) (mg : D → Sl → Option Sl) : Prop where
  pg : PG X tg fun v σ H Q => ∃ B d τ τ' os, Ok X.K B H σ τ os ∧ Rp X.K B v d ∧ mg d τ = some τ' ∧ ∀ σ' os', Pin P σ σ' → Ok X.K B H σ' τ' os' → (∀ a ∈ os', a ∈ os) → σ'.length = σ.length → Q σ' H
def mgName (i : Nat) : D → Sl → Option Sl := fun d τ => if i < τ.length then some (τ.set i (some (.d d))) else none
theorem Ok.putD {K : PySem.W.Frag} {B H : Hp} {σ : L2.St} {τ : Sl} {os : List Addr} {v : V} {d : D} {i : Nat} (ok : Ok K B H σ τ os) (r : Rp K B v d) (hi : i < τ.length) :
    ∃ os', Ok K B H (σ.set i (some v)) (τ.set i (some (.d d))) os' ∧ ∀ a ∈ os', a ∈ os := by
  obtain ⟨os', h1, h2⟩ := ok.put (.d r) (ov := []) (by simpa using ok.nd) hi
  exact ⟨os', h1, fun a ha => (h2 a ha).elim (fun z => by simp at z) id⟩
theorem pg_imp {X : Cx} {e : Expr} {t t' : TG} (h : PG X e t) (i : ∀ v σ H Q, t' v σ H Q → t v σ H Q) : PG X e t' := ⟨fun pins s σ H v u Q I r q => h.run pins s σ H v u Q I r (i _ _ _ _ q)⟩
theorem rg_name {i : Nat} {x : Str} (hN : X.N.Nodup) (hP : i ∉ P := by decide) (hi : X.N[i]? = some x := by rfl) (hx : Loc X.env.scope x := by first | exact .inl rfl | exact .inr rfl) (hf : X.fn x = true ∨ X.env.scope.names.lookup x = some .local := by first | exact .inl rfl | exact .inr rfl | assumption) :
    RG X P (.Name x pos) (mgName i) := by
  refine ⟨pg_imp (pg_name hN hi hx hf) fun v σ H Q q => ?_⟩
  obtain ⟨B, d, τ, τ', os, ok, r, e, q⟩ := q
  unfold mgName at e
  split at e
  · rename_i hl
    cases e
    obtain ⟨os', ok', h⟩ := ok.putD r hl
    exact q _ os' (Pin.set hP) ok' h (List.length_set ..)
  · cases e
/-- several names, one behind the other -/
structure RGs (X : Cx) (P : List Nat) (tgs : List Expr) (mg : List D → Sl → Option Sl) : Prop where
  pg : PGs X tgs fun vs σ H Q => ∃ B ds τ τ' os, Ok X.K B H σ τ os ∧ RpL X.K B vs ds ∧ mg ds τ = some τ' ∧ ∀ σ' os', Pin P σ σ' → Ok X.K B H σ' τ' os' → (∀ a ∈ os', a ∈ os) → σ'.length = σ.length → Q σ' H
def mgNil : List D → Sl → Option Sl := fun ds τ => match ds with | [] => some τ | _ => none
def mgCons (g : D → Sl → Option Sl) (gs : List D → Sl → Option Sl) : List D → Sl → Option Sl := fun ds τ => match ds with
  | d :: r => (match g d τ with | some τ1 => gs r τ1 | none => none)
  | [] => none
def mgTup (gs : List D → Sl → Option Sl) : D → Sl → Option Sl := fun d τ => match d with | .tup ds => gs ds τ | _ => none
theorem pgs_imp {X : Cx} {es : List Expr} {t t' : TGs} (h : PGs X es t) (i : ∀ v σ H Q, t' v σ H Q → t v σ H Q) : PGs X es t' := ⟨fun pins s σ H v u Q I r q => h.run pins s σ H v u Q I r (i _ _ _ _ q)⟩
theorem rgs_nil : RGs X P [] mgNil := by
  refine ⟨pgs_imp pgs_nil fun vs σ H Q q => ?_⟩
  obtain ⟨B, ds, τ, τ', os, ok, r, e, q⟩ := q
  cases r with
  | nil =>
    cases e
    exact ⟨rfl, q σ os Pin.refl ok (fun _ h => h) rfl⟩
  | cons _ _ => cases e
theorem rgs_cons {es : List Expr} {g : D → Sl → Option Sl} {gs : List D → Sl → Option Sl} (h1 : RG X P e g) (h2 : RGs X P es gs)
    (hs : (assignEach (e :: es) X.env).map (·.2) = assign e X.env :: (assignEach es X.env).map (·.2) := by rfl) : RGs X P (e :: es) (mgCons g gs) := by
  refine ⟨pgs_imp (pgs_cons h1.pg h2.pg hs) fun vs σ H Q q => ?_⟩
  obtain ⟨B, ds, τ, τ', os, ok, r, e, q⟩ := q
  cases r with
  | nil => cases e
  | cons r rr =>
    unfold mgCons at e
    split at e
    · rename_i d r1 e0
      cases e0
      split at e
      · rename_i τ1 e1
        refine ⟨_, _, rfl, B, _, τ, τ1, os, ok, r, e1, fun σ1 os1 pn1 ok1 h1 l1 => ?_⟩
        exact ⟨B, _, τ1, τ', os1, ok1, rr, e, fun σ2 os2 pn2 ok2 h2 l2 => q σ2 os2 (pn1.trans pn2) ok2 (fun a ha => h1 a (h2 a ha)) (l2.trans l1)⟩
      · cases e
    · cases e
theorem rgs_len {es : List Expr} {gs : List D → Sl → Option Sl} : True := trivial
theorem rg_tup {es : List Expr} {k : Nat} {gs : List D → Sl → Option Sl} (hc : X.calm = true) (h : RGs X P es gs) (n : Nat) (hlen : ∀ ds τ τ', gs ds τ = some τ' → ds.length = n)
    (hn : (assignEach es X.env).length = n := by rfl) (hst : (assignEach es X.env).findIdx? (·.1) = none := by rfl) : RG X P (.Tuple es k pos) (mgTup gs) := by
  refine ⟨pg_imp (pg_tup hc h.pg hn hst) fun v σ H Q q => ?_⟩
  obtain ⟨B, d, τ, τ', os, ok, r, e, q⟩ := q
  unfold mgTup at e
  split at e
  · rename_i ds
    cases r with
    | tup h1 r1 => exact ⟨_, _, rfl, sqt_of (ok.ex _ _ h1), by rw [r1.length]; exact hlen _ _ _ e, B, ds, τ, τ', os, ok, r1, e, q⟩
  · cases e
theorem mgNil_len : ∀ ds τ τ', mgNil ds τ = some τ' → ds.length = 0 := fun ds τ τ' h => by
  cases ds with
  | nil => rfl
  | cons _ _ => cases h
theorem mgCons_len {g : D → Sl → Option Sl} {gs : List D → Sl → Option Sl} {n : Nat} (hg : ∀ ds τ τ', gs ds τ = some τ' → ds.length = n) : ∀ ds τ τ', mgCons g gs ds τ = some τ' → ds.length = n + 1 := fun ds τ τ' h => by
  unfold mgCons at h
  split at h
  · split at h
    · rw [List.length_cons, hg _ _ _ h]
    · cases h
  · cases h
/-- target = value, the value data -/
def mAsg (g : D → Sl → Option Sl) (m : M S) : MS := fun τ => match m τ with
  | some (.d d, τ') => (match g d τ' with | some τ2 => some (.nx, τ2) | none => none)
  | _ => none
theorem rs_asg {tg : Expr} {g : D → Sl → Option Sl} (he : RX X p f e me) (hg : RG X P tg g) (hs : swapsWithSole [tg] e pos.line X.env = pure false := by rfl) (hw : swappedStores [tg] e X.env = pure none := by rfl)
    (h1 : (assignEach [tg] X.env).map (·.2) = [assign tg X.env] := by rfl) : RS X P (.Assign [tg] e pos) (mAsg g me) := by
  refine ⟨ps_imp (ps_asg he.pe hg.pg hs hw h1) fun D σ H q => ?_⟩
  obtain ⟨B, τ, os, ok, q⟩ := q
  refine ⟨B, τ, os, ok, ?_⟩
  unfold mAsg at q
  split at q
  · rename_i d τ1 e1
    split at q
    · rename_i τ2 e2
      rw [e1]
      intro v B1 H1 ov os1 w1 ok1 fh fr1
      exact ⟨B1, d, τ1, τ2, os1, ok1, ow_d w1, e2, fun σ2 os2 pn2 ok2 h2 _ => q σ2 B1 H1 os2 pn2 ok2 (fr1.weak.sub h2)⟩
    · exact q.elim
  · exact q.elim

/-! ### name op= e -/
def mAug (i : Nat) (g : S → S → Option D) (m : M S) : MS := fun τ => match τ[i]? with
  | some (some (.d x)) => (match m τ with
    | some (s, τ') => (match g (.d x) s with | some d => if i < τ'.length then some (.nx, τ'.set i (some (.d d))) else none | none => none)
    | none => none)
  | _ => none
theorem rs_aug {i : Nat} {x : Str} {op : Operator} {r : R2} {g : S → S → Option D} {pos' : Pos} (hN : X.N.Nodup) (ho : OpR X (inplaceOp op) r) (og : Op2 X.K r g) (he : RX X p f e me) (hP : i ∉ P := by decide) (hi : X.N[i]? = some x := by rfl) (hx : Loc X.env.scope x := by first | exact .inl rfl | exact .inr rfl)
    (hf : X.fn x = true ∨ X.env.scope.names.lookup x = some .local := by first | exact .inl rfl | exact .inr rfl | assumption) : RS X P (.AugAssign (.Name x pos') op e pos) (mAug i g me) := by
  refine ⟨ps_imp (ps_aug hN hi hx he.pe ho hf) fun D σ H q => ?_⟩
  obtain ⟨B, τ, os, ok, q⟩ := q
  unfold mAug at q
  split at q
  · rename_i x0 e0
    split at q
    · rename_i s τ1 e1
      split at q
      · rename_i d e2
        split at q
        · rename_i hl
          obtain ⟨v0, o0, h1, h2, h3⟩ := ok.sl.get e0
          refine ⟨v0, h1, B, τ, os, ok, ?_⟩
          rw [e1]
          intro v B1 H1 ov os1 w1 ok1 fh fr1
          refine og B1 H1 v0 v (.d x0) s [] ov d _ ok1.ex (.d ((ow_d h2).mono fr1.bb)) w1 e2 fun z B2 H2 rp gr => ?_
          obtain ⟨os3, ok3, h4⟩ := (gr.ok ok1).putD rp hl
          refine q _ B2 H2 os3 (Pin.set hP) ok3 ?_
          have fz := fr1.trans (gr.fr (p := true) (os := os1)) fun _ h => h
          exact fz.weak.sub h4
        · exact q.elim
      · exact q.elim
    · exact q.elim
  · exact q.elim
theorem iop_addA {X : Cx} : OpR X (inplaceOp .Add) (fun x y H Q => rI0 (fun i j => .int (i + j)) x y H Q ∨ (∃ i j, x = .str i ∧ y = .str j ∧ i.length + j.length ≤ sizeLine ∧ Q (.str (i ++ j)) H)) := iop_add.or iop_add_str
def gIAdd : S → S → Option D
  | .d (.int i), .d (.int j) => some (.int (i + j))
  | .d (.str a), .d (.str b) => if a.length + b.length ≤ LIM then some (.str (a ++ b)) else none
  | _, _ => none
theorem og_iadd {K : PySem.W.Frag} : Op2 K (fun x y H Q => rI0 (fun i j => .int (i + j)) x y H Q ∨ (∃ i j, x = .str i ∧ y = .str j ∧ i.length + j.length ≤ sizeLine ∧ Q (.str (i ++ j)) H)) gIAdd := by
  intro B H x y s u ox oy d Q ex w1 w2 h k
  unfold gIAdd at h
  split at h
  · cases h
    cases rp_int (ow_d w1)
    cases rp_int (ow_d w2)
    exact .inl ⟨_, _, rfl, rfl, k _ _ _ (.int _) (Gr.refl ex)⟩
  · rename_i a b
    split at h
    · rename_i hl
      cases h
      cases rp_str (ow_d w1)
      cases rp_str (ow_d w2)
      exact .inr ⟨_, _, rfl, rfl, by rw [← lim_eq]; exact hl, k _ _ _ (.str _) (Gr.refl ex)⟩
    · cases h
  · cases h
end
end Tr

/-! what is walked; for, while, comprehensions -/
namespace Tr
open PySem PySem.Spec PyProof.Rows L2

def Walk (K : PySem.W.Frag) (B : Hp) (J : It) (ds : List D) : Prop := ∀ (B2 H2 : Hp) (i : Nat), Same B B2 → Same B2 H2 →
  (∀ d, ds[i]? = some d → J.go i H2 ∧ ∀ x H', J.yld i H2 x H' → ∃ B3, Rp K B3 x d ∧ Gr B2 H2 B3 H') ∧ (ds.length ≤ i → J.stop i H2)
def PostI (K : PySem.W.Frag) (p : Bool) (σ : L2.St) (B H : Hp) (os : List Addr) (R : It → Hp → Prop) : Option (List D × Sl) → Prop
  | none => False
  | some (ds, τ') => ∀ B' H' os' J, Ok K B' H' σ τ' os' → Fr p B H os B' H' os' → Walk K B' J ds → R J H'
structure RI (X : Cx) (p : Bool) (tg iter : Expr) (m : M (List D)) : Prop where
  pi : PI X tg iter fun σ H R => ∃ B τ os, Ok X.K B H σ τ os ∧ PostI X.K p σ B H os R (m τ)
  pu : p = true → Pure m
theorem pi_imp {X : Cx} {tg e : Expr} {t t' : TI} (h : PI X tg e t) (i : ∀ σ H R, t' σ H R → t σ H R) : PI X tg e t' := ⟨fun pins s σ H R I q => h.run pins s σ H R I (i _ _ _ q)⟩
theorem pi_or {X : Cx} {tg e : Expr} {t t' : TI} (h : PI X tg e t) (h' : PI X tg e t') : PI X tg e fun σ H R => t σ H R ∨ t' σ H R := ⟨fun pins s σ H R I q => q.elim (h.run pins s σ H R I) (h'.run pins s σ H R I)⟩
def itemsD : D → Option (List D)
  | .lst xs => some xs | .tup xs => some xs | .scr ns => some (ns.map D.int)
  | .str x => some (x.cps.toList.map fun c => .str ⟨#[c]⟩)
  | _ => none
def mItems (m : M S) : M (List D) := fun τ => match m τ with
  | some (.d d, τ') => (match itemsD d with | some ds => some (ds, τ') | none => none)
  | _ => none
def rangeD (lo : Int) (n : Nat) : List D := (List.range n).map fun i => .int (lo + (i : Nat))
def mRange1 (m : M S) : M (List D) := fun τ => match m τ with
  | some (.d (.int j), τ') => if -(2 ^ 62) ≤ j ∧ j < 2 ^ 62 then some (rangeD 0 j.toNat, τ') else none
  | _ => none
def mRange2 (mr : M (List D)) : M (List D) := fun τ => match mr τ with
  | some ([.int i, .int j], τ') => if -(2 ^ 62) ≤ i ∧ i < 2 ^ 62 ∧ -(2 ^ 62) ≤ j ∧ j < 2 ^ 62 then some (rangeD i (j - i).toNat, τ') else none
  | _ => none
section
variable {X : Cx} {P : List Nat} {tg iter e a b : Expr} {m ma : M S} {mi mr : M (List D)} {p p1 p2 f : Bool} {pos : Pos}
theorem pure_mItems (h : Pure m) : Pure (mItems m) := fun τ s τ' q => by
  unfold mItems at q
  split at q
  · split at q <;> cases q
    exact h _ _ _ (by assumption)
  · cases q
theorem pure_mRange1 (h : Pure m) : Pure (mRange1 m) := fun τ s τ' q => by
  unfold mRange1 at q
  split at q
  · split at q <;> cases q
    exact h _ _ _ (by assumption)
  · cases q
theorem pure_mRange2 (h : Pure mr) : Pure (mRange2 mr) := fun τ s τ' q => by
  unfold mRange2 at q
  split at q
  · split at q <;> cases q
    exact h _ _ _ (by assumption)
  · cases q
theorem walk_list {K : PySem.W.Frag} {B : Hp} {a : Addr} {vs : List V} {ds : List D} (h : SqL K B a vs) (r : RpL K B vs ds) (uniq : ∀ H2, Same B H2 → SqL K H2 a vs) : Walk K B (Itl K a) ds := by
  intro B2 H2 i e1 e2
  have hq : SqL K H2 a vs := e2.seq (e1.seq h)
  refine ⟨fun d hd => ?_, fun hl => ⟨vs, hq, by rw [r.length]; exact hl⟩⟩
  obtain ⟨v, hv, rv⟩ := r.get hd
  refine ⟨⟨vs, v, hq, hv⟩, fun x H' y => ?_⟩
  obtain ⟨rfl, y⟩ := y
  have : x = v := Option.some.inj ((y vs hq).symm.trans hv)
  subst this
  exact ⟨B2, rv.mono e1, Gr.refl e2⟩
theorem walk_tup {K : PySem.W.Frag} {B : Hp} {a : Addr} {vs : List V} {ds : List D} (h : SqT K B a vs) (r : RpL K B vs ds) : Walk K B (Itt K a) ds := by
  intro B2 H2 i e1 e2
  have hq : SqT K H2 a vs := sqt_mono e2 (sqt_mono e1 h)
  refine ⟨fun d hd => ?_, fun hl => ⟨vs, hq, by rw [r.length]; exact hl⟩⟩
  obtain ⟨v, hv, rv⟩ := r.get hd
  refine ⟨⟨vs, v, hq, hv⟩, fun x H' y => ?_⟩
  obtain ⟨rfl, y⟩ := y
  have : x = v := Option.some.inj ((y vs hq).symm.trans hv)
  subst this
  exact ⟨B2, rv.mono e1, Gr.refl e2⟩
theorem walk_range {K : PySem.W.Frag} {B : Hp} {lo : Int} {n : Nat} : Walk K B (Itr lo n) (rangeD lo n) := by
  intro B2 H2 i e1 e2
  have hl : (rangeD lo n).length = n := by unfold rangeD; rw [List.length_map, List.length_range]
  refine ⟨fun d hd => ?_, fun h => by rw [hl] at h; exact h⟩
  have hi : i < n := by
    rw [← hl]
    exact (List.getElem?_eq_some_iff.mp hd).1
  refine ⟨hi, fun x H' y => ?_⟩
  obtain ⟨rfl, rfl⟩ := y
  unfold rangeD at hd
  rw [List.getElem?_map, List.getElem?_range hi] at hd
  cases hd
  exact ⟨B2, .int _, Gr.refl e2⟩
theorem walk_str {K : PySem.W.Frag} {B : Hp} {x : Str} : Walk K B (Its x) (x.cps.toList.map fun c => .str ⟨#[c]⟩) := by
  intro B2 H2 i e1 e2
  refine ⟨fun d hd => ?_, fun h => by
    show x.cps.size ≤ i
    simpa using h⟩
  have hi : i < x.cps.size := by
    have z := (List.getElem?_eq_some_iff.mp hd).1
    simpa using z
  refine ⟨hi, fun v H' y => ?_⟩
  obtain ⟨rfl, c, h1, rfl⟩ := y
  rw [List.getElem?_map, Array.getElem?_toList, h1] at hd
  cases hd
  exact ⟨B2, .str _, Gr.refl e2⟩
/-- a list, a tuple, the script, a text -/
theorem ri_items (he : RX X p f e m) : RI X p tg e (mItems m) := by
  refine ⟨pi_imp (pi_or (pi_list he.pe) (pi_or (pi_tup he.pe) (pi_str he.pe))) fun σ H R q => ?_, fun z => pure_mItems (he.pu z)⟩
  obtain ⟨B, τ, os, ok, q⟩ := q
  unfold mItems at q
  split at q
  · rename_i d τ1 e1
    split at q
    · rename_i ds e2
      have go : ∀ {Q : VK}, (∀ v B' H' os', Rp X.K B' v d → Ok X.K B' H' σ τ1 os' → Fr p B H os B' H' os' → Q v H') → tOf X.K p f m σ H Q := fun {Q} k => ⟨B, τ, os, ok, by
        rw [e1]
        exact fun v B' H' ov os' w ok' _ fr => k v B' H' os' (ow_d w) ok' fr⟩
      cases d with
      | lst xs =>
        cases e2
        refine .inl (go fun v B' H' os' r ok' fr => ?_)
        cases r with
        | lst h1 r1 => exact ⟨_, rfl, ⟨_, SqL.of (ok'.ex _ _ h1)⟩, q B' H' os' _ ok' fr (walk_list (SqL.of h1) r1 fun H2 e => e.seq (SqL.of h1))⟩
      | tup xs =>
        cases e2
        refine .inr (.inl (go fun v B' H' os' r ok' fr => ?_))
        cases r with
        | tup h1 r1 => exact ⟨_, rfl, ⟨_, sqt_of (ok'.ex _ _ h1)⟩, q B' H' os' _ ok' fr (walk_tup (sqt_of h1) r1)⟩
      | scr ns =>
        cases e2
        refine .inl (go fun v B' H' os' r ok' fr => ?_)
        cases r with
        | scr h1 => exact ⟨_, rfl, ⟨_, ok'.ex.seq h1⟩, q B' H' os' _ ok' fr (walk_list h1 (rpl_ints ns) fun H2 e => e.seq h1)⟩
      | str x =>
        cases e2
        refine .inr (.inr (go fun v B' H' os' r ok' fr => ?_))
        cases rp_str r
        exact ⟨x, rfl, q B' H' os' _ ok' fr walk_str⟩
      | _ => cases e2
    · exact q.elim
  · exact q.elim
theorem ri_range1 {px : Pos} (he : RX X p f a m) (hm : X.mg "range" = none) (hg : Gl X "range" := by rfl) (hs : starEach [a] X.env = [(false, eval a X.env)] := by rfl) : RI X p tg (.Call (.Name "range" px) [a] [] pos) (mRange1 m) := by
  refine ⟨pi_imp (pi_range1 hg hm (pa_cons he.pe pa_nil hs) hs) fun σ H R q => ?_, fun z => pure_mRange1 (he.pu z)⟩
  obtain ⟨B, τ, os, ok, q⟩ := q
  refine ⟨B, τ, os, ok, ?_⟩
  unfold mRange1 at q
  split at q
  · rename_i j τ1 e1
    split at q
    · rename_i hj
      rw [e1]
      intro v B' H' ov os' w ok' _ fr
      cases rp_int (ow_d w)
      exact ⟨j, rfl, hj.1, hj.2, q B' H' os' _ ok' fr walk_range⟩
    · exact q.elim
  · exact q.elim
theorem ri_range2 {px : Pos} (he : RA X p [a, b] mr) (hm : X.mg "range" = none) (hg : Gl X "range" := by rfl) (hs : starEach [a, b] X.env = [(false, eval a X.env), (false, eval b X.env)] := by rfl) (hs2 : starEach [b] X.env = [(false, eval b X.env)] := by rfl) :
    RI X p tg (.Call (.Name "range" px) [a, b] [] pos) (mRange2 mr) := by
  refine ⟨pi_imp (pi_range2 hg hm he.pa hs hs2) fun σ H R q => ?_, fun z => pure_mRange2 (he.pu z)⟩
  obtain ⟨B, τ, os, ok, q⟩ := q
  refine ⟨B, τ, os, ok, ?_⟩
  unfold mRange2 at q
  split at q
  · rename_i i j τ1 e1
    split at q
    · rename_i hj
      rw [e1]
      intro vs B' H' os' r ok' fr
      cases r with
      | cons r1 r2 =>
        cases r2 with
        | cons r2 r3 =>
          cases r3
          cases rp_int r1
          cases rp_int r2
          exact ⟨i, j, rfl, hj, q B' H' os' _ ok' fr walk_range⟩
    · exact q.elim
  · exact q.elim

/-! ### for -/
def forM (g : D → Sl → Option Sl) (mb : MS) : List D → MS
  | [], τ => some (.nx, τ)
  | d :: r, τ => match g d τ with
    | none => none
    | some τ1 => match mb τ1 with
      | some (.nx, τ2) => forM g mb r τ2
      | some (.ct, τ2) => forM g mb r τ2
      | some (.bk, τ2) => some (.nx, τ2)
      | some (.rt s, τ2) => some (.rt s, τ2)
      | none => none
def mFor (mi : M (List D)) (g : D → Sl → Option Sl) (mb : MS) : MS := fun τ => match mi τ with
  | some (ds, τ1) => forM g mb ds τ1
  | none => none
variable {g : D → Sl → Option Sl} {mb : MS} {body : List Stmt} {c : Expr} {t : M Bool}
theorem post_body {K : PySem.W.Frag} {σ : L2.St} {B H : Hp} {os : List Addr} {D : Ends} {N : L2.St → Hp → Prop} {r : List Tr.D} {o : Option (SOut × Sl)}
    (h : PostS K P σ B H os D (match o with
      | some (.nx, τ2) => forM g mb r τ2
      | some (.ct, τ2) => forM g mb r τ2
      | some (.bk, τ2) => some (.nx, τ2)
      | some (.rt s, τ2) => some (.rt s, τ2)
      | none => none))
    (hN : ∀ σ' B' H' os' τ2, Pin P σ σ' → Ok K B' H' σ' τ2 os' → Fr false B H os B' H' os' → PostS K P σ' B' H' os' D (forM g mb r τ2) → N σ' H') : PostS K P σ B H os { D with nx := N, ct := N, bk := D.nx } o := by
  match o, h with
  | none, h => exact h
  | some (.nx, τ2), h => exact fun σ' B' H' os' pn ok fr => hN σ' B' H' os' τ2 pn ok fr (h.from pn fr)
  | some (.ct, τ2), h => exact fun σ' B' H' os' pn ok fr => hN σ' B' H' os' τ2 pn ok fr (h.from pn fr)
  | some (.bk, τ2), h => exact h
  | some (.rt s, τ2), h => exact h
theorem rs_for (hp : PassesOwn (model X.prog X.w) X.A X.env X.xe) (hc : X.calm = true) (hi : RI X p tg iter mi) (hg : RG X P tg g) (hb : RSs X P body mb) (hs : ∀ x, foldedSetIterable iter X.env x = pure x := by intro _; rfl) : RS X P (.For tg iter body [] pos) (mFor mi g mb) := by
  refine ⟨ps_imp (ps_for hp hc hi.pi hg.pg hb.ps hs) fun D σ H q => ?_⟩
  obtain ⟨B, τ, os, ok, q⟩ := q
  refine ⟨B, τ, os, ok, ?_⟩
  unfold mFor at q
  split at q
  · rename_i ds τ1 e1
    rw [e1]
    intro B1 H1 os1 J ok1 fr1 wk
    refine ⟨fun i m σ' H' => m = ds.length - i ∧ i ≤ ds.length ∧ ∃ B' τ' os', Ok X.K B' H' σ' τ' os' ∧ Same B1 B' ∧ PostS X.K P σ' B' H' os' D (forM g mb (ds.drop i) τ'), ⟨_, rfl, Nat.zero_le _, B1, τ1, os1, ok1, fun _ _ h => h, by rw [List.drop_zero]; exact q.from Pin.refl fr1⟩, ?_⟩
    rintro i m σ2 H2 ⟨rfl, hi, B2, τ2, os2, ok2, e2, post⟩
    obtain ⟨go, stop⟩ := wk B2 H2 i e2 ok2.ex
    by_cases hlt : i < ds.length
    · have hd : ds[i]? = some ds[i] := List.getElem?_eq_getElem hlt
      obtain ⟨g1, y1⟩ := go _ hd
      refine .inr ⟨g1, fun σ' H' => i < ds.length ∧ ∃ B' τ' os', Ok X.K B' H' σ' τ' os' ∧ Same B1 B' ∧ PostS X.K P σ' B' H' os' D (forM g mb (ds.drop (i + 1)) τ'), fun σ' H' n => ⟨ds.length - (i + 1), by omega, rfl, hlt, n.2⟩, fun x H3 y => ?_⟩
      obtain ⟨B3, rx, gr⟩ := y1 x H3 y
      rw [List.drop_eq_getElem_cons hlt] at post
      unfold forM at post
      split at post
      · exact post.elim
      · rename_i τ3 e3
        refine ⟨B3, _, τ2, τ3, os2, gr.ok ok2, rx, e3, fun σ4 os4 pn4 ok4 h4 _ => ⟨B3, τ3, os4, ok4, ?_⟩⟩
        have fr4 : Fr false B2 H2 os2 B3 H3 os4 := ((gr.fr (p := false) (os := os2)).sub h4)
        refine post_body (post.from pn4 fr4) fun σ5 B5 H5 os5 τ5 pn5 ok5 fr5 post5 => ⟨hlt, B5, τ5, os5, ok5, fun a o h => fr5.bb a o (gr.bb a o (e2 a o h)), post5⟩
    · have e : ds.drop i = [] := List.drop_of_length_le (by omega)
      rw [e] at post
      exact .inl ⟨stop (by omega), post σ2 B2 H2 os2 Pin.refl ok2 Fr.refl⟩
  · exact q.elim

/-! ### while: n turns at most -/
def mWhile (t : M Bool) (mb : MS) : Nat → MS
  | 0, _ => none
  | n + 1, τ => match t τ with
    | some (false, τ1) => some (.nx, τ1)
    | some (true, τ1) => (match mb τ1 with
      | some (.nx, τ2) => mWhile t mb n τ2
      | some (.ct, τ2) => mWhile t mb n τ2
      | some (.bk, τ2) => some (.nx, τ2)
      | some (.rt s, τ2) => some (.rt s, τ2)
      | none => none)
    | none => none
theorem rs_while (n : Nat) (hp : PassesOwn (model X.prog X.w) X.A X.env X.xe) (hc : RT X p c t) (hb : RSs X P body mb) : RS X P (.While c body [] pos) (mWhile t mb n) := by
  refine ⟨ps_imp (ps_while hp hc.pt hb.ps) fun D σ H q => ?_⟩
  refine ⟨fun m σ' H' => ∃ B' τ' os', Ok X.K B' H' σ' τ' os' ∧ PostS X.K P σ' B' H' os' D (mWhile t mb m τ'), ⟨n, q⟩, ?_⟩
  rintro m σ2 H2 ⟨B2, τ2, os2, ok2, post⟩
  refine ⟨B2, τ2, os2, ok2, ?_⟩
  cases m with
  | zero => exact post.elim
  | succ m =>
    unfold mWhile at post
    split at post
    · rename_i τ3 e3
      rw [e3]
      intro B3 H3 os3 ok3 fr3
      exact iteF (post σ2 B3 H3 os3 Pin.refl ok3 fr3.weak)
    · rename_i τ3 e3
      rw [e3]
      intro B3 H3 os3 ok3 fr3
      refine iteT ⟨fun σ' H' => ∃ B' τ' os', Ok X.K B' H' σ' τ' os' ∧ PostS X.K P σ' B' H' os' D (mWhile t mb m τ'), fun σ' H' h => ⟨m, Nat.lt_succ_self m, h⟩, B3, τ3, os3, ok3, ?_⟩
      have post := post.from Pin.refl fr3
      revert post
      cases mb τ3 with
      | none => exact fun h => h
      | some r =>
        obtain ⟨o, τ4⟩ := r
        cases o with
        | nx => exact fun h σ' B' H' os' pn ok fr => ⟨B', τ4, os', ok, h.from pn fr⟩
        | ct => exact fun h σ' B' H' os' pn ok fr => ⟨B', τ4, os', ok, h.from pn fr⟩
        | bk => exact fun h => h
        | rt s => exact fun h => h
    · exact post.elim
end
end Tr

/-! comprehensions -/
namespace Tr
open PySem PySem.Spec PyProof.Rows L2

def wipeT (τ : Sl) : List Nat → Sl
  | [] => τ
  | v :: vs => (wipeT τ vs).set v none
/-- the slots vs as they stood -/
def unwipe (τ0 τ : Sl) : List Nat → Sl
  | [] => τ
  | v :: vs => match τ0[v]? with | some o => (unwipe τ0 τ vs).set v o | none => unwipe τ0 τ vs
/-- nothing owned stands in the slots vs -/
def calmAt (τ : Sl) (vs : List Nat) : Bool := vs.all fun v => match τ[v]? with | some none => true | some (some (.d _)) => true | _ => false
def compM (g : D → Sl → Option Sl) (mt : M Bool) (me : M S) (vs : List Nat) : List D → Sl → Option (List D × Sl)
  | [], τ => some ([], τ)
  | d :: r, τ => match g d τ with
    | none => none
    | some τ1 => match mt τ1 with
      | some (true, τ2) => (match me τ2 with
        | some (.d x, τ3) => (match compM g mt me vs r (wipeT τ3 vs) with | some (xs, τ4) => some (x :: xs, τ4) | none => none)
        | _ => none)
      | some (false, τ2) => compM g mt me vs r (wipeT τ2 vs)
      | none => none
def mComp (n : Nat) (mi : M (List D)) (g : D → Sl → Option Sl) (mt : M Bool) (me : M S) (vs : List Nat) : M (List D) := fun τ => match mi τ with
  | some (ds, τ1) => if τ1.length = n ∧ calmAt τ1 vs = true ∧ ds.length < LIM then
      (match compM g mt me vs ds (wipeT τ1 vs) with | some (xs, τ2) => some (xs, unwipe τ1 τ2 vs) | none => none) else none
  | none => none
def mYes : M Bool := fun τ => some (true, τ)
def mLC (m : M (List D)) : M S := fun τ => match m τ with | some (xs, τ') => some (.d (.lst xs), τ') | none => none
def mLCO (m : M (List D)) : M S := fun τ => match m τ with | some (xs, τ') => some (.lst (xs.map S.d), τ') | none => none
theorem wipeT_length (τ : Sl) : ∀ vs : List Nat, (wipeT τ vs).length = τ.length
  | [] => rfl
  | v :: vs => by unfold wipeT; rw [List.length_set, wipeT_length τ vs]
/-- slots kept, emptied, or filled with data -/
theorem ows_mix {K : PySem.W.Frag} {B H : Hp} : ∀ {σ' : L2.St} {τ' : Sl} {os : List Addr}, OwS K B H σ' τ' os → ∀ {σ : L2.St} {τ : Sl}, σ.length = σ'.length → τ.length = τ'.length →
    (∀ i, i < σ'.length → τ[i]? = some none ∨ (∃ x z, τ[i]? = some (some (.d x)) ∧ σ[i]? = some (some z) ∧ Rp K B z x) ∨ (τ[i]? = τ'[i]? ∧ σ[i]? = σ'[i]?)) → ∃ r, OwS K B H σ τ r ∧ (∀ a ∈ r, a ∈ os) ∧ (os.Nodup → r.Nodup)
  | _, _, _, .nil, [], [], _, _, _ => ⟨[], .nil, fun _ h => h, fun h => h⟩
  | _, _, _, .nil, _ :: _, _, h, _, _ => by simp at h
  | _, _, _, .nil, [], _ :: _, _, h, _ => by simp at h
  | _, _, _, .none _, [], _, h, _, _ => by simp at h
  | _, _, _, .none _, _ :: _, [], _, h, _ => by simp at h
  | _, _, _, .none r, u :: σ, t :: τ, h1, h2, k => by
    obtain ⟨q, g1, g2, g3⟩ := ows_mix r (σ := σ) (τ := τ) (by simpa using h1) (by simpa using h2) fun i hi => by simpa using k (i + 1) (by simpa using hi)
    rcases k 0 (by simp) with z | ⟨x, v, z1, z2, rp⟩ | ⟨z1, z2⟩
    · simp at z; subst z
      exact ⟨q, .none g1, g2, g3⟩
    · simp at z1 z2; subst z1; subst z2
      exact ⟨[] ++ q, .some (.d rp) g1, g2, g3⟩
    · simp at z1; subst z1
      exact ⟨q, .none g1, g2, g3⟩
  | _, _, _, .some _ _, [], _, h, _, _ => by simp at h
  | _, _, _, .some _ _, _ :: _, [], _, h, _ => by simp at h
  | _, _, _, .some (o := o) w r, u :: σ, t :: τ, h1, h2, k => by
    obtain ⟨q, g1, g2, g3⟩ := ows_mix r (σ := σ) (τ := τ) (by simpa using h1) (by simpa using h2) fun i hi => by simpa using k (i + 1) (by simpa using hi)
    have nd2 : ∀ {os : List Addr}, (o ++ os).Nodup → os.Nodup := fun n => (List.nodup_append.mp n).2.1
    rcases k 0 (by simp) with z | ⟨x, v, z1, z2, rp⟩ | ⟨z1, z2⟩
    · simp at z; subst z
      exact ⟨q, .none g1, fun a ha => List.mem_append_right _ (g2 a ha), fun n => g3 (nd2 n)⟩
    · simp at z1 z2; subst z1; subst z2
      exact ⟨[] ++ q, .some (.d rp) g1, fun a ha => List.mem_append_right _ (g2 a ha), fun n => g3 (nd2 n)⟩
    · simp at z1 z2; subst z1; subst z2
      refine ⟨o ++ q, .some w g1, fun a ha => ?_, fun n => ?_⟩
      · rcases List.mem_append.mp ha with m | m
        · exact List.mem_append_left _ m
        · exact List.mem_append_right _ (g2 a m)
      · obtain ⟨n1, n2, n3⟩ := List.nodup_append.mp n
        exact List.nodup_append.mpr ⟨n1, g3 n2, fun a ha b hb => n3 a ha b (g2 b hb)⟩
theorem wipe_get (σ : L2.St) : ∀ (vs : List Nat) (i : Nat), (L2.wipe σ vs)[i]? = if i ∈ vs ∧ i < σ.length then some none else σ[i]?
  | [], i => by simp [L2.wipe]
  | v :: vs, i => by
    unfold L2.wipe
    by_cases e : v = i
    · subst e
      by_cases hl : v < σ.length
      · rw [List.getElem?_set_self (by rw [wipe_length]; exact hl), if_pos ⟨List.mem_cons_self, hl⟩]
      · rw [List.getElem?_eq_none (by rw [List.length_set, wipe_length]; omega), if_neg (fun z => hl z.2), List.getElem?_eq_none (by omega)]
    · rw [List.getElem?_set_ne e, wipe_get σ vs i]
      by_cases h : i ∈ vs ∧ i < σ.length
      · rw [if_pos h, if_pos ⟨List.mem_cons_of_mem _ h.1, h.2⟩]
      · rw [if_neg h, if_neg fun z => h ⟨(List.mem_cons.mp z.1).resolve_left fun y => e y.symm, z.2⟩]
theorem wipeT_get (τ : Sl) : ∀ (vs : List Nat) (i : Nat), (wipeT τ vs)[i]? = if i ∈ vs ∧ i < τ.length then some none else τ[i]?
  | [], i => by simp [wipeT]
  | v :: vs, i => by
    unfold wipeT
    by_cases e : v = i
    · subst e
      by_cases hl : v < τ.length
      · rw [List.getElem?_set_self (by rw [wipeT_length]; exact hl), if_pos ⟨List.mem_cons_self, hl⟩]
      · rw [List.getElem?_eq_none (by rw [List.length_set, wipeT_length]; omega), if_neg (fun z => hl z.2), List.getElem?_eq_none (by omega)]
    · rw [List.getElem?_set_ne e, wipeT_get τ vs i]
      by_cases h : i ∈ vs ∧ i < τ.length
      · rw [if_pos h, if_pos ⟨List.mem_cons_of_mem _ h.1, h.2⟩]
      · rw [if_neg h, if_neg fun z => h ⟨(List.mem_cons.mp z.1).resolve_left fun y => e y.symm, z.2⟩]
theorem wipe_same {σ1 σ2 : L2.St} {vs : List Nat} (hl : σ2.length = σ1.length) (h : ∀ i, i < σ1.length → i ∉ vs → σ2[i]? = σ1[i]?) : L2.wipe σ2 vs = L2.wipe σ1 vs := by
  refine List.ext_getElem? fun i => ?_
  rw [wipe_get, wipe_get, hl]
  by_cases hi : i ∈ vs ∧ i < σ1.length
  · rw [if_pos hi, if_pos hi]
  · rw [if_neg hi, if_neg hi]
    by_cases hn : i < σ1.length
    · exact h i hn fun z => hi ⟨z, hn⟩
    · rw [List.getElem?_eq_none (by omega), List.getElem?_eq_none (by omega)]
theorem unwipe_length (τ0 τ : Sl) : ∀ vs : List Nat, (unwipe τ0 τ vs).length = τ.length
  | [] => rfl
  | v :: vs => by
    unfold unwipe
    split
    · rw [List.length_set, unwipe_length τ0 τ vs]
    · exact unwipe_length τ0 τ vs
theorem unwipe_get (τ0 τ : Sl) (hl : τ0.length = τ.length) : ∀ (vs : List Nat) (i : Nat), (unwipe τ0 τ vs)[i]? = if i ∈ vs then τ0[i]? else τ[i]?
  | [], i => by simp [unwipe]
  | v :: vs, i => by
    unfold unwipe
    by_cases e : v = i
    · subst e
      rw [if_pos List.mem_cons_self]
      split
      · rename_i o ho
        have hi := (List.getElem?_eq_some_iff.mp ho).1
        rw [List.getElem?_set_self (by rw [unwipe_length]; omega), ho]
      · rename_i ho
        rw [ho, List.getElem?_eq_none (by rw [unwipe_length, ← hl]; exact List.getElem?_eq_none_iff.mp ho)]
    · have hm : i ∈ v :: vs ↔ i ∈ vs := by
        rw [List.mem_cons]
        exact ⟨fun z => z.resolve_left fun y => e y.symm, .inr⟩
      simp only [hm]
      split
      · rw [List.getElem?_set_ne e]
        exact unwipe_get τ0 τ hl vs i
      · exact unwipe_get τ0 τ hl vs i
theorem ok_wipe {K : PySem.W.Frag} {B H : Hp} {σ : L2.St} {τ : Sl} {os : List Addr} (ok : Ok K B H σ τ os) (vs : List Nat) : ∃ r, Ok K B H (L2.wipe σ vs) (wipeT τ vs) r ∧ ∀ a ∈ r, a ∈ os := by
  have hl := ok.sl.length
  obtain ⟨r, h1, h2, h3⟩ := ows_mix ok.sl (σ := L2.wipe σ vs) (τ := wipeT τ vs) (wipe_length σ vs) (wipeT_length τ vs) fun i hi => by
    rw [wipe_get, wipeT_get]
    by_cases hv : i ∈ vs
    · exact .inl (if_pos ⟨hv, by omega⟩)
    · exact .inr (.inr ⟨if_neg fun z => hv z.1, if_neg fun z => hv z.1⟩)
  exact ⟨r, ⟨ok.ex, h1, h3 ok.nd⟩, h2⟩
theorem calmAt_get {τ : Sl} {vs : List Nat} (h : calmAt τ vs = true) {i : Nat} (hi : i ∈ vs) : τ[i]? = some none ∨ ∃ x, τ[i]? = some (some (.d x)) := by
  have z := List.all_eq_true.mp h i hi
  split at z
  · exact .inl (by assumption)
  · exact .inr ⟨_, by assumption⟩
  · cases z
/-- behind the block: its slots as they stood -/
theorem ok_unwipe {K : PySem.W.Frag} {B1 H1 B H : Hp} {σ : L2.St} {τ1 τ2 : Sl} {os1 os : List Addr} {vs : List Nat} (ok1 : Ok K B1 H1 σ τ1 os1) (hc : calmAt τ1 vs = true) (bb : Same B1 B) (ok : Ok K B H (L2.wipe σ vs) τ2 os) :
    ∃ r, Ok K B H σ (unwipe τ1 τ2 vs) r ∧ ∀ a ∈ r, a ∈ os := by
  have hl1 := ok1.sl.length
  have hl2 := ok.sl.length
  rw [wipe_length] at hl2
  obtain ⟨r, h1, h2, h3⟩ := ows_mix ok.sl (σ := σ) (τ := unwipe τ1 τ2 vs) (wipe_length σ vs).symm (unwipe_length τ1 τ2 vs) fun i hi => by
    rw [wipe_length] at hi
    rw [wipe_get, unwipe_get τ1 τ2 (by omega)]
    by_cases hv : i ∈ vs
    · rw [if_pos hv]
      rcases calmAt_get hc hv with z | ⟨x, z⟩
      · exact .inl z
      · obtain ⟨v, o, g1, g2, _⟩ := ok1.sl.get z
        exact .inr (.inl ⟨x, v, z, g1, (ow_d g2).mono bb⟩)
    · rw [if_neg hv, if_neg fun z => hv z.1]
      exact .inr (.inr ⟨rfl, rfl⟩)
  exact ⟨r, ⟨ok.ex, h1, h3 ok.nd⟩, h2⟩

/-- tests of a comprehension -/
structure RTs (X : Cx) (ifs : List Expr) (m : M Bool) : Prop where
  pt : PTs X ifs (ttOf X.K false m)
theorem pts_imp {X : Cx} {e : List Expr} {t t' : TT} (h : PTs X e t) (i : ∀ σ H Q, t' σ H Q → t σ H Q) : PTs X e t' := ⟨fun pins s σ H Q I q => h.run pins s σ H Q I (i _ _ _ q)⟩
theorem rts_nil {X : Cx} : RTs X [] mYes := ⟨pts_imp pts_nil fun σ H Q q => by
  obtain ⟨B, τ, os, ok, q⟩ := q
  exact q B H os ok Fr.refl⟩
theorem rts_one {X : Cx} {c : Expr} {p : Bool} {m : M Bool} (h : RT X p c m) : RTs X [c] m := ⟨pts_imp (pts_one h.pt) fun σ H Q q => by
  obtain ⟨B, τ, os, ok, q⟩ := q
  refine ⟨B, τ, os, ok, ?_⟩
  revert q
  cases m τ with
  | none => exact fun q => q
  | some r => exact fun q B' H' os' ok' fr => q B' H' os' ok' fr.weak⟩
theorem ok_mut {K : PySem.W.Frag} {B H : Hp} {σ : L2.St} {τ : Sl} {os : List Addr} {a : Addr} {o : HO} (ok : Ok K B H σ τ os) (hb : B a = none) (ha : a ∉ os) : Ok K B (upd H a o) σ τ os :=
  ⟨fun c u h => by rw [upd_ne (ne_of_none h hb)]; exact ok.ex c u h, ok.sl.mono (fun _ _ h => h) fun c hc => ⟨(ok.sl.mem c hc).1, upd_ne fun e => ha (by rw [← e]; exact hc)⟩, ok.nd⟩
theorem fr_mutNew {p : Bool} {B H B' H' : Hp} {os os' : List Addr} {a : Addr} {o : HO} (f : Fr p B H os B' H' os') (ha : H a = none) : Fr p B H os B' (upd H' a o) os' :=
  ⟨f.bb, fun c u h q => by rw [upd_ne (ne_of_none h ha)]; exact f.keep c u h q, fun c h => by
    by_cases z : c = a
    · rw [z]; exact ha
    · rw [upd_ne z] at h; exact f.thr c h, f.own, f.frz⟩
/-- an object that is nobody's stays through what others do -/
theorem aside {p : Bool} {B H B' H' : Hp} {os os' : List Addr} {a : Addr} {o : HO} (f : Fr p B H os B' H' os') (hb : B a = none) (h : H a = some o) (n : a ∉ os) : B' a = none ∧ H' a = some o ∧ a ∉ os' := by
  have z := f.stay (ov := [a]) (fun c hc => by rw [List.mem_singleton.mp hc]; exact ⟨hb, by rw [h]; simp⟩) (.inr fun c hc => by rw [List.mem_singleton.mp hc]; exact n) a (List.mem_singleton.mpr rfl)
  refine ⟨z.1, by rw [z.2]; exact h, fun m => ?_⟩
  rcases f.own a m with y | y
  · exact n y
  · rw [h] at y; cases y
/-- what a comprehension's reading asks -/
theorem lc_reads {X : Cx} {P' vs : List Nat} {mi : M (List D)} {g : D → Sl → Option Sl} {mt : M Bool} {me : M S} {wi : TI} {gg : TG} {tt : TT} {te : TE} {p pe fe : Bool} {n : Nat}
    (hwi : ∀ σ H R, (∃ B τ os, Ok X.K B H σ τ os ∧ PostI X.K p σ B H os R (mi τ)) → wi σ H R)
    (hgg : ∀ v σ H Q, (∃ B d τ τ' os, Ok X.K B H σ τ os ∧ Rp X.K B v d ∧ g d τ = some τ' ∧ ∀ σ' os', Pin P' σ σ' → Ok X.K B H σ' τ' os' → (∀ a ∈ os', a ∈ os) → σ'.length = σ.length → Q σ' H) → gg v σ H Q)
    (htt : ∀ σ H Q, ttOf X.K false mt σ H Q → tt σ H Q) (hte : ∀ σ H Q, tOf X.K pe fe me σ H Q → te σ H Q) (hP : ∀ i, i < n → i ∉ vs → i ∈ P')
    {σ : L2.St} {H : Hp} {B : Hp} {τ : Sl} {os : List Addr} (ok : Ok X.K B H σ τ os) {xs : List D} {τ' : Sl} (e : mComp n mi g mt me vs τ = some (xs, τ')) {Q : VK}
    (k : ∀ B' H' os' D acc, Ok X.K B' H' σ τ' os' → B' D = none → H' D = some (.lst acc) → RpL X.K B' acc xs → D ∉ os' → H D = none → Fr false B H os B' H' os' → Q (.ref D) H') : tLc wi gg tt te vs σ H Q := by
  unfold mComp at e
  split at e
  · rename_i ds τ1 e1
    split at e
    · rename_i hc
      obtain ⟨hn1, hc, hl⟩ := hc
      split at e
      · rename_i ys τ2 e2
        cases e
        refine hwi σ H _ ⟨B, τ, os, ok, ?_⟩
        rw [e1]
        intro B1 H1 os1 J ok1 fr1 wk Dl hD
        have hn : σ.length = n := ok1.sl.length.trans hn1
        obtain ⟨osw, okw, hw⟩ := ok_wipe ok1 vs
        obtain ⟨hbD, ok1', frD, naD⟩ := laidO (o := HO.lst []) okw hD
        refine ⟨fun i m H' => m = ds.length - i ∧ i ≤ ds.length ∧ ∃ B' τ' os' acc as rest, Ok X.K B' H' (L2.wipe σ vs) τ' os' ∧ Same B1 B' ∧ Fr false B1 H1 os1 B' H' os' ∧ B' Dl = none ∧ H' Dl = some (.lst acc) ∧ RpL X.K B' acc as ∧ Dl ∉ os' ∧ acc.length ≤ i ∧
          compM g mt me vs (ds.drop i) τ' = some (rest, τ2) ∧ xs = as ++ rest,
          ⟨_, rfl, Nat.zero_le _, B1, wipeT τ1 vs, osw, [], [], xs, ok1', fun _ _ h => h, ?_, hbD, upd_same, .nil, naD, Nat.le_refl _, by rw [List.drop_zero]; exact e2, rfl⟩, ?_⟩
        · exact ⟨frD.bb, fun a o h _ => frD.keep a o h (.inl rfl), frD.thr, fun a ha => .inl (hw a ha), fun a h z => absurd h z⟩
        · rintro i m H2 ⟨rfl, hi, B2, τ2', os2, acc, as, rest, ok2, bb2, fr2, hb2, hd2, ra, nd2, hal, ec, ex⟩
          obtain ⟨go, stop⟩ := wk B2 H2 i bb2 ok2.ex
          by_cases hlt : i < ds.length
          · have hd : ds[i]? = some ds[i] := List.getElem?_eq_getElem hlt
            obtain ⟨g1, y1⟩ := go _ hd
            rw [List.drop_eq_getElem_cons hlt] at ec
            unfold compM at ec
            split at ec
            · cases ec
            · rename_i τ3 e3
              refine .inr ⟨g1, fun H' => i + 1 ≤ ds.length ∧ ∃ B' τ' os' acc as rest, Ok X.K B' H' (L2.wipe σ vs) τ' os' ∧ Same B1 B' ∧ Fr false B1 H1 os1 B' H' os' ∧ B' Dl = none ∧ H' Dl = some (.lst acc) ∧ RpL X.K B' acc as ∧ Dl ∉ os' ∧ acc.length ≤ i + 1 ∧
                compM g mt me vs (ds.drop (i + 1)) τ' = some (rest, τ2) ∧ xs = as ++ rest, fun H' q => ⟨ds.length - (i + 1), by omega, rfl, q.1, q.2⟩, fun x H3 y => ?_⟩
              obtain ⟨B3, rx, gr⟩ := y1 x H3 y
              have grF : Fr true B2 H2 os2 B3 H3 os2 := gr.fr
              obtain ⟨hb3, hd3, nd3⟩ := aside grF hb2 hd2 nd2
              refine hgg _ _ _ _ ⟨B3, ds[i], τ2', τ3, os2, gr.ok ok2, rx, e3, fun σ4 os4 pn4 ok4 h4 l4 => ?_⟩
              have ew : L2.wipe σ4 vs = L2.wipe σ vs := wipe_same (by rw [l4, wipe_length]) fun j hj hv => by
                rw [pn4 j (hP j (by omega) hv), wipe_get, if_neg fun z => hv z.1]
              have nd4 : Dl ∉ os4 := fun z => nd2 (h4 _ z)
              have fr4 : Fr false B1 H1 os1 B3 H3 os4 := (fr2.trans grF.weak fun _ h => h).sub h4
              refine ⟨ew, htt _ _ _ ⟨B3, τ3, os4, ok4, ?_⟩⟩
              split at ec
              · rename_i τ4 e4
                rw [e4]
                intro B5 H5 os5 ok5 fr5
                obtain ⟨hb5, hd5, nd5⟩ := aside fr5 hb3 hd3 nd4
                refine iteT (hte _ _ _ ⟨B5, τ4, os5, ok5, ?_⟩)
                split at ec
                · rename_i y6 τ5 e5
                  rw [e5]
                  intro v B6 H6 ov os6 w6 ok6 _ fr6
                  obtain ⟨hb6, hd6, nd6⟩ := aside fr6 hb5 hd5 nd5
                  split at ec
                  · rename_i rest' τ6 e6
                    cases ec
                    obtain ⟨os7, ok7, h7⟩ := ok_wipe ok6 vs
                    rw [ew] at ok7
                    have nd7 : Dl ∉ os7 := fun z => nd6 (h7 _ z)
                    have bb6 : Same B2 B6 := fun a o h => fr6.bb a o (fr5.bb a o (gr.bb a o h))
                    refine ⟨acc, hd6, by rw [← lim_eq]; omega, hlt, B6, wipeT τ5 vs, os7, acc ++ [v], as ++ [y6], rest', ok_mut ok7 hb6 nd7, fun a o h => bb6 a o (bb2 a o h), ?_, hb6, upd_same, (ra.mono bb6).append (.cons (ow_d w6) .nil), nd7, ?_, e6, ?_⟩
                    · refine fr_mutNew ?_ hD
                      exact ((fr4.trans fr5.weak fun _ h => h).trans fr6.weak fun _ h => h).sub h7
                    · rw [List.length_append, List.length_singleton]
                      omega
                    · rw [ex, List.append_assoc]
                      rfl
                  · cases ec
                · cases ec
              · rename_i τ4 e4
                rw [e4]
                intro B5 H5 os5 ok5 fr5
                obtain ⟨hb5, hd5, nd5⟩ := aside fr5 hb3 hd3 nd4
                refine iteF ?_
                obtain ⟨os7, ok7, h7⟩ := ok_wipe ok5 vs
                rw [ew] at ok7
                have bb5 : Same B2 B5 := fun a o h => fr5.bb a o (gr.bb a o h)
                exact ⟨hlt, B5, wipeT τ4 vs, os7, acc, as, rest, ok7, fun a o h => bb5 a o (bb2 a o h), (fr4.trans fr5.weak fun _ h => h).sub h7, hb5, hd5, ra.mono bb5, fun z => nd5 (h7 _ z), by omega, ec, ex⟩
              · cases ec
          · have e : ds.drop i = [] := List.drop_of_length_le (by omega)
            rw [e] at ec
            cases ec
            rw [List.append_nil] at ex
            subst ex
            obtain ⟨r, ok3, h3⟩ := ok_unwipe ok1 hc bb2 ok2
            exact .inl ⟨stop (by omega), k B2 H2 r Dl acc ok3 hb2 hd2 ra (fun z => nd2 (h3 _ z)) (fr1.thr _ hD) ((fr1.weak.trans fr2 fun _ h => h).sub h3)⟩
      · cases e
    · cases e
  · cases e
section
variable {X : Cx} {P P' : List Nat} {tg iter elt : Expr} {ifs : List Expr} {scope : Scope} {own : List (Str × Nat)} {mi : M (List D)} {g : D → Sl → Option Sl} {mt : M Bool} {me : M S} {p pe fe f : Bool} {pos : Pos} {n : Nat}
/-- the list is nobody's any more -/
theorem lc_frozen {σ : L2.St} {H B : Hp} {os : List Addr} {xs : List D} {τ' : Sl} {Q : VK} (q : PostE X.K false f σ B H os Q (some (.d (.lst xs), τ'))) : ∀ B' H' os' D acc, Ok X.K B' H' σ τ' os' → B' D = none → H' D = some (.lst acc) → RpL X.K B' acc xs → D ∉ os' → H D = none → Fr false B H os B' H' os' → Q (.ref D) H' := by
  intro B' H' os' D acc ok' hb hd ra nd hD fr
  have ex2 : Same B' (upd B' D (.lst acc)) := fun c u h => by rw [upd_ne (ne_of_none h hb)]; exact h
  have ok2 : Ok X.K (upd B' D (.lst acc)) H' σ τ' os' := by
    refine ⟨fun c u h => ?_, ok'.sl.mono ex2 fun c hc => ⟨by rw [upd_ne fun e => nd (by rw [← e]; exact hc)]; exact (ok'.sl.mem c hc).1, rfl⟩, ok'.nd⟩
    by_cases z : c = D
    · subst z; rw [upd_same] at h; rw [hd]; exact h
    · rw [upd_ne z] at h; exact ok'.ex c u h
  refine q (.ref D) _ H' [] os' (.d (.lst upd_same (ra.mono ex2))) ok2 (fun _ => .nil ok2.nd) ⟨fun c u h => ex2 c u (fr.bb c u h), fr.keep, fr.thr, fr.own, fun c h z => ?_⟩
  by_cases y : c = D
  · subst y; exact .inr hD
  · rw [upd_ne y] at z; exact fr.frz c h z
theorem lc_owned {σ : L2.St} {H B : Hp} {os : List Addr} {xs : List D} {τ' : Sl} {Q : VK} (q : PostE X.K false f σ B H os Q (some (.lst (xs.map S.d), τ'))) : ∀ B' H' os' D acc, Ok X.K B' H' σ τ' os' → B' D = none → H' D = some (.lst acc) → RpL X.K B' acc xs → D ∉ os' → H D = none → Fr false B H os B' H' os' → Q (.ref D) H' := by
  intro B' H' os' D acc ok' hb hd ra nd hD fr
  refine q (.ref D) B' H' [D] os' (.lst hb hd (owl_ds ra)) ok' (fun _ => ⟨?_, fun c hc => ?_⟩) fr
  · exact List.nodup_append.mpr ⟨by simp, ok'.nd, fun c hc d hd e => nd (by rw [List.mem_singleton] at hc; rw [← hc, e]; exact hd)⟩
  · rw [List.mem_singleton.mp hc]
    exact .inr hD
theorem rx_lc (hc : X.calm = true) (hN : X.N.Nodup) (own : List (Str × Nat)) (P' : List Nat) (n : Nat) (hi : RI X p tg iter mi)
    (hg : ∀ (s : Shared) (H : Hp) (C : Addr) (cl : List (Str × Addr)) (fp : List Addr), RG (X.blk s H scope (compEnvC scope cl C X.env) fp) P' tg g) (ht : ∀ (s : Shared) (H : Hp) (C : Addr) (cl : List (Str × Addr)) (fp : List Addr), RTs (X.blk s H scope (compEnvC scope cl C X.env) fp) ifs mt)
    (he : ∀ (s : Shared) (H : Hp) (C : Addr) (cl : List (Str × Addr)) (fp : List Addr), RX (X.blk s H scope (compEnvC scope cl C X.env) fp) pe fe elt me) (ok : BlkOk X.N X.env.scope scope own) (hP : ∀ i, i < n → i ∉ own.map (·.2) → i ∈ P' := by decide)
    (hs : ∀ x, foldedSetIterable iter X.env x = pure x := by intro _; rfl) : RX X false f (.ListComp elt [⟨tg, iter, ifs, 0⟩] scope pos) (mLC (mComp n mi g mt me (own.map (·.2)))) := by
  refine ⟨pe_imp (pe_lc hc hN hi.pi ok (g := fun v σ H Q => ∃ B d τ τ' os, Ok X.K B H σ τ os ∧ Rp X.K B v d ∧ g d τ = some τ' ∧ ∀ σ' os', Pin P' σ σ' → Ok X.K B H σ' τ' os' → (∀ a ∈ os', a ∈ os) → σ'.length = σ.length → Q σ' H) (tt := ttOf X.K false mt) (te := tOf X.K pe fe me)
    (fun s H C cl fp => (hg s H C cl fp).pg) (fun s H C cl fp => (ht s H C cl fp).pt) (fun s H C cl fp => (he s H C cl fp).pe) hs) fun σ H Q q => ?_, fun z => by cases z⟩
  obtain ⟨B, τ, os, okk, q⟩ := q
  unfold mLC at q
  split at q
  · rename_i xs τ' e1
    exact lc_reads (fun _ _ _ h => h) (fun _ _ _ _ h => h) (fun _ _ _ h => h) (fun _ _ _ h => h) hP okk e1 (lc_frozen q)
  · exact q.elim
theorem rs_setLc {i : Nat} {y : Str} {py spos : Pos} (hc : X.calm = true) (hN : X.N.Nodup) (own : List (Str × Nat)) (P' : List Nat) (n : Nat) (hi : RI X p tg iter mi)
    (hg : ∀ (s : Shared) (H : Hp) (C : Addr) (cl : List (Str × Addr)) (fp : List Addr), RG (X.blk s H scope (compEnvC scope cl C X.env) fp) P' tg g) (ht : ∀ (s : Shared) (H : Hp) (C : Addr) (cl : List (Str × Addr)) (fp : List Addr), RTs (X.blk s H scope (compEnvC scope cl C X.env) fp) ifs mt)
    (he : ∀ (s : Shared) (H : Hp) (C : Addr) (cl : List (Str × Addr)) (fp : List Addr), RX (X.blk s H scope (compEnvC scope cl C X.env) fp) pe fe elt me) (ok : BlkOk X.N X.env.scope scope own)
    (hsw : swapsWith (.ListComp elt [⟨tg, iter, ifs, 0⟩] scope pos) (some (.Name y py)) spos.line X.env = pure true) (hP' : i ∉ P := by decide) (hy : X.N[i]? = some y := by rfl) (hyl : X.env.scope.names.lookup y = some .local := by rfl) (hP : ∀ i, i < n → i ∉ own.map (·.2) → i ∈ P' := by decide)
    (hs : ∀ x, foldedSetIterable iter X.env x = pure x := by intro _; rfl) : RS X P (.Assign [.Name y py] (.ListComp elt [⟨tg, iter, ifs, 0⟩] scope pos) spos) (mSet i (mLC (mComp n mi g mt me (own.map (·.2))))) := by
  refine ⟨ps_imp (ps_setLc hc hN hy hyl hsw hi.pi ok (g := fun v σ H Q => ∃ B d τ τ' os, Ok X.K B H σ τ os ∧ Rp X.K B v d ∧ g d τ = some τ' ∧ ∀ σ' os', Pin P' σ σ' → Ok X.K B H σ' τ' os' → (∀ a ∈ os', a ∈ os) → σ'.length = σ.length → Q σ' H) (tt := ttOf X.K false mt) (te := tOf X.K pe fe me)
    (fun s H C cl fp => (hg s H C cl fp).pg) (fun s H C cl fp => (ht s H C cl fp).pt) (fun s H C cl fp => (he s H C cl fp).pe) hs) fun D σ H q => ?_⟩
  obtain ⟨B, τ, os, okk, q⟩ := q
  unfold mSet mLC at q
  split at q
  · rename_i s τ' e1
    split at e1
    · rename_i xs τ1 e2
      cases e1
      split at q
      · rename_i hl
        refine lc_reads (Q := fun x H1 => gName i x σ H1 D.nx) (fun _ _ _ h => h) (fun _ _ _ _ h => h) (fun _ _ _ h => h) (fun _ _ _ h => h) hP okk e2 (lc_frozen (X := X) (σ := σ) (H := H) (B := B) (os := os) (xs := xs) (τ' := τ') (Q := fun x H1 => gName i x σ H1 D.nx) (f := true) fun v B1 H1 ov os1 w1 ok1 fh fr1 => ?_)
        obtain ⟨os2, ok2, h2⟩ := ok1.putD (ow_d w1) hl
        exact q _ B1 H1 os2 (Pin.set hP') ok2 (fr1.sub h2)
      · exact q.elim
    · cases e1
  · exact q.elim
/-- the list is the name's own -/
theorem rs_setLcO {i : Nat} {y : Str} {py spos : Pos} (hc : X.calm = true) (hN : X.N.Nodup) (own : List (Str × Nat)) (P' : List Nat) (n : Nat) (hi : RI X p tg iter mi)
    (hg : ∀ (s : Shared) (H : Hp) (C : Addr) (cl : List (Str × Addr)) (fp : List Addr), RG (X.blk s H scope (compEnvC scope cl C X.env) fp) P' tg g) (ht : ∀ (s : Shared) (H : Hp) (C : Addr) (cl : List (Str × Addr)) (fp : List Addr), RTs (X.blk s H scope (compEnvC scope cl C X.env) fp) ifs mt)
    (he : ∀ (s : Shared) (H : Hp) (C : Addr) (cl : List (Str × Addr)) (fp : List Addr), RX (X.blk s H scope (compEnvC scope cl C X.env) fp) pe fe elt me) (ok : BlkOk X.N X.env.scope scope own)
    (hsw : swapsWith (.ListComp elt [⟨tg, iter, ifs, 0⟩] scope pos) (some (.Name y py)) spos.line X.env = pure true) (hP' : i ∉ P := by decide) (hy : X.N[i]? = some y := by rfl) (hyl : X.env.scope.names.lookup y = some .local := by rfl) (hP : ∀ i, i < n → i ∉ own.map (·.2) → i ∈ P' := by decide)
    (hs : ∀ x, foldedSetIterable iter X.env x = pure x := by intro _; rfl) : RS X P (.Assign [.Name y py] (.ListComp elt [⟨tg, iter, ifs, 0⟩] scope pos) spos) (mSet i (mLCO (mComp n mi g mt me (own.map (·.2))))) := by
  refine ⟨ps_imp (ps_setLc hc hN hy hyl hsw hi.pi ok (g := fun v σ H Q => ∃ B d τ τ' os, Ok X.K B H σ τ os ∧ Rp X.K B v d ∧ g d τ = some τ' ∧ ∀ σ' os', Pin P' σ σ' → Ok X.K B H σ' τ' os' → (∀ a ∈ os', a ∈ os) → σ'.length = σ.length → Q σ' H) (tt := ttOf X.K false mt) (te := tOf X.K pe fe me)
    (fun s H C cl fp => (hg s H C cl fp).pg) (fun s H C cl fp => (ht s H C cl fp).pt) (fun s H C cl fp => (he s H C cl fp).pe) hs) fun D σ H q => ?_⟩
  obtain ⟨B, τ, os, okk, q⟩ := q
  unfold mSet mLCO at q
  split at q
  · rename_i s τ' e1
    split at e1
    · rename_i xs τ1 e2
      cases e1
      split at q
      · rename_i hl
        refine lc_reads (Q := fun x H1 => gName i x σ H1 D.nx) (fun _ _ _ h => h) (fun _ _ _ _ h => h) (fun _ _ _ h => h) (fun _ _ _ h => h) hP okk e2 (lc_owned (X := X) (σ := σ) (H := H) (B := B) (os := os) (xs := xs) (τ' := τ') (Q := fun x H1 => gName i x σ H1 D.nx) (f := true) fun v B1 H1 ov os1 w1 ok1 fh fr1 => ?_)
        obtain ⟨nd, fo⟩ := fh rfl
        obtain ⟨os2, ok2, h2⟩ := ok1.put w1 nd hl
        refine q _ B1 H1 os2 (Pin.set hP') ok2 ⟨fr1.bb, fr1.keep, fr1.thr, fun a ha => ?_, fr1.frz⟩
        rcases h2 a ha with z | z
        · exact (fo a z).imp (·.2) id
        · exact fr1.own a z
      · exact q.elim
    · cases e1
  · exact q.elim
end
end Tr

/-! lists that a name owns; calls of own defs; a def's promise -/
namespace Tr
open PySem PySem.Spec PyProof.Rows L2

section
variable {K : PySem.W.Frag} {B H : Hp}
theorem OwL.set : ∀ {vs : List V} {ss : List S} {os : List Addr} {n : Nat} {v : V} {d : D}, OwL K B H vs ss os → Rp K B v d → ∃ o, OwL K B H (vs.set n v) (ss.set n (.d d)) o ∧ (∀ a ∈ o, a ∈ os) ∧ (os.Nodup → o.Nodup)
  | _, _, _, _, _, _, .nil, _ => ⟨[], .nil, fun _ h => h, fun h => h⟩
  | _, _, _, 0, _, _, .cons h r, w => ⟨[] ++ _, .cons (.d w) r, fun a ha => List.mem_append_right _ ha, fun n => (List.nodup_append.mp n).2.1⟩
  | _, _, _, n + 1, _, _, .cons (o := o0) h r, w => by
    obtain ⟨o, h1, h2, h3⟩ := OwL.set (n := n) r w
    refine ⟨o0 ++ o, .cons h h1, fun a ha => ?_, fun n => ?_⟩
    · rcases List.mem_append.mp ha with m | m
      · exact List.mem_append_left _ m
      · exact List.mem_append_right _ (h2 a m)
    · obtain ⟨n1, n2, n3⟩ := List.nodup_append.mp n
      exact List.nodup_append.mpr ⟨n1, h3 n2, fun a ha b hb => n3 a ha b (h2 b hb)⟩
theorem OwL.snoc : ∀ {vs : List V} {ss : List S} {os : List Addr} {v : V} {d : D}, OwL K B H vs ss os → Rp K B v d → OwL K B H (vs ++ [v]) (ss ++ [.d d]) os
  | _, _, _, _, _, .nil, w => by simpa using OwL.cons (.d w) .nil
  | _, _, _, _, _, .cons h r, w => .cons h (OwL.snoc r w)
/-- the list that slot j owns turns -/
theorem ok_list {σ : L2.St} {τ : Sl} {os : List Addr} {j : Nat} {ss : List S} (ok : Ok K B H σ τ os) (hj : τ[j]? = some (some (.lst ss))) :
    ∃ q vs oc, σ[j]? = some (some (.ref q)) ∧ B q = none ∧ H q = some (.lst vs) ∧ OwL K B H vs ss oc ∧
      ∀ vs' ss' oc', OwL K B H vs' ss' oc' → (∀ a ∈ oc', a ∈ oc) → (oc.Nodup → oc'.Nodup) → ∃ os', Ok K B (upd H q (.lst vs')) σ (τ.set j (some (.lst ss'))) os' ∧ Fr false B H os B (upd H q (.lst vs')) os' := by
  obtain ⟨v, o, r, h1, h2, h3, h4⟩ := ok.sl.take hj
  cases h2 with
  | lst hb hh w =>
    rename_i q vs oc
    refine ⟨q, vs, oc, h1, hb, hh, w, fun vs' ss' oc' w' hs hn => ?_⟩
    have nd := h4.nodup_iff.mp ok.nd
    obtain ⟨n1, n2, n3⟩ := List.nodup_append.mp nd
    obtain ⟨n4, n5⟩ := List.nodup_cons.mp n1
    have nq : q ∉ r := fun m => n3 q List.mem_cons_self q m rfl
    have nq' : q ∉ oc' := fun m => n4 (hs q m)
    have w2 : OwL K B (upd H q (.lst vs')) vs' ss' oc' := w'.mono (fun _ _ h => h) fun a ha => ⟨(w'.mem a ha).1, upd_ne fun e => nq' (by rw [← e]; exact ha)⟩
    have r2 : OwS K B (upd H q (.lst vs')) σ (τ.set j none) r := h3.mono (fun _ _ h => h) fun a ha => ⟨(h3.mem a ha).1, upd_ne fun e => nq (by rw [← e]; exact ha)⟩
    have hjl : j < τ.length := (List.getElem?_eq_some_iff.mp hj).1
    obtain ⟨os', h5, h6⟩ := r2.back h1 (by rw [List.getElem?_set_self hjl]) (.lst hb upd_same w2)
    rw [List.set_set] at h5
    have mem' : ∀ a ∈ os', a ∈ os := fun a ha => by
      rcases List.mem_append.mp (h6.mem_iff.mp ha) with m | m
      · rcases List.mem_cons.mp m with e | m
        · subst e; exact h4.mem_iff.mpr (List.mem_append_left _ List.mem_cons_self)
        · exact h4.mem_iff.mpr (List.mem_append_left _ (List.mem_cons_of_mem _ (hs a m)))
      · exact h4.mem_iff.mpr (List.mem_append_right _ m)
    have qin : q ∈ os := h4.mem_iff.mpr (List.mem_append_left _ List.mem_cons_self)
    refine ⟨os', ⟨fun c u h => by rw [upd_ne (ne_of_none h hb)]; exact ok.ex c u h, h5, h6.nodup_iff.mpr (List.nodup_append.mpr ⟨List.nodup_cons.mpr ⟨nq', hn n5⟩, n2, fun a ha b hb' => ?_⟩)⟩, ⟨fun _ _ h => h, fun c u h z => ?_, fun c h => ?_, fun a ha => .inl (mem' a ha), fun c h z => absurd h z⟩⟩
    · rcases List.mem_cons.mp ha with e | m
      · subst e
        exact fun e => nq (by rw [e]; exact hb')
      · exact n3 a (List.mem_cons_of_mem _ (hs a m)) b hb'
    · rcases z with z | z
      · cases z
      · rw [upd_ne fun e => z (by rw [e]; exact qin)]
        exact h
    · by_cases e : c = q
      · subst e; rw [upd_same] at h; cases h
      · rw [upd_ne e] at h; exact h
end

def mApp (j : Nat) (me : M S) : MS := fun τ => match τ[j]? with
  | some (some (.lst _)) => (match me τ with
    | some (.d d, τ1) => (match τ1[j]? with
      | some (some (.lst ss)) => if ss.length < LIM then some (.nx, τ1.set j (some (.lst (ss ++ [.d d])))) else none
      | _ => none)
    | _ => none)
  | _ => none
def mSetI (j : Nat) (mi mv : M S) : MS := fun τ => match mv τ with
  | some (.d d, τ1) => (match τ1[j]? with
    | some (some (.lst _)) => (match mi τ1 with
      | some (.d (.int k), τ2) => (match τ2[j]? with
        | some (some (.lst ss)) => (match ixN ss.length k with
          | some n => some (.nx, τ2.set j (some (.lst (ss.set n (.d d)))))
          | none => none)
        | _ => none)
      | _ => none)
    | _ => none)
  | _ => none
def mAugI (j : Nat) (g : S → S → Option D) (mi me : M S) : MS := fun τ => match τ[j]? with
 | some (some (.lst _)) => match mi τ with
  | some (.d (.int k), τ1) => (match τ1[j]? with
    | some (some (.lst ss)) => (match atI ss k with
      | some (.d x) => (match me τ1 with
        | some (s, τ2) => (match g (.d x) s with
          | some d => (match τ2[j]? with
            | some (some (.lst ss2)) => (match ixN ss2.length k with
              | some n => some (.nx, τ2.set j (some (.lst (ss2.set n (.d d)))))
              | none => none)
            | _ => none)
          | none => none)
        | none => none)
      | _ => none)
    | _ => none)
  | _ => none
 | _ => none
section
variable {X : Cx} {P : List Nat} {e a b : Expr} {me mi mv : M S} {p p1 p2 f f1 f2 : Bool} {pos : Pos}
theorem get_list {ee : X.K = X.K} : ∀ (pins : List (Addr × Obj)) (s : Shared) (σ : L2.St) (H : Hp) (o i : V) (ov iv : Value) (Q : VK), Inv X pins σ H s → RelV o ov → RelV i iv → rIxL X.K o i H Q →
    wpAny (model X.prog X.w) X.A (getItem ov iv) (EP X pins σ Q) X.xe s := by
  intro pins s σ H x y v u Q I rx ry h
  obtain ⟨p, xs, i, z, rfl, rfl, hq, he, q⟩ := h
  cases rx
  obtain ⟨t, rfl⟩ := ry
  obtain ⟨its, r, pl, hz⟩ := I.list hq
  obtain ⟨j, h1, h2, h3, h4, h5⟩ := atI_get he
  obtain ⟨w, ew, rw'⟩ := r.get h2
  have hl := r.length
  have hn := line63
  have fin : EP X pins σ Q w s := ⟨z, H, I, rw', q⟩
  by_cases h0 : 0 ≤ i
  · have hj : i.toNat = j := by
      rw [seqIndex_of h0 h5] at h1
      exact Option.some.inj h1
    exact wpAny_getItem_list pl.isList h0 (by omega) (by rw [hj]; simpa using ew) fin
  · have hj : (i + (its.toArray.size : Int)).toNat = j := by
      rw [seqIndex_neg (by omega) h4] at h1
      rw [List.size_toArray, ← hl]
      exact Option.some.inj h1
    exact wpAny_getItem_list_neg pl.isList (by omega) (by rw [List.size_toArray] <;> omega) (by omega) (by rw [hj]; simpa using ew) fin
theorem rs_append (j : Nat) {x : Str} {px apos cpos : Pos} (he : RX X p f e me) (hN : X.N[j]? = some x := by rfl) (hv : Vis X.env.scope x := by first | exact Or.inl rfl | exact Or.inr (Or.inl rfl) | exact Or.inr (Or.inr rfl)) (hd : (x == ("__debug__" : Str)) = false := by decide)
    (hcd : (x == ("__classdict__" : Str)) = false := by decide) (hbase : attributeBase (.Name x px) "append" X.env (eval (.Name x px) X.env) = eval (.Name x px) X.env := by rfl)
    (hfew : ((backTo cpos (starEach (e :: []) X.env)).all (fun x => !x.1) && (backToKw cpos (keywordEach [] X.env)).all (fun x => x.1.isSome)
      && decide ((e :: []).length + ([] : List Keyword).length + (if ([] : List Keyword).isEmpty then 0 else 1) < 30)) = true := by rfl)
    (hline : (apos.endLine == cpos.line) = true := by rfl) (hs : starEach (e :: []) X.env = (false, eval e X.env) :: starEach [] X.env := by rfl)
    (hsw : swapsWith (.Call (.Attribute (.Name x px) "append" apos) [e] [] cpos) none pos.line X.env = pure false := by rfl) :
    RS X P (.Expr (.Call (.Attribute (.Name x px) "append" apos) [e] [] cpos) pos) (mApp j me) := by
  refine ⟨ps_imp (ps_expr (pe_bm PySem.F.plainAttrs_list PySem.F.slot_list_append PySem.F.type_list_append mt_append (pv j hN hv hd hcd) (pa_cons he.pe pa_nil hs) hbase hfew hline hs) hsw) fun D σ H q => ?_⟩
  obtain ⟨B, τ, os, ok, q⟩ := q
  unfold mApp at q
  split at q
  · rename_i ss0 e0
    split at q
    · rename_i d τ1 e1
      split at q
      · rename_i ss e2
        split at q
        · rename_i hl
          obtain ⟨q0, vs0, oc0, g1, g2, g3, g4, _⟩ := ok_list ok e0
          refine ⟨.ref q0, g1, .inl ⟨rfl, _, SqL.of g3⟩, B, τ, os, ok, ?_⟩
          rw [e1]
          intro v B1 H1 ov os1 w1 ok1 fh fr1
          obtain ⟨q1, vs, oc, h1, h2, h3, h4, h5⟩ := ok_list ok1 e2
          have eq : q0 = q1 := by rw [g1] at h1; injection h1 with z; injection z with z; injection z
          subst eq
          obtain ⟨os2, ok2, fr2⟩ := h5 (vs ++ [v]) (ss ++ [.d d]) oc (h4.snoc (ow_d w1)) (fun _ h => h) fun h => h
          exact ⟨q0, vs, v, rfl, rfl, h3, by rw [h4.length, ← lim_eq]; exact hl, q σ B1 _ os2 Pin.refl ok2 (fr1.weak.trans fr2 fun _ h => h)⟩
        · exact q.elim
      · exact q.elim
    · exact q.elim
  · exact q.elim
theorem rs_setI (j : Nat) {x : Str} {px tpos : Pos} (hv' : RX X p1 f1 e mv) (hi : RX X p2 f2 a mi) (hN : X.N[j]? = some x := by rfl) (hv : Vis X.env.scope x := by first | exact Or.inl rfl | exact Or.inr (Or.inl rfl) | exact Or.inr (Or.inr rfl)) (hd : (x == ("__debug__" : Str)) = false := by decide)
    (hcd : (x == ("__classdict__" : Str)) = false := by decide) (hs : swapsWithSole [.Subscript (.Name x px) a tpos] e pos.line X.env = pure false := by rfl) (hw : swappedStores [.Subscript (.Name x px) a tpos] e X.env = pure none := by rfl)
    (h1 : (assignEach [.Subscript (.Name x px) a tpos] X.env).map (·.2) = [assign (.Subscript (.Name x px) a tpos) X.env] := by rfl)
    (ha : ∀ v, assign (.Subscript (.Name x px) a tpos) X.env v = (do
      let ov ← holding [v] (eval (.Name x px) X.env)
      let iv ← holding [v, ov] (eval a X.env)
      standAt tpos
      holding [v, ov, iv] (setItem ov iv v)
      release [v, ov, iv] []) := by intro _; rfl) : RS X P (.Assign [.Subscript (.Name x px) a tpos] e pos) (mSetI j mi mv) := by
  refine ⟨ps_imp (ps_asg hv'.pe (pg_sub (pv j hN hv hd hcd) hi.pe set_list ha) hs hw h1) fun D σ H q => ?_⟩
  obtain ⟨B, τ, os, ok, q⟩ := q
  refine ⟨B, τ, os, ok, ?_⟩
  unfold mSetI at q
  split at q
  · rename_i d τ1 e1
    split at q
    · rename_i ss0 e0
      split at q
      · rename_i k τ2 e2
        split at q
        · rename_i ss e3
          split at q
          · rename_i n e4
            rw [e1]
            intro v B1 H1 ov os1 w1 ok1 _ fr1
            obtain ⟨q0, vs0, oc0, g1, g2, g3, g4, _⟩ := ok_list ok1 e0
            refine ⟨.ref q0, g1, B1, τ1, os1, ok1, ?_⟩
            rw [e2]
            intro y B2 H2 oy os2 w2 ok2 _ fr2
            cases rp_int (ow_d w2)
            obtain ⟨q1, vs, oc, h1, h2, h3, h4, h5⟩ := ok_list ok2 e3
            have eq : q0 = q1 := by rw [g1] at h1; injection h1 with z; injection z with z; injection z
            subst eq
            obtain ⟨o3, h6, h7, h8⟩ := h4.set (n := n) ((ow_d w1).mono fr2.bb)
            obtain ⟨os3, ok3, fr3⟩ := h5 (vs.set n v) (ss.set n (.d d)) o3 h6 h7 h8
            exact ⟨q0, vs, k, n, rfl, rfl, h3, by rw [h4.length]; exact e4, q σ B2 _ os3 Pin.refl ok3 ((fr1.weak.trans fr2.weak fun _ h => h).trans fr3 fun _ h => h)⟩
          · exact q.elim
        · exact q.elim
      · exact q.elim
    · exact q.elim
  · exact q.elim
theorem rs_augI (j : Nat) {x : Str} {px tpos : Pos} {op : Operator} {r : R2} {g : S → S → Option D} (ho : OpR X (inplaceOp op) r) (og : Op2 X.K r g) (hi : RX X p2 f2 a mi) (he : RX X p1 f1 e me) (hN : X.N[j]? = some x := by rfl) (hv : Vis X.env.scope x := by first | exact Or.inl rfl | exact Or.inr (Or.inl rfl) | exact Or.inr (Or.inr rfl)) (hd : (x == ("__debug__" : Str)) = false := by decide)
    (hcd : (x == ("__classdict__" : Str)) = false := by decide)
    (ha : ∀ ov iv new, augStore a ov iv new = (do holding [new, ov, iv] (setItem ov iv new); release [new, ov, iv] []; pure .next) := by intros; rfl) : RS X P (.AugAssign (.Subscript (.Name x px) a tpos) op e pos) (mAugI j g mi me) := by
  refine ⟨ps_imp (ps_augS (pv j hN hv hd hcd) hi.pe (get_list (ee := rfl)) he.pe ho set_list ha) fun D σ H q => ?_⟩
  obtain ⟨B, τ, os, ok, q⟩ := q
  unfold mAugI at q
  split at q
  · rename_i ss0 e0
    split at q
    · rename_i k τ1 e1
      split at q
      · rename_i ss e2
        split at q
        · rename_i x0 e3
          split at q
          · rename_i s τ2 e4
            split at q
            · rename_i d e5
              split at q
              · rename_i ss2 e6
                split at q
                · rename_i n e7
                  obtain ⟨q0, vs0, oc0, g1, g2, g3, g4, _⟩ := ok_list ok e0
                  refine ⟨.ref q0, g1, B, τ, os, ok, ?_⟩
                  rw [e1]
                  intro y B1 H1 oy os1 w1 ok1 _ fr1
                  cases rp_int (ow_d w1)
                  obtain ⟨q1, vs, oc, h1, h2, h3, h4, _⟩ := ok_list ok1 e2
                  have eq : q0 = q1 := by rw [g1] at h1; injection h1 with z; injection z with z; injection z
                  subst eq
                  obtain ⟨jj, e8, e9⟩ := atI_some e3
                  obtain ⟨v0, o0, e10, w3, _⟩ := h4.get e9
                  refine ⟨q0, vs, k, v0, rfl, rfl, SqL.of h3, atI_of h4.length e8 e10, B1, τ1, os1, ok1, ?_⟩
                  rw [e4]
                  intro v B2 H2 ov os2 w2 ok2 _ fr2
                  refine og B2 H2 v0 v (.d x0) s [] ov d _ ok2.ex (.d ((ow_d w3).mono fr2.bb)) w2 e5 fun z B3 H3 rp gr => ?_
                  have ok3 := gr.ok ok2
                  obtain ⟨q2, vs2, oc2, k1, k2, k3, k4, k5⟩ := ok_list ok3 e6
                  have eq : q0 = q2 := by rw [g1] at k1; injection k1 with z; injection z with z; injection z
                  subst eq
                  obtain ⟨o3, h6, h7, h8⟩ := k4.set (n := n) rp
                  obtain ⟨os3, ok4, fr4⟩ := k5 (vs2.set n z) (ss2.set n (.d d)) o3 h6 h7 h8
                  refine ⟨q0, vs2, k, n, rfl, rfl, k3, by rw [k4.length]; exact e7, q σ B3 _ os3 Pin.refl ok4 ?_⟩
                  exact (((fr1.weak.trans fr2.weak fun _ h => h).trans (gr.fr (p := false)) fun _ h => h).trans fr4 fun _ h => h)
                · exact q.elim
              · exact q.elim
            · exact q.elim
          · exact q.elim
        · exact q.elim
      · exact q.elim
    · exact q.elim
  · exact q.elim
end

/-! ### calls -/
/-- an argument: data, or a slot's own -/
inductive Ar where
  | v (d : D) | r (j : Nat)
def ArR (K : PySem.W.Frag) (B : Hp) (σ : L2.St) (v : V) : Ar → Prop
  | .v d => Rp K B v d
  | .r j => σ[j]? = some (some v)
inductive ArL (K : PySem.W.Frag) (B : Hp) (σ : L2.St) : List V → List Ar → Prop
  | nil : ArL K B σ [] []
  | cons {v : V} {vs : List V} {a : Ar} {as : List Ar} : ArR K B σ v a → ArL K B σ vs as → ArL K B σ (v :: vs) (a :: as)
def res : List Ar → Sl → Option (List S × Sl)
  | [], τ => some ([], τ)
  | .v d :: r, τ => (match res r τ with | some (ss, τ') => some (.d d :: ss, τ') | none => none)
  | .r j :: r, τ => (match τ[j]? with
    | some (some s) => (match res r (τ.set j none) with | some (ss, τ') => some (s :: ss, τ') | none => none)
    | _ => none)
def putB : List Ar → List S → Sl → Option Sl
  | [], [], τ => some τ
  | .v _ :: r, _ :: ss, τ => putB r ss τ
  | .r j :: r, s :: ss, τ => (match τ[j]? with | some none => putB r ss (τ.set j (some s)) | _ => none)
  | _, _, _ => none
section
variable {K : PySem.W.Frag} {B H : Hp} {σ : L2.St}
theorem res_ok : ∀ {as : List Ar} {τ : Sl} {os : List Addr} {vs : List V} {ss : List S} {τ2 : Sl}, OwS K B H σ τ os → ArL K B σ vs as → res as τ = some (ss, τ2) → ∃ o1 o2, OwL K B H vs ss o1 ∧ OwS K B H σ τ2 o2 ∧ os.Perm (o1 ++ o2)
  | [], τ, os, _, _, _, h, .nil, e => by cases e; exact ⟨[], os, .nil, h, List.Perm.refl _⟩
  | .v d :: r, τ, os, _, _, _, h, .cons ha hr, e => by
    unfold res at e
    split at e
    · rename_i ss τ' e1
      cases e
      obtain ⟨o1, o2, h1, h2, h3⟩ := res_ok h hr e1
      exact ⟨[] ++ o1, o2, .cons (.d ha) h1, h2, h3⟩
    · cases e
  | .r j :: r, τ, os, _, _, _, h, .cons ha hr, e => by
    unfold res at e
    split at e
    · rename_i s e0
      split at e
      · rename_i ss τ' e1
        cases e
        obtain ⟨v, o, q, g1, g2, g3, g4⟩ := h.take e0
        have ev : some (some v) = some (some _) := g1.symm.trans ha
        cases ev
        obtain ⟨o1, o2, h1, h2, h3⟩ := res_ok g3 hr e1
        refine ⟨o ++ o1, o2, .cons g2 h1, h2, ?_⟩
        rw [List.append_assoc]
        exact g4.trans (h3.append_left o)
      · cases e
    · cases e
theorem putB_ok {B0 : Hp} : ∀ {as : List Ar} {τ : Sl} {o2 : List Addr} {vs : List V} {ss : List S} {τ3 : Sl} {o1 : List Addr}, OwS K B H σ τ o2 → ArL K B0 σ vs as → OwL K B H vs ss o1 → putB as ss τ = some τ3 →
    ∃ o3, OwS K B H σ τ3 o3 ∧ (∀ a ∈ o3, a ∈ o1 ++ o2) ∧ ((o1 ++ o2).Nodup → o3.Nodup)
  | [], τ, o2, _, _, _, _, h, .nil, .nil, e => by cases e; exact ⟨o2, h, fun _ h => h, fun h => h⟩
  | .v d :: r, τ, o2, _, _, _, _, h, .cons ha hr, .cons (o := o) w wr, e => by
    unfold putB at e
    obtain ⟨o3, h1, h2, h3⟩ := putB_ok h hr wr e
    refine ⟨o3, h1, fun a ha => by rw [List.append_assoc]; exact List.mem_append_right _ (h2 a ha), fun n => h3 ?_⟩
    rw [List.append_assoc] at n
    exact (List.nodup_append.mp n).2.1
  | .r j :: r, τ, o2, _, _, _, _, h, .cons ha hr, .cons (o := o) (os := o1) w wr, e => by
    unfold putB at e
    split at e
    · rename_i e0
      obtain ⟨q, g1, g2⟩ := h.back ha e0 w
      obtain ⟨o3, h1, h2, h3⟩ := putB_ok g1 hr wr e
      have pm : ((o ++ o1) ++ o2).Perm (o1 ++ q) := by
        refine (List.Perm.append_right o2 List.perm_append_comm).trans ?_
        rw [List.append_assoc]
        exact g2.symm.append_left o1
      exact ⟨o3, h1, fun a ha => pm.mem_iff.mpr (h2 a ha), fun n => h3 (pm.nodup_iff.mp n)⟩
    · cases e
end
def PostC (K : PySem.W.Frag) (p : Bool) (σ : L2.St) (B H : Hp) (os : List Addr) (Q : List V → Hp → Prop) : Option (List Ar × Sl) → Prop
  | none => False
  | some (as, τ') => ∀ vs B' H' os', ArL K B' σ vs as → Ok K B' H' σ τ' os' → Fr p B H os B' H' os' → Q vs H'
def tcOf (K : PySem.W.Frag) (p : Bool) (m : M (List Ar)) : TA := fun σ H Q => ∃ B τ os, Ok K B H σ τ os ∧ PostC K p σ B H os Q (m τ)
structure RC (X : Cx) (p : Bool) (es : List Expr) (m : M (List Ar)) : Prop where
  pa : PA X es (tcOf X.K p m)
  pu : p = true → Pure m
def mcNil : M (List Ar) := fun τ => some ([], τ)
def mcV (ma : M S) (mr : M (List Ar)) : M (List Ar) := fun τ => match ma τ with
  | some (.d x, τ1) => (match mr τ1 with | some (xs, τ2) => some (.v x :: xs, τ2) | none => none)
  | _ => none
def mcR (j : Nat) (mr : M (List Ar)) : M (List Ar) := fun τ => match τ[j]? with
  | some (some _) => (match mr τ with | some (xs, τ2) => some (.r j :: xs, τ2) | none => none)
  | _ => none
section
variable {X : Cx} {p p1 p2 f1 f : Bool} {a : Expr} {es : List Expr} {ma : M S} {mr : M (List Ar)} {pos : Pos}
theorem rc_nil : RC X true [] mcNil := by
  refine ⟨pa_imp pa_nil fun σ H Q q => ?_, fun _ τ s τ' h => by unfold mcNil at h; cases h; rfl⟩
  obtain ⟨B, τ, os, ok, q⟩ := q
  exact q [] B H os .nil ok Fr.refl
theorem ArL.mono {K : PySem.W.Frag} {B B' : Hp} {σ : L2.St} (e : Same B B') : ∀ {vs : List V} {as : List Ar}, ArL K B σ vs as → ArL K B' σ vs as
  | _, _, .nil => .nil
  | _, _, .cons (a := a) h r => .cons (by
    cases a with
    | v d => exact Rp.mono e h
    | r j => exact h) (ArL.mono e r)
theorem rc_v (ha : RX X p1 f1 a ma) (hr : RC X p2 es mr) (hs : starEach (a :: es) X.env = (false, eval a X.env) :: starEach es X.env := by rfl) : RC X (p1 && p2) (a :: es) (mcV ma mr) := by
  refine ⟨pa_imp (pa_cons ha.pe hr.pa hs) fun σ H Q q => ?_, fun z τ s τ' q => ?_⟩
  · obtain ⟨B, τ, os, ok, q⟩ := q
    unfold mcV at q
    split at q
    · rename_i x τ1 e1
      split at q
      · rename_i xs τ2 e2
        refine ⟨B, τ, os, ok, ?_⟩
        rw [e1]
        intro v B1 H1 ov os1 w1 ok1 _ fr1
        refine ⟨B1, τ1, os1, ok1, ?_⟩
        rw [e2]
        intro vs B2 H2 os2 r2 ok2 fr2
        exact q (v :: vs) B2 H2 os2 (.cons ((ow_d w1).mono fr2.bb) r2) ok2 (fr1.trans fr2 fun _ h => h)
      · exact q.elim
    · exact q.elim
  · unfold mcV at q
    split at q
    · rename_i x τ1 e1
      split at q
      · rename_i xs τ2 e2
        cases q
        rw [hr.pu (and_tt z).2 _ _ _ e2, ha.pu (and_tt z).1 _ _ _ e1]
      · cases q
    · cases q
theorem rc_r (j : Nat) {x : Str} {px : Pos} (hr : RC X p es mr) (hN : X.N[j]? = some x := by rfl) (hv : Vis X.env.scope x := by first | exact Or.inl rfl | exact Or.inr (Or.inl rfl) | exact Or.inr (Or.inr rfl)) (hd : (x == ("__debug__" : Str)) = false := by decide)
    (hcd : (x == ("__classdict__" : Str)) = false := by decide) (hs : starEach (.Name x px :: es) X.env = (false, eval (.Name x px) X.env) :: starEach es X.env := by rfl) : RC X p (.Name x px :: es) (mcR j mr) := by
  refine ⟨pa_imp (pa_cons (pv j hN hv hd hcd) hr.pa hs) fun σ H Q q => ?_, fun z τ s τ' q => ?_⟩
  · obtain ⟨B, τ, os, ok, q⟩ := q
    unfold mcR at q
    split at q
    · rename_i s e0
      split at q
      · rename_i xs τ2 e2
        obtain ⟨v, o, h1, _, _⟩ := ok.sl.get e0
        refine ⟨v, h1, B, τ, os, ok, ?_⟩
        rw [e2]
        intro vs B2 H2 os2 r2 ok2 fr2
        exact q (v :: vs) B2 H2 os2 (.cons h1 r2) ok2 fr2
      · exact q.elim
    · exact q.elim
  · unfold mcR at q
    split at q
    · split at q
      · rename_i xs τ2 e2
        cases q
        exact hr.pu z _ _ _ e2
      · cases q
    · cases q

/-- what a def does with trees: its value, and what its arguments are then -/
abbrev Sem1 := List S → Option (S × List S)
def spS (K : PySem.W.Frag) (sem : Sem1) : Sp := fun vs H Q _ => ∃ B ss os s ss', Same B H ∧ OwL K B H vs ss os ∧ os.Nodup ∧ sem ss = some (s, ss') ∧
  ∀ v B' H' ov os', Ow K B' H' v s ov → OwL K B' H' vs ss' os' → (ov ++ os').Nodup → Same B' H' → Fr false B H os B' H' (ov ++ os') → Q v H'
def mCall (sem : Sem1) (mc : M (List Ar)) : M S := fun τ => match mc τ with
  | some (as, τ1) => (match res as τ1 with
    | some (ss, τ2) => (match sem ss with
      | some (s, ss') => (match putB as ss' τ2 with | some τ3 => some (s, τ3) | none => none)
      | none => none)
    | none => none)
  | none => none
/-- the reading of a call -/
theorem call_reads {sem : Sem1} {mc : M (List Ar)} {σ : L2.St} {H B : Hp} {τ : Sl} {os : List Addr} {Q : VK} {E : XK} (ok : Ok X.K B H σ τ os) (q : PostE X.K false f σ B H os Q (mCall sem mc τ)) : PostC X.K p σ B H os (fun vs H1 => spS X.K sem vs H1 Q E) (mc τ) := by
  unfold mCall at q
  split at q
  · rename_i as τ1 e1
    rw [e1]
    intro vs B1 H1 os1 r1 ok1 fr1
    split at q
    · rename_i ss τ2 e2
      split at q
      · rename_i s ss' e3
        split at q
        · rename_i τ3 e4
          obtain ⟨o1, o2, h1, h2, h3⟩ := res_ok ok1.sl r1 e2
          have nd := h3.nodup_iff.mp ok1.nd
          obtain ⟨n1, n2, n3⟩ := List.nodup_append.mp nd
          refine ⟨B1, ss, o1, s, ss', ok1.ex, h1, n1, e3, fun v B2 H2 ov o1' w wl nd2 ex2 fr2 => ?_⟩
          have apart : ∀ a ∈ o2, a ∉ o1 := fun a ha m => n3 a m a ha rfl
          have h2' : OwS X.K B2 H2 σ τ2 o2 := h2.stay fr2 (.inr apart)
          obtain ⟨o3, h5, h6, h7⟩ := putB_ok h2' r1 wl e4
          have disj : ∀ a ∈ ov ++ o1', a ∉ o2 := fun a ha m => by
            rcases fr2.own a ha with z | z
            · exact n3 a z a m rfl
            · exact (h2.mem a m).2 z
          have nd4 : ((ov ++ o1') ++ o2).Nodup := List.nodup_append.mpr ⟨nd2, n2, fun a ha b hb e => disj a ha (by rw [e]; exact hb)⟩
          rw [List.append_assoc] at nd4
          obtain ⟨n5, n6, n7⟩ := List.nodup_append.mp nd4
          have ok3 : Ok X.K B2 H2 σ τ3 o3 := ⟨ex2, h5, h7 n6⟩
          have fr3 : Fr false B1 H1 os1 B2 H2 (o2 ++ (ov ++ o1')) := (fr2.more o2).perm (fun a ha => h3.mem_iff.mpr (by
            rcases List.mem_append.mp ha with m | m
            · exact List.mem_append_right _ m
            · exact List.mem_append_left _ m)) fun a ha => by
            rcases List.mem_append.mp (h3.mem_iff.mp ha) with m | m
            · exact List.mem_append_right _ m
            · exact List.mem_append_left _ m
          have frT := fr1.weak.trans fr3 fun _ h => h
          refine q v B2 H2 ov o3 w ok3 (fun _ => ⟨List.nodup_append.mpr ⟨n5, h7 n6, fun a ha b hb => n7 a ha b (h6 b hb)⟩, fun a ha => ?_⟩) (frT.sub fun a ha => ?_)
          · exact (frT.own a (List.mem_append_right _ (List.mem_append_left _ ha))).imp (fun z => ⟨rfl, z⟩) id
          · rcases List.mem_append.mp (h6 a ha) with m | m
            · exact List.mem_append_right _ (List.mem_append_right _ m)
            · exact List.mem_append_left _ m
        · exact q.elim
      · exact q.elim
    · exact q.elim
  · exact q.elim
theorem rx_call {k : Nat} {fa : Addr} {fd : FuncData} {ps : List Str} {sem : Sem1} {x : Str} {px : Pos} {mc : M (List Ar)} (F : FnOk X.prog X.w X.K X.mg X.base CX0 k fa fd ps (spS X.K sem)) (hr : Room k X.A) (hm : X.mg x = some (.ref fa)) (hk : PySem.W.keepIn X.K (.ref fa) = true) (hb : Binds X.K fd ps [])
    (ha : RC X p (a :: es) mc) (hg : Gl X x := by rfl) (hdb : (x == ("__debug__" : Str)) = false := by decide) (he : starEach (a :: es) X.env = (false, eval a X.env) :: starEach es X.env := by rfl) (hpl : (backTo pos (starEach es X.env)).any (·.1) = false := by rfl) :
    RX X false f (.Call (.Name x px) (a :: es) [] pos) (mCall sem mc) := by
  refine ⟨pe_imp (pe_call F hr hg hm hk hb .nil pass0 ha.pa hdb he hpl) fun σ H Q q => ?_, fun z => by cases z⟩
  obtain ⟨B, τ, os, ok, q⟩ := q
  refine ⟨B, τ, os, ok, ?_⟩
  have z := call_reads (p := p) (E := E0) ok q
  revert z
  cases mc τ with
  | none => exact fun z => z
  | some r =>
    intro z vs B' H' os' r' ok' fr'
    show spS X.K sem (vs ++ []) H' Q E0
    rw [List.append_nil]
    exact z vs B' H' os' r' ok' fr'
/-- all arguments data: nothing owned turns -/
def mCallP (sem : Sem1) (mr : M (List D)) : M S := fun τ => match mr τ with
  | some (ds, τ1) => (match sem (ds.map S.d) with | some (s, _) => some (s, τ1) | none => none)
  | none => none
theorem rx_callP {k : Nat} {fa : Addr} {fd : FuncData} {ps : List Str} {sem : Sem1} {x : Str} {px : Pos} {mr : M (List D)} (F : FnOk X.prog X.w X.K X.mg X.base CX0 k fa fd ps (spS X.K sem)) (hr : Room k X.A) (hm : X.mg x = some (.ref fa)) (hk : PySem.W.keepIn X.K (.ref fa) = true) (hb : Binds X.K fd ps [])
    (ha : RA X p (a :: es) mr) (hg : Gl X x := by rfl) (hdb : (x == ("__debug__" : Str)) = false := by decide) (he : starEach (a :: es) X.env = (false, eval a X.env) :: starEach es X.env := by rfl) (hpl : (backTo pos (starEach es X.env)).any (·.1) = false := by rfl) :
    RX X p f (.Call (.Name x px) (a :: es) [] pos) (mCallP sem mr) := by
  refine ⟨pe_imp (pe_call F hr hg hm hk hb .nil pass0 ha.pa hdb he hpl) fun σ H Q q => ?_, fun z τ s τ' q => ?_⟩
  · obtain ⟨B, τ, os, ok, q⟩ := q
    refine ⟨B, τ, os, ok, ?_⟩
    unfold mCallP at q
    split at q
    · rename_i ds τ1 e1
      rw [e1]
      intro vs B1 H1 os1 r1 ok1 fr1
      show spS X.K sem (vs ++ []) H1 Q E0
      rw [List.append_nil]
      split at q
      · rename_i s ss' e2
        refine ⟨B1, ds.map S.d, [], s, ss', ok1.ex, owl_ds r1, List.nodup_nil, e2, fun v B2 H2 ov o1' w wl nd2 ex2 fr2 => ?_⟩
        have frN : Fr true B1 H1 os1 B2 H2 (os1 ++ (ov ++ o1')) := by
          refine ⟨fr2.bb, fun c u h _ => fr2.keep c u h (.inr (by simp)), fr2.thr, fun c hc => ?_, fun c h z => ?_⟩
          · rcases List.mem_append.mp hc with m | m
            · exact .inl m
            · exact (fr2.own c m).elim (fun z => by simp at z) .inr
          · exact (fr2.frz c h z).elim (fun z => by simp at z) .inr
        have stay : ∀ c ∈ os1, B2 c = none ∧ H2 c = H1 c := frN.stay ok1.sl.mem (.inl rfl)
        have new : ∀ c ∈ ov ++ o1', H1 c = none := fun c hc => (fr2.own c hc).elim (fun z => by simp at z) id
        have ok2 : Ok X.K B2 H2 σ τ1 os1 := ⟨ex2, ok1.sl.mono fr2.bb stay, ok1.nd⟩
        refine q v B2 H2 ov os1 w ok2 (fun _ => ⟨List.nodup_append.mpr ⟨(List.nodup_append.mp nd2).1, ok1.nd, fun c hc d hd e => ?_⟩, fun c hc => .inr (fr1.thr c (new c (List.mem_append_left _ hc)))⟩) ?_
        · exact (ok1.sl.mem d hd).2 (by rw [← e]; exact new c (List.mem_append_left _ hc))
        · have z := fr1.trans (frN.sub (os2 := os1) fun c hc => List.mem_append_left _ hc) fun _ h => h
          rwa [Bool.and_true] at z
      · exact q.elim
    · exact q.elim
  · unfold mCallP at q
    split at q
    · rename_i ds τ1 e1
      split at q
      · cases q
        exact ha.pu z _ _ _ e1
      · cases q
    · cases q
end

/-! ### a def's promise, by its body -/
/-- modes: true where the def may turn what it is handed -/
def backS : List Bool → List S → Sl → Option (List S)
  | [], [], _ => some []
  | true :: ms, _ :: ss, some s :: τ => (match backS ms ss τ with | some r => some (s :: r) | none => none)
  | false :: ms, .d x :: ss, _ :: τ => (match backS ms ss τ with | some r => some (.d x :: r) | none => none)
  | _, _, _ => none
def startT (n : Nat) (ss : List S) : Sl := ss.map some ++ List.replicate (n - ss.length) none
def runB (modes : List Bool) (n : Nat) (m : MS) : Sem1 := fun ss => if ss.length = modes.length then
  (match m (startT n ss) with
  | some (.rt s, τ') => (match backS modes ss τ' with | some r => some (s, r) | none => none)
  | some (.nx, τ') => (match backS modes ss τ' with | some r => some (.d .non, r) | none => none)
  | _ => none) else none
theorem ows_nones {K : PySem.W.Frag} {B H : Hp} : ∀ n : Nat, OwS K B H (List.replicate n none) (List.replicate n none) []
  | 0 => .nil
  | n + 1 => .none (ows_nones n)
theorem ows_start {K : PySem.W.Frag} {B H : Hp} {vs : List V} {ss : List S} {os : List Addr} (n : Nat) (h : OwL K B H vs ss os) : OwS K B H (vs.map some ++ List.replicate n none) (ss.map some ++ List.replicate n none) os := by
  have go : ∀ {vs : List V} {ss : List S} {os : List Addr}, OwL K B H vs ss os → OwS K B H (vs.map some ++ List.replicate n none) (ss.map some ++ List.replicate n none) os := by
    intro vs
    induction vs with
    | nil =>
      intro ss os h
      cases h
      exact ows_nones n
    | cons v vs ih =>
      intro ss os h
      cases h with
      | cons w r => exact .some w (ih r)
  exact go h
theorem back_ok {K : PySem.W.Frag} {B0 H0 B H : Hp} (bb : Same B0 B) : ∀ {modes : List Bool} {ss : List S} {vs : List V} {o0 : List Addr} {σ : L2.St} {τ : Sl} {os : List Addr} {r : List S}, OwL K B0 H0 vs ss o0 → OwS K B H σ τ os → backS modes ss τ = some r →
    (∀ i : Nat, modes[i]? = some true → σ[i]? = (vs[i]?).map some) → ∃ o, OwL K B H vs r o ∧ (∀ a ∈ o, a ∈ os) ∧ (os.Nodup → o.Nodup)
  | [], [], _, _, _, _, os, _, .nil, h, e, _ => by
    unfold backS at e
    cases e
    exact ⟨[], .nil, by simp, fun _ => List.nodup_nil⟩
  | true :: ms, _ :: ss, _, _, _, _, _, r, .cons (v := v) w wl, .some (v := u) (s := s) (o := o) h hr, e, k => by
    unfold backS at e
    split at e
    · rename_i r' e1
      cases e
      obtain ⟨o2, h1, h2, h3⟩ := back_ok bb wl hr e1 fun i hi => by simpa using k (i + 1) (by simpa using hi)
      have z := k 0 rfl
      simp at z
      subst z
      refine ⟨o ++ o2, .cons h h1, fun a ha => ?_, fun n => ?_⟩
      · rcases List.mem_append.mp ha with m | m
        · exact List.mem_append_left _ m
        · exact List.mem_append_right _ (h2 a m)
      · obtain ⟨n1, n2, n3⟩ := List.nodup_append.mp n
        exact List.nodup_append.mpr ⟨n1, h3 n2, fun a ha b hb => n3 a ha b (h2 b hb)⟩
    · cases e
  | true :: ms, _ :: ss, _, _, _, _, _, r, .cons w wl, .none hr, e, k => by
    unfold backS at e
    cases e
  | false :: ms, .d x :: ss, _, _, _, _, _, r, .cons w wl, .some (o := o) h hr, e, k => by
    unfold backS at e
    split at e
    · rename_i r' e1
      cases e
      obtain ⟨o2, h1, h2, h3⟩ := back_ok bb wl hr e1 fun i hi => by simpa using k (i + 1) (by simpa using hi)
      exact ⟨[] ++ o2, .cons (.d ((ow_d w).mono bb)) h1, fun a ha => List.mem_append_right _ (h2 a ha), fun n => h3 (List.nodup_append.mp n).2.1⟩
    · cases e
  | false :: ms, .d x :: ss, _, _, _, _, _, r, .cons w wl, .none hr, e, k => by
    unfold backS at e
    split at e
    · rename_i r' e1
      cases e
      obtain ⟨o2, h1, h2, h3⟩ := back_ok bb wl hr e1 fun i hi => by simpa using k (i + 1) (by simpa using hi)
      exact ⟨[] ++ o2, .cons (.d ((ow_d w).mono bb)) h1, h2, h3⟩
    · cases e
  | false :: ms, .lst _ :: ss, _, _, _, _, _, r, .cons w wl, h, e, k => by
    cases h <;> (unfold backS at e; cases e)
  | false :: ms, .d x :: ss, _, _, _, _, _, r, .cons w wl, .nil, e, k => by
    unfold backS at e
    cases e
  | true :: ms, _ :: ss, _, _, _, _, _, r, .cons w wl, .nil, e, k => by
    unfold backS at e
    cases e
  | [], _ :: _, _, _, _, _, _, r, .cons w wl, h, e, k => by
    unfold backS at e
    cases e
  | b :: _, [], _, _, _, _, _, r, .nil, h, e, k => by
    cases b <;> (simp [backS] at e)
section
variable {Pr : Program} {w : World} {K : PySem.W.Frag} {mg : Str → Option Value} {base : Heap}
/-- THE RULE for a def: its body as m, what it is worth as sem -/
theorem fn_tr {x qual : Str} {st : Stmt} {fa : Addr} {fd : FuncData} {N ps : List Str} {k : Nat} {sem : Sem1} (modes : List Bool) (P : List Nat) (m : MS) (F : Fun K x qual st fa fd) (Sc : FnScope N ps (defScope st))
    (hm : modes.length = ps.length) (hP : ∀ i : Nat, modes[i]? = some true → i ∈ P) (hsem : ∀ ss r, sem ss = some r → runB modes N.length m ss = some r)
    (hb : ∀ (cdv : Value) (A : Around) (outer : List Env) (s : Shared) (H : Hp) (E : XK), Room k (A.deeper (envOfC qual (defScope st) s.heap.objs.size fa cdv)) →
      RSs (cxOf CX0 Pr w K mg base N qual (defScope st) fa cdv A outer s H E).nox P (defBody st) m) : FnOk Pr w K mg base CX0 (k + 1) fa fd ps (spS K sem) := by
  have hlen : ∀ ss r, sem ss = some r → ss.length = ps.length := fun ss r h => by
    have z := hsem ss r h
    unfold runB at z
    split at z
    · rw [← hm]; assumption
    · cases z
  refine F.ok Sc (fun vs H Q E h => ?_) (fun cdv A outer s H vs Q E hr h => ?_)
  · obtain ⟨B, ss, os, s, ss', ex, w1, nd, e, _⟩ := h
    rw [w1.length]
    exact hlen _ _ e
  · obtain ⟨B, ss, os, s1, ss', ex, w1, nd, e, q⟩ := h
    have e2 := hsem _ _ e
    have hv : vs.length = ps.length := w1.length.trans (hlen _ _ e)
    refine ⟨_, (hb cdv A outer s H E hr).ps, B, startT N.length ss, os, ⟨ex, ?_, nd⟩, ?_⟩
    · unfold startT L2.start
      rw [w1.length]
      exact ows_start _ w1
    · unfold runB at e2
      split at e2
      · have at0 : ∀ i : Nat, modes[i]? = some true → (L2.start N vs)[i]? = (vs[i]?).map some := fun i hi => by
          have hl : i < vs.length := by
            rw [hv, ← hm]
            exact (List.getElem?_eq_some_iff.mp hi).1
          unfold L2.start
          rw [List.getElem?_append_left (by rw [List.length_map]; exact hl), List.getElem?_map]
        split at e2
        · rename_i s2 τ' e3
          split at e2
          · rename_i r e4
            cases e2
            rw [e3]
            intro σ' v B' H' ov os' pn wv ok' nd' fr
            obtain ⟨o, h1, h2, h3⟩ := back_ok fr.bb w1 ok'.sl e4 fun i hi => (pn i (hP i hi)).trans (at0 i hi)
            obtain ⟨n1, n2, n3⟩ := List.nodup_append.mp nd'
            refine q v B' H' ov o wv h1 (List.nodup_append.mpr ⟨n1, h3 n2, fun a ha b hb => n3 a ha b (h2 b hb)⟩) ok'.ex (fr.sub fun a ha => ?_)
            rcases List.mem_append.mp ha with z | z
            · exact List.mem_append_left _ z
            · exact List.mem_append_right _ (h2 a z)
          · cases e2
        · rename_i τ' e3
          split at e2
          · rename_i r e4
            cases e2
            rw [e3]
            intro σ' B' H' os' pn ok' fr
            obtain ⟨o, h1, h2, h3⟩ := back_ok fr.bb w1 ok'.sl e4 fun i hi => (pn i (hP i hi)).trans (at0 i hi)
            exact q .non B' H' [] o (.d .non) h1 (by simpa using h3 ok'.nd) ok'.ex (fr.sub fun a ha => h2 a (by simpa using ha))
          · cases e2
        · cases e2
      · cases e2
end
end Tr

/-! Tr9: in / not in; a name's list given up (from then on data). -/
namespace Tr
open PySem PySem.Spec PyProof.Rows L2
/-! ### in -/
def D.flat : D → Bool
  | .non => true | .bl _ => true | .int _ => true | .str _ => true | _ => false
theorem flatV_rp {K : PySem.W.Frag} {B : Hp} {v : V} {d : D} (r : Rp K B v d) (h : d.flat = true) : flatV v = true := by
  cases r <;> first | rfl | cases h
theorem eqV_rp {K : PySem.W.Frag} {B : Hp} {v u : V} {d e : D} (r1 : Rp K B v d) (r2 : Rp K B u e) (h1 : d.flat = true) (h2 : e.flat = true) : eqV v u = D.eqv d e := by
  cases r1 <;> first | (cases h1; done) | (cases r2 <;> first | (cases h2; done) | simp [eqV, D.eqv, D.toP, PyData.eqv])
theorem all_flatV {K : PySem.W.Frag} {B : Hp} {vs : List V} {ds : List D} (r : RpL K B vs ds) (h : ds.all D.flat = true) : vs.all flatV = true := by
  induction vs generalizing ds with
  | nil => rfl
  | cons v vs ih =>
    cases r with
    | cons w wl =>
      rw [List.all_cons, Bool.and_eq_true] at h
      rw [List.all_cons, flatV_rp w h.1, ih wl h.2]
      rfl
theorem inV_rp {K : PySem.W.Frag} {B : Hp} {v : V} {d : D} {vs : List V} {ds : List D} (r1 : Rp K B v d) (h1 : d.flat = true) (r : RpL K B vs ds) (h : ds.all D.flat = true) : inV v vs = ds.any fun z => D.eqv z d := by
  unfold inV
  induction vs generalizing ds with
  | nil =>
    cases r
    rfl
  | cons u vs ih =>
    cases r with
    | cons w wl =>
      rw [List.all_cons, Bool.and_eq_true] at h
      rw [List.any_cons, List.any_cons, eqV_rp w r1 h.1 h1, ih wl h.2]
theorem any_toPs (d : D) : ∀ ds : List D, (D.toPs ds).any (fun z => PyData.eqv z d.toP) = ds.any fun z => D.eqv z d
  | [] => rfl
  | x :: r => by
    unfold D.toPs
    rw [List.any_cons, List.any_cons, any_toPs d r]
    rfl
/-- s in u -/
def gIn (neg : Bool) (s u : S) : Option D := match u.view with
  | .lst ds => if s.view.shp && (D.lst ds).shp then some (.bl (if neg then !ds.any fun z => D.eqv z s.view else ds.any fun z => D.eqv z s.view)) else none
  | .tup ds => if s.view.flat && ds.all D.flat then some (.bl (if neg then !ds.any fun z => D.eqv z s.view else ds.any fun z => D.eqv z s.view)) else none
  | _ => none
theorem og_in {K : PySem.W.Frag} : Op2 K (fun x y H Q => rInD K x y H Q ∨ rIn K false x y H Q) (gIn false) := by
  intro B H x y s u ox oy d Q ex w1 w2 h k
  unfold gIn at h
  have r1 := w1.see ex
  have r2 := w2.see ex
  split at h
  · rename_i ds e
    split at h
    · rename_i hs
      rw [Bool.and_eq_true] at hs
      cases h
      refine .inl ⟨_, _, r1.dp hs.1, (show Dp K H y (.list (D.toPs ds)) from by have z := r2.dp (by rw [e]; exact hs.2); rw [e] at z; exact z), hs.1, hs.2, ?_⟩
      rw [any_toPs]
      have z := k _ B H (.bl (ds.any fun z => D.eqv z s.view)) (Gr.refl ex)
      exact z
    · cases h
  · rename_i ds e
    split at h
    · rename_i hs
      rw [Bool.and_eq_true] at hs
      cases h
      rw [e] at r2
      cases r2 with
      | tup ht rl =>
        refine .inr ⟨_, _, rfl, .inr (sqt_of ht), flatV_rp r1 hs.1, all_flatV rl hs.2, ?_⟩
        rw [inV_rp r1 hs.1 rl hs.2]
        exact k _ B H (.bl (ds.any fun z => D.eqv z s.view)) (Gr.refl ex)
    · cases h
  · cases h
theorem og_notIn {K : PySem.W.Frag} : Op2 K (fun x y H Q => rNotInD K x y H Q ∨ rIn K true x y H Q) (gIn true) := by
  intro B H x y s u ox oy d Q ex w1 w2 h k
  unfold gIn at h
  have r1 := w1.see ex
  have r2 := w2.see ex
  split at h
  · rename_i ds e
    split at h
    · rename_i hs
      rw [Bool.and_eq_true] at hs
      cases h
      refine .inl ⟨_, _, r1.dp hs.1, (show Dp K H y (.list (D.toPs ds)) from by have z := r2.dp (by rw [e]; exact hs.2); rw [e] at z; exact z), hs.1, hs.2, ?_⟩
      rw [any_toPs]
      have z := k _ B H (.bl (!ds.any fun z => D.eqv z s.view)) (Gr.refl ex)
      exact z
    · cases h
  · rename_i ds e
    split at h
    · rename_i hs
      rw [Bool.and_eq_true] at hs
      cases h
      rw [e] at r2
      cases r2 with
      | tup ht rl =>
        refine .inr ⟨_, _, rfl, .inr (sqt_of ht), flatV_rp r1 hs.1, all_flatV rl hs.2, ?_⟩
        rw [inV_rp r1 hs.1 rl hs.2]
        exact k _ B H (.bl (!ds.any fun z => D.eqv z s.view)) (Gr.refl ex)
    · cases h
  · cases h
section
variable {X : Cx}
theorem op_inA (hu : X.A.units + 65 < cLine) : OpR X (compareOp .In) (fun x y H Q => rInD X.K x y H Q ∨ rIn X.K false x y H Q) := (op_inD hu).or op_in_seq
theorem op_notInA (hu : X.A.units + 65 < cLine) : OpR X (compareOp .NotIn) (fun x y H Q => rNotInD X.K x y H Q ∨ rIn X.K true x y H Q) := (op_notInD hu).or op_notIn_seq
end
/-! ### a name's own list is data from here on -/
def mFz (i : Nat) (m : MS) : MS := fun τ => match τ[i]? with | some (some s) => m (τ.set i (some (.d s.view))) | _ => none
theorem fz_ok {K : PySem.W.Frag} {P : List Nat} {m : MS} {i : Nat} {D : Ends} {σ : L2.St} {H : Hp} (h : tsOf K P (mFz i m) D σ H) : tsOf K P m D σ H := by
  obtain ⟨B, τ, os, ok, q⟩ := h
  unfold mFz at q
  split at q
  · rename_i s e
    obtain ⟨v, o, r, hv, w, hr, pm⟩ := ok.sl.take e
    have nd := pm.nodup_iff.mp ok.nd
    obtain ⟨n1, n2, n3⟩ := List.nodup_append.mp nd
    let B2 : Hp := fun a => if a ∈ o then H a else B a
    have b2 : Same B B2 := fun a u ha => by
      show (if a ∈ o then H a else B a) = some u
      split
      · exact ok.ex a u ha
      · exact ha
    have b3 : Same B2 H := fun a u ha => by
      have ha : (if a ∈ o then H a else B a) = some u := ha
      split at ha
      · exact ha
      · exact ok.ex a u ha
    have b4 : ∀ a ∈ o, B2 a = H a := fun a ha => if_pos ha
    have b5 : ∀ a, a ∉ o → B2 a = B a := fun a ha => if_neg ha
    have hr2 : OwS K B2 H σ (τ.set i none) r := hr.mono b2 fun a ha => ⟨by
      rw [b5 a fun z => n3 a z a ha rfl]
      exact (hr.mem a ha).1, rfl⟩
    have hi : i < τ.length := (List.getElem?_eq_some_iff.mp e).1
    have h0 : (τ.set i none)[i]? = some none := by rw [List.getElem?_set_self hi]
    obtain ⟨r2, h1, h2⟩ := hr2.back hv h0 (.d (w.rp b2 b4))
    rw [List.set_set] at h1
    have hm : ∀ a ∈ r2, a ∈ r := fun a ha => by simpa using (h2.mem_iff.mp ha)
    refine ⟨B2, _, r2, ⟨b3, h1, h2.nodup_iff.mpr (by simpa using n2)⟩, q.from Pin.refl (p := false) ⟨b2, fun a u ha _ => ha, fun a ha => ha, fun a ha => .inl (pm.mem_iff.mpr (List.mem_append_right _ (hm a ha))), fun a ha z => ?_⟩⟩
    by_cases ma : a ∈ o
    · exact .inl ⟨rfl, pm.mem_iff.mpr (List.mem_append_left _ ma)⟩
    · rw [b5 a ma] at z
      exact absurd ha z
  · exact q.elim
section
variable {X : Cx} {P : List Nat}
theorem rs_fz (i : Nat) {st : Stmt} {m : MS} (h : RS X P st m) : RS X P st (mFz i m) := ⟨ps_imp h.ps fun D σ H q => fz_ok q⟩
theorem rss_fz (i : Nat) {st : List Stmt} {m : MS} (h : RSs X P st m) : RSs X P st (mFz i m) := ⟨pss_imp h.ps fun D σ H q => fz_ok q⟩
end
theorem Room_u65 {k : Nat} {A : Around} (r : Room k A) : A.units + 65 < cLine := by have := r.un; omega
theorem Room_u64 {k : Nat} {A : Around} (r : Room k A) : A.units + 64 < cLine := r.units
theorem og_lt {K : PySem.W.Frag} : Op2 K (rI0 fun i j => .bl (decide (i < j))) gLt := og_cmp
theorem og_le {K : PySem.W.Frag} : Op2 K (rI0 fun i j => .bl (decide (i ≤ j))) gLe := og_cmp
theorem og_gt {K : PySem.W.Frag} : Op2 K (rI0 fun i j => .bl (decide (j < i))) gGt := og_cmp
theorem og_ge {K : PySem.W.Frag} : Op2 K (rI0 fun i j => .bl (decide (j ≤ i))) gGe := og_cmp
theorem og_isub {K : PySem.W.Frag} : Op2 K (rI0 fun i j => .int (i - j)) gSub := og_sub

/-! ### defs of the text -/
def pinOk (modes : List Bool) (P : List Nat) : Bool := (List.range modes.length).all fun i => !(modes[i]? == some true) || P.contains i
theorem pinOk_at {modes : List Bool} {P : List Nat} (h : pinOk modes P = true) (i : Nat) (e : modes[i]? = some true) : i ∈ P := by
  unfold pinOk at h
  rw [List.all_eq_true] at h
  have z := h i (List.mem_range.mpr (List.getElem?_eq_some_iff.mp e).1)
  rw [e] at z
  simpa using z
structure Src (K : PySem.W.Frag) (mg : Str → Option Value) (x : Str) (st : Stmt) (ps : List Str) : Prop where
  ex : ∃ (fa : Addr) (fd : FuncData), Fun K x x st fa fd ∧ mg x = some (.ref fa) ∧ Binds K fd ps []
structure Def (P : Program) (w : World) (K : PySem.W.Frag) (mg : Str → Option Value) (base : Heap) (k : Nat) (x : Str) (ps : List Str) (sem : Sem1) : Prop where
  ex : ∃ (fa : Addr) (fd : FuncData), FnOk P w K mg base CX0 k fa fd ps (spS K sem) ∧ mg x = some (.ref fa) ∧ PySem.W.keepIn K (.ref fa) = true ∧ Binds K fd ps []
section
variable {Pr : Program} {w : World} {K : PySem.W.Frag} {mg : Str → Option Value} {base : Heap}
theorem def_tr {x : Str} {st : Stmt} {N ps : List Str} {k : Nat} {sem : Sem1} (S : Src K mg x st ps) (Sc : FnScope N ps (defScope st)) (modes : List Bool) (P : List Nat) (m : MS)
    (hb : ∀ (fa : Addr) (cdv : Value) (A : Around) (outer : List Env) (s : Shared) (H : Hp) (E : XK), Room k (A.deeper (envOfC x (defScope st) s.heap.objs.size fa cdv)) →
      RSs (cxOf CX0 Pr w K mg base N x (defScope st) fa cdv A outer s H E).nox P (defBody st) m)
    (hm : modes.length = ps.length := by rfl) (hP : pinOk modes P = true := by rfl) (hsem : ∀ ss r, sem ss = some r → runB modes N.length m ss = some r := by exact fun _ _ h => h) : Def Pr w K mg base (k + 1) x ps sem := by
  obtain ⟨fa, fd, F, hm', hbd⟩ := S.ex
  exact ⟨fa, fd, fn_tr modes P m F Sc hm (pinOk_at hP) hsem (fun cdv A outer s H E hr => hb fa cdv A outer s H E hr), hm', F.kp, hbd⟩
/-- nothing is promised -/
theorem def_none {x : Str} {st : Stmt} {ps : List Str} {k : Nat} (S : Src K mg x st ps) : Def Pr w K mg base k x ps (fun _ => none) := by
  obtain ⟨fa, fd, F, hm', hbd⟩ := S.ex
  refine ⟨fa, fd, ⟨fun vs H Q E h => ?_, fun A outer s H args us vs Q E hr he hb hv h => ?_⟩, hm', F.kp, hbd⟩
  · obtain ⟨_, _, _, _, _, _, _, _, e, _⟩ := h
    cases e
  · obtain ⟨_, _, _, _, _, _, _, _, e, _⟩ := h
    cases e
theorem Def.mono {x : Str} {ps : List Str} {j k : Nat} {sem : Sem1} (D : Def Pr w K mg base j x ps sem) (h : j ≤ k) : Def Pr w K mg base k x ps sem := by
  obtain ⟨fa, fd, F, h1, h2, h3⟩ := D.ex
  exact ⟨fa, fd, F.mono h, h1, h2, h3⟩
theorem Def.imp {x : Str} {ps : List Str} {k : Nat} {sem sem' : Sem1} (D : Def Pr w K mg base k x ps sem) (h : ∀ ss r, sem' ss = some r → sem ss = some r) : Def Pr w K mg base k x ps sem' := by
  obtain ⟨fa, fd, F, h1, h2, h3⟩ := D.ex
  exact ⟨fa, fd, F.imp fun vs H Q E ⟨B, ss, os, s, ss', a1, a2, a3, a4, a5⟩ => ⟨B, ss, os, s, ss', a1, a2, a3, h _ _ a4, a5⟩, h1, h2, h3⟩
end
section
variable {X : Cx} {p f : Bool} {a : Expr} {es : List Expr} {pos px : Pos}
theorem rx_callD {j k : Nat} {x : Str} {ps : List Str} {sem : Sem1} {mc : M (List Ar)} (D : Def X.prog X.w X.K X.mg X.base j x ps sem) (hr : Room k X.A) (hj : j ≤ k) (ha : RC X p (a :: es) mc)
    (hg : Gl X x := by rfl) (hdb : (x == ("__debug__" : Str)) = false := by decide) (he : starEach (a :: es) X.env = (false, eval a X.env) :: starEach es X.env := by rfl) (hpl : (backTo pos (starEach es X.env)).any (·.1) = false := by rfl) :
    RX X false f (.Call (.Name x px) (a :: es) [] pos) (mCall sem mc) := by
  obtain ⟨fa, fd, F, h1, h2, h3⟩ := D.ex
  exact rx_call F (hr.mono hj) h1 h2 h3 ha hg hdb he hpl
theorem rx_callPD {j k : Nat} {x : Str} {ps : List Str} {sem : Sem1} {mr : M (List D)} (D : Def X.prog X.w X.K X.mg X.base j x ps sem) (hr : Room k X.A) (hj : j ≤ k) (ha : RA X p (a :: es) mr)
    (hg : Gl X x := by rfl) (hdb : (x == ("__debug__" : Str)) = false := by decide) (he : starEach (a :: es) X.env = (false, eval a X.env) :: starEach es X.env := by rfl) (hpl : (backTo pos (starEach es X.env)).any (·.1) = false := by rfl) :
    RX X p f (.Call (.Name x px) (a :: es) [] pos) (mCallP sem mr) := by
  obtain ⟨fa, fd, F, h1, h2, h3⟩ := D.ex
  exact rx_callP F (hr.mono hj) h1 h2 h3 ha hg hdb he hpl
end
end Tr

/-! Tr10: reckoning with m's, in plain Lean. -/
namespace Tr
open PySem PySem.Spec PyProof.Rows L2
/-! ### equality of plain data -/
theorem gEq_int (n : Bool) (i j : Int) : gEq n (.d (.int i)) (.d (.int j)) = some (.bl (if n then !decide (i = j) else decide (i = j))) := by
  rw [← show (i == j) = decide (i = j) from rfl]
  rfl
theorem gEq_bl (n : Bool) (i j : Bool) : gEq n (.d (.bl i)) (.d (.bl j)) = some (.bl (if n then !(i == j) else i == j)) := rfl
theorem gEq_bi (n : Bool) (i : Bool) (j : Int) : gEq n (.d (.bl i)) (.d (.int j)) = some (.bl (if n then !((if i then 1 else 0) == j) else (if i then 1 else 0) == j)) := rfl
theorem gEq_nn (n : Bool) : gEq n (.d .non) (.d .non) = some (.bl (if n then false else true)) := by cases n <;> rfl
theorem gEq_str (n : Bool) (x y : Str) (hx : PyData.strOk x = true) (hy : PyData.strOk y = true) : gEq n (.d (.str x)) (.d (.str y)) = some (.bl (if n then !decide (x = y) else decide (x = y))) := by
  rw [show decide (x = y) = (x == y) by rw [Bool.eq_iff_iff]; simp]
  unfold gEq
  have h1 : (S.d (.str x)).view.shp = true := by
    show (PyData.strOk x && decide (0 ≤ 64)) = true
    rw [hx]
    rfl
  have h2 : (S.d (.str y)).view.shp = true := by
    show (PyData.strOk y && decide (0 ≤ 64)) = true
    rw [hy]
    rfl
  rw [h1, h2]
  rfl
def D.fok : D → Bool
  | .str z => PyData.strOk z
  | .non => true | .bl _ => true | .int _ => true
  | _ => false
theorem lay_fok : ∀ {d : D}, d.fok = true → d.toP.canLay0 = true ∧ d.toP.depth = 0
  | .non, _ => ⟨rfl, rfl⟩
  | .bl _, _ => ⟨rfl, rfl⟩
  | .int _, _ => ⟨rfl, rfl⟩
  | .str _, h => ⟨h, rfl⟩
theorem lays_fok : ∀ {ds : List D}, ds.all D.fok = true → PyData.canLayAll0 (D.toPs ds) = true ∧ PyData.depthAll (D.toPs ds) = 0
  | [], _ => ⟨rfl, rfl⟩
  | d :: r, h => by
    rw [List.all_cons, Bool.and_eq_true] at h
    obtain ⟨h1, h2⟩ := lay_fok h.1
    obtain ⟨h3, h4⟩ := lays_fok h.2
    constructor
    · show (d.toP.canLay0 && PyData.canLayAll0 (D.toPs r)) = true
      rw [h1, h3]
      rfl
    · show max d.toP.depth (PyData.depthAll (D.toPs r)) = 0
      rw [h2, h4]
      rfl
theorem shp_fok {d : D} (h : d.fok = true) : d.shp = true := by
  obtain ⟨h1, h2⟩ := lay_fok h
  show (d.toP.canLay0 && decide (d.toP.depth ≤ 64)) = true
  rw [h1, h2]
  rfl
theorem shp_lst {ds : List D} (h : ds.all D.fok = true) : (D.lst ds).shp = true := by
  obtain ⟨h1, h2⟩ := lays_fok h
  show (PyData.canLayAll0 (D.toPs ds) && decide (PyData.depthAll (D.toPs ds) + 1 ≤ 64)) = true
  rw [h1, h2]
  rfl
theorem shp_tup {ds : List D} (h : ds.all D.fok = true) : (D.tup ds).shp = true := shp_lst (ds := ds) h
theorem eqv_str (a b : Str) : D.eqv (.str a) (.str b) = decide (a = b) := by
  rw [show D.eqv (.str a) (.str b) = (a == b) from rfl, Bool.eq_iff_iff]
  simp
theorem eqv_int (a b : Int) : D.eqv (.int a) (.int b) = decide (a = b) := rfl
theorem gIn_lst {n : Bool} {s : D} {ds : List D} (hs : s.fok = true) (h : ds.all D.fok = true) : gIn n (.d s) (.d (.lst ds)) = some (.bl (if n then !ds.any fun z => D.eqv z s else ds.any fun z => D.eqv z s)) := by
  show (if s.shp && (D.lst ds).shp then some (D.bl (if n then !ds.any fun z => D.eqv z s else ds.any fun z => D.eqv z s)) else none) = _
  rw [shp_fok hs, shp_lst h]
  rfl
theorem gAdd_int (i j : Int) : gAdd (.d (.int i)) (.d (.int j)) = some (.int (i + j)) := rfl
theorem gAdd_str (a b : Str) (h : a.length + b.length ≤ LIM) : gAdd (.d (.str a)) (.d (.str b)) = some (.str (a ++ b)) := by
  show (if a.length + b.length ≤ LIM then some (D.str (a ++ b)) else none) = _
  rw [if_pos h]
theorem gAdd_tup (a b : List D) (h : a.length + b.length ≤ LIM) : gAdd (.d (.tup a)) (.d (.tup b)) = some (.tup (a ++ b)) := by
  show (if a.length + b.length ≤ LIM then some (D.tup (a ++ b)) else none) = _
  rw [if_pos h]
theorem gAdd_lst (a b : List D) (h : a.length + b.length ≤ LIM) : gAdd (.d (.lst a)) (.d (.lst b)) = some (.lst (a ++ b)) := by
  show (if a.length + b.length ≤ LIM then some (D.lst (a ++ b)) else none) = _
  rw [if_pos h]
theorem gIx_str (z : Str) (i : Int) (c : Nat) (h : z.length ≤ LIM) (hc : atI z.cps.toList i = some c) : gIx (.d (.str z)) (.d (.int i)) = some (.d (.str ⟨#[c]⟩)) := by
  show (if z.length ≤ LIM then (atI z.cps.toList i).map (fun c => S.d (.str ⟨#[c]⟩)) else none) = _
  rw [if_pos h, hc]
  rfl
theorem atI_in {α : Type} {xs : List α} {i : Int} (h0 : 0 ≤ i) (h1 : i.toNat < xs.length) : atI xs i = some xs[i.toNat] := by
  unfold atI ixN
  rw [if_pos h0, if_pos (by omega)]
  exact List.getElem?_eq_getElem h1
theorem gJoin_lst {a : Str} {xs : List D} {zs : List Str} (h : strsD xs = some zs) (hl : (zs.map (fun z : Str => z.length)).sum + zs.length * a.length ≤ LIM) : gJoin (.d (.str a)) (.d (.lst xs)) = some (.str (Txt.join a zs)) := by
  show (match (some xs : Option (List D)).bind strsD with
    | some ys => if (ys.map (fun z : Str => z.length)).sum + ys.length * a.length ≤ LIM then some (D.str (Txt.join a ys)) else none
    | none => none) = _
  rw [Option.bind_some, h]
  dsimp only
  rw [if_pos hl]
def Ch (d : D) : Prop := ∃ c : Nat, c < 0x110000 ∧ d = .str ⟨#[c]⟩
theorem strs_of : ∀ {xs : List D}, (∀ x ∈ xs, Ch x) → ∃ zs : List Str, strsD xs = some zs ∧ zs.length = xs.length ∧ ∀ z ∈ zs, ∃ c : Nat, c < 0x110000 ∧ z = ⟨#[c]⟩
  | [], _ => ⟨[], rfl, rfl, by simp⟩
  | x :: r, h => by
    obtain ⟨c, hc, rfl⟩ := h x (List.mem_cons_self ..)
    obtain ⟨zs, e, hl, hz⟩ := strs_of (xs := r) fun y m => h y (List.mem_cons_of_mem _ m)
    refine ⟨⟨#[c]⟩ :: zs, ?_, by simp [hl], fun z m => ?_⟩
    · simp only [strsD, e, Option.map_some]
    · rcases List.mem_cons.mp m with q | q
      · exact ⟨c, hc, q⟩
      · exact hz z q
theorem sum_ones : ∀ {zs : List Str}, (∀ z ∈ zs, ∃ c : Nat, c < 0x110000 ∧ z = ⟨#[c]⟩) → (zs.map (fun z : Str => z.length)).sum = zs.length
  | [], _ => rfl
  | z :: r, h => by
    obtain ⟨c, _, rfl⟩ := h z (List.mem_cons_self ..)
    have := sum_ones (zs := r) fun y m => h y (List.mem_cons_of_mem _ m)
    rw [List.map_cons, List.sum_cons, this, List.length_cons]
    show 1 + r.length = r.length + 1
    omega
theorem foldl_ok : ∀ {zs : List Str} {acc : Array Nat}, acc.all (· < 0x110000) = true → (∀ z ∈ zs, ∃ c : Nat, c < 0x110000 ∧ z = ⟨#[c]⟩) → (List.foldl (fun acc (p : Str) => acc ++ (Str.ofString "").cps ++ p.cps) acc zs).all (· < 0x110000) = true
  | [], acc, h, _ => h
  | z :: r, acc, h, hz => by
    obtain ⟨c, hc, rfl⟩ := hz z (List.mem_cons_self ..)
    rw [List.foldl_cons]
    refine foldl_ok ?_ fun y m => hz y (List.mem_cons_of_mem _ m)
    rw [Array.all_append, Array.all_append, h]
    simp [hc]
    decide
theorem join_ok {zs : List Str} (hz : ∀ z ∈ zs, ∃ c : Nat, c < 0x110000 ∧ z = ⟨#[c]⟩) : PyData.strOk (Txt.join "" zs) = true := by
  cases zs with
  | nil => decide +kernel
  | cons z r =>
    obtain ⟨c, hc, rfl⟩ := hz z (List.mem_cons_self ..)
    show (List.foldl (fun acc (p : Str) => acc ++ (Str.ofString "").cps ++ p.cps) #[c] r).all (· < 0x110000) = true
    refine foldl_ok ?_ fun y m => hz y (List.mem_cons_of_mem _ m)
    simp [hc]
/-- plain values -/
def Pl (d : D) : Prop := d = .non ∨ (∃ b, d = .bl b) ∨ (∃ i, d = .int i) ∨ ∃ z : Str, PyData.strOk z = true ∧ d = .str z
/-! ### loops -/
theorem forM_inv {g : D → Sl → Option Sl} {mb : MS} (I : Sl → Prop) : ∀ {ds : List D} {τ : Sl}, I τ → (∀ d ∈ ds, ∀ τ, I τ → ∃ τ1 τ2, g d τ = some τ1 ∧ mb τ1 = some (.nx, τ2) ∧ I τ2) → ∃ τ', forM g mb ds τ = some (.nx, τ') ∧ I τ'
  | [], τ, h0, _ => ⟨τ, rfl, h0⟩
  | d :: r, τ, h0, hs => by
    obtain ⟨τ1, τ2, e1, e2, h2⟩ := hs d (List.mem_cons_self ..) τ h0
    obtain ⟨τ', e3, h3⟩ := forM_inv I (ds := r) h2 fun d' m => hs d' (List.mem_cons_of_mem _ m)
    refine ⟨τ', ?_, h3⟩
    rw [forM, e1]
    dsimp only
    rw [e2]
    exact e3
/-- with the place that is reached -/
theorem forM_inv2 {g : D → Sl → Option Sl} {mb : MS} {ds : List D} (I : Nat → Sl → Prop) {τ : Sl} (h0 : I 0 τ) (hs : ∀ n d, ds[n]? = some d → ∀ τ, I n τ → ∃ τ1 τ2, g d τ = some τ1 ∧ (mb τ1 = some (.nx, τ2) ∨ mb τ1 = some (.ct, τ2)) ∧ I (n + 1) τ2) : ∃ τ', forM g mb ds τ = some (.nx, τ') ∧ I ds.length τ' := by
  have go : ∀ (k n : Nat) (τ : Sl), ds.length - n = k → n ≤ ds.length → I n τ → ∃ τ', forM g mb (ds.drop n) τ = some (.nx, τ') ∧ I ds.length τ' := by
    intro k
    induction k with
    | zero =>
      intro n τ e hn h
      have : n = ds.length := by omega
      subst this
      rw [List.drop_length]
      exact ⟨τ, rfl, h⟩
    | succ k ih =>
      intro n τ e hn h
      have hl : n < ds.length := by omega
      rw [List.drop_eq_getElem_cons hl]
      obtain ⟨τ1, τ2, e1, e2, h2⟩ := hs n ds[n] (List.getElem?_eq_getElem hl) τ h
      obtain ⟨τ', e3, h3⟩ := ih (n + 1) τ2 (by omega) (by omega) h2
      refine ⟨τ', ?_, h3⟩
      rw [forM, e1]
      dsimp only
      rcases e2 with e2 | e2 <;> (rw [e2]; exact e3)
  have := go ds.length 0 τ (by omega) (by omega) h0
  rwa [List.drop_zero] at this
theorem compM_inv {g : D → Sl → Option Sl} {mt : M Bool} {me : M S} {vs : List Nat} (I : Sl → Prop) (P : D → Prop) : ∀ {ds : List D} {τ : Sl}, I τ →
    (∀ d ∈ ds, ∀ τ, I τ → ∃ τ1 τ2 τ3 x, g d τ = some τ1 ∧ mt τ1 = some (true, τ2) ∧ me τ2 = some (.d x, τ3) ∧ P x ∧ I (wipeT τ3 vs)) → ∃ xs τ', compM g mt me vs ds τ = some (xs, τ') ∧ I τ' ∧ xs.length = ds.length ∧ ∀ x ∈ xs, P x
  | [], τ, h0, _ => ⟨[], τ, rfl, h0, rfl, by simp⟩
  | d :: r, τ, h0, hs => by
    obtain ⟨τ1, τ2, τ3, x, e1, e2, e3, px, h2⟩ := hs d (List.mem_cons_self ..) τ h0
    obtain ⟨xs, τ', e4, h3, hl, hp⟩ := compM_inv I P (ds := r) h2 fun d' m => hs d' (List.mem_cons_of_mem _ m)
    refine ⟨x :: xs, τ', ?_, h3, by simp [hl], fun y hy => ?_⟩
    · rw [compM, e1]
      dsimp only
      rw [e2]
      dsimp only
      rw [e3]
      dsimp only
      rw [e4]
    · rcases List.mem_cons.mp hy with z | z
      · rw [z]; exact px
      · exact hp y z
theorem cut_mem {α : Type} {xs : List α} {lo hi : Option Int} {d : α} (h : d ∈ cut xs lo hi) : d ∈ xs := List.mem_of_mem_drop (List.mem_of_mem_take h)
theorem mFor_of {mi : M (List D)} {g : D → Sl → Option Sl} {mb : MS} {τ τ1 : Sl} {ds : List D} (h : mi τ = some (ds, τ1)) : mFor mi g mb τ = forM g mb ds τ1 := by
  unfold mFor
  rw [h]
theorem mRange1_of {m : M S} {τ τ1 : Sl} {j : Int} (h : m τ = some (.d (.int j), τ1)) (h1 : -4611686018427387904 ≤ j) (h2 : j < 4611686018427387904) : mRange1 m τ = some (rangeD 0 j.toNat, τ1) := by
  unfold mRange1
  rw [h]
  dsimp only
  rw [if_pos ⟨h1, h2⟩]
theorem mRange2_of {mr : M (List D)} {τ τ1 : Sl} {i j : Int} (h : mr τ = some ([.int i, .int j], τ1)) (h1 : -4611686018427387904 ≤ i) (h2 : i < 4611686018427387904) (h3 : -4611686018427387904 ≤ j) (h4 : j < 4611686018427387904) : mRange2 mr τ = some (rangeD i (j - i).toNat, τ1) := by
  unfold mRange2
  rw [h]
  dsimp only
  rw [if_pos ⟨h1, h2, h3, h4⟩]
theorem mItems_of {m : M S} {τ τ1 : Sl} {d : D} {ds : List D} (h : m τ = some (.d d, τ1)) (hd : itemsD d = some ds) : mItems m τ = some (ds, τ1) := by
  unfold mItems
  rw [h]
  dsimp only
  rw [hd]
theorem mComp_of {n : Nat} {mi : M (List D)} {g : D → Sl → Option Sl} {mt : M Bool} {me : M S} {vs : List Nat} {τ τ1 τ2 : Sl} {ds xs : List D} (h : mi τ = some (ds, τ1)) (h1 : τ1.length = n) (h2 : calmAt τ1 vs = true) (h3 : ds.length < LIM) (h4 : compM g mt me vs ds (wipeT τ1 vs) = some (xs, τ2)) :
    mComp n mi g mt me vs τ = some (xs, unwipe τ1 τ2 vs) := by
  unfold mComp
  rw [h]
  dsimp only
  rw [if_pos ⟨h1, h2, h3⟩, h4]
theorem seq_nx {m1 m2 : MS} {τ τ1 : Sl} (h : m1 τ = some (.nx, τ1)) : mSeq m1 m2 τ = m2 τ1 := by
  unfold mSeq
  rw [h]
theorem seq_rt {m1 m2 : MS} {τ τ1 : Sl} {s : S} (h : m1 τ = some (.rt s, τ1)) : mSeq m1 m2 τ = some (.rt s, τ1) := by
  unfold mSeq
  rw [h]
theorem runB_rt {modes : List Bool} {n : Nat} {m : MS} {ss r : List S} {s : S} {τ : Sl} (h : ss.length = modes.length) (e : m (Tr.startT n ss) = some (.rt s, τ)) (b : backS modes ss τ = some r) : runB modes n m ss = some (s, r) := by
  unfold runB
  rw [if_pos h, e]
  dsimp only
  rw [b]
theorem runB_nx {modes : List Bool} {n : Nat} {m : MS} {ss r : List S} {τ : Sl} (h : ss.length = modes.length) (e : m (Tr.startT n ss) = some (.nx, τ)) (b : backS modes ss τ = some r) : runB modes n m ss = some (.d .non, r) := by
  unfold runB
  rw [if_pos h, e]
  dsimp only
  rw [b]
theorem sp_law {K : PySem.W.Frag} {sem : Sem1} {a : Addr} {ns : List Int} {H : Hp} {E : XK} (hS : SqL K H a (ns.map V.int)) (h : ∃ r, sem [.d (.scr ns)] = some (.d (.bl true), r)) : spS K sem [.ref a] H (fun v _ => v = .bl true) E := by
  obtain ⟨r, e⟩ := h
  refine ⟨H, [.d (.scr ns)], [], _, r, fun _ _ z => z, .cons (os := []) (.d (.scr hS)) .nil, List.nodup_nil, e, fun v B' H' ov os' w _ _ _ _ => ?_⟩
  cases rp_bl (ow_d w)
  rfl
theorem rangeD_mem {lo : Int} {n : Nat} {d : D} (h : d ∈ rangeD lo n) : ∃ i : Nat, i < n ∧ d = .int (lo + (i : Nat)) := by
  unfold rangeD at h
  obtain ⟨i, h1, h2⟩ := List.mem_map.mp h
  exact ⟨i, List.mem_range.mp h1, h2.symm⟩
theorem log2_lt {a k : Nat} (h : a < 2 ^ k) (hk : 0 < k) : a.log2 < k := by
  by_cases z : a = 0
  · subst z; simpa using hk
  · exact (Nat.log2_lt z).mpr h
theorem mulOk_of {i j : Int} {a b : Nat} (h1 : i.natAbs < 2 ^ a) (h2 : j.natAbs < 2 ^ b) (ha : 0 < a) (hb : 0 < b) (h : a + b ≤ 1000000) : mulOk i j = true := by
  unfold mulOk
  have := log2_lt h1 ha
  have := log2_lt h2 hb
  exact decide_eq_true (by omega)
theorem divOk_of {i j : Int} {b : Nat} (h0 : 0 < j) (h2 : j.natAbs < 2 ^ b) (hb : 0 < b) (h : b ≤ 9000) : divOk i j = true := by
  unfold divOk
  have := log2_lt h2 hb
  rw [decide_eq_true h0, Bool.true_and]
  exact decide_eq_true (by omega)
/-! ### the laws' own draws: a state [cells, place, rest, seed] -/
structure Nx where
  ns : List Int
  i : Nat
  c : Int
  s : Int
def Nx.S (x : Nx) : S := .lst [.d (.lst (x.ns.map D.int)), .d (.int x.i), .d (.int x.c), .d (.int x.s)]
structure Nx.ok (x : Nx) : Prop where
  c0 : 0 ≤ x.c
  s0 : 0 ≤ x.s
  s1 : x.s < 2147483647
end Tr

/-! TrO: the order of data (truths, ints, texts, tuples of these to any depth): what the first pair that differs says. -/
namespace TrO
open PySem PySem.SeqAt
open PySem.AutoSeq1 (wpAny_loadPart')
open PySem.MeetsSeq PySem.MeetsSeq2 PySem.MeetsSeq3
def szO (op : CmpOp) (m n : Nat) : Bool := match op with
  | .Lt => decide (m < n) | .LtE => decide (m ≤ n) | .Gt => decide (m > n) | _ => decide (m ≥ n)
def LexV (op : CmpOp) (A : Around) (s : Shared) (r : Bool) : List Value → List Value → Prop
  | x :: xs, y :: ys => (EqAt A s x y true ∧ LexV op A s r xs ys) ∨ (EqAt A s x y false ∧ Ob.RcOp op A s x y r)
  | xs, ys => szO op xs.length ys.length = r
theorem szO_add (op : CmpOp) (i m n : Nat) : szO op (i + m) (i + n) = szO op m n := by
  unfold szO
  split <;> (rw [decide_eq_decide]; omega)
theorem tupLex_lt (l b : Addr) (I J : Array Value) (n m : Nat) (dd ee : Option Addr) (sl tl : Array (Option Value)) :
    Meets (Builtin.«tuple.__lt__» ⟨[.ref l, .ref b], []⟩)
      (fun A R s => s.heap.get? l = some { cls := .type "tuple", dict := dd, data := .seq I n, slots := sl } ∧ s.heap.get? b = some { cls := .type "tuple", dict := ee, data := .seq J m, slots := tl } ∧
        ∃ r, LexV .Lt A.in1 s r I.toList J.toList ∧ R (.ok (.ret (.bool r))) s) :=
  .of_wp fun prog w A R s h => by
    obtain ⟨hp, gl, dn, tk, os⟩ := s
    obtain ⟨hl, hb, r, hx, hR⟩ := h
    have sub2 := AutoSeq1.sub_tuple_tuple
    wp_walk using wpAny_loadPart' hl, wpAny_loadPart' hb, wpAny_forIn_list _ (fun rest c s' => c.1 = none ∧ s' = ⟨hp, gl, dn, tk, os⟩ ∧ ∃ xs ys k, rest = xs.zip ys ∧ LexV .Lt A.in1 ⟨hp, gl, dn, tk, os⟩ r xs ys ∧ I.size = k + xs.length ∧ J.size = k + ys.length) _
    case turn =>
      rintro ⟨p, q⟩ rest c s' ⟨hc, rfl, xs, ys, k, hz, hx, e1, e2⟩
      cases xs with
      | nil => cases hz
      | cons x xs =>
        cases ys with
        | nil => cases hz
        | cons y ys =>
          rw [List.zip_cons_cons] at hz
          injection hz with hpq hrest
          cases hpq
          rcases hx with ⟨he, hx⟩ | ⟨he, hr⟩
          · refine wpAny_bind (he prog w _ _ ?_)
            wp_walk
            exact ⟨rfl, rfl, xs, ys, k + 1, hrest, hx, by rw [e1, List.length_cons]; omega, by rw [e2, List.length_cons]; omega⟩
          · refine wpAny_bind (he prog w _ _ ?_)
            have hri := hr prog w
            wp_walk using hri
            exact ⟨_, rfl, by simpa using hR⟩
    case fin =>
      rintro ⟨c1, c2⟩ s' ⟨hc, rfl, xs, ys, k, hz, hx, e1, e2⟩
      simp only at hc
      subst hc
      have hx2 : szO .Lt xs.length ys.length = r := by
        cases xs with
        | nil => cases ys <;> exact hx
        | cons x xs =>
          cases ys with
          | nil => exact hx
          | cons y ys => cases hz
      rw [← szO_add _ k, ← e1, ← e2] at hx2
      subst hx2
      wp_walk
      exact ⟨_, rfl, by simpa [Builtin.Tuple.tupleCompareSizes, szO] using hR⟩
    case h =>
      exact ⟨rfl, rfl, I.toList, J.toList, 0, rfl, hx, by simp, by simp⟩
theorem tup_lt {A : Around} {s : Shared} {l b : Addr} {I J : Array Value} {r : Bool} (hl : s.heap.IsTuple l I) (hb : s.heap.IsTuple b J) (hu : A.units < cLine) (hx : LexV .Lt A.in1 s r I.toList J.toList) :
    Ob.RcOp .Lt A s (.ref l) (.ref b) r := fun prog w E Q hq => by
  obtain ⟨⟨c1, d1, x1, s1⟩, g1, k1, n1, z1⟩ := id hl
  obtain ⟨⟨c2, d2, x2, s2⟩, g2, k2, n2, z2⟩ := id hb
  simp only at k1 z1 k2 z2
  subst k1 z1 k2 z2
  exact richCompare_meets_room (op := .Lt) ⟨_, g1, rfl⟩ ⟨_, g2, rfl⟩ F.slot_tuple_lt F.entry_tuple_lt (F.args_tuple_lt_2 _ _) (tupLex_lt l b I J n1 n2 d1 d2 s1 s2)
    ⟨g1, g2, r, hx, ⟨(fun z => nomatch z), hq⟩⟩ hu
theorem tupLex_le (l b : Addr) (I J : Array Value) (n m : Nat) (dd ee : Option Addr) (sl tl : Array (Option Value)) :
    Meets (Builtin.«tuple.__le__» ⟨[.ref l, .ref b], []⟩)
      (fun A R s => s.heap.get? l = some { cls := .type "tuple", dict := dd, data := .seq I n, slots := sl } ∧ s.heap.get? b = some { cls := .type "tuple", dict := ee, data := .seq J m, slots := tl } ∧
        ∃ r, LexV .LtE A.in1 s r I.toList J.toList ∧ R (.ok (.ret (.bool r))) s) :=
  .of_wp fun prog w A R s h => by
    obtain ⟨hp, gl, dn, tk, os⟩ := s
    obtain ⟨hl, hb, r, hx, hR⟩ := h
    have sub2 := AutoSeq1.sub_tuple_tuple
    wp_walk using wpAny_loadPart' hl, wpAny_loadPart' hb, wpAny_forIn_list _ (fun rest c s' => c.1 = none ∧ s' = ⟨hp, gl, dn, tk, os⟩ ∧ ∃ xs ys k, rest = xs.zip ys ∧ LexV .LtE A.in1 ⟨hp, gl, dn, tk, os⟩ r xs ys ∧ I.size = k + xs.length ∧ J.size = k + ys.length) _
    case turn =>
      rintro ⟨p, q⟩ rest c s' ⟨hc, rfl, xs, ys, k, hz, hx, e1, e2⟩
      cases xs with
      | nil => cases hz
      | cons x xs =>
        cases ys with
        | nil => cases hz
        | cons y ys =>
          rw [List.zip_cons_cons] at hz
          injection hz with hpq hrest
          cases hpq
          rcases hx with ⟨he, hx⟩ | ⟨he, hr⟩
          · refine wpAny_bind (he prog w _ _ ?_)
            wp_walk
            exact ⟨rfl, rfl, xs, ys, k + 1, hrest, hx, by rw [e1, List.length_cons]; omega, by rw [e2, List.length_cons]; omega⟩
          · refine wpAny_bind (he prog w _ _ ?_)
            have hri := hr prog w
            wp_walk using hri
            exact ⟨_, rfl, by simpa using hR⟩
    case fin =>
      rintro ⟨c1, c2⟩ s' ⟨hc, rfl, xs, ys, k, hz, hx, e1, e2⟩
      simp only at hc
      subst hc
      have hx2 : szO .LtE xs.length ys.length = r := by
        cases xs with
        | nil => cases ys <;> exact hx
        | cons x xs =>
          cases ys with
          | nil => exact hx
          | cons y ys => cases hz
      rw [← szO_add _ k, ← e1, ← e2] at hx2
      subst hx2
      wp_walk
      exact ⟨_, rfl, by simpa [Builtin.Tuple.tupleCompareSizes, szO] using hR⟩
    case h =>
      exact ⟨rfl, rfl, I.toList, J.toList, 0, rfl, hx, by simp, by simp⟩
theorem tup_le {A : Around} {s : Shared} {l b : Addr} {I J : Array Value} {r : Bool} (hl : s.heap.IsTuple l I) (hb : s.heap.IsTuple b J) (hu : A.units < cLine) (hx : LexV .LtE A.in1 s r I.toList J.toList) :
    Ob.RcOp .LtE A s (.ref l) (.ref b) r := fun prog w E Q hq => by
  obtain ⟨⟨c1, d1, x1, s1⟩, g1, k1, n1, z1⟩ := id hl
  obtain ⟨⟨c2, d2, x2, s2⟩, g2, k2, n2, z2⟩ := id hb
  simp only at k1 z1 k2 z2
  subst k1 z1 k2 z2
  exact richCompare_meets_room (op := .LtE) ⟨_, g1, rfl⟩ ⟨_, g2, rfl⟩ F.slot_tuple_le F.entry_tuple_le (F.args_tuple_le_2 _ _) (tupLex_le l b I J n1 n2 d1 d2 s1 s2)
    ⟨g1, g2, r, hx, ⟨(fun z => nomatch z), hq⟩⟩ hu
theorem tupLex_gt (l b : Addr) (I J : Array Value) (n m : Nat) (dd ee : Option Addr) (sl tl : Array (Option Value)) :
    Meets (Builtin.«tuple.__gt__» ⟨[.ref l, .ref b], []⟩)
      (fun A R s => s.heap.get? l = some { cls := .type "tuple", dict := dd, data := .seq I n, slots := sl } ∧ s.heap.get? b = some { cls := .type "tuple", dict := ee, data := .seq J m, slots := tl } ∧
        ∃ r, LexV .Gt A.in1 s r I.toList J.toList ∧ R (.ok (.ret (.bool r))) s) :=
  .of_wp fun prog w A R s h => by
    obtain ⟨hp, gl, dn, tk, os⟩ := s
    obtain ⟨hl, hb, r, hx, hR⟩ := h
    have sub2 := AutoSeq1.sub_tuple_tuple
    wp_walk using wpAny_loadPart' hl, wpAny_loadPart' hb, wpAny_forIn_list _ (fun rest c s' => c.1 = none ∧ s' = ⟨hp, gl, dn, tk, os⟩ ∧ ∃ xs ys k, rest = xs.zip ys ∧ LexV .Gt A.in1 ⟨hp, gl, dn, tk, os⟩ r xs ys ∧ I.size = k + xs.length ∧ J.size = k + ys.length) _
    case turn =>
      rintro ⟨p, q⟩ rest c s' ⟨hc, rfl, xs, ys, k, hz, hx, e1, e2⟩
      cases xs with
      | nil => cases hz
      | cons x xs =>
        cases ys with
        | nil => cases hz
        | cons y ys =>
          rw [List.zip_cons_cons] at hz
          injection hz with hpq hrest
          cases hpq
          rcases hx with ⟨he, hx⟩ | ⟨he, hr⟩
          · refine wpAny_bind (he prog w _ _ ?_)
            wp_walk
            exact ⟨rfl, rfl, xs, ys, k + 1, hrest, hx, by rw [e1, List.length_cons]; omega, by rw [e2, List.length_cons]; omega⟩
          · refine wpAny_bind (he prog w _ _ ?_)
            have hri := hr prog w
            wp_walk using hri
            exact ⟨_, rfl, by simpa using hR⟩
    case fin =>
      rintro ⟨c1, c2⟩ s' ⟨hc, rfl, xs, ys, k, hz, hx, e1, e2⟩
      simp only at hc
      subst hc
      have hx2 : szO .Gt xs.length ys.length = r := by
        cases xs with
        | nil => cases ys <;> exact hx
        | cons x xs =>
          cases ys with
          | nil => exact hx
          | cons y ys => cases hz
      rw [← szO_add _ k, ← e1, ← e2] at hx2
      subst hx2
      wp_walk
      exact ⟨_, rfl, by simpa [Builtin.Tuple.tupleCompareSizes, szO] using hR⟩
    case h =>
      exact ⟨rfl, rfl, I.toList, J.toList, 0, rfl, hx, by simp, by simp⟩
theorem tup_gt {A : Around} {s : Shared} {l b : Addr} {I J : Array Value} {r : Bool} (hl : s.heap.IsTuple l I) (hb : s.heap.IsTuple b J) (hu : A.units < cLine) (hx : LexV .Gt A.in1 s r I.toList J.toList) :
    Ob.RcOp .Gt A s (.ref l) (.ref b) r := fun prog w E Q hq => by
  obtain ⟨⟨c1, d1, x1, s1⟩, g1, k1, n1, z1⟩ := id hl
  obtain ⟨⟨c2, d2, x2, s2⟩, g2, k2, n2, z2⟩ := id hb
  simp only at k1 z1 k2 z2
  subst k1 z1 k2 z2
  exact richCompare_meets_room (op := .Gt) ⟨_, g1, rfl⟩ ⟨_, g2, rfl⟩ F.slot_tuple_gt F.entry_tuple_gt (F.args_tuple_gt_2 _ _) (tupLex_gt l b I J n1 n2 d1 d2 s1 s2)
    ⟨g1, g2, r, hx, ⟨(fun z => nomatch z), hq⟩⟩ hu
theorem tupLex_ge (l b : Addr) (I J : Array Value) (n m : Nat) (dd ee : Option Addr) (sl tl : Array (Option Value)) :
    Meets (Builtin.«tuple.__ge__» ⟨[.ref l, .ref b], []⟩)
      (fun A R s => s.heap.get? l = some { cls := .type "tuple", dict := dd, data := .seq I n, slots := sl } ∧ s.heap.get? b = some { cls := .type "tuple", dict := ee, data := .seq J m, slots := tl } ∧
        ∃ r, LexV .GtE A.in1 s r I.toList J.toList ∧ R (.ok (.ret (.bool r))) s) :=
  .of_wp fun prog w A R s h => by
    obtain ⟨hp, gl, dn, tk, os⟩ := s
    obtain ⟨hl, hb, r, hx, hR⟩ := h
    have sub2 := AutoSeq1.sub_tuple_tuple
    wp_walk using wpAny_loadPart' hl, wpAny_loadPart' hb, wpAny_forIn_list _ (fun rest c s' => c.1 = none ∧ s' = ⟨hp, gl, dn, tk, os⟩ ∧ ∃ xs ys k, rest = xs.zip ys ∧ LexV .GtE A.in1 ⟨hp, gl, dn, tk, os⟩ r xs ys ∧ I.size = k + xs.length ∧ J.size = k + ys.length) _
    case turn =>
      rintro ⟨p, q⟩ rest c s' ⟨hc, rfl, xs, ys, k, hz, hx, e1, e2⟩
      cases xs with
      | nil => cases hz
      | cons x xs =>
        cases ys with
        | nil => cases hz
        | cons y ys =>
          rw [List.zip_cons_cons] at hz
          injection hz with hpq hrest
          cases hpq
          rcases hx with ⟨he, hx⟩ | ⟨he, hr⟩
          · refine wpAny_bind (he prog w _ _ ?_)
            wp_walk
            exact ⟨rfl, rfl, xs, ys, k + 1, hrest, hx, by rw [e1, List.length_cons]; omega, by rw [e2, List.length_cons]; omega⟩
          · refine wpAny_bind (he prog w _ _ ?_)
            have hri := hr prog w
            wp_walk using hri
            exact ⟨_, rfl, by simpa using hR⟩
    case fin =>
      rintro ⟨c1, c2⟩ s' ⟨hc, rfl, xs, ys, k, hz, hx, e1, e2⟩
      simp only at hc
      subst hc
      have hx2 : szO .GtE xs.length ys.length = r := by
        cases xs with
        | nil => cases ys <;> exact hx
        | cons x xs =>
          cases ys with
          | nil => exact hx
          | cons y ys => cases hz
      rw [← szO_add _ k, ← e1, ← e2] at hx2
      subst hx2
      wp_walk
      exact ⟨_, rfl, by simpa [Builtin.Tuple.tupleCompareSizes, szO] using hR⟩
    case h =>
      exact ⟨rfl, rfl, I.toList, J.toList, 0, rfl, hx, by simp, by simp⟩
theorem tup_ge {A : Around} {s : Shared} {l b : Addr} {I J : Array Value} {r : Bool} (hl : s.heap.IsTuple l I) (hb : s.heap.IsTuple b J) (hu : A.units < cLine) (hx : LexV .GtE A.in1 s r I.toList J.toList) :
    Ob.RcOp .GtE A s (.ref l) (.ref b) r := fun prog w E Q hq => by
  obtain ⟨⟨c1, d1, x1, s1⟩, g1, k1, n1, z1⟩ := id hl
  obtain ⟨⟨c2, d2, x2, s2⟩, g2, k2, n2, z2⟩ := id hb
  simp only at k1 z1 k2 z2
  subst k1 z1 k2 z2
  exact richCompare_meets_room (op := .GtE) ⟨_, g1, rfl⟩ ⟨_, g2, rfl⟩ F.slot_tuple_ge F.entry_tuple_ge (F.args_tuple_ge_2 _ _) (tupLex_ge l b I J n1 n2 d1 d2 s1 s2)
    ⟨g1, g2, r, hx, ⟨(fun z => nomatch z), hq⟩⟩ hu
end TrO

namespace TrO
open PySem PySem.SeqAt PyProof.Rows
def b2 (b : Bool) : Int := if b then 1 else 0
def cmpI (op : CmpOp) (i j : Int) : Bool := match op with
  | .Lt => decide (i < j) | .LtE => decide (i ≤ j) | .Gt => decide (j < i) | _ => decide (j ≤ i)
def cmpS (op : CmpOp) (x y : Str) : Bool := match op with
  | .Lt => decide (x.cps.toList < y.cps.toList) | .LtE => !decide (y.cps.toList < x.cps.toList) | .Gt => decide (y.cps.toList < x.cps.toList) | _ => !decide (x.cps.toList < y.cps.toList)
mutual
def ordP (op : CmpOp) : PyData → PyData → Option Bool
  | .bool x, .bool y => some (cmpI op (b2 x) (b2 y))
  | .int i, .int j => some (cmpI op i j)
  | .str x, .str y => some (cmpS op x y)
  | .tuple xs, .tuple ys => ordPs op xs ys
  | _, _ => none
def ordPs (op : CmpOp) : List PyData → List PyData → Option Bool
  | x :: xs, y :: ys => if PyData.eqv x y = true then ordPs op xs ys else ordP op x y
  | [], ys => some (szO op 0 ys.length)
  | x :: xs, [] => some (szO op (xs.length + 1) 0)
end
def Four (op : CmpOp) : Prop := op = .Lt ∨ op = .LtE ∨ op = .Gt ∨ op = .GtE
theorem rc_bool {op : CmpOp} (h : Four op) {A : Around} {s : Shared} (x y : Bool) : Ob.RcOp op A s (.bool x) (.bool y) (cmpI op (b2 x) (b2 y)) := by
  intro prog w E Q hq
  rcases h with rfl | rfl | rfl | rfl
  · exact lt_bool hq
  · exact le_bool hq
  · exact gt_bool hq
  · exact ge_bool hq
theorem rc_int {op : CmpOp} (h : Four op) {A : Around} {s : Shared} (x y : Int) (t u : Tok) : Ob.RcOp op A s (.int x t) (.int y u) (cmpI op x y) := by
  rcases h with rfl | rfl | rfl | rfl
  · exact Ob.RcOp.lt_int x y t u
  · exact Ob.RcOp.le_int x y t u
  · exact Ob.RcOp.gt_int x y t u
  · exact Ob.RcOp.ge_int x y t u
theorem rc_str {op : CmpOp} (h : Four op) {A : Around} {s : Shared} (x y : Str) (t u : Tok) : Ob.RcOp op A s (.str x t) (.str y u) (cmpS op x y) := by
  intro prog w E Q hq
  rcases h with rfl | rfl | rfl | rfl
  · exact PyProof.Rows.lt_str hq
  · exact P.le_str hq
  · exact P.gt_str hq
  · exact P.ge_str hq
theorem rc_tup {op : CmpOp} (h : Four op) {A : Around} {s : Shared} {l b : Addr} {I J : Array Value} {r : Bool} (hl : s.heap.IsTuple l I) (hb : s.heap.IsTuple b J) (hu : A.units < cLine) (hx : LexV op A.in1 s r I.toList J.toList) :
    Ob.RcOp op A s (.ref l) (.ref b) r := by
  rcases h with rfl | rfl | rfl | rfl
  · exact tup_lt hl hb hu hx
  · exact tup_le hl hb hu hx
  · exact tup_gt hl hb hu hx
  · exact tup_ge hl hb hu hx
mutual
theorem rc_ord {op : CmpOp} (h4 : Four op) : ∀ (da db : PyData) (A : Around) (s : Shared) (a b : Value) (as bs : List Addr) (r : Bool), Reads s.heap a da as → Reads s.heap b db bs → da.canLay0 = true → db.canLay0 = true → ordP op da db = some r →
    A.units + min da.depth db.depth < cLine → Ob.RcOp op A s a b r
  | .none, db, _, _, _, _, _, _, _, _, _, _, _, h, _ => by cases db <;> cases h
  | .dict _, db, _, _, _, _, _, _, _, _, _, _, _, h, _ => by cases db <;> cases h
  | .list _, db, _, _, _, _, _, _, _, _, _, _, _, h, _ => by cases db <;> cases h
  | .bool x, db, A, s, a, b, as, bs, r, ra, rb, _, _, h, _ => by
    cases db with
    | bool y =>
      cases h
      cases ra
      cases rb
      exact rc_bool h4 x y
    | _ => cases h
  | .int x, db, A, s, a, b, as, bs, r, ra, rb, _, _, h, _ => by
    cases db with
    | int y =>
      cases h
      cases ra
      cases rb
      exact rc_int h4 x y _ _
    | _ => cases h
  | .str x, db, A, s, a, b, as, bs, r, ra, rb, _, _, h, _ => by
    cases db with
    | str y =>
      cases h
      cases ra
      cases rb
      exact rc_str h4 x y _ _
    | _ => cases h
  | .tuple xs, db, A, s, a, b, as, bs, r, ra, rb, la, lb, h, hu => by
    cases db with
    | tuple ys =>
      have h : ordPs op xs ys = some r := h
      cases ra with
      | @tuple l o vs n _ as₁ h1 h2 h3 r1 =>
        cases rb with
        | @tuple l' o' vs' n' _ bs₁ k1 k2 k3 r2 =>
          have hu : A.units + min (PyData.depthAll xs + 1) (PyData.depthAll ys + 1) < cLine := hu
          refine rc_tup h4 ⟨_, h1, h2, _, h3⟩ ⟨_, k1, k2, _, k3⟩ (by omega) ?_
          exact rc_ords h4 xs ys A.in1 s _ _ _ _ r r1 r2 la lb h (by show A.units + 1 + _ < _; omega)
    | _ => cases h
theorem rc_ords {op : CmpOp} (h4 : Four op) : ∀ (xs ys : List PyData) (A : Around) (s : Shared) (vs ws : List Value) (as bs : List Addr) (r : Bool), ReadsAll s.heap vs xs as → ReadsAll s.heap ws ys bs → PyData.canLayAll0 xs = true → PyData.canLayAll0 ys = true → ordPs op xs ys = some r →
    A.units + min (PyData.depthAll xs) (PyData.depthAll ys) < cLine → LexV op A s r vs ws
  | [], ys, A, s, vs, ws, as, bs, r, ra, rb, _, _, h, _ => by
    cases ra
    have h : some (szO op 0 ys.length) = some r := by cases ys <;> exact h
    have hl := ReadsAll.length _ _ _ rb
    cases h
    cases ws with
    | nil => show szO op 0 0 = szO op 0 ys.length; rw [← hl]; rfl
    | cons w ws => show szO op 0 (w :: ws).length = szO op 0 ys.length; rw [← hl]
  | x :: xs, [], A, s, vs, ws, as, bs, r, ra, rb, _, _, h, _ => by
    cases rb
    cases ra with
    | cons h1 h2 =>
      have h : some (szO op (xs.length + 1) 0) = some r := h
      have hl := ReadsAll.length _ _ _ h2
      cases h
      show szO op (_ + 1) 0 = szO op (xs.length + 1) 0
      rw [hl]
  | x :: xs, y :: ys, A, s, vs, ws, as, bs, r, ra, rb, la, lb, h, hu => by
    cases ra with
    | cons r1 ra =>
      cases rb with
      | cons r2 rb =>
        have la : (x.canLay0 && PyData.canLayAll0 xs) = true := la
        have lb : (y.canLay0 && PyData.canLayAll0 ys) = true := lb
        have hu : A.units + min (max x.depth (PyData.depthAll xs)) (max y.depth (PyData.depthAll ys)) < cLine := hu
        rw [Bool.and_eq_true] at la lb
        have he := eqAt_reads x y A s _ _ _ _ r1 r2 la.1 lb.1 (by omega)
        have h : (if PyData.eqv x y = true then ordPs op xs ys else ordP op x y) = some r := h
        by_cases e : PyData.eqv x y = true
        · rw [if_pos e] at h
          rw [e] at he
          exact .inl ⟨he, rc_ords h4 xs ys A s _ _ _ _ r ra rb la.2 lb.2 h (by omega)⟩
        · rw [if_neg e] at h
          rw [Bool.not_eq_true] at e
          rw [e] at he
          exact .inr ⟨he, rc_ord h4 x y A s _ _ _ _ r r1 r2 la.1 lb.1 h (by omega)⟩
end
end TrO
namespace Tr
open PySem PySem.Spec PyProof.Rows L2
def gOrd (op : CmpOp) (s u : S) : Option D := if s.view.shp && u.view.shp then (TrO.ordP op s.view.toP u.view.toP).map D.bl else none
def rOrd (K : PySem.W.Frag) (op : CmpOp) : R2 := fun x y H Q => ∃ da db r, Dp K H x da ∧ Dp K H y db ∧ SeqAt.shaped da = true ∧ SeqAt.shaped db = true ∧ TrO.ordP op da db = some r ∧ Q (.bl r) H
theorem op_ord {X : Cx} {op : CmpOp} (hu : X.A.units + 64 < cLine) (h4 : TrO.Four op) : OpR X (compareOp op) (rOrd X.K op) := by
  intro pins s σ H x y v u Q I rx ry h
  obtain ⟨da, db, r, ha, hb, sa, sb, e, q⟩ := h
  obtain ⟨as, r1⟩ := Dp.reads I da x v ha rx
  obtain ⟨bs, r2⟩ := Dp.reads I db y u hb ry
  have z := TrO.rc_ord h4 da db X.A s v u as bs r r1 r2 (SeqAt.canLay_of_shaped sa) (SeqAt.canLay_of_shaped sb) e (SeqAt.room_of_shaped sa hu)
  have z2 : wpAny (model X.prog X.w) X.A (richCompare op v u) (EP X pins σ Q) X.xe s := z X.prog X.w X.xe (EP X pins σ Q) ⟨.bl _, H, I, rfl, q⟩
  rcases h4 with rfl | rfl | rfl | rfl <;> exact z2
theorem og_ord {K : PySem.W.Frag} {op : CmpOp} : Op2 K (rOrd K op) (gOrd op) := by
  intro B H x y s u ox oy d Q ex w1 w2 h k
  unfold gOrd at h
  split at h
  · rename_i hs
    rw [Bool.and_eq_true] at hs
    cases e : TrO.ordP op s.view.toP u.view.toP with
    | none => rw [e] at h; cases h
    | some r =>
      rw [e] at h
      cases h
      exact ⟨_, _, r, (w1.see ex).dp hs.1, (w2.see ex).dp hs.2, hs.1, hs.2, e, k _ _ _ (.bl _) (Gr.refl ex)⟩
  · cases h
theorem op_ltO {X : Cx} (hu : X.A.units + 64 < cLine) : OpR X (compareOp .Lt) (rOrd X.K .Lt) := op_ord hu (.inl rfl)
theorem op_leO {X : Cx} (hu : X.A.units + 64 < cLine) : OpR X (compareOp .LtE) (rOrd X.K .LtE) := op_ord hu (.inr (.inl rfl))
theorem op_gtO {X : Cx} (hu : X.A.units + 64 < cLine) : OpR X (compareOp .Gt) (rOrd X.K .Gt) := op_ord hu (.inr (.inr (.inl rfl)))
theorem op_geO {X : Cx} (hu : X.A.units + 64 < cLine) : OpR X (compareOp .GtE) (rOrd X.K .GtE) := op_ord hu (.inr (.inr (.inr rfl)))
end Tr

/-! Tr11: reckoning with the order of data. -/
namespace Tr
open PySem PySem.Spec PyProof.Rows L2
theorem gOrd_of {op : CmpOp} {a b : D} (ha : a.shp = true) (hb : b.shp = true) : gOrd op (.d a) (.d b) = (TrO.ordP op a.toP b.toP).map D.bl := by
  show (if a.shp && b.shp then (TrO.ordP op a.toP b.toP).map D.bl else none) = _
  rw [ha, hb]
  rfl
theorem gEq_of {n : Bool} {a b : D} (ha : a.shp = true) (hb : b.shp = true) : gEq n (.d a) (.d b) = some (.bl (if n then !D.eqv a b else D.eqv a b)) := by
  show (if a.shp && b.shp then some (D.bl (if n then !D.eqv a b else D.eqv a b)) else none) = _
  rw [ha, hb]
  rfl
theorem gOrd_int (op : CmpOp) (i j : Int) : gOrd op (.d (.int i)) (.d (.int j)) = some (.bl (TrO.cmpI op i j)) := rfl
theorem gOrd_str (op : CmpOp) {x y : Str} (hx : PyData.strOk x = true) (hy : PyData.strOk y = true) : gOrd op (.d (.str x)) (.d (.str y)) = some (.bl (TrO.cmpS op x y)) := by
  rw [gOrd_of (a := .str x) (b := .str y) (shp_fok (d := .str x) hx) (shp_fok (d := .str y) hy)]
  rfl
/-- pairs (rank, value) -/
theorem ord_pair (op : CmpOp) (r q : Int) (x y : D) : TrO.ordP op (D.tup [.int r, x]).toP (D.tup [.int q, y]).toP = if r = q then (if D.eqv x y = true then some (TrO.szO op 0 0) else TrO.ordP op x.toP y.toP) else some (TrO.cmpI op r q) := by
  show (if (r == q) = true then (if D.eqv x y = true then some (TrO.szO op 0 0) else TrO.ordP op x.toP y.toP) else some (TrO.cmpI op r q)) = _
  simp
theorem eqv_pair (r q : Int) (x y : D) : D.eqv (.tup [.int r, x]) (.tup [.int q, y]) = (decide (r = q) && D.eqv x y) := by
  show ((r == q) && (D.eqv x y && true)) = _
  rw [Bool.and_true]
  rfl
theorem cps_eq {x y : Str} (h : x.cps.toList = y.cps.toList) : x = y := by
  obtain ⟨x⟩ := x
  obtain ⟨y⟩ := y
  congr 1
  exact Array.toList_inj.mp h
/-- two texts: less, the same, or greater -/
theorem str_tri (x y : Str) : (x = y ∧ ¬ x.cps.toList < y.cps.toList ∧ ¬ y.cps.toList < x.cps.toList) ∨ (x ≠ y ∧ x.cps.toList < y.cps.toList ∧ ¬ y.cps.toList < x.cps.toList) ∨ (x ≠ y ∧ ¬ x.cps.toList < y.cps.toList ∧ y.cps.toList < x.cps.toList) := by
  by_cases h1 : x.cps.toList < y.cps.toList
  · refine .inr (.inl ⟨fun e => ?_, h1, List.lt_asymm h1⟩)
    subst e
    exact List.lt_irrefl _ h1
  · by_cases h2 : y.cps.toList < x.cps.toList
    · refine .inr (.inr ⟨fun e => ?_, h1, h2⟩)
      subst e
      exact List.lt_irrefl _ h2
    · exact .inl ⟨cps_eq (List.le_antisymm h2 h1), h1, h2⟩
theorem foldl_len : ∀ {zs : List Str} {acc : Array Nat}, (∀ z ∈ zs, ∃ c : Nat, c < 0x110000 ∧ z = ⟨#[c]⟩) → (List.foldl (fun acc (p : Str) => acc ++ (Str.ofString "").cps ++ p.cps) acc zs).size = acc.size + zs.length
  | [], acc, _ => rfl
  | z :: r, acc, hz => by
    obtain ⟨c, hc, rfl⟩ := hz z (List.mem_cons_self ..)
    rw [List.foldl_cons, foldl_len fun y m => hz y (List.mem_cons_of_mem _ m), Array.size_append, Array.size_append, List.length_cons]
    show acc.size + 0 + 1 + r.length = _
    omega
theorem join_len {zs : List Str} (hz : ∀ z ∈ zs, ∃ c : Nat, c < 0x110000 ∧ z = ⟨#[c]⟩) : (Txt.join "" zs).length = zs.length := by
  cases zs with
  | nil => rfl
  | cons z r =>
    obtain ⟨c, hc, rfl⟩ := hz z (List.mem_cons_self ..)
    show (List.foldl (fun acc (p : Str) => acc ++ (Str.ofString "").cps ++ p.cps) #[c] r).size = r.length + 1
    rw [foldl_len fun y m => hz y (List.mem_cons_of_mem _ m)]
    show 1 + r.length = r.length + 1
    omega
/-- texts of at most n signs -/
def Sh (n : Nat) (d : D) : Prop := ∀ z, d = .str z → z.length ≤ n
theorem strOk_app {a b : Str} (ha : PyData.strOk a = true) (hb : PyData.strOk b = true) : PyData.strOk (a ++ b) = true := by
  show (a.cps ++ b.cps).all (· < 0x110000) = true
  rw [Array.all_append]
  show (PyData.strOk a && PyData.strOk b) = true
  rw [ha, hb]
  rfl
theorem len_app (a b : Str) : (a ++ b).length = a.length + b.length := by
  show (a.cps ++ b.cps).size = _
  rw [Array.size_append]
  rfl
theorem ch_ok {c : Nat} (h : c < 0x110000) : PyData.strOk ⟨#[c]⟩ = true := by
  show (#[c].all (· < 0x110000)) = true
  simp [h]
end Tr

/-! Tr12: extend by a tuple, insert, a text times a number, isinstance of two classes. -/
namespace TrX
open PySem PySem.SeqAt
open PySem.AutoSeq1 (wpAny_loadPart' idx_int sub_tuple_tuple sub_list_list sub_tuple_list sub_list_tuple)
open PySem.MeetsSeq PySem.MeetsSeq2 PySem.MeetsSeq3
theorem ext_tup (l : Addr) (I : Array Value) (n : Nat) (b : Addr) (J : Array Value) (m : Nat) (dd : Option Addr) (sl : Array (Option Value)) (h0 : Builtin.List.listTooLong (I.size + J.size) = false) (h1 : I.size + J.size ≤ sizeLine) :
    Meets (Builtin.«list.extend» ⟨[.ref l, .ref b], []⟩) (fun _ R s => s.heap.get? l = some { cls := .type "list", data := .seq I n } ∧ s.heap.get? b = some { cls := .type "tuple", dict := dd, data := .seq J m, slots := sl } ∧
      R (.ok (.ret Value.none)) { s with heap := s.heap.update l (Obj.mapSeq fun x => x ++ J), toks := s.toks }) :=
  .of_wp fun prog w A R s h => by
    obtain ⟨hp, gl, dn, tk, os⟩ := s
    obtain ⟨hl, hb, h⟩ := h
    have a1 := idx_int
    have a2 := sub_tuple_tuple
    have a3 := sub_list_list
    have a4 := sub_tuple_list
    have a5 := sub_list_tuple
    have z1 : I.size ≤ sizeLine := by omega
    have z2 : (I ++ J).size ≤ sizeLine + 1 := by rw [Array.size_append]; omega
    have z3 : ¬(!I.isEmpty && Builtin.List.listTooLong (I.size + J.size)) = true := by rw [h0, Bool.and_false]; exact Bool.false_ne_true
    wp_walk using (wpAny_updateSeq hl rfl (hz := z1) (_hz' := z2)), wpAny_loadPart' hl, wpAny_loadPart' hb
    exact ⟨_, rfl, h⟩
end TrX
namespace Tr
open PySem PySem.Spec PyProof.Rows L2
section
variable {X : Cx}
def rExtT (K : PySem.W.Frag) : V → List V → Hp → VK → Prop := fun x vs H Q => ∃ l b xs zs, x = .ref l ∧ vs = [.ref b] ∧ H l = some (.lst xs) ∧ SqT K H b zs ∧ xs.length + zs.length ≤ LIM ∧ Q .non (upd H l (.lst (xs ++ zs)))
theorem mt_extT : MtM X "list.extend" (rExtT X.K) := by
  intro pins s σ H x vs v us Q I rx rv h
  obtain ⟨l, b, xs, zs, rfl, rfl, hH, hB, hz, q⟩ := h
  rw [lim_eq] at hz
  cases rx
  obtain ⟨u, rfl, ru⟩ := rv.one
  cases ru
  obtain ⟨z, its, n, r, hl, e⟩ := I.lstM hH
  obtain ⟨js, r2, ⟨⟨c2, d2, x2, s2⟩, g2, k2, n2, z2⟩, _⟩ := I.tuple hB
  simp only at k2 z2
  subst k2 z2
  have hl2 : zs.length = js.length := r2.length
  have hsz : its.toArray.size + js.toArray.size ≤ sizeLine := by rw [List.size_toArray, List.size_toArray]; omega
  refine call_meets F.slot_list_extend ⟨_, e, rfl⟩ F.entry_list_extend (F.args_list_extend_2 _ _) (TrX.ext_tup l its.toArray n b js.toArray n2 d2 s2 (notLongL hsz) hsz) ⟨e, g2, ?_⟩
  refine ⟨.non, _, I.lset (its' := its ++ js) hH e (by simp) (r.append r2) ?_, rfl, q⟩
  rw [List.length_append]
  omega
end
def mExt (j : Nat) (me : M S) : MS := fun τ => match τ[j]? with
  | some (some (.lst _)) => (match me τ with
    | some (.d (.tup ds), τ1) => (match τ1[j]? with
      | some (some (.lst ss)) => if ss.length + ds.length ≤ LIM then some (.nx, τ1.set j (some (.lst (ss ++ ds.map S.d)))) else none
      | _ => none)
    | _ => none)
  | _ => none
theorem OwL.app {K : PySem.W.Frag} {B H : Hp} : ∀ {vs : List V} {ss : List S} {os : List Addr} {us : List V} {ds : List D}, OwL K B H vs ss os → RpL K B us ds → OwL K B H (vs ++ us) (ss ++ ds.map S.d) os
  | _, _, _, _, _, .nil, w => by simpa using owl_ds w
  | _, _, _, _, _, .cons (o := o) h r, w => by simpa using OwL.cons h (OwL.app r w)
section
variable {X : Cx} {p f : Bool} {me : M S} {e : Expr} {pos : Pos} {P : List Nat}
theorem rs_extend (j : Nat) {x : Str} {px apos cpos : Pos} (he : RX X p f e me) (hN : X.N[j]? = some x := by rfl) (hv : Vis X.env.scope x := by first | exact Or.inl rfl | exact Or.inr (Or.inl rfl) | exact Or.inr (Or.inr rfl)) (hd : (x == ("__debug__" : Str)) = false := by decide)
    (hcd : (x == ("__classdict__" : Str)) = false := by decide) (hbase : attributeBase (.Name x px) "extend" X.env (eval (.Name x px) X.env) = eval (.Name x px) X.env := by rfl)
    (hfew : ((backTo cpos (starEach (e :: []) X.env)).all (fun x => !x.1) && (backToKw cpos (keywordEach [] X.env)).all (fun x => x.1.isSome)
      && decide ((e :: []).length + ([] : List Keyword).length + (if ([] : List Keyword).isEmpty then 0 else 1) < 30)) = true := by rfl)
    (hline : (apos.endLine == cpos.line) = true := by rfl) (hs : starEach (e :: []) X.env = (false, eval e X.env) :: starEach [] X.env := by rfl)
    (hsw : swapsWith (.Call (.Attribute (.Name x px) "extend" apos) [e] [] cpos) none pos.line X.env = pure false := by rfl) :
    RS X P (.Expr (.Call (.Attribute (.Name x px) "extend" apos) [e] [] cpos) pos) (mExt j me) := by
  refine ⟨ps_imp (ps_expr (pe_bm PySem.F.plainAttrs_list PySem.F.slot_list_extend PySem.F.type_list_extend mt_extT (pv j hN hv hd hcd) (pa_cons he.pe pa_nil hs) hbase hfew hline hs) hsw) fun D σ H q => ?_⟩
  obtain ⟨B, τ, os, ok, q⟩ := q
  unfold mExt at q
  split at q
  · rename_i ss0 e0
    split at q
    · rename_i ds τ1 e1
      split at q
      · rename_i ss e2
        split at q
        · rename_i hl
          obtain ⟨q0, vs0, oc0, g1, g2, g3, g4, _⟩ := ok_list ok e0
          refine ⟨.ref q0, g1, .inl ⟨rfl, _, SqL.of g3⟩, B, τ, os, ok, ?_⟩
          rw [e1]
          intro v B1 H1 ov os1 w1 ok1 fh fr1
          obtain ⟨q1, vs, oc, h1, h2, h3, h4, h5⟩ := ok_list ok1 e2
          have eq : q0 = q1 := by rw [g1] at h1; injection h1 with z; injection z with z; injection z
          subst eq
          have r1 := ow_d w1
          cases r1 with
          | tup hT rl =>
            obtain ⟨os2, ok2, fr2⟩ := h5 (vs ++ _) (ss ++ ds.map S.d) oc (h4.app rl) (fun _ h => h) fun h => h
            exact ⟨q0, _, vs, _, rfl, rfl, h3, sqt_of (ok1.ex _ _ hT), by rw [h4.length, rl.length]; exact hl, q σ B1 _ os2 Pin.refl ok2 (fr1.weak.trans fr2 fun _ h => h)⟩
        · exact q.elim
      · exact q.elim
    · exact q.elim
  · exact q.elim
end
/-! ### a text times a number -/
def repS (z : Str) (n : Nat) : Str := ⟨(List.replicate n z.cps).foldl (· ++ ·) #[]⟩
theorem fold_nil : ∀ (n : Nat) (a : Array Nat), List.foldl (fun x1 x2 => x1 ++ x2) a (List.replicate n #[]) = a
  | 0, _ => rfl
  | n + 1, a => by rw [List.replicate_succ, List.foldl_cons, Array.append_empty, fold_nil n]
def gRep : S → S → Option D
  | .d (.str z), .d (.int n) => if z.length * n.toNat ≤ LIM ∧ n < 2 ^ 62 ∧ -(2 ^ 62) < n then some (.str (repS z n.toNat)) else none
  | _, _ => none
def rRepS : R2 := fun x y H Q => ∃ (z : Str) (n : Int), x = .str z ∧ y = .int n ∧ z.length * n.toNat ≤ LIM ∧ n < 2 ^ 62 ∧ -(2 ^ 62) < n ∧ Q (.str (repS z n.toNat)) H
theorem repS_len (z : Str) : ∀ n : Nat, (repS z n).length = n * z.length := by
  have go : ∀ (n : Nat) (a : Array Nat), (List.foldl (fun x1 x2 => x1 ++ x2) a (List.replicate n z.cps)).size = a.size + n * z.cps.size := by
    intro n
    induction n with
    | zero => intro a; simp
    | succ n ih =>
      intro a
      rw [List.replicate_succ, List.foldl_cons, ih, Array.size_append, Nat.succ_mul]
      omega
  intro n
  show (List.foldl (fun x1 x2 => x1 ++ x2) #[] (List.replicate n z.cps)).size = _
  rw [go]
  show 0 + n * z.cps.size = n * z.cps.size
  omega
theorem repS_ok {z : Str} (hz : PyData.strOk z = true) (n : Nat) : PyData.strOk (repS z n) = true := by
  have go : ∀ (n : Nat) (a : Array Nat), a.all (· < 0x110000) = true → (List.foldl (fun x1 x2 => x1 ++ x2) a (List.replicate n z.cps)).all (· < 0x110000) = true := by
    intro n
    induction n with
    | zero => intro a h; exact h
    | succ n ih =>
      intro a h
      rw [List.replicate_succ, List.foldl_cons]
      refine ih _ ?_
      rw [Array.all_append, h]
      exact hz
  exact go n #[] (by decide +kernel)
theorem str_eta (z : Str) : z = ⟨z.cps⟩ := rfl
section
variable {X : Cx}
theorem op_repS : OpR X (binaryOp .Mult) rRepS := by
  intro pins s σ H x y v u Q I rx ry h
  obtain ⟨z, n, rfl, rfl, hz, h1, h2, q⟩ := h
  obtain ⟨t, rfl⟩ := rx
  obtain ⟨t', rfl⟩ := ry
  rw [lim_eq] at hz
  have ns : ∀ b : Bool, ¬ n < 1 → Builtin.Str.tooLong (z.length * n.toNat) = false := fun _ _ => decide_eq_false (by omega)
  refine P.mul_str (by rw [decide_eq_false (by omega), decide_eq_false (by omega)]; rfl) (fun a b c => ?_) (fun a _ => ns true a) ?_
  · have e1 : ((z.length * n.toNat : Nat) : Int) = (z.length : Int) * n := by
      rw [Int.natCast_mul, Int.toNat_of_nonneg (by omega)]
    have h3 : (z.length : Int) * n ≤ 16777216 := by
      rw [← e1]
      have : z.length * n.toNat ≤ 16777216 := hz
      omega
    have h4 : (z.length : Int) * n ≤ 2 ^ 63 - 1 := by omega
    have h5 := (Int.le_ediv_iff_mul_le (by omega : (0 : Int) < n)).mpr h4
    omega
  · by_cases g1 : n < 1
    · rw [if_pos g1]
      have e : repS z n.toNat = Str.empty := by
        have : n.toNat = 0 := by omega
        rw [this]
        rfl
      rw [e] at q
      exact ⟨by decide, .str Str.empty, H, I.tok _, ⟨_, rfl⟩, q⟩
    · rw [if_neg g1]
      by_cases g2 : (n == 1 || z.length == 0) = true
      · rw [if_pos g2]
        have e : repS z n.toNat = z := by
          rw [Bool.or_eq_true] at g2
          rcases g2 with g | g
          · have : n = 1 := eq_of_beq g
            subst this
            show Str.mk (#[] ++ z.cps) = z
            rw [Array.empty_append]
          · have g : z.cps.size = 0 := eq_of_beq g
            have g : z.cps = #[] := Array.eq_empty_of_size_eq_zero g
            show Str.mk (List.foldl (fun x1 x2 => x1 ++ x2) #[] (List.replicate n.toNat z.cps)) = z
            rw [g, fold_nil, ← g]
        rw [e] at q
        exact ⟨.str z, H, I, ⟨_, rfl⟩, q⟩
      · rw [if_neg g2]
        refine ⟨?_, .str (repS z n.toNat), H, I.tok _, ⟨_, rfl⟩, q⟩
        show (repS z n.toNat).length ≤ sizeLine
        rw [repS_len, Nat.mul_comm]
        exact hz
end
theorem og_rep {K : PySem.W.Frag} : Op2 K rRepS gRep := by
  intro B H x y s u ox oy d Q ex w1 w2 h k
  unfold gRep at h
  split at h
  · split at h
    · rename_i hc
      cases h
      cases rp_str (ow_d w1)
      cases rp_int (ow_d w2)
      exact ⟨_, _, rfl, rfl, hc.1, hc.2.1, hc.2.2, k _ _ _ (.str _) (Gr.refl ex)⟩
    · cases h
  · cases h
/-! ### isinstance(x, (A, B)) -/
def gIsi2 (A T : String) (s : S) : Option D := if s.view.isNd then none else some (.bl (isiD A s.view || isiD T s.view))
section
variable {X : Cx} {p f f1 : Bool} {a : Expr} {ma : M S} {pos : Pos}
theorem rx_isi2 {x y : Str} {A T : String} {px p1 p2 p3 : Pos} {k1 : Nat} (ha : RX X p f1 a ma) (hmi : X.mg "isinstance" = none) (hmA : X.mg x = none) (hmT : X.mg y = none) (hv : bootBuiltins x = some (.type A) := by decide +kernel) (hw : bootBuiltins y = some (.type T) := by decide +kernel)
    (hA : A ∈ ["bool", "int", "str", "tuple", "list", "dict"] := by decide) (hT : T ∈ ["bool", "int", "str", "tuple", "list", "dict"] := by decide)
    (hgi : Gl X "isinstance" := by rfl) (hg : Gl X x := by rfl) (hg2 : Gl X y := by rfl) (hn : x ≠ "__name__" := by decide) (hn2 : y ≠ "__name__" := by decide) (hdb : (x == ("__debug__" : Str)) = false := by decide) (hdb2 : (y == ("__debug__" : Str)) = false := by decide)
    (he : starEach [a, .Tuple [.Name x p1, .Name y p2] k1 p3] X.env = (false, eval a X.env) :: starEach [.Tuple [.Name x p1, .Name y p2] k1 p3] X.env := by rfl) (he2 : starEach [.Tuple [.Name x p1, .Name y p2] k1 p3] X.env = (false, eval (.Tuple [.Name x p1, .Name y p2] k1 p3) X.env) :: starEach [] X.env := by rfl)
    (he3 : starEach [.Name x p1, .Name y p2] X.env = (false, eval (.Name x p1) X.env) :: starEach [.Name y p2] X.env := by rfl) (he4 : starEach [.Name y p2] X.env = (false, eval (.Name y p2) X.env) :: starEach [] X.env := by rfl)
    (hpl : (backTo pos (starEach [.Tuple [.Name x p1, .Name y p2] k1 p3] X.env)).any (·.1) = false := by rfl) :
    RX X p f (.Call (.Name "isinstance" px) [a, .Tuple [.Name x p1, .Name y p2] k1 p3] [] pos) (mUn (gIsi2 A T) ma) := by
  let r2 : V → Hp → VK → Prop := fun v H Q => [V.ty A, V.ty T].length ≤ sizeLine ∧ ∀ q, H q = none → rIsiT X.K [v, .ref q] (upd H q (.tup [.ty A, .ty T])) Q
  refine rx_op1 (r := r2) ha ?_ fun {ta} h1 => pe_callB call_isiT hgi hmi (by decide +kernel) (pa_cons h1 (pa_cons (pe_tup (pa_cons (pe_bltn (v := .ty A) hg hmA hv rfl hn hdb) (pa_cons (pe_bltn (v := .ty T) hg2 hmT hw rfl hn2 hdb2) pa_nil he4) he3)) pa_nil he2) he) (by decide) (by decide) he hpl
  · intro B H v s ox d Q ex w h k
    refine ⟨show 2 ≤ 16777216 by decide, fun q hq => ?_⟩
    have hn : s.view.isNd = false := by
      unfold gIsi2 at h
      split at h
      · cases h
      · rename_i hn
        simpa using hn
    unfold gIsi2 at h
    rw [hn, if_neg Bool.false_ne_true] at h
    cases h
    have G := Gr.new (o := .tup [V.ty A, V.ty T]) ex hq
    refine ⟨v, q, _, tyD s.view, [.type A, .type T], _, rfl, upd_same, .cons (.ty A) (.cons (.ty T) .nil), tyx_rp ((w.see ex).mono G.hh) hn, ?_, k _ _ _ (.bl _) G⟩
    show (match PySem.W.kitOne X.K (tyD s.view) (.type A) with
      | some true => some true
      | some false => (match PySem.W.kitOne X.K (tyD s.view) (.type T) with | some true => some true | some false => some false | none => none)
      | none => none) = _
    rw [kit_isi hA, kit_isi hT]
    cases isiD A s.view <;> cases isiD T s.view <;> rfl
end
theorem forM_nx {g : D → Sl → Option Sl} {mb : MS} {d : D} {r : List D} {τ τ1 τ2 : Sl} (h1 : g d τ = some τ1) (h2 : mb τ1 = some (.nx, τ2)) : forM g mb (d :: r) τ = forM g mb r τ2 := by
  rw [forM, h1]
  dsimp only
  rw [h2]
theorem forM_ct {g : D → Sl → Option Sl} {mb : MS} {d : D} {r : List D} {τ τ1 τ2 : Sl} (h1 : g d τ = some τ1) (h2 : mb τ1 = some (.ct, τ2)) : forM g mb (d :: r) τ = forM g mb r τ2 := by
  rw [forM, h1]
  dsimp only
  rw [h2]
theorem forM_rt {g : D → Sl → Option Sl} {mb : MS} {d : D} {r : List D} {τ τ1 τ2 : Sl} {s : S} (h1 : g d τ = some τ1) (h2 : mb τ1 = some (.rt s, τ2)) : forM g mb (d :: r) τ = some (.rt s, τ2) := by
  rw [forM, h1]
  dsimp only
  rw [h2]
theorem forM_bk {g : D → Sl → Option Sl} {mb : MS} {d : D} {r : List D} {τ τ1 τ2 : Sl} (h1 : g d τ = some τ1) (h2 : mb τ1 = some (.bk, τ2)) : forM g mb (d :: r) τ = some (.nx, τ2) := by
  rw [forM, h1]
  dsimp only
  rw [h2]
theorem rangeD_succ (lo : Int) (n : Nat) : rangeD lo (n + 1) = .int lo :: rangeD (lo + 1) n := by
  unfold rangeD
  rw [List.range_succ_eq_map, List.map_cons, List.map_map]
  congr 1
  · simp
  · refine List.map_congr_left fun i _ => ?_
    show D.int (lo + ((i + 1 : Nat) : Int)) = D.int (lo + 1 + (i : Int))
    congr 1
    omega
theorem atI_mid {α : Type} (p : List α) (a : α) (s : List α) : atI (p ++ a :: s) (p.length : Int) = some a := by
  rw [atI_in (by omega) (by simp)]
  simp
theorem dl_map (ds : List D) : (S.lst (ds.map S.d)).dl = some ds := S.dl_map ds
theorem setI_of {j : Nat} {mi mv : M S} {τ τ1 τ2 : Sl} {d : D} {k : Int} {n : Nat} {ss ss' : List S} (h1 : mv τ = some (.d d, τ1)) (h2 : τ1[j]? = some (some (.lst ss'))) (h3 : mi τ1 = some (.d (.int k), τ2)) (h4 : τ2[j]? = some (some (.lst ss))) (h5 : ixN ss.length k = some n) :
    mSetI j mi mv τ = some (.nx, τ2.set j (some (.lst (ss.set n (.d d))))) := by
  unfold mSetI
  rw [h1]
  dsimp only
  rw [h2]
  dsimp only
  rw [h3]
  dsimp only
  rw [h4]
  dsimp only
  rw [h5]
theorem if_tt {t : M Bool} {m1 m2 : MS} {τ τ1 : Sl} (h : t τ = some (true, τ1)) : mIf t m1 m2 τ = m1 τ1 := by
  unfold mIf
  rw [h]
theorem if_ff {t : M Bool} {m1 m2 : MS} {τ τ1 : Sl} (h : t τ = some (false, τ1)) : mIf t m1 m2 τ = m2 τ1 := by
  unfold mIf
  rw [h]
theorem fz_of {i : Nat} {m : MS} {τ : Sl} {s : S} (h : τ[i]? = some (some s)) : mFz i m τ = m (τ.set i (some (.d s.view))) := by
  unfold mFz
  rw [h]
theorem set_of {i : Nat} {m : M S} {τ τ1 : Sl} {s : S} (h : m τ = some (s, τ1)) (hi : i < τ1.length) : mSet i m τ = some (.nx, τ1.set i (some s)) := by
  unfold mSet
  rw [h]
  dsimp only
  rw [if_pos hi]
end Tr

/-! Tr13: dicts that a name owns: {}, d.get(k, x), d[k] = v, d[k] op= v. -/
namespace Tr
open PySem PySem.Spec PyProof.Rows L2
/-! ### keys -/
def keyD : D → Option Key
  | .int i => some (.inl i)
  | .str x => some (.inr x)
  | _ => none
def keysD : List D → Option (List Key)
  | [] => some []
  | d :: r => match keyD d, keysD r with | some k, some ks => some (k :: ks) | _, _ => none
def keyT : D → Option (List Key)
  | .tup ds => keysD ds
  | _ => none
theorem keyD_rp {K : PySem.W.Frag} {B : Hp} {v : V} {d : D} {k : Key} (r : Rp K B v d) (h : keyD d = some k) : v = kV k := by
  cases r <;> first | (cases h; rfl) | cases h
theorem keysD_rp {K : PySem.W.Frag} {B : Hp} : ∀ {vs : List V} {ds : List D} {ks : List Key}, RpL K B vs ds → keysD ds = some ks → vs = ks.map kV
  | _, _, _, .nil, h => by cases h; rfl
  | _, d :: r, ks, .cons w wl, h => by
    unfold keysD at h
    split at h
    · rename_i k ks' h1 h2
      cases h
      rw [keyD_rp w h1, keysD_rp wl h2]
      rfl
    · cases h
/-! ### parts by keys -/
section
variable {κ : Type} [DecidableEq κ]
def dGet (ks : List κ) (ss : List S) (k : κ) : Option S := ((ks.zip ss).find? fun kv => decide (kv.1 = k)).map (·.2)
def dSet (k : κ) (s : S) : List κ → List S → List S
  | k' :: ks, s' :: ss => (if k' = k then s else s') :: dSet k s ks ss
  | _, ss => ss
def dPut (ks : List κ) (ss : List S) (k : κ) (s : S) : List κ × List S := if k ∈ ks then (ks, dSet k s ks ss) else (ks ++ [k], ss ++ [s])
variable {K : PySem.W.Frag} {B H : Hp}
theorem dGet_ow {k : κ} : ∀ {ks : List κ} {vs : List V} {ss : List S} {os : List Addr}, OwL K B H vs ss os → ks.length = vs.length →
    (dGet ks ss k = none → valV (ks.zip vs) k = none) ∧ ∀ x, dGet ks ss k = some (.d x) → ∃ v, valV (ks.zip vs) k = some v ∧ Rp K B v x
  | [], _, _, _, w, _ => by
    refine ⟨fun _ => by simp [valV], fun x h => ?_⟩
    simp [dGet] at h
  | k' :: ks, _, _, _, .nil, e => by simp at e
  | k' :: ks, _, _, _, .cons (v := v) (vs := vr) (s := s) (ss := sr) w wl, e => by
    have ih := dGet_ow (k := k) (ks := ks) wl (by simpa using e)
    by_cases z : k' = k
    · refine ⟨fun h => ?_, fun x h => ⟨v, ?_, ?_⟩⟩
      · simp [dGet, List.find?_cons, z] at h
      · rw [List.zip_cons_cons]; exact valV_pos z
      · simp [dGet, List.find?_cons, z] at h
        subst h
        exact ow_d w
    · have e1 : dGet (k' :: ks) (s :: sr) k = dGet ks sr k := by simp [dGet, List.find?_cons, z]
      have e2 : valV ((k' :: ks).zip (v :: vr)) k = valV (ks.zip vr) k := by rw [List.zip_cons_cons]; exact valV_neg z
      rw [e1, e2]
      exact ih
theorem dSet_ow {k : κ} {v : V} {x : D} (r : Rp K B v x) : ∀ {ks : List κ} {vs : List V} {ss : List S} {os : List Addr}, OwL K B H vs ss os → ks.length = vs.length →
    ∃ vs' os', (ks.zip vs).map (fun kv => if kv.1 = k then (kv.1, v) else kv) = ks.zip vs' ∧ ks.length = vs'.length ∧ OwL K B H vs' (dSet k (.d x) ks ss) os' ∧ (∀ a ∈ os', a ∈ os) ∧ (os.Nodup → os'.Nodup)
  | [], vs, ss, os, w, e => by
    refine ⟨vs, os, by simp, e, ?_, fun _ h => h, fun h => h⟩
    cases w <;> exact (by first | exact .nil | (simp at e))
  | k' :: ks, _, _, _, .nil, e => by simp at e
  | k' :: ks, _, _, _, .cons (v := u) (s := s) (o := o) (os := os) w wl, e => by
    obtain ⟨vs', os', h1, h2, h3, h4, h5⟩ := dSet_ow (k := k) r (ks := ks) wl (by simpa using e)
    by_cases z : k' = k
    · refine ⟨v :: vs', [] ++ os', ?_, by simp [h2], ?_, fun a ha => List.mem_append_right _ (h4 a (by simpa using ha)), fun n => h5 (List.nodup_append.mp n).2.1⟩
      · rw [List.zip_cons_cons, List.map_cons, h1, List.zip_cons_cons, if_pos z]
      · show OwL K B H _ ((if k' = k then S.d x else s) :: dSet k (.d x) ks _) _
        rw [if_pos z]
        exact .cons (.d r) h3
    · refine ⟨u :: vs', o ++ os', ?_, by simp [h2], ?_, fun a ha => ?_, fun n => ?_⟩
      · rw [List.zip_cons_cons, List.map_cons, h1, List.zip_cons_cons, if_neg z]
      · show OwL K B H _ ((if k' = k then S.d x else s) :: dSet k (.d x) ks _) _
        rw [if_neg z]
        exact .cons w h3
      · rcases List.mem_append.mp ha with m | m
        · exact List.mem_append_left _ m
        · exact List.mem_append_right _ (h4 a m)
      · obtain ⟨n1, n2, n3⟩ := List.nodup_append.mp n
        exact List.nodup_append.mpr ⟨n1, h5 n2, fun a ha b hb => n3 a ha b (h4 b hb)⟩
theorem any_zip {k : κ} : ∀ {ks : List κ} {vs : List V}, ks.length = vs.length → ((ks.zip vs).any fun kv => decide (kv.1 = k)) = decide (k ∈ ks)
  | [], _, _ => by simp
  | _ :: _, [], e => by simp at e
  | k' :: ks, v :: vs, e => by
    rw [List.zip_cons_cons, List.any_cons, any_zip (k := k) (ks := ks) (vs := vs) (by simpa using e)]
    by_cases z : k' = k
    · simp [z]
    · simp [z, Ne.symm z]
theorem dPut_ow {k : κ} {v : V} {x : D} (r : Rp K B v x) {ks : List κ} {vs : List V} {ss : List S} {os : List Addr} (w : OwL K B H vs ss os) (e : ks.length = vs.length) :
    ∃ vs' os', putK (ks.zip vs) k v = (dPut ks ss k (.d x)).1.zip vs' ∧ (dPut ks ss k (.d x)).1.length = vs'.length ∧ OwL K B H vs' (dPut ks ss k (.d x)).2 os' ∧ (∀ a ∈ os', a ∈ os) ∧ (os.Nodup → os'.Nodup) := by
  unfold putK dPut
  rw [any_zip e]
  by_cases z : k ∈ ks
  · obtain ⟨vs', os', h1, h2, h3, h4, h5⟩ := dSet_ow (k := k) r w e
    rw [if_pos z, if_pos (decide_eq_true z)]
    exact ⟨vs', os', h1, h2, h3, h4, h5⟩
  · rw [if_neg z, if_neg (by simpa using z)]
    refine ⟨vs ++ [v], os, ?_, by simp [e], w.snoc r, fun _ h => h, fun h => h⟩
    rw [List.zip_append e]
    rfl
end
/-! ### by the kind of dict -/
def hGet (h : Hd) (ss : List S) (kd : D) : Option (Option S) := match h with
  | .dic ks => (keyD kd).map (dGet ks ss)
  | .dit ks => (keyT kd).map (dGet ks ss)
  | .ins _ _ => none
def hPut (h : Hd) (ss : List S) (kd : D) (s : S) : Option (Hd × List S) := if ss.length < LIM then (match h with
  | .dic ks => (keyD kd).map fun k => (.dic (dPut ks ss k s).1, (dPut ks ss k s).2)
  | .dit ks => (keyT kd).map fun k => (.dit (dPut ks ss k s).1, (dPut ks ss k s).2)
  | .ins _ _ => none) else none
section
variable {K : PySem.W.Frag} {B H : Hp}
theorem hGet_isD {a : Addr} {h : Hd} {vs : List V} {own : List Addr} {kd : D} {ss : List S} {r : Option S} (x : HdAt K H a h vs own) (e : hGet h ss kd = some r) : IsD H a := by
  cases x with
  | dic h1 _ => exact .inl ⟨_, .inl h1⟩
  | dit h1 _ => exact .inr ⟨_, .inl h1⟩
  | ins => cases e
theorem hGet_ok {a : Addr} {h : Hd} {vs : List V} {own os : List Addr} {kd : D} {y : V} {ss : List S} {r : Option S} (ex : Same B H) (x : HdAt K H a h vs own) (w : OwL K B H vs ss os) (ry : Rp K B y kd) (e : hGet h ss kd = some r) :
    (r = none → DGet H a y none) ∧ ∀ d, r = some (.d d) → ∃ v, DGet H a y (some v) ∧ Rp K B v d := by
  cases x with
  | dic h1 h2 =>
    obtain ⟨k, hk, rfl⟩ := Option.map_eq_some_iff.mp e
    obtain rfl := keyD_rp ry hk
    obtain ⟨g1, g2⟩ := dGet_ow (k := k) w h2
    refine ⟨fun z => ?_, fun d z => ?_⟩
    · rw [← g1 z]; exact .k h1
    · obtain ⟨v, q1, q2⟩ := g2 d z
      exact ⟨v, by rw [← q1]; exact .k h1, q2⟩
  | dit h1 h2 =>
    obtain ⟨k, hk, rfl⟩ := Option.map_eq_some_iff.mp e
    cases ry with
    | tup hb rl =>
      have hb2 := ex _ _ hb
      rw [keysD_rp rl hk] at hb2
      obtain ⟨g1, g2⟩ := dGet_ow (k := k) w h2
      refine ⟨fun z => ?_, fun d z => ?_⟩
      · rw [← g1 z]; exact .t h1 hb2
      · obtain ⟨v, q1, q2⟩ := g2 d z
        exact ⟨v, by rw [← q1]; exact .t h1 hb2, q2⟩
    | _ => cases hk
  | ins => cases e
theorem hPut_ok {a : Addr} {h h' : Hd} {vs : List V} {own os : List Addr} {kd d : D} {y v : V} {ss ss' : List S} (ex : Same B H) (x : HdAt K H a h vs own) (w : OwL K B H vs ss os) (ry : Rp K B y kd) (rv : Rp K B v d) (e : hPut h ss kd (.d d) = some (h', ss')) :
    ∃ (o : HO) (vs' : List V) (os' : List Addr), DPut H a y v (upd H a o) ∧ own = [a] ∧ HdAt K (upd H a o) a h' vs' own ∧ OwL K B H vs' ss' os' ∧ (∀ b ∈ os', b ∈ os) ∧ (os.Nodup → os'.Nodup) := by
  unfold hPut at e
  split at e
  · rename_i hl
    rw [lim_eq] at hl
    cases x with
    | dic h1 h2 =>
      obtain ⟨k, hk, e⟩ := Option.map_eq_some_iff.mp e
      cases e
      obtain rfl := keyD_rp ry hk
      obtain ⟨vs', os', q1, q2, q3, q4, q5⟩ := dPut_ow (k := k) rv w h2
      refine ⟨_, vs', os', .k h1 (by rw [List.length_zip, h2, Nat.min_self, w.length]; exact hl), rfl, .dic ?_ q2, q3, q4, q5⟩
      rw [upd_same, q1]
    | dit h1 h2 =>
      obtain ⟨k, hk, e⟩ := Option.map_eq_some_iff.mp e
      cases e
      cases ry with
      | tup hb rl =>
        have hb2 := ex _ _ hb
        rw [keysD_rp rl hk] at hb2
        obtain ⟨vs', os', q1, q2, q3, q4, q5⟩ := dPut_ow (k := k) rv w h2
        refine ⟨_, vs', os', .t h1 hb2 (by rw [List.length_zip, h2, Nat.min_self, w.length]; exact hl), rfl, .dit ?_ q2, q3, q4, q5⟩
        rw [upd_same, q1]
      | _ => cases hk
    | ins => cases e
  · cases e
end
/-! ### the object that slot j owns -/
section
variable {K : PySem.W.Frag} {B H : Hp}
theorem ok_nd {σ : L2.St} {τ : Sl} {os : List Addr} {j : Nat} {h : Hd} {ss : List S} (ok : Ok K B H σ τ os) (hj : τ[j]? = some (some (.nd h ss))) :
    ∃ q vs own oc, σ[j]? = some (some (.ref q)) ∧ HdAt K H q h vs own ∧ OwL K B H vs ss oc ∧
      ∀ o h' vs' ss' oc', own = [q] → HdAt K (upd H q o) q h' vs' own → OwL K B H vs' ss' oc' → (∀ a ∈ oc', a ∈ oc) → (oc.Nodup → oc'.Nodup) → ∃ os', Ok K B (upd H q o) σ (τ.set j (some (.nd h' ss'))) os' ∧ Fr false B H os B (upd H q o) os' := by
  obtain ⟨v, o, r, h1, h2, h3, h4⟩ := ok.sl.take hj
  cases h2 with
  | nd hb hh w =>
    rename_i q vs own oc
    refine ⟨q, vs, own, oc, h1, hh, w, fun ob h' vs' ss' oc' hown hh' w' hs hn => ?_⟩
    subst hown
    have nd := h4.nodup_iff.mp ok.nd
    obtain ⟨n1, n2, n3⟩ := List.nodup_append.mp nd
    obtain ⟨m1, m2, m3⟩ := List.nodup_append.mp n1
    have hbq := hb q (by simp)
    have hq0 : H q ≠ none := hh.some q (by simp)
    have nq : q ∉ r := fun m => n3 q (by simp) q m rfl
    have nq' : q ∉ oc' := fun m => m3 q (by simp) q (hs q m) rfl
    have w2 : OwL K B (upd H q ob) vs' ss' oc' := w'.mono (fun _ _ h => h) fun a ha => ⟨(w'.mem a ha).1, upd_ne fun e => nq' (by rw [← e]; exact ha)⟩
    have r2 : OwS K B (upd H q ob) σ (τ.set j none) r := h3.mono (fun _ _ h => h) fun a ha => ⟨(h3.mem a ha).1, upd_ne fun e => nq (by rw [← e]; exact ha)⟩
    have hjl : j < τ.length := (List.getElem?_eq_some_iff.mp hj).1
    obtain ⟨os', h5, h6⟩ := r2.back h1 (by rw [List.getElem?_set_self hjl]) (.nd hb hh' w2)
    rw [List.set_set] at h5
    have qin : q ∈ os := h4.mem_iff.mpr (List.mem_append_left _ (by simp))
    have mem' : ∀ a ∈ os', a ∈ os := fun a ha => by
      rcases List.mem_append.mp (h6.mem_iff.mp ha) with m | m
      · rcases List.mem_append.mp m with e | m
        · rw [List.mem_singleton.mp e]; exact qin
        · exact h4.mem_iff.mpr (List.mem_append_left _ (List.mem_append_right _ (hs a m)))
      · exact h4.mem_iff.mpr (List.mem_append_right _ m)
    refine ⟨os', ⟨fun c u h => by rw [upd_ne (ne_of_none h hbq)]; exact ok.ex c u h, h5, h6.nodup_iff.mpr (List.nodup_append.mpr ⟨List.nodup_append.mpr ⟨by simp, hn m2, fun a ha b hb' e => nq' (by rw [← List.mem_singleton.mp ha, e]; exact hb')⟩, n2, fun a ha b hb' => ?_⟩)⟩, ⟨fun _ _ h => h, fun c u h z => ?_, fun c h => ?_, fun a ha => .inl (mem' a ha), fun c h z => absurd h z⟩⟩
    · rcases List.mem_append.mp ha with e | m
      · rw [List.mem_singleton.mp e]
        exact fun e => nq (by rw [e]; exact hb')
      · exact n3 a (List.mem_append_right _ (hs a m)) b hb'
    · rcases z with z | z
      · cases z
      · rw [upd_ne fun e => z (by rw [e]; exact qin)]
        exact h
    · by_cases e : c = q
      · subst e; rw [upd_same] at h; cases h
      · rw [upd_ne e] at h; exact h
end
/-! ### rules -/
def mDNew (h : Hd) : M S := fun τ => some (.nd h [], τ)
def mDGet2 (j : Nat) (mk md : M S) : M S := fun τ => match τ[j]? with
  | some (some (.nd h ss)) => (match mk τ with
    | some (.d kd, _) => (match md τ with
      | some (.d dd, _) => (match hGet h ss kd with
        | some none => some (.d dd, τ)
        | some (some (.d x)) => some (.d x, τ)
        | _ => none)
      | _ => none)
    | _ => none)
  | _ => none
/-- d[k] = v -/
def mDPut (j : Nat) (mk mv : M S) : MS := fun τ => match mv τ with
  | some (.d x, τ1) => (match mk τ1 with
    | some (.d kd, _) => (match τ1[j]? with
      | some (some (.nd h ss)) => (match hPut h ss kd (.d x) with
        | some (h', ss') => some (.nx, τ1.set j (some (.nd h' ss')))
        | none => none)
      | _ => none)
    | _ => none)
  | _ => none
/-- d[k] op= v -/
def mDAug (j : Nat) (g : S → S → Option D) (mk mv : M S) : MS := fun τ => match τ[j]? with
  | some (some (.nd h ss)) => (match mk τ with
    | some (.d kd, _) => (match hGet h ss kd with
      | some (some (.d x)) => (match mv τ with
        | some (s, _) => (match g (.d x) s with
          | some d => (match hPut h ss kd (.d d) with
            | some (h', ss') => some (.nx, τ.set j (some (.nd h' ss')))
            | none => none)
          | none => none)
        | none => none)
      | _ => none)
    | _ => none)
  | _ => none
section
variable {X : Cx} {p f p1 p2 f1 f2 : Bool} {e k : Expr} {me mk md : M S} {pos px apos cpos : Pos} {P : List Nat}
theorem rx_dnewT : RX X false f (.Dict [] [] pos) (mDNew (.dit [])) := by
  refine ⟨pe_imp pe_dnewT fun σ H Q q => ?_, fun z => by cases z⟩
  obtain ⟨B, τ, os, ok, q⟩ := q
  intro D hD
  have hb : B D = none := by
    cases z : B D with
    | none => rfl
    | some u => rw [ok.ex D u z] at hD; cases hD
  have nD : D ∉ os := fun m => (ok.sl.mem D m).2 hD
  have ok2 : Ok X.K B (upd H D (.dT [])) σ τ os := ⟨fun c u h => by rw [upd_ne (ne_of_none h hb)]; exact ok.ex c u h, ok.sl.mono (fun _ _ h => h) fun a ha => ⟨(ok.sl.mem a ha).1, upd_ne fun e => nD (by rw [← e]; exact ha)⟩, ok.nd⟩
  refine q (.ref D) B _ ([D] ++ []) os (.nd (fun b hb' => by rw [List.mem_singleton.mp hb']; exact hb) (.dit (vs := []) upd_same rfl) .nil) ok2 (fun _ => ⟨?_, fun a ha => ?_⟩) ⟨fun _ _ h => h, fun c u h _ => ?_, fun c h => ?_, fun c h => .inl h, fun c h z => absurd h z⟩
  · refine List.nodup_append.mpr ⟨by simp, ok.nd, fun a ha b hb' e => nD ?_⟩
    rw [List.append_nil, List.mem_singleton] at ha
    rw [← ha, e]
    exact hb'
  · rw [List.append_nil, List.mem_singleton] at ha
    rw [ha]
    exact .inr hD
  · rw [upd_ne (ne_of_none h hD)]
    exact h
  · by_cases e : c = D
    · subst e; exact hD
    · rw [upd_ne e] at h; exact h
theorem rx_dget2 (j : Nat) {x : Str} (hu : X.A.units + 1 < cLine) (hk : RX X true f1 k mk) (hd' : RX X true f2 e md) (hN : X.N[j]? = some x := by rfl) (hv : Vis X.env.scope x := by first | exact Or.inl rfl | exact Or.inr (Or.inl rfl) | exact Or.inr (Or.inr rfl)) (hd : (x == ("__debug__" : Str)) = false := by decide)
    (hcd : (x == ("__classdict__" : Str)) = false := by decide) (m : M2 X (.Name x px) "get" apos k e cpos := by exact ⟨by rfl, by rfl, by rfl, by rfl⟩) : RX X true f (.Call (.Attribute (.Name x px) "get" apos) [k, e] [] cpos) (mDGet2 j mk md) := by
  refine ⟨pe_imp (pe_dget2 hu (pv j hN hv hd hcd) hk.pe hd'.pe m) fun σ H Q q => ?_, fun _ τ s τ' q => ?_⟩
  · obtain ⟨B, τ, os, ok, q⟩ := q
    unfold mDGet2 at q
    split at q
    · rename_i h ss e0
      split at q
      · rename_i kd τ1 e1
        have t1 := hk.pu rfl _ _ _ e1
        subst t1
        split at q
        · rename_i dd τ2 e2
          have t2 := hd'.pu rfl _ _ _ e2
          subst t2
          cases e3 : hGet h ss kd with
          | none => rw [e3] at q; exact q.elim
          | some r =>
            obtain ⟨q0, vs, own, oc, g1, g2, g3, _⟩ := ok_nd ok e0
            refine ⟨.ref q0, g1, q0, rfl, hGet_isD g2 e3, B, _, os, ok, ?_⟩
            rw [e1]
            intro y B1 H1 oy os1 w1 ok1 _ fr1
            refine ⟨B1, _, os1, ok1, ?_⟩
            rw [e2]
            intro z B2 H2 oz os2 w2 ok2 _ fr2
            obtain ⟨q1, vs1, own1, oc1, h1, h2, h3, _⟩ := ok_nd ok2 e0
            have eq : q0 = q1 := by rw [g1] at h1; injection h1 with z; injection z with z; injection z
            subst eq
            have fr := fr1.trans fr2 fun _ h => h
            have ry := (ow_d w1).mono fr2.bb
            obtain ⟨k1, k2⟩ := hGet_ok ok2.ex h2 h3 ry e3
            rw [e3] at q
            cases r with
            | none => exact ⟨none, k1 rfl, q z B2 H2 [] os2 (.d (ow_d w2)) ok2 (fun _ => .nil ok2.nd) fr⟩
            | some s =>
              cases s with
              | d d =>
                obtain ⟨v, g, rv⟩ := k2 d rfl
                exact ⟨some v, g, q v B2 H2 [] os2 (.d rv) ok2 (fun _ => .nil ok2.nd) fr⟩
              | lst _ => exact q.elim
              | nd _ _ => exact q.elim
        · exact q.elim
      · exact q.elim
    · exact q.elim
  · unfold mDGet2 at q
    split at q
    · split at q
      · split at q
        · split at q
          · cases q; rfl
          · cases q; rfl
          · cases q
        · cases q
      · cases q
    · cases q
theorem rs_dput (j : Nat) {x : Str} {tpos : Pos} (hu : X.A.units + 1 < cLine) (hv' : RX X p1 f1 e me) (hk : RX X true f2 k mk) (hN : X.N[j]? = some x := by rfl) (hv : Vis X.env.scope x := by first | exact Or.inl rfl | exact Or.inr (Or.inl rfl) | exact Or.inr (Or.inr rfl)) (hd : (x == ("__debug__" : Str)) = false := by decide)
    (hcd : (x == ("__classdict__" : Str)) = false := by decide) (hs : swapsWith e (some (.Subscript (.Name x px) k tpos)) pos.line X.env = pure false := by rfl) : RS X P (.Assign [.Subscript (.Name x px) k tpos] e pos) (mDPut j mk me) := by
  refine ⟨ps_imp (ps_dput hu (pv j hN hv hd hcd) hk.pe hv'.pe hs) fun D σ H q => ?_⟩
  obtain ⟨B, τ, os, ok, q⟩ := q
  refine ⟨B, τ, os, ok, ?_⟩
  unfold mDPut at q
  split at q
  · rename_i x0 τ1 e1
    split at q
    · rename_i kd τ2 e2
      have t2 := hk.pu rfl _ _ _ e2
      subst t2
      split at q
      · rename_i h ss e0
        split at q
        · rename_i h' ss' e3
          rw [e1]
          intro v B1 H1 ov os1 w1 ok1 _ fr1
          obtain ⟨q0, vs0, own0, oc0, g1, g2, g3, _⟩ := ok_nd ok1 e0
          refine ⟨.ref q0, g1, B1, _, os1, ok1, ?_⟩
          rw [e2]
          intro y B2 H2 oy os2 w2 ok2 _ fr2
          obtain ⟨q1, vs, own, oc, h1, h2, h3, h4⟩ := ok_nd ok2 e0
          have eq : q0 = q1 := by rw [g1] at h1; injection h1 with z; injection z with z; injection z
          subst eq
          obtain ⟨o, vs', os', k1, k2, k3, k4, k5, k6⟩ := hPut_ok ok2.ex h2 h3 (ow_d w2) ((ow_d w1).mono fr2.bb) e3
          obtain ⟨os3, ok3, fr3⟩ := h4 o h' vs' ss' os' k2 k3 k4 k5 k6
          exact ⟨q0, _, rfl, k1, q σ B2 _ os3 Pin.refl ok3 (((fr1.trans fr2 fun _ h => h).trans fr3 fun _ h => h).weak)⟩
        · exact q.elim
      · exact q.elim
    · exact q.elim
  · exact q.elim
theorem rs_daug (j : Nat) {x : Str} {tpos : Pos} {op : Operator} {r : R2} {g : S → S → Option D} (hu : X.A.units + 1 < cLine) (ho : OpR X (inplaceOp op) r) (og : Op2 X.K r g) (hk : RX X true f2 k mk) (he : RX X true f1 e me) (hN : X.N[j]? = some x := by rfl) (hv : Vis X.env.scope x := by first | exact Or.inl rfl | exact Or.inr (Or.inl rfl) | exact Or.inr (Or.inr rfl)) (hd : (x == ("__debug__" : Str)) = false := by decide)
    (hcd : (x == ("__classdict__" : Str)) = false := by decide) (ha : ∀ ov iv new, augStore k ov iv new = (do holding [new, ov, iv] (setItem ov iv new); release [new, ov, iv] []; pure .next) := by intro _ _ _; rfl) : RS X P (.AugAssign (.Subscript (.Name x px) k tpos) op e pos) (mDAug j g mk me) := by
  refine ⟨ps_imp (ps_daug hu (pv j hN hv hd hcd) hk.pe he.pe (fun pins s σ H x y u v Q I rx ry h => ho pins s σ H x y u v Q I rx ry h) ha) fun D σ H q => ?_⟩
  obtain ⟨B, τ, os, ok, q⟩ := q
  unfold mDAug at q
  split at q
  · rename_i h ss e0
    split at q
    · rename_i kd τ1 e1
      have t1 := hk.pu rfl _ _ _ e1
      subst t1
      split at q
      · rename_i x0 e2
        split at q
        · rename_i s τ2 e3
          have t2 := he.pu rfl _ _ _ e3
          subst t2
          split at q
          · rename_i d e4
            split at q
            · rename_i h' ss' e5
              obtain ⟨q0, vs0, own0, oc0, g1, g2, g3, _⟩ := ok_nd ok e0
              refine ⟨.ref q0, g1, B, _, os, ok, ?_⟩
              rw [e1]
              intro y B1 H1 oy os1 w1 ok1 _ fr1
              obtain ⟨q1, vs1, own1, oc1, a1, a2, a3, _⟩ := ok_nd ok1 e0
              have eq : q0 = q1 := by rw [g1] at a1; injection a1 with z; injection z with z; injection z
              subst eq
              obtain ⟨_, k2⟩ := hGet_ok ok1.ex a2 a3 (ow_d w1) e2
              obtain ⟨v, gg, rv⟩ := k2 x0 rfl
              refine ⟨q0, v, rfl, gg, B1, _, os1, ok1, ?_⟩
              rw [e3]
              intro y2 B2 H2 oz os2 w2 ok2 _ fr2
              refine og B2 H2 v y2 (.d x0) s [] oz d _ ok2.ex (.d (rv.mono fr2.bb)) w2 e4 fun z B3 H3 rz gr => ?_
              have ok3 := gr.ok ok2
              obtain ⟨q2, vs, own, oc, b1, b2, b3, b4⟩ := ok_nd ok3 e0
              have eq : q0 = q2 := by rw [g1] at b1; injection b1 with z; injection z with z; injection z
              subst eq
              obtain ⟨o, vs', os', c1, c2, c3, c4, c5, c6⟩ := hPut_ok ok3.ex b2 b3 (((ow_d w1).mono fr2.bb).mono gr.bb) rz e5
              obtain ⟨os4, ok4, fr4⟩ := b4 o h' vs' ss' os' c2 c3 c4 c5 c6
              have fr3 : Fr true B2 H2 os2 B3 H3 os2 := gr.fr
              exact ⟨_, c1, q σ B3 _ os4 Pin.refl ok4 ((((fr1.trans fr2 fun _ h => h).trans fr3 fun _ h => h).trans fr4 fun _ h => h).weak)⟩
            · exact q.elim
          · exact q.elim
        · exact q.elim
      · exact q.elim
    · exact q.elim
  · exact q.elim
end
/-! ### insert -/
theorem OwL.ins {K : PySem.W.Frag} {B H : Hp} {v : V} {d : D} (r : Rp K B v d) : ∀ (n : Nat) {vs : List V} {ss : List S} {os : List Addr}, OwL K B H vs ss os → OwL K B H (vs.take n ++ [v] ++ vs.drop n) (ss.take n ++ [.d d] ++ ss.drop n) os
  | 0, _, _, _, w => by simpa using OwL.cons (.d r) w
  | n + 1, _, _, _, .nil => by simpa using OwL.cons (.d r) .nil
  | n + 1, _, _, _, .cons h w => by simpa using OwL.cons h (OwL.ins r n w)
def mIns (j : Nat) (mi mv : M S) : MS := fun τ => match τ[j]? with
  | some (some (.lst _)) => (match mi τ with
    | some (.d (.int i), τ1) => (match mv τ1 with
      | some (.d d, τ2) => (match τ2[j]? with
        | some (some (.lst ss)) => if ss.length < LIM ∧ 0 ≤ i ∧ i < 2 ^ 62 then some (.nx, τ2.set j (some (.lst (ss.take i.toNat ++ [.d d] ++ ss.drop i.toNat)))) else none
        | _ => none)
      | _ => none)
    | _ => none)
  | _ => none
section
variable {X : Cx} {p1 p2 f1 f2 : Bool} {a e : Expr} {mi mv : M S} {pos px apos cpos : Pos} {P : List Nat}
theorem rs_insert (j : Nat) {x : Str} (hi : RX X p1 f1 a mi) (he : RX X p2 f2 e mv) (hN : X.N[j]? = some x := by rfl) (hv : Vis X.env.scope x := by first | exact Or.inl rfl | exact Or.inr (Or.inl rfl) | exact Or.inr (Or.inr rfl)) (hd : (x == ("__debug__" : Str)) = false := by decide)
    (hcd : (x == ("__classdict__" : Str)) = false := by decide) (hbase : attributeBase (.Name x px) "insert" X.env (eval (.Name x px) X.env) = eval (.Name x px) X.env := by rfl)
    (hfew : ((backTo cpos (starEach (a :: [e]) X.env)).all (fun x => !x.1) && (backToKw cpos (keywordEach [] X.env)).all (fun x => x.1.isSome)
      && decide ((a :: [e]).length + ([] : List Keyword).length + (if ([] : List Keyword).isEmpty then 0 else 1) < 30)) = true := by rfl)
    (hline : (apos.endLine == cpos.line) = true := by rfl) (hs : starEach (a :: [e]) X.env = (false, eval a X.env) :: starEach [e] X.env := by rfl) (hs2 : starEach [e] X.env = (false, eval e X.env) :: starEach [] X.env := by rfl) (hpl : (backTo cpos (starEach [e] X.env)).any (·.1) = false := by rfl)
    (hsw : swapsWith (.Call (.Attribute (.Name x px) "insert" apos) [a, e] [] cpos) none pos.line X.env = pure false := by rfl) :
    RS X P (.Expr (.Call (.Attribute (.Name x px) "insert" apos) [a, e] [] cpos) pos) (mIns j mi mv) := by
  refine ⟨ps_imp (ps_expr (pe_bm PySem.F.plainAttrs_list PySem.F.slot_list_insert PySem.F.type_list_insert mt_insert (pv j hN hv hd hcd) (pa_cons hi.pe (pa_cons he.pe pa_nil hs2) hs) hbase hfew hline hs (hplain := hpl)) hsw) fun D σ H q => ?_⟩
  obtain ⟨B, τ, os, ok, q⟩ := q
  unfold mIns at q
  split at q
  · rename_i ss0 e0
    split at q
    · rename_i i τ1 e1
      split at q
      · rename_i d τ2 e2
        split at q
        · rename_i ss e3
          split at q
          · rename_i hl
            obtain ⟨q0, vs0, oc0, g1, g2, g3, g4, _⟩ := ok_list ok e0
            refine ⟨.ref q0, g1, .inl ⟨rfl, _, SqL.of g3⟩, B, τ, os, ok, ?_⟩
            rw [e1]
            intro y B1 H1 oy os1 w1 ok1 _ fr1
            cases rp_int (ow_d w1)
            refine ⟨B1, τ1, os1, ok1, ?_⟩
            rw [e2]
            intro v B2 H2 ov os2 w2 ok2 _ fr2
            obtain ⟨q1, vs, oc, h1, h2, h3, h4, h5⟩ := ok_list ok2 e3
            have eq : q0 = q1 := by rw [g1] at h1; injection h1 with z; injection z with z; injection z
            subst eq
            obtain ⟨os3, ok3, fr3⟩ := h5 _ _ oc (h4.ins (ow_d w2) i.toNat) (fun _ h => h) fun h => h
            exact ⟨q0, vs, i, v, rfl, rfl, h3, by rw [h4.length, ← lim_eq]; exact hl.1, hl.2.1, by have := hl.2.2; omega, q σ B2 _ os3 Pin.refl ok3 ((fr1.trans fr2 fun _ h => h).weak.trans fr3 fun _ h => h)⟩
          · exact q.elim
        · exact q.elim
      · exact q.elim
    · exact q.elim
  · exact q.elim
end
theorem Room_u1 {k : Nat} {A : Around} (r : Room k A) : A.units + 1 < cLine := by have := r.un; omega
end Tr

/-! Tr14: a call that only looks: what names own is seen as data, the answer is flat. -/
namespace Tr
open PySem PySem.Spec PyProof.Rows L2
def PostV (K : PySem.W.Frag) (σ : L2.St) (B H : Hp) (os : List Addr) (Q : List V → Hp → Prop) : Option (List D × Sl) → Prop
  | none => False
  | some (ds, τ') => ∀ vs B' H' os', RpL K H' vs ds → Ok K B' H' σ τ' os' → Fr true B H os B' H' os' → Q vs H'
def tvOf (K : PySem.W.Frag) (m : M (List D)) : TA := fun σ H Q => ∃ B τ os, Ok K B H σ τ os ∧ PostV K σ B H os Q (m τ)
structure RV (X : Cx) (es : List Expr) (m : M (List D)) : Prop where
  pa : PA X es (tvOf X.K m)
  pu : Pure m
def mvCons (ma : M S) (mr : M (List D)) : M (List D) := fun τ => match ma τ with
  | some (s, τ1) => (match mr τ1 with | some (xs, τ2) => some (s.view :: xs, τ2) | none => none)
  | none => none
def mCallV (sem : Sem1) (mr : M (List D)) : M S := fun τ => match mr τ with
  | some (ds, τ1) => (match sem (ds.map S.d) with | some (.d x, _) => if x.flat then some (.d x, τ1) else none | _ => none)
  | none => none
theorem rp_flat {K : PySem.W.Frag} {B B' : Hp} {v : V} {d : D} (r : Rp K B v d) (h : d.flat = true) : Rp K B' v d := by
  cases r with
  | non => exact .non
  | bl b => exact .bl b
  | int i => exact .int i
  | str x => exact .str x
  | tup _ _ => cases h
  | lst _ _ => cases h
  | scr _ => cases h
  | nd _ _ => cases h
section
variable {X : Cx} {p f f1 : Bool} {a : Expr} {es : List Expr} {ma : M S} {mr : M (List D)} {pos px : Pos}
theorem rv_nil : RV X [] maNil := by
  refine ⟨pa_imp pa_nil fun σ H Q q => ?_, fun τ s τ' q => by cases q; rfl⟩
  obtain ⟨B, τ, os, ok, q⟩ := q
  exact q [] B H os .nil ok Fr.refl
theorem rv_cons (ha : RX X true f1 a ma) (hr : RV X es mr) (hs : starEach (a :: es) X.env = (false, eval a X.env) :: starEach es X.env := by rfl) : RV X (a :: es) (mvCons ma mr) := by
  refine ⟨pa_imp (pa_cons ha.pe hr.pa hs) fun σ H Q q => ?_, fun τ s τ' q => ?_⟩
  · obtain ⟨B, τ, os, ok, q⟩ := q
    refine ⟨B, τ, os, ok, ?_⟩
    unfold mvCons at q
    split at q
    · rename_i s τ1 e1
      rw [e1]
      intro v B1 H1 ov os1 w1 ok1 _ fr1
      split at q
      · rename_i xs τ2 e2
        refine ⟨B1, τ1, os1, ok1, ?_⟩
        rw [e2]
        intro vs B2 H2 os2 r2 ok2 fr2
        have sm : Same H1 H2 := fun c u h => fr2.keep c u h (.inl rfl)
        exact q (v :: vs) B2 H2 os2 (.cons ((w1.see ok1.ex).mono sm) r2) ok2 (fr1.trans fr2 fun _ h => h)
      · exact q.elim
    · exact q.elim
  · unfold mvCons at q
    split at q
    · rename_i s1 τ1 e1
      split at q
      · rename_i xs τ2 e2
        cases q
        rw [hr.pu _ _ _ e2, ha.pu rfl _ _ _ e1]
      · cases q
    · cases q
theorem rx_callV {j k : Nat} {x : Str} {ps : List Str} {sem : Sem1} (Df : Def X.prog X.w X.K X.mg X.base j x ps sem) (hr : Room k X.A) (hj : j ≤ k) (ha : RV X (a :: es) mr)
    (hg : Gl X x := by rfl) (hdb : (x == ("__debug__" : Str)) = false := by decide) (he : starEach (a :: es) X.env = (false, eval a X.env) :: starEach es X.env := by rfl) (hpl : (backTo pos (starEach es X.env)).any (·.1) = false := by rfl) :
    RX X true f (.Call (.Name x px) (a :: es) [] pos) (mCallV sem mr) := by
  obtain ⟨fa, fd, F, h1, h2, h3⟩ := Df.ex
  refine ⟨pe_imp (pe_call F (hr.mono hj) hg h1 h2 h3 .nil pass0 ha.pa hdb he hpl) fun σ H Q q => ?_, fun _ τ s τ' q => ?_⟩
  · obtain ⟨B, τ, os, ok, q⟩ := q
    refine ⟨B, τ, os, ok, ?_⟩
    unfold mCallV at q
    split at q
    · rename_i ds τ1 e1
      rw [e1]
      intro vs B1 H1 os1 r1 ok1 fr1
      show spS X.K sem (vs ++ []) H1 Q E0
      rw [List.append_nil]
      split at q
      · rename_i y ss' e2
        split at q
        · rename_i hy
          refine ⟨H1, ds.map S.d, [], .d y, ss', fun _ _ h => h, owl_ds r1, List.nodup_nil, e2, fun v B2 H2 ov o1' w _ _ ex2 fr2 => ?_⟩
          have sm : Same H1 H2 := fun c u h => ex2 c u (fr2.bb c u h)
          have ok2 : Ok X.K B1 H2 σ τ1 os1 := ⟨fun c u h => sm c u (ok1.ex c u h), ok1.sl.mono (fun _ _ h => h) fun c hc => ⟨(ok1.sl.mem c hc).1, by
            cases z : H1 c with
            | none => exact absurd z (ok1.sl.mem c hc).2
            | some u => exact sm c u z⟩, ok1.nd⟩
          refine q v B1 H2 [] os1 (.d (rp_flat (ow_d w) hy)) ok2 (fun _ => .nil ok2.nd) ?_
          have fr3 : Fr true B1 H1 os1 B1 H2 os1 := ⟨fun _ _ h => h, fun c u h _ => sm c u h, fr2.thr, fun c h => .inl h, fun c h z => absurd h z⟩
          exact fr1.trans fr3 fun _ h => h
        · exact q.elim
      · exact q.elim
    · exact q.elim
  · unfold mCallV at q
    split at q
    · rename_i ds τ1 e1
      split at q
      · split at q
        · cases q
          exact ha.pu _ _ _ e1
        · cases q
      · cases q
    · cases q
end
end Tr

namespace K38
open PySem PySem.Spec PyProof.Rows L2 Tr
def topS (i : Nat) : Stmt := PySem.Challenge.pw_kithwhole_k38_came_and_went.main.body.getD i (.Pass ⟨0, 0, 0, 0⟩)
/-! ### _law_next: 0=state 1=limit 2=cell 3=value -/
abbrev s__law_next : Stmt := topS 7
theorem sc__law_next : FnScope ["state", "limit", "cell", "value"] ["state", "limit"] (defScope s__law_next) := ⟨rfl, rfl, rfl, by decide +kernel, rfl, by decide +kernel, by decide +kernel⟩
def b__law_next : MS :=
 (mSeq (mIf (mAndT (mTB (mBin true (gEq false) (mBinS true gIx (mVar 0) (mC (.int 2))) (mC (.int 0)))) (mTB (mBin true gLt (mBinS true gIx (mVar 0) (mC (.int 1))) (mUn gLen (mBinS true gIx (mVar 0) (mC (.int 0))))))) (mSeq (mSet 2 (mD (mBinS true gIx (mBinS true gIx (mVar 0) (mC (.int 0))) (mBinS true gIx (mVar 0) (mC (.int 1))))))
 (mSeq (mAugI 0 gIAdd (mC (.int 1)) (mC (.int 1)))
 (mIf (mTB (mBin true gGe (mVar 2) (mBin true gPow (mC (.int 10)) (mC (.int 18))))) (mSetI 0 (mC (.int 2)) (mVarD 2)) (mSetI 0 (mC (.int 3)) (mBin true gMod (mUn gInt (mBin true gAdd (mBin true gAdd (mBin true gMul (mBinS true gIx (mVar 0) (mC (.int 3))) (mC (.int 48271))) (mBin true gMod (mUn gInt (mVar 2)) (mC (.int 2147483647)))) (mC (.int 7)))) (mC (.int 2147483647))))))) mNx)
 (mSeq (mIf (mTB (mBin true gGt (mBinS true gIx (mVar 0) (mC (.int 2))) (mC (.int 0)))) (mSeq (mSet 3 (mBin true gMod (mUn gInt (mBinS true gIx (mVar 0) (mC (.int 2)))) (mVar 1)))
 (mSeq (mSetI 0 (mC (.int 2)) (mBin true gDiv (mBinS true gIx (mVar 0) (mC (.int 2))) (mVar 1)))
 (mRet (mVarD 3)))) mNx)
 (mSeq (mSetI 0 (mC (.int 3)) (mBin true gMod (mUn gInt (mBin true gAdd (mBin true gMul (mBinS true gIx (mVar 0) (mC (.int 3))) (mC (.int 69621))) (mC (.int 12345)))) (mC (.int 2147483647))))
 (mRet (mBin true gMod (mUn gInt (mBin true gDiv (mBinS true gIx (mVar 0) (mC (.int 3))) (mC (.int 7)))) (mVar 1))))))
def sem__law_next : Sem1 := runB [true, false] 4 b__law_next
/-! ### value_key: 0=value -/
abbrev s_value_key : Stmt := topS 1
theorem sc_value_key : FnScope ["value"] ["value"] (defScope s_value_key) := ⟨rfl, rfl, rfl, by decide +kernel, rfl, by decide +kernel, by decide +kernel⟩
def b_value_key : MS :=
 (mSeq (mIf (mTB (mBin true (gIs false) (mVar 0) (mC .non))) (mRet (mTup (maCons (mC (.int 0)) maNil))) mNx)
 (mSeq (mIf (mTru (mUn (gIsi "bool") (mVar 0))) (mRet (mTup (maCons (mC (.int 1)) (maCons (mUn gInt (mVar 0)) maNil)))) mNx)
 (mSeq (mIf (mTru (mUn (gIsi "int") (mVar 0))) (mRet (mTup (maCons (mC (.int 2)) (maCons (mVarD 0) maNil)))) mNx)
 (mRet (mTup (maCons (mC (.int 3)) (maCons (mVarD 0) maNil)))))))
def sem_value_key : Sem1 := runB [false] 1 b_value_key
/-! ### row_key: 0=row 1=parts 2=value -/
abbrev s_row_key : Stmt := topS 2
theorem sc_row_key : FnScope ["row", "parts", "value"] ["row"] (defScope s_row_key) := ⟨rfl, rfl, rfl, by decide +kernel, rfl, by decide +kernel, by decide +kernel⟩
def B1_row_key : MS :=
 (mExt 1 (mZ (mCallP sem_value_key (maCons (mVarD 2) maNil))))
def L1_row_key : MS :=
 (mFor (mItems (mVarD 0)) (mgName 2) B1_row_key)
def b_row_key : MS :=
 (mSeq (mSet 1 (mLst maNil))
 (mSeq L1_row_key
 (mRet (mUn gTupOf (mVar 1)))))
def sem_row_key : Sem1 := runB [false] 3 b_row_key
/-! ### came: 0=old 1=new 2=counts 3=row 4=key 5=found -/
abbrev s_came : Stmt := topS 4
theorem sc_came : FnScope ["old", "new", "counts", "row", "key", "found"] ["old", "new"] (defScope s_came) := ⟨rfl, rfl, rfl, by decide +kernel, rfl, by decide +kernel, by decide +kernel⟩
def B1_came : MS :=
 (mSeq (mSet 4 (mZ (mCallP sem_row_key (maCons (mVarD 3) maNil))))
 (mDPut 2 (mVarD 4) (mBin true gAdd (mDGet2 2 (mVarD 4) (mC (.int 0))) (mC (.int 1)))))
def L1_came : MS :=
 (mFor (mItems (mVarD 0)) (mgName 3) B1_came)
def B2_came : MS :=
 (mSeq (mSet 4 (mZ (mCallP sem_row_key (maCons (mVarD 3) maNil))))
 (mIf (mTB (mBin true gGt (mDGet2 2 (mVarD 4) (mC (.int 0))) (mC (.int 0)))) (mDAug 2 gSub (mVarD 4) (mC (.int 1))) (mApp 5 (mVarD 3))))
def L2_came : MS :=
 (mFor (mItems (mVarD 1)) (mgName 3) B2_came)
def b_came : MS :=
 (mSeq (mSet 2 (mDNew (.dit [])))
 (mSeq L1_came
 (mSeq (mSet 5 (mLst maNil))
 (mSeq L2_came
 (mTake 5)))))
def sem_came : Sem1 := runB [false, false] 6 b_came
/-! ### went: 0=old 1=new -/
abbrev s_went : Stmt := topS 5
theorem sc_went : FnScope ["old", "new"] ["old", "new"] (defScope s_went) := ⟨rfl, rfl, rfl, by decide +kernel, rfl, by decide +kernel, by decide +kernel⟩
def b_went : MS :=
 (mRet (mCallP sem_came (maCons (mVarD 1) (maCons (mVarD 0) maNil))))
def sem_went : Sem1 := runB [false, false] 2 b_went
/-! ### _law_char: 0=index 1=chars -/
abbrev s__law_char : Stmt := topS 9
theorem sc__law_char : FnScope ["index", "chars"] ["index"] (defScope s__law_char) := ⟨rfl, rfl, rfl, by decide +kernel, rfl, by decide +kernel, by decide +kernel⟩
def b__law_char : MS :=
 (mSeq (mSet 1 (mC (.str " '!\"#$&()*+,-./0123456789:;<=>?@ABCDEFGHIJKLMNOPQRSTUVWXYZ[\\]^_`")))
 (mSeq (mSet 1 (mBin true gAdd (mVar 1) (mC (.str "abcdefghijklmnopqrstuvwxyz{|}~\n"))))
 (mRet (mD (mBinS true gIx (mVar 1) (mBin true gMod (mUn gInt (mVar 0)) (mC (.int 95))))))))
def sem__law_char : Sem1 := runB [false] 2 b__law_char
/-! ### _law_value: 0=state 1=kind 2=text -/
abbrev s__law_value : Stmt := topS 10
theorem sc__law_value : FnScope ["state", "kind", "text"] ["state", "kind"] (defScope s__law_value) := ⟨rfl, rfl, rfl, by decide +kernel, rfl, by decide +kernel, by decide +kernel⟩
def b__law_value : MS :=
 (mSeq (mIf (mTB (mBin true (gEq false) (mCall sem__law_next (mcR 0 (mcV (mC (.int 5)) mcNil))) (mC (.int 0)))) (mRet (mC .non)) mNx)
 (mSeq (mIf (mTB (mBin true (gEq false) (mVar 1) (mC (.str "boolean")))) (mRet (mBin true (gEq false) (mCall sem__law_next (mcR 0 (mcV (mC (.int 2)) mcNil))) (mC (.int 1)))) mNx)
 (mSeq (mIf (mTB (mBin true (gEq false) (mVar 1) (mC (.str "integer")))) (mRet (mBin false gMul (mCall sem__law_next (mcR 0 (mcV (mD (mBinS false gIx (mLstZ (maCons (mC (.int 4)) (maCons (mC (.int 4)) (maCons (mC (.int 4)) (maCons (mBin true gPow (mC (.int 10)) (mC (.int 40))) maNil))))) (mCall sem__law_next (mcR 0 (mcV (mC (.int 4)) mcNil))))) mcNil))) (mBin false gSub (mC (.int 1)) (mBin false gMul (mC (.int 2)) (mCall sem__law_next (mcR 0 (mcV (mC (.int 2)) mcNil))))))) mNx)
 (mSeq (mSet 2 (mD (mBinS false gIx (mLstZ (maCons (mC (.str "")) (maCons (mC (.str "a")) (maCons (mC (.str "b")) (maCons (mC (.str "ab")) (maCons (mC (.str "B")) (maCons (mC (.str "None")) (maCons (mC (.str "True")) (maCons (mC (.str "1")) (maCons (mC (.str "-3")) maNil)))))))))) (mCall sem__law_next (mcR 0 (mcV (mC (.int 9)) mcNil))))))
 (mSeq (mIf (mTB (mBin true (gEq false) (mCall sem__law_next (mcR 0 (mcV (mC (.int 5)) mcNil))) (mC (.int 0)))) (mSet 2 (mBin false gAdd (mVar 2) (mCallP sem__law_char (maCons (mZ (mCall sem__law_next (mcR 0 (mcV (mC (.int 95)) mcNil)))) maNil)))) mNx)
 (mRet (mVarD 2)))))))
def sem__law_value : Sem1 := runB [true, false] 3 b__law_value
/-! ### _law_drawn_row: 0=state 1=width 2=k -/
abbrev s__law_drawn_row : Stmt := topS 11
theorem sc__law_drawn_row : FnScope ["state", "width", "k"] ["state", "width"] (defScope s__law_drawn_row) := ⟨rfl, rfl, rfl, by decide +kernel, rfl, by decide +kernel, by decide +kernel⟩
def E1__law_drawn_row : M S :=
 (mZ (mCall sem__law_value (mcR 0 (mcV (mD (mBinS false gIx (mLstZ (maCons (mC (.str "integer")) (maCons (mC (.str "text")) (maCons (mC (.str "boolean")) maNil)))) (mCall sem__law_next (mcR 0 (mcV (mC (.int 3)) mcNil))))) mcNil))))
def C1__law_drawn_row : M (List D) :=
 (mComp 3 (mRange1 (mVarD 1)) (mgName 2) mYes E1__law_drawn_row [2])
def b__law_drawn_row : MS :=
 (mRet (mUn gTupOf (mLC C1__law_drawn_row)))
def sem__law_drawn_row : Sem1 := runB [true, false] 3 b__law_drawn_row
/-! ### _law_same: 0=actual 1=expected 2=k -/
abbrev s__law_same : Stmt := topS 8
theorem sc__law_same : FnScope ["actual", "expected", "k"] ["actual", "expected"] (defScope s__law_same) := ⟨rfl, rfl, rfl, by decide +kernel, rfl, by decide +kernel, by decide +kernel⟩
def B1__law_same (sem : Sem1) : MS :=
 (mIf (mNotT (mTru (mCallP (sem) (maCons (mD (mBinS true gIx (mVar 0) (mVar 2))) (maCons (mD (mBinS true gIx (mVar 1) (mVar 2))) maNil))))) (mRet (mC (.bl false))) mNx)
def L1__law_same (sem : Sem1) : MS :=
 (mFor (mRange1 (mUn gLen (mVar 1))) (mgName 2) (B1__law_same sem))
def b__law_same (sem : Sem1) : MS :=
 (mSeq (mIf (mTB (mBin true (gIs false) (mVar 1) (mC .non))) (mRet (mBin true (gIs false) (mVar 0) (mC .non))) mNx)
 (mSeq (mIf (mTru (mUn (gIsi "bool") (mVar 1))) (mRet (mAndV (mUn (gIsi "bool") (mVar 0)) (mBin true (gEq false) (mVar 0) (mVar 1)))) mNx)
 (mSeq (mIf (mTru (mUn (gIsi "int") (mVar 1))) (mRet (mAndV (mUn (gIsi "int") (mVar 0)) (mAndV (mNotV (mUn (gIsi "bool") (mVar 0))) (mBin true (gEq false) (mVar 0) (mVar 1))))) mNx)
 (mSeq (mIf (mTru (mUn (gIsi "str") (mVar 1))) (mRet (mAndV (mUn (gIsi "str") (mVar 0)) (mBin true (gEq false) (mVar 0) (mVar 1)))) mNx)
 (mSeq (mIf (mAndT (mTru (mUn (gIsi "tuple") (mVar 1))) (mNotT (mTru (mUn (gIsi "tuple") (mVar 0))))) (mRet (mC (.bl false))) mNx)
 (mSeq (mIf (mAndT (mTru (mUn (gIsi "list") (mVar 1))) (mNotT (mTru (mUn (gIsi "list") (mVar 0))))) (mRet (mC (.bl false))) mNx)
 (mSeq (mIf (mTB (mBin true (gEq true) (mUn gLen (mVar 0)) (mUn gLen (mVar 1)))) (mRet (mC (.bl false))) mNx)
 (mSeq (L1__law_same sem)
 (mRet (mC (.bl true)))))))))))
def sem__law_same : Nat → Sem1
  | 0 => fun _ => none
  | n + 1 => runB [false, false] 3 (b__law_same (sem__law_same n))
/-! ### _law_count: 0=row 1=rows 2=other -/
abbrev s__law_count : Stmt := topS 12
theorem sc__law_count : FnScope ["row", "rows", "other"] ["row", "rows"] (defScope s__law_count) := ⟨rfl, rfl, rfl, by decide +kernel, rfl, by decide +kernel, by decide +kernel⟩
def E1__law_count : M S :=
 (mVarD 2)
def T1__law_count : M Bool :=
 (mTru (mCallP (sem__law_same 4) (maCons (mVarD 2) (maCons (mVarD 0) maNil))))
def C1__law_count : M (List D) :=
 (mComp 3 (mItems (mVarD 1)) (mgName 2) T1__law_count E1__law_count [2])
def b__law_count : MS :=
 (mRet (mUn gLen (mLC C1__law_count)))
def sem__law_count : Sem1 := runB [false, false] 3 b__law_count
/-! ### _law_balanced: 0=old 1=new 2=more 3=fewer 4=row -/
abbrev s__law_balanced : Stmt := topS 15
theorem sc__law_balanced : FnScope ["old", "new", "more", "fewer", "row"] ["old", "new", "more", "fewer"] (defScope s__law_balanced) := ⟨rfl, rfl, rfl, by decide +kernel, rfl, by decide +kernel, by decide +kernel⟩
def B1__law_balanced : MS :=
 (mSeq (mIf (mTB (mBin true (gEq true) (mBin true gAdd (mCallP sem__law_count (maCons (mVarD 4) (maCons (mVarD 0) maNil))) (mCallP sem__law_count (maCons (mVarD 4) (maCons (mVarD 2) maNil)))) (mBin true gAdd (mCallP sem__law_count (maCons (mVarD 4) (maCons (mVarD 1) maNil))) (mCallP sem__law_count (maCons (mVarD 4) (maCons (mVarD 3) maNil)))))) (mRet (mC (.bl false))) mNx)
 (mIf (mAndT (mTB (mBin true gGt (mCallP sem__law_count (maCons (mVarD 4) (maCons (mVarD 2) maNil))) (mC (.int 0)))) (mTB (mBin true gGt (mCallP sem__law_count (maCons (mVarD 4) (maCons (mVarD 3) maNil))) (mC (.int 0))))) (mRet (mC (.bl false))) mNx))
def L1__law_balanced : MS :=
 (mFor (mItems (mBin true gAdd (mVar 0) (mVar 1))) (mgName 4) B1__law_balanced)
def b__law_balanced : MS :=
 (mSeq L1__law_balanced
 (mRet (mC (.bl true))))
def sem__law_balanced : Sem1 := runB [false, false, false, false] 5 b__law_balanced
/-! ### _law_turned: 0=state 1=old 2=new 3=row 4=k -/
abbrev s__law_turned : Stmt := topS 14
theorem sc__law_turned : FnScope ["state", "old", "new", "row", "k"] ["state", "old"] (defScope s__law_turned) := ⟨rfl, rfl, rfl, by decide +kernel, rfl, by decide +kernel, by decide +kernel⟩
def B1__law_turned : MS :=
 (mIns 2 (mZ (mCall sem__law_next (mcR 0 (mcV (mBin true gAdd (mUn gLen (mVar 2)) (mC (.int 1))) mcNil)))) (mVarD 3))
def L1__law_turned : MS :=
 (mFor (mRange1 (mD (mBinS false gIx (mLstZ (maCons (mC (.int 1)) (maCons (mC (.int 1)) (maCons (mC (.int 2)) (maCons (mC (.int 0)) maNil))))) (mCall sem__law_next (mcR 0 (mcV (mC (.int 4)) mcNil)))))) (mgName 4) B1__law_turned)
def B2__law_turned : MS :=
 L1__law_turned
def L2__law_turned : MS :=
 (mFor (mItems (mVarD 1)) (mgName 3) B2__law_turned)
def b__law_turned : MS :=
 (mSeq (mSet 2 (mLst maNil))
 (mSeq L2__law_turned
 (mTake 2)))
def sem__law_turned : Sem1 := runB [true, false] 5 b__law_turned
/-! ### _law_more: 0=old 1=new 2=found 3=k -/
abbrev s__law_more : Stmt := topS 13
theorem sc__law_more : FnScope ["old", "new", "found", "k"] ["old", "new"] (defScope s__law_more) := ⟨rfl, rfl, rfl, by decide +kernel, rfl, by decide +kernel, by decide +kernel⟩
def B1__law_more : MS :=
 (mIf (mTB (mBin true (gOrd .GtE) (mCallP sem__law_count (maCons (mD (mBinS true gIx (mVar 1) (mVar 3))) (maCons (mSl true (mVar 1) moN (moS (mVar 3))) maNil))) (mCallP sem__law_count (maCons (mD (mBinS true gIx (mVar 1) (mVar 3))) (maCons (mVarD 0) maNil))))) (mApp 2 (mD (mBinS true gIx (mVar 1) (mVar 3)))) mNx)
def L1__law_more : MS :=
 (mFor (mRange1 (mUn gLen (mVar 1))) (mgName 3) B1__law_more)
def b__law_more : MS :=
 (mSeq (mSet 2 (mLst maNil))
 (mSeq L1__law_more
 (mTake 2)))
def sem__law_more : Sem1 := runB [false, false] 4 b__law_more
/-! ### law: 0=script 1=state 2=width 3=old 4=k 5=new 6=passed 7=more 8=fewer -/
abbrev s_law : Stmt := topS 16
theorem sc_law : FnScope ["script", "state", "width", "old", "k", "new", "passed", "more", "fewer"] ["script"] (defScope s_law) := ⟨rfl, rfl, rfl, by decide +kernel, rfl, by decide +kernel, by decide +kernel⟩
def E1_law : M S :=
 (mZ (mCall sem__law_drawn_row (mcR 1 (mcV (mVarD 2) mcNil))))
def C1_law : M (List D) :=
 (mComp 9 (mRange1 (mZ (mCall sem__law_next (mcR 1 (mcV (mC (.int 10)) mcNil))))) (mgName 4) mYes E1_law [4])
def E2_law : M S :=
 (mZ (mCall sem__law_drawn_row (mcR 1 (mcV (mVarD 2) mcNil))))
def C2_law : M (List D) :=
 (mComp 9 (mRange1 (mZ (mCall sem__law_next (mcR 1 (mcV (mC (.int 10)) mcNil))))) (mgName 4) mYes E2_law [4])
def b_law : MS :=
 (mSeq (mSet 1 (mLst (maCons (mUn gLstOf (mVar 0)) (maCons (mC (.int 0)) (maCons (mC (.int 0)) (maCons (mC (.int 1)) maNil))))))
 (mSeq (mSet 2 (mZ (mCall sem__law_next (mcR 1 (mcV (mC (.int 4)) mcNil)))))
 (mSeq (mSet 3 (mLC C1_law))
 (mSeq (mSet 5 (mLC C2_law))
 (mSeq (mIf (mTB (mBin true (gEq false) (mCall sem__law_next (mcR 1 (mcV (mC (.int 2)) mcNil))) (mC (.int 1)))) (mSet 5 (mBin true gAdd (mCall sem__law_turned (mcR 1 (mcV (mVarD 3) mcNil))) (mSl true (mVar 5) moN (moS (mC (.int 2)))))) mNx)
 (mSeq (mSet 6 (mLstZ (maCons (mUn gLstOf (mVar 3)) (maCons (mUn gLstOf (mVar 5)) maNil))))
 (mSeq (mSet 7 (mCallP sem_came (maCons (mD (mBinS true gIx (mVar 6) (mC (.int 0)))) (maCons (mD (mBinS true gIx (mVar 6) (mC (.int 1)))) maNil))))
 (mSeq (mSet 8 (mCallP sem_went (maCons (mD (mBinS true gIx (mVar 6) (mC (.int 0)))) (maCons (mD (mBinS true gIx (mVar 6) (mC (.int 1)))) maNil))))
 (mSeq (mIf (mOrT (mNotT (mTru (mCallV (sem__law_same 4) (mvCons (mVar 7) (mvCons (mCallP sem__law_more (maCons (mVarD 3) (maCons (mVarD 5) maNil))) maNil))))) (mNotT (mTru (mCallV (sem__law_same 4) (mvCons (mVar 8) (mvCons (mCallP sem__law_more (maCons (mVarD 5) (maCons (mVarD 3) maNil))) maNil)))))) (mRet (mC (.bl false))) mNx)
 (mSeq (mIf (mNotT (mTru (mCallV sem__law_balanced (mvCons (mVar 3) (mvCons (mVar 5) (mvCons (mVar 7) (mvCons (mVar 8) maNil))))))) (mRet (mC (.bl false))) mNx)
 (mSeq (mApp 7 (mTup (maCons (mC (.str "spoilt")) maNil)))
 (mSeq (mApp 8 (mTup (maCons (mC (.str "spoilt")) maNil)))
 (mSeq (mIf (mNotT (mTru (mCallP (sem__law_same 4) (maCons (mVarD 6) (maCons (mLstZ (maCons (mVarD 3) (maCons (mVarD 5) maNil))) maNil))))) (mRet (mC (.bl false))) mNx)
 (mRet (mAndV (mZ (mCallP (sem__law_same 4) (maCons (mZ (mCallP sem_came (maCons (mD (mBinS true gIx (mVar 6) (mC (.int 0)))) (maCons (mD (mBinS true gIx (mVar 6) (mC (.int 1)))) maNil)))) (maCons (mZ (mCallP sem__law_more (maCons (mVarD 3) (maCons (mVarD 5) maNil)))) maNil)))) (mZ (mCallP (sem__law_same 4) (maCons (mZ (mCallP sem_went (maCons (mVarD 3) (maCons (mVarD 5) maNil)))) (maCons (mZ (mCallP sem__law_more (maCons (mVarD 5) (maCons (mVarD 3) maNil)))) maNil)))))))))))))))))))
def sem_law : Sem1 := runB [false] 9 b_law
section
variable {Pr : Program} {w : World} {K : PySem.W.Frag} {mg : Str → Option Value} {base : Heap}
theorem ok__law_next (S : Src K mg "_law_next" s__law_next ["state", "limit"])  (z_int : mg "int" = none) (z_len : mg "len" = none) : Def Pr w K mg base 1 "_law_next" ["state", "limit"] sem__law_next :=
  def_tr S sc__law_next [true, false] [0] b__law_next (fun fa cdv A outer s H E hr => by
      have nd := sc__law_next.nd
      exact (rss_cons (rs_if (RW.rt (rw_and (rt_cmp (op_eqD (Room_u64 hr)) og_eq (rx_ix (rx_var 0) (rx_int (f := true))) (rx_int (f := true)) (nomark _)) (rw_and1 (rt_cmp op_lt og_lt (rx_ix (rx_var 0) (rx_int (f := true))) (rx_b1 (f := true) call_len og_len (rx_ix (rx_var 0) (rx_int (f := true))) z_len) (nomark _))))) (rss_cons (rs_set (i := 2) nd (RX.asD (f1 := true) (rx_ix (rx_ix (rx_var 0) (rx_int (f := true))) (rx_ix (rx_var 0) (rx_int (f := true))))))
 (rss_cons (rs_augI 0 iop_addA og_iadd (rx_int (f := true)) (rx_int (f := true)))
 (rss_one (rs_if (rt_cmp op_ge og_ge (rx_var 2) (rx_bin (f := true) op_pow og_pow (rx_int (f := true)) (rx_int (f := true))) (nomark _)) (rss_one (rs_setI 0 (rx_varD (f := true) 2) (rx_int (f := true)))) (rss_one (rs_setI 0 (rx_bin (f := true) op_mod og_mod (rx_t1 (f := true) call_int1 og_int (rx_bin (f := true) op_addA og_add (rx_bin (f := true) op_addA og_add (rx_bin (f := true) op_mulW og_mul (rx_ix (rx_var 0) (rx_int (f := true))) (rx_int (f := true))) (rx_bin (f := true) op_mod og_mod (rx_t1 (f := true) call_int1 og_int (rx_var 2) z_int) (rx_int (f := true)))) (rx_int (f := true))) z_int) (rx_int (f := true))) (rx_int (f := true)))))))) rss_nil)
 (rss_cons (rs_if (rt_cmp op_gt og_gt (rx_ix (rx_var 0) (rx_int (f := true))) (rx_int (f := true)) (nomark _)) (rss_cons (rs_set (i := 3) nd (rx_bin (f := true) op_mod og_mod (rx_t1 (f := true) call_int1 og_int (rx_ix (rx_var 0) (rx_int (f := true))) z_int) (rx_var 1)))
 (rss_cons (rs_setI 0 (rx_bin (f := true) op_fdivW og_div (rx_ix (rx_var 0) (rx_int (f := true))) (rx_var 1)) (rx_int (f := true)))
 (rss_one (rs_ret (rx_varD (f := true) 3))))) rss_nil)
 (rss_cons (rs_setI 0 (rx_bin (f := true) op_mod og_mod (rx_t1 (f := true) call_int1 og_int (rx_bin (f := true) op_addA og_add (rx_bin (f := true) op_mulW og_mul (rx_ix (rx_var 0) (rx_int (f := true))) (rx_int (f := true))) (rx_int (f := true))) z_int) (rx_int (f := true))) (rx_int (f := true)))
 (rss_one (rs_ret (rx_bin (f := true) op_mod og_mod (rx_t1 (f := true) call_int1 og_int (rx_bin (f := true) op_fdivW og_div (rx_ix (rx_var 0) (rx_int (f := true))) (rx_int (f := true))) z_int) (rx_var 1))))))))
theorem ok_value_key (S : Src K mg "value_key" s_value_key ["value"])  (z_bool : mg "bool" = none) (z_int : mg "int" = none) (z_isinstance : mg "isinstance" = none) : Def Pr w K mg base 1 "value_key" ["value"] sem_value_key :=
  def_tr S sc_value_key [false] [] b_value_key (fun fa cdv A outer s H E hr => by
      have nd := sc_value_key.nd
      exact (rss_cons (rs_if (rt_cmp op_isA og_is (rx_var 0) (rx_non (f := true)) (nomark _)) (rss_one (rs_ret (rx_tup (f := true) (ra_cons (rx_int (f := true)) ra_nil)))) rss_nil)
 (rss_cons (rs_if (rt_truth (rx_isi (f := true) (rx_var 0) z_isinstance z_bool)) (rss_one (rs_ret (rx_tup (f := true) (ra_cons (rx_int (f := true)) (ra_cons (rx_t1 (f := true) call_int1 og_int (rx_var 0) z_int) ra_nil))))) rss_nil)
 (rss_cons (rs_if (rt_truth (rx_isi (f := true) (rx_var 0) z_isinstance z_int)) (rss_one (rs_ret (rx_tup (f := true) (ra_cons (rx_int (f := true)) (ra_cons (rx_varD (f := true) 0) ra_nil))))) rss_nil)
 (rss_one (rs_ret (rx_tup (f := true) (ra_cons (rx_int (f := true)) (ra_cons (rx_varD (f := true) 0) ra_nil)))))))))
theorem ok_row_key (S : Src K mg "row_key" s_row_key ["row"]) (d_value_key : Def Pr w K mg base 1 "value_key" ["value"] sem_value_key) (z_tuple : mg "tuple" = none) : Def Pr w K mg base 2 "row_key" ["row"] sem_row_key :=
  def_tr S sc_row_key [false] [] b_row_key (fun fa cdv A outer s H E hr => by
      have nd := sc_row_key.nd
      exact (rss_cons (rs_set (i := 1) nd (rx_lst (f := true) ra_nil))
 (rss_cons (rs_for PassesOwn.never rfl (ri_items (rx_varD (f := true) 0)) (rg_name (i := 2) nd) (rss_one (rs_extend 1 (RX.frz (f := true) (rx_callPD (f := true) d_value_key hr (by decide) (ra_cons (rx_varD (f := true) 2) ra_nil))))))
 (rss_one (rs_ret (rx_t1 (f := true) call_tuple_of og_tupOf (rx_var 1) z_tuple))))))
theorem ok_came (S : Src K mg "came" s_came ["old", "new"]) (d_row_key : Def Pr w K mg base 2 "row_key" ["row"] sem_row_key)  : Def Pr w K mg base 3 "came" ["old", "new"] sem_came :=
  def_tr S sc_came [false, false] [] b_came (fun fa cdv A outer s H E hr => by
      have nd := sc_came.nd
      exact (rss_cons (rs_set (i := 2) nd (rx_dnewT (f := true)))
 (rss_cons (rs_for PassesOwn.never rfl (ri_items (rx_varD (f := true) 0)) (rg_name (i := 3) nd) (rss_cons (rs_set (i := 4) nd (RX.frz (f := true) (rx_callPD (f := true) d_row_key hr (by decide) (ra_cons (rx_varD (f := true) 3) ra_nil))))
 (rss_one (rs_dput 2 (Room_u1 hr) (rx_bin (f := true) op_addA og_add (rx_dget2 (f := true) 2 (Room_u1 hr) (rx_varD (f := true) 4) (rx_int (f := true))) (rx_int (f := true))) (rx_varD (f := true) 4)))))
 (rss_cons (rs_set (i := 5) nd (rx_lst (f := true) ra_nil))
 (rss_cons (rs_for PassesOwn.never rfl (ri_items (rx_varD (f := true) 1)) (rg_name (i := 3) nd) (rss_cons (rs_set (i := 4) nd (RX.frz (f := true) (rx_callPD (f := true) d_row_key hr (by decide) (ra_cons (rx_varD (f := true) 3) ra_nil))))
 (rss_one (rs_if (rt_cmp op_gt og_gt (rx_dget2 (f := true) 2 (Room_u1 hr) (rx_varD (f := true) 4) (rx_int (f := true))) (rx_int (f := true)) (nomark _)) (rss_one (rs_daug 2 (Room_u1 hr) iop_sub og_isub (rx_varD (f := true) 4) (rx_int (f := true)))) (rss_one (rs_append 5 (rx_varD (f := true) 3)))))))
 (rss_one (rs_take 5)))))))
theorem ok_went (S : Src K mg "went" s_went ["old", "new"]) (d_came : Def Pr w K mg base 3 "came" ["old", "new"] sem_came)  : Def Pr w K mg base 4 "went" ["old", "new"] sem_went :=
  def_tr S sc_went [false, false] [] b_went (fun fa cdv A outer s H E hr => by
      have nd := sc_went.nd
      exact (rss_one (rs_ret (rx_callPD (f := true) d_came hr (by decide) (ra_cons (rx_varD (f := true) 1) (ra_cons (rx_varD (f := true) 0) ra_nil))))))
theorem ok__law_char (S : Src K mg "_law_char" s__law_char ["index"])  (z_int : mg "int" = none) : Def Pr w K mg base 1 "_law_char" ["index"] sem__law_char :=
  def_tr S sc__law_char [false] [] b__law_char (fun fa cdv A outer s H E hr => by
      have nd := sc__law_char.nd
      exact (rss_cons (rs_set (i := 1) nd (rx_str (f := true)))
 (rss_cons (rs_set (i := 1) nd (rx_bin (f := true) op_addA og_add (rx_var 1) (rx_str (f := true))))
 (rss_one (rs_ret (RX.asD (f1 := true) (rx_ix (rx_var 1) (rx_bin (f := true) op_mod og_mod (rx_t1 (f := true) call_int1 og_int (rx_var 0) z_int) (rx_int (f := true))))))))))
theorem ok__law_value (S : Src K mg "_law_value" s__law_value ["state", "kind"]) (d__law_char : Def Pr w K mg base 1 "_law_char" ["index"] sem__law_char) (d__law_next : Def Pr w K mg base 1 "_law_next" ["state", "limit"] sem__law_next)  : Def Pr w K mg base 2 "_law_value" ["state", "kind"] sem__law_value :=
  def_tr S sc__law_value [true, false] [0] b__law_value (fun fa cdv A outer s H E hr => by
      have nd := sc__law_value.nd
      exact (rss_cons (rs_if (rt_cmp (op_eqD (Room_u64 hr)) og_eq (rx_callD (f := true) d__law_next hr (by decide) (rc_r 0 (rc_v (rx_int (f := true)) rc_nil))) (rx_int (f := true)) (nomark _)) (rss_one (rs_ret (rx_non (f := true)))) rss_nil)
 (rss_cons (rs_if (rt_cmp (op_eqD (Room_u64 hr)) og_eq (rx_var 1) (rx_str (f := true)) (nomark _)) (rss_one (rs_ret (rx_cmp (f := true) (op_eqD (Room_u64 hr)) og_eq (rx_callD (f := true) d__law_next hr (by decide) (rc_r 0 (rc_v (rx_int (f := true)) rc_nil))) (rx_int (f := true)) (nomark _)))) rss_nil)
 (rss_cons (rs_if (rt_cmp (op_eqD (Room_u64 hr)) og_eq (rx_var 1) (rx_str (f := true)) (nomark _)) (rss_one (rs_ret (rx_bin (f := true) op_mulW og_mul (rx_callD (f := true) d__law_next hr (by decide) (rc_r 0 (rc_v (RX.asD (f1 := true) (rx_ix (rx_lstZ (f := true) (ra_cons (rx_int (f := true)) (ra_cons (rx_int (f := true)) (ra_cons (rx_int (f := true)) (ra_cons (rx_bin (f := true) op_pow og_pow (rx_int (f := true)) (rx_int (f := true))) ra_nil))))) (rx_callD (f := true) d__law_next hr (by decide) (rc_r 0 (rc_v (rx_int (f := true)) rc_nil))))) rc_nil))) (rx_bin (f := true) op_sub og_sub (rx_int (f := true)) (rx_bin (f := true) op_mulW og_mul (rx_int (f := true)) (rx_callD (f := true) d__law_next hr (by decide) (rc_r 0 (rc_v (rx_int (f := true)) rc_nil)))))))) rss_nil)
 (rss_cons (rs_set (i := 2) nd (RX.asD (f1 := true) (rx_ix (rx_lstZ (f := true) (ra_cons (rx_str (f := true)) (ra_cons (rx_str (f := true)) (ra_cons (rx_str (f := true)) (ra_cons (rx_str (f := true)) (ra_cons (rx_str (f := true)) (ra_cons (rx_str (f := true)) (ra_cons (rx_str (f := true)) (ra_cons (rx_str (f := true)) (ra_cons (rx_str (f := true)) ra_nil)))))))))) (rx_callD (f := true) d__law_next hr (by decide) (rc_r 0 (rc_v (rx_int (f := true)) rc_nil))))))
 (rss_cons (rs_if (rt_cmp (op_eqD (Room_u64 hr)) og_eq (rx_callD (f := true) d__law_next hr (by decide) (rc_r 0 (rc_v (rx_int (f := true)) rc_nil))) (rx_int (f := true)) (nomark _)) (rss_one (rs_set (i := 2) nd (rx_bin (f := true) op_addA og_add (rx_var 2) (rx_callPD (f := true) d__law_char hr (by decide) (ra_cons (RX.frz (f := true) (rx_callD (f := true) d__law_next hr (by decide) (rc_r 0 (rc_v (rx_int (f := true)) rc_nil)))) ra_nil))))) rss_nil)
 (rss_one (rs_ret (rx_varD (f := true) 2)))))))))
theorem ok__law_drawn_row (S : Src K mg "_law_drawn_row" s__law_drawn_row ["state", "width"]) (d__law_next : Def Pr w K mg base 1 "_law_next" ["state", "limit"] sem__law_next) (d__law_value : Def Pr w K mg base 2 "_law_value" ["state", "kind"] sem__law_value) (z_range : mg "range" = none) (z_tuple : mg "tuple" = none) : Def Pr w K mg base 3 "_law_drawn_row" ["state", "width"] sem__law_drawn_row :=
  def_tr S sc__law_drawn_row [true, false] [0] b__law_drawn_row (fun fa cdv A outer s H E hr => by
      have nd := sc__law_drawn_row.nd
      exact (rss_one (rs_ret (rx_t1 (f := true) call_tuple_of og_tupOf (rx_lc (f := true) rfl nd [("k", 2)] [0, 1] 3 (ri_range1 (rx_varD (f := true) 1) z_range) (fun _ _ _ _ _ => (rg_name (i := 2) nd)) (fun _ _ _ _ _ => rts_nil) (fun _ _ _ _ _ => (RX.frz (f := true) (rx_callD (f := true) d__law_value hr (by decide) (rc_r 0 (rc_v (RX.asD (f1 := true) (rx_ix (rx_lstZ (f := true) (ra_cons (rx_str (f := true)) (ra_cons (rx_str (f := true)) (ra_cons (rx_str (f := true)) ra_nil)))) (rx_callD (f := true) d__law_next hr (by decide) (rc_r 0 (rc_v (rx_int (f := true)) rc_nil))))) rc_nil))))) (blkOk_by (N := ["state", "width", "k"]) (sc := defScope s__law_drawn_row) (by decide +kernel))) z_tuple))))
theorem ok__law_same (S : Src K mg "_law_same" s__law_same ["actual", "expected"])  (z_bool : mg "bool" = none) (z_int : mg "int" = none) (z_isinstance : mg "isinstance" = none) (z_len : mg "len" = none) (z_list : mg "list" = none) (z_range : mg "range" = none) (z_str : mg "str" = none) (z_tuple : mg "tuple" = none) : ∀ n : Nat, Def Pr w K mg base (1 + n) "_law_same" ["actual", "expected"] (sem__law_same n)
  | 0 => def_none S
  | n + 1 => by
    have ih := ok__law_same S  z_bool z_int z_isinstance z_len z_list z_range z_str z_tuple n
    exact def_tr S sc__law_same [false, false] [] (b__law_same (sem__law_same n)) (fun fa cdv A outer s H E hr => by
      have nd := sc__law_same.nd
      exact (rss_cons (rs_if (rt_cmp op_isA og_is (rx_var 1) (rx_non (f := true)) (nomark _)) (rss_one (rs_ret (rx_cmp (f := true) op_isA og_is (rx_var 0) (rx_non (f := true)) (nomark _)))) rss_nil)
 (rss_cons (rs_if (rt_truth (rx_isi (f := true) (rx_var 1) z_isinstance z_bool)) (rss_one (rs_ret (rx_and (rx_isi (f := true) (rx_var 0) z_isinstance z_bool) (rx_one (rx_cmp (f := true) (op_eqD (Room_u64 hr)) og_eq (rx_var 0) (rx_var 1) (nomark _)))))) rss_nil)
 (rss_cons (rs_if (rt_truth (rx_isi (f := true) (rx_var 1) z_isinstance z_int)) (rss_one (rs_ret (rx_and (rx_isi (f := true) (rx_var 0) z_isinstance z_int) (rx_and (rx_not (f := true) (rx_isi (f := true) (rx_var 0) z_isinstance z_bool)) (rx_one (rx_cmp (f := true) (op_eqD (Room_u64 hr)) og_eq (rx_var 0) (rx_var 1) (nomark _))))))) rss_nil)
 (rss_cons (rs_if (rt_truth (rx_isi (f := true) (rx_var 1) z_isinstance z_str)) (rss_one (rs_ret (rx_and (rx_isi (f := true) (rx_var 0) z_isinstance z_str) (rx_one (rx_cmp (f := true) (op_eqD (Room_u64 hr)) og_eq (rx_var 0) (rx_var 1) (nomark _)))))) rss_nil)
 (rss_cons (rs_if (RW.rt (rw_and (rt_truth (rx_isi (f := true) (rx_var 1) z_isinstance z_tuple)) (rw_and1 (rt_not (rt_truth (rx_isi (f := true) (rx_var 0) z_isinstance z_tuple)))))) (rss_one (rs_ret (rx_bl (f := true)))) rss_nil)
 (rss_cons (rs_if (RW.rt (rw_and (rt_truth (rx_isi (f := true) (rx_var 1) z_isinstance z_list)) (rw_and1 (rt_not (rt_truth (rx_isi (f := true) (rx_var 0) z_isinstance z_list)))))) (rss_one (rs_ret (rx_bl (f := true)))) rss_nil)
 (rss_cons (rs_if (rt_cmp (op_neD (Room_u64 hr)) og_ne (rx_b1 (f := true) call_len og_len (rx_var 0) z_len) (rx_b1 (f := true) call_len og_len (rx_var 1) z_len) (nomark _)) (rss_one (rs_ret (rx_bl (f := true)))) rss_nil)
 (rss_cons (rs_for PassesOwn.never rfl (ri_range1 (rx_b1 (f := true) call_len og_len (rx_var 1) z_len) z_range) (rg_name (i := 2) nd) (rss_one (rs_if (rt_not (rt_truth (rx_callPD (f := true) ih hr (Nat.le_refl _) (ra_cons (RX.asD (f1 := true) (rx_ix (rx_var 0) (rx_var 2))) (ra_cons (RX.asD (f1 := true) (rx_ix (rx_var 1) (rx_var 2))) ra_nil))))) (rss_one (rs_ret (rx_bl (f := true)))) rss_nil)))
 (rss_one (rs_ret (rx_bl (f := true)))))))))))))
theorem ok__law_count (S : Src K mg "_law_count" s__law_count ["row", "rows"]) (d__law_same : Def Pr w K mg base 5 "_law_same" ["actual", "expected"] (sem__law_same 4)) (z_len : mg "len" = none) : Def Pr w K mg base 6 "_law_count" ["row", "rows"] sem__law_count :=
  def_tr S sc__law_count [false, false] [] b__law_count (fun fa cdv A outer s H E hr => by
      have nd := sc__law_count.nd
      exact (rss_one (rs_ret (rx_b1 (f := true) call_len og_len (rx_lc (f := true) rfl nd [("other", 2)] [0, 1] 3 (ri_items (rx_varD (f := true) 1)) (fun _ _ _ _ _ => (rg_name (i := 2) nd)) (fun _ _ _ _ _ => (rts_one (rt_truth (rx_callPD (f := true) d__law_same hr (by decide) (ra_cons (rx_varD (f := true) 2) (ra_cons (rx_varD (f := true) 0) ra_nil)))))) (fun _ _ _ _ _ => (rx_varD (f := true) 2)) (blkOk_by (N := ["row", "rows", "other"]) (sc := defScope s__law_count) (by decide +kernel))) z_len))))
theorem ok__law_balanced (S : Src K mg "_law_balanced" s__law_balanced ["old", "new", "more", "fewer"]) (d__law_count : Def Pr w K mg base 6 "_law_count" ["row", "rows"] sem__law_count)  : Def Pr w K mg base 7 "_law_balanced" ["old", "new", "more", "fewer"] sem__law_balanced :=
  def_tr S sc__law_balanced [false, false, false, false] [] b__law_balanced (fun fa cdv A outer s H E hr => by
      have nd := sc__law_balanced.nd
      exact (rss_cons (rs_for PassesOwn.never rfl (ri_items (rx_bin (f := true) op_addA og_add (rx_var 0) (rx_var 1))) (rg_name (i := 4) nd) (rss_cons (rs_if (rt_cmp (op_neD (Room_u64 hr)) og_ne (rx_bin (f := true) op_addA og_add (rx_callPD (f := true) d__law_count hr (by decide) (ra_cons (rx_varD (f := true) 4) (ra_cons (rx_varD (f := true) 0) ra_nil))) (rx_callPD (f := true) d__law_count hr (by decide) (ra_cons (rx_varD (f := true) 4) (ra_cons (rx_varD (f := true) 2) ra_nil)))) (rx_bin (f := true) op_addA og_add (rx_callPD (f := true) d__law_count hr (by decide) (ra_cons (rx_varD (f := true) 4) (ra_cons (rx_varD (f := true) 1) ra_nil))) (rx_callPD (f := true) d__law_count hr (by decide) (ra_cons (rx_varD (f := true) 4) (ra_cons (rx_varD (f := true) 3) ra_nil)))) (nomark _)) (rss_one (rs_ret (rx_bl (f := true)))) rss_nil)
 (rss_one (rs_if (RW.rt (rw_and (rt_cmp op_gt og_gt (rx_callPD (f := true) d__law_count hr (by decide) (ra_cons (rx_varD (f := true) 4) (ra_cons (rx_varD (f := true) 2) ra_nil))) (rx_int (f := true)) (nomark _)) (rw_and1 (rt_cmp op_gt og_gt (rx_callPD (f := true) d__law_count hr (by decide) (ra_cons (rx_varD (f := true) 4) (ra_cons (rx_varD (f := true) 3) ra_nil))) (rx_int (f := true)) (nomark _))))) (rss_one (rs_ret (rx_bl (f := true)))) rss_nil))))
 (rss_one (rs_ret (rx_bl (f := true))))))
theorem ok__law_turned (S : Src K mg "_law_turned" s__law_turned ["state", "old"]) (d__law_next : Def Pr w K mg base 1 "_law_next" ["state", "limit"] sem__law_next) (z_len : mg "len" = none) (z_range : mg "range" = none) : Def Pr w K mg base 2 "_law_turned" ["state", "old"] sem__law_turned :=
  def_tr S sc__law_turned [true, false] [0] b__law_turned (fun fa cdv A outer s H E hr => by
      have nd := sc__law_turned.nd
      exact (rss_cons (rs_set (i := 2) nd (rx_lst (f := true) ra_nil))
 (rss_cons (rs_for PassesOwn.never rfl (ri_items (rx_varD (f := true) 1)) (rg_name (i := 3) nd) (rss_one (rs_for PassesOwn.never rfl (ri_range1 (RX.asD (f1 := true) (rx_ix (rx_lstZ (f := true) (ra_cons (rx_int (f := true)) (ra_cons (rx_int (f := true)) (ra_cons (rx_int (f := true)) (ra_cons (rx_int (f := true)) ra_nil))))) (rx_callD (f := true) d__law_next hr (by decide) (rc_r 0 (rc_v (rx_int (f := true)) rc_nil))))) z_range) (rg_name (i := 4) nd) (rss_one (rs_insert 2 (RX.frz (f := true) (rx_callD (f := true) d__law_next hr (by decide) (rc_r 0 (rc_v (rx_bin (f := true) op_addA og_add (rx_b1 (f := true) call_len og_len (rx_var 2) z_len) (rx_int (f := true))) rc_nil)))) (rx_varD (f := true) 3))))))
 (rss_one (rs_take 2)))))
theorem ok__law_more (S : Src K mg "_law_more" s__law_more ["old", "new"]) (d__law_count : Def Pr w K mg base 6 "_law_count" ["row", "rows"] sem__law_count) (z_len : mg "len" = none) (z_range : mg "range" = none) : Def Pr w K mg base 7 "_law_more" ["old", "new"] sem__law_more :=
  def_tr S sc__law_more [false, false] [] b__law_more (fun fa cdv A outer s H E hr => by
      have nd := sc__law_more.nd
      exact (rss_cons (rs_set (i := 2) nd (rx_lst (f := true) ra_nil))
 (rss_cons (rs_for PassesOwn.never rfl (ri_range1 (rx_b1 (f := true) call_len og_len (rx_var 1) z_len) z_range) (rg_name (i := 3) nd) (rss_one (rs_if (rt_cmp (op_geO (Room_u64 hr)) og_ord (rx_callPD (f := true) d__law_count hr (by decide) (ra_cons (RX.asD (f1 := true) (rx_ix (rx_var 1) (rx_var 3))) (ra_cons (rx_slice (f := true) (rx_var 1) ro_none (ro_some (rx_var 3))) ra_nil))) (rx_callPD (f := true) d__law_count hr (by decide) (ra_cons (RX.asD (f1 := true) (rx_ix (rx_var 1) (rx_var 3))) (ra_cons (rx_varD (f := true) 0) ra_nil))) (nomark _)) (rss_one (rs_append 2 (RX.asD (f1 := true) (rx_ix (rx_var 1) (rx_var 3))))) rss_nil)))
 (rss_one (rs_take 2)))))
theorem ok_law {fa : Addr} {fd : FuncData} (F : Fun K "law" "law" s_law fa fd) (d__law_balanced : Def Pr w K mg base 7 "_law_balanced" ["old", "new", "more", "fewer"] sem__law_balanced) (d__law_drawn_row : Def Pr w K mg base 3 "_law_drawn_row" ["state", "width"] sem__law_drawn_row) (d__law_more : Def Pr w K mg base 7 "_law_more" ["old", "new"] sem__law_more) (d__law_next : Def Pr w K mg base 1 "_law_next" ["state", "limit"] sem__law_next) (d__law_same : Def Pr w K mg base 5 "_law_same" ["actual", "expected"] (sem__law_same 4)) (d__law_turned : Def Pr w K mg base 2 "_law_turned" ["state", "old"] sem__law_turned) (d_came : Def Pr w K mg base 3 "came" ["old", "new"] sem_came) (d_went : Def Pr w K mg base 4 "went" ["old", "new"] sem_went) (z_list : mg "list" = none) (z_range : mg "range" = none) : FnOk Pr w K mg base CX0 8 fa fd ["script"] (spS K sem_law) :=
  fn_tr [false] [] b_law F sc_law rfl (pinOk_at rfl) (fun _ _ h => h) (fun cdv A outer s H E hr => by
      have nd := sc_law.nd
      exact (rss_cons (rs_set (i := 1) nd (rx_lst (f := true) (ra_cons (rx_t1 (f := true) call_list_of og_lstOf (rx_var 0) z_list) (ra_cons (rx_int (f := true)) (ra_cons (rx_int (f := true)) (ra_cons (rx_int (f := true)) ra_nil))))))
 (rss_cons (rs_set (i := 2) nd (RX.frz (f := true) (rx_callD (f := true) d__law_next hr (by decide) (rc_r 1 (rc_v (rx_int (f := true)) rc_nil)))))
 (rss_cons (rs_setLc (i := 3) rfl nd [("k", 4)] [0, 1, 2, 3, 5, 6, 7, 8] 9 (ri_range1 (RX.frz (f := true) (rx_callD (f := true) d__law_next hr (by decide) (rc_r 1 (rc_v (rx_int (f := true)) rc_nil)))) z_range) (fun _ _ _ _ _ => (rg_name (i := 4) nd)) (fun _ _ _ _ _ => rts_nil) (fun _ _ _ _ _ => (RX.frz (f := true) (rx_callD (f := true) d__law_drawn_row hr (by decide) (rc_r 1 (rc_v (rx_varD (f := true) 2) rc_nil))))) (blkOk_by (N := ["script", "state", "width", "old", "k", "new", "passed", "more", "fewer"]) (sc := defScope s_law) (by decide +kernel)) (sw_true rfl rfl rfl (by decide +kernel)))
 (rss_cons (rs_setLc (i := 5) rfl nd [("k", 4)] [0, 1, 2, 3, 5, 6, 7, 8] 9 (ri_range1 (RX.frz (f := true) (rx_callD (f := true) d__law_next hr (by decide) (rc_r 1 (rc_v (rx_int (f := true)) rc_nil)))) z_range) (fun _ _ _ _ _ => (rg_name (i := 4) nd)) (fun _ _ _ _ _ => rts_nil) (fun _ _ _ _ _ => (RX.frz (f := true) (rx_callD (f := true) d__law_drawn_row hr (by decide) (rc_r 1 (rc_v (rx_varD (f := true) 2) rc_nil))))) (blkOk_by (N := ["script", "state", "width", "old", "k", "new", "passed", "more", "fewer"]) (sc := defScope s_law) (by decide +kernel)) (sw_true rfl rfl rfl (by decide +kernel)))
 (rss_cons (rs_if (rt_cmp (op_eqD (Room_u64 hr)) og_eq (rx_callD (f := true) d__law_next hr (by decide) (rc_r 1 (rc_v (rx_int (f := true)) rc_nil))) (rx_int (f := true)) (nomark _)) (rss_one (rs_set (i := 5) nd (rx_bin (f := true) op_addA og_add (rx_callD (f := true) d__law_turned hr (by decide) (rc_r 1 (rc_v (rx_varD (f := true) 3) rc_nil))) (rx_slice (f := true) (rx_var 5) ro_none (ro_some (rx_int (f := true))))))) rss_nil)
 (rss_cons (rs_set (i := 6) nd (rx_lstZ (f := true) (ra_cons (rx_t1 (f := true) call_list_of og_lstOf (rx_var 3) z_list) (ra_cons (rx_t1 (f := true) call_list_of og_lstOf (rx_var 5) z_list) ra_nil))))
 (rss_cons (rs_set (i := 7) nd (rx_callPD (f := true) d_came hr (by decide) (ra_cons (RX.asD (f1 := true) (rx_ix (rx_var 6) (rx_int (f := true)))) (ra_cons (RX.asD (f1 := true) (rx_ix (rx_var 6) (rx_int (f := true)))) ra_nil))))
 (rss_cons (rs_set (i := 8) nd (rx_callPD (f := true) d_went hr (by decide) (ra_cons (RX.asD (f1 := true) (rx_ix (rx_var 6) (rx_int (f := true)))) (ra_cons (RX.asD (f1 := true) (rx_ix (rx_var 6) (rx_int (f := true)))) ra_nil))))
 (rss_cons (rs_if (RW.rt (rw_or (rt_not (rt_truth (rx_callV (f := true) d__law_same hr (by decide) (rv_cons (rx_var 7) (rv_cons (rx_callPD (f := true) d__law_more hr (by decide) (ra_cons (rx_varD (f := true) 3) (ra_cons (rx_varD (f := true) 5) ra_nil))) rv_nil))))) (rw_or1 (rt_not (rt_truth (rx_callV (f := true) d__law_same hr (by decide) (rv_cons (rx_var 8) (rv_cons (rx_callPD (f := true) d__law_more hr (by decide) (ra_cons (rx_varD (f := true) 5) (ra_cons (rx_varD (f := true) 3) ra_nil))) rv_nil)))))))) (rss_one (rs_ret (rx_bl (f := true)))) rss_nil)
 (rss_cons (rs_if (rt_not (rt_truth (rx_callV (f := true) d__law_balanced hr (by decide) (rv_cons (rx_var 3) (rv_cons (rx_var 5) (rv_cons (rx_var 7) (rv_cons (rx_var 8) rv_nil))))))) (rss_one (rs_ret (rx_bl (f := true)))) rss_nil)
 (rss_cons (rs_append 7 (rx_tup (f := true) (ra_cons (rx_str (f := true)) ra_nil)))
 (rss_cons (rs_append 8 (rx_tup (f := true) (ra_cons (rx_str (f := true)) ra_nil)))
 (rss_cons (rs_if (rt_not (rt_truth (rx_callPD (f := true) d__law_same hr (by decide) (ra_cons (rx_varD (f := true) 6) (ra_cons (rx_lstZ (f := true) (ra_cons (rx_varD (f := true) 3) (ra_cons (rx_varD (f := true) 5) ra_nil))) ra_nil))))) (rss_one (rs_ret (rx_bl (f := true)))) rss_nil)
 (rss_one (rs_ret (rx_and (RX.frz (f := true) (rx_callPD (f := true) d__law_same hr (by decide) (ra_cons (RX.frz (f := true) (rx_callPD (f := true) d_came hr (by decide) (ra_cons (RX.asD (f1 := true) (rx_ix (rx_var 6) (rx_int (f := true)))) (ra_cons (RX.asD (f1 := true) (rx_ix (rx_var 6) (rx_int (f := true)))) ra_nil)))) (ra_cons (RX.frz (f := true) (rx_callPD (f := true) d__law_more hr (by decide) (ra_cons (rx_varD (f := true) 3) (ra_cons (rx_varD (f := true) 5) ra_nil)))) ra_nil)))) (rx_one (RX.frz (f := true) (rx_callPD (f := true) d__law_same hr (by decide) (ra_cons (RX.frz (f := true) (rx_callPD (f := true) d_went hr (by decide) (ra_cons (rx_varD (f := true) 3) (ra_cons (rx_varD (f := true) 5) ra_nil)))) (ra_cons (RX.frz (f := true) (rx_callPD (f := true) d__law_more hr (by decide) (ra_cons (rx_varD (f := true) 5) (ra_cons (rx_varD (f := true) 3) ra_nil)))) ra_nil))))))))))))))))))))))
end
/-! ### all defs -/
theorem all_mk {l : PySem.W.OpenLaw} {w : World} {K : PySem.W.Frag} {h : Heap} {mg : Str → Option Value} {fa : Addr} (X : K.In h) (G : h.Ns mainGlobals mg) (hfa : mg "law" = some (.ref fa))
    {f0 f1 f2 f3 f4 f5 f6 f7 f8 f9 f10 f11 f12 f13 : Addr} {od0 an0 od1 an1 od2 an2 od3 an3 od4 an4 od5 an5 od6 an6 od7 an7 od8 an8 od9 an9 od10 an10 od11 an11 od12 an12 od13 an13 : Option Addr} {sl0 sl1 sl2 sl3 sl4 sl5 sl6 sl7 sl8 sl9 sl10 sl11 sl12 sl13 : Array (Option Value)} {oc0 kV0 dc0 pm0 cd0 ct0 oc1 kV1 dc1 pm1 cd1 ct1 oc2 kV2 dc2 pm2 cd2 ct2 oc3 kV3 dc3 pm3 cd3 ct3 oc4 kV4 dc4 pm4 cd4 ct4 oc5 kV5 dc5 pm5 cd5 ct5 oc6 kV6 dc6 pm6 cd6 ct6 oc7 kV7 dc7 pm7 cd7 ct7 oc8 kV8 dc8 pm8 cd8 ct8 oc9 kV9 dc9 pm9 cd9 ct9 oc10 kV10 dc10 pm10 cd10 ct10 oc11 kV11 dc11 pm11 cd11 ct11 oc12 kV12 dc12 pm12 cd12 ct12 oc13 kV13 dc13 pm13 cd13 ct13 : Value}
    (a0 : PySem.W.nsIn K mainGlobals "_law_next" = some (some (.ref f0))) (l0 : K.lookup f0 = some ⟨oc0, od0, .func (PySem.W.fnOf "_law_next" "_law_next" (defArgs s__law_next) (defBody s__law_next) (defScope s__law_next) .none kV0 dc0 pm0 an0 cd0 ct0), sl0⟩) (c0 : PySem.W.codeIn K cd0 "_law_next" = true) (k0 : PySem.W.keepIn K (.ref f0) = true)
    (a1 : PySem.W.nsIn K mainGlobals "value_key" = some (some (.ref f1))) (l1 : K.lookup f1 = some ⟨oc1, od1, .func (PySem.W.fnOf "value_key" "value_key" (defArgs s_value_key) (defBody s_value_key) (defScope s_value_key) .none kV1 dc1 pm1 an1 cd1 ct1), sl1⟩) (c1 : PySem.W.codeIn K cd1 "value_key" = true) (k1 : PySem.W.keepIn K (.ref f1) = true)
    (a2 : PySem.W.nsIn K mainGlobals "row_key" = some (some (.ref f2))) (l2 : K.lookup f2 = some ⟨oc2, od2, .func (PySem.W.fnOf "row_key" "row_key" (defArgs s_row_key) (defBody s_row_key) (defScope s_row_key) .none kV2 dc2 pm2 an2 cd2 ct2), sl2⟩) (c2 : PySem.W.codeIn K cd2 "row_key" = true) (k2 : PySem.W.keepIn K (.ref f2) = true)
    (a3 : PySem.W.nsIn K mainGlobals "came" = some (some (.ref f3))) (l3 : K.lookup f3 = some ⟨oc3, od3, .func (PySem.W.fnOf "came" "came" (defArgs s_came) (defBody s_came) (defScope s_came) .none kV3 dc3 pm3 an3 cd3 ct3), sl3⟩) (c3 : PySem.W.codeIn K cd3 "came" = true) (k3 : PySem.W.keepIn K (.ref f3) = true)
    (a4 : PySem.W.nsIn K mainGlobals "went" = some (some (.ref f4))) (l4 : K.lookup f4 = some ⟨oc4, od4, .func (PySem.W.fnOf "went" "went" (defArgs s_went) (defBody s_went) (defScope s_went) .none kV4 dc4 pm4 an4 cd4 ct4), sl4⟩) (c4 : PySem.W.codeIn K cd4 "went" = true) (k4 : PySem.W.keepIn K (.ref f4) = true)
    (a5 : PySem.W.nsIn K mainGlobals "_law_char" = some (some (.ref f5))) (l5 : K.lookup f5 = some ⟨oc5, od5, .func (PySem.W.fnOf "_law_char" "_law_char" (defArgs s__law_char) (defBody s__law_char) (defScope s__law_char) .none kV5 dc5 pm5 an5 cd5 ct5), sl5⟩) (c5 : PySem.W.codeIn K cd5 "_law_char" = true) (k5 : PySem.W.keepIn K (.ref f5) = true)
    (a6 : PySem.W.nsIn K mainGlobals "_law_value" = some (some (.ref f6))) (l6 : K.lookup f6 = some ⟨oc6, od6, .func (PySem.W.fnOf "_law_value" "_law_value" (defArgs s__law_value) (defBody s__law_value) (defScope s__law_value) .none kV6 dc6 pm6 an6 cd6 ct6), sl6⟩) (c6 : PySem.W.codeIn K cd6 "_law_value" = true) (k6 : PySem.W.keepIn K (.ref f6) = true)
    (a7 : PySem.W.nsIn K mainGlobals "_law_drawn_row" = some (some (.ref f7))) (l7 : K.lookup f7 = some ⟨oc7, od7, .func (PySem.W.fnOf "_law_drawn_row" "_law_drawn_row" (defArgs s__law_drawn_row) (defBody s__law_drawn_row) (defScope s__law_drawn_row) .none kV7 dc7 pm7 an7 cd7 ct7), sl7⟩) (c7 : PySem.W.codeIn K cd7 "_law_drawn_row" = true) (k7 : PySem.W.keepIn K (.ref f7) = true)
    (a8 : PySem.W.nsIn K mainGlobals "_law_same" = some (some (.ref f8))) (l8 : K.lookup f8 = some ⟨oc8, od8, .func (PySem.W.fnOf "_law_same" "_law_same" (defArgs s__law_same) (defBody s__law_same) (defScope s__law_same) .none kV8 dc8 pm8 an8 cd8 ct8), sl8⟩) (c8 : PySem.W.codeIn K cd8 "_law_same" = true) (k8 : PySem.W.keepIn K (.ref f8) = true)
    (a9 : PySem.W.nsIn K mainGlobals "_law_count" = some (some (.ref f9))) (l9 : K.lookup f9 = some ⟨oc9, od9, .func (PySem.W.fnOf "_law_count" "_law_count" (defArgs s__law_count) (defBody s__law_count) (defScope s__law_count) .none kV9 dc9 pm9 an9 cd9 ct9), sl9⟩) (c9 : PySem.W.codeIn K cd9 "_law_count" = true) (k9 : PySem.W.keepIn K (.ref f9) = true)
    (a10 : PySem.W.nsIn K mainGlobals "_law_balanced" = some (some (.ref f10))) (l10 : K.lookup f10 = some ⟨oc10, od10, .func (PySem.W.fnOf "_law_balanced" "_law_balanced" (defArgs s__law_balanced) (defBody s__law_balanced) (defScope s__law_balanced) .none kV10 dc10 pm10 an10 cd10 ct10), sl10⟩) (c10 : PySem.W.codeIn K cd10 "_law_balanced" = true) (k10 : PySem.W.keepIn K (.ref f10) = true)
    (a11 : PySem.W.nsIn K mainGlobals "_law_turned" = some (some (.ref f11))) (l11 : K.lookup f11 = some ⟨oc11, od11, .func (PySem.W.fnOf "_law_turned" "_law_turned" (defArgs s__law_turned) (defBody s__law_turned) (defScope s__law_turned) .none kV11 dc11 pm11 an11 cd11 ct11), sl11⟩) (c11 : PySem.W.codeIn K cd11 "_law_turned" = true) (k11 : PySem.W.keepIn K (.ref f11) = true)
    (a12 : PySem.W.nsIn K mainGlobals "_law_more" = some (some (.ref f12))) (l12 : K.lookup f12 = some ⟨oc12, od12, .func (PySem.W.fnOf "_law_more" "_law_more" (defArgs s__law_more) (defBody s__law_more) (defScope s__law_more) .none kV12 dc12 pm12 an12 cd12 ct12), sl12⟩) (c12 : PySem.W.codeIn K cd12 "_law_more" = true) (k12 : PySem.W.keepIn K (.ref f12) = true)
    (a13 : PySem.W.nsIn K mainGlobals "law" = some (some (.ref f13))) (l13 : K.lookup f13 = some ⟨oc13, od13, .func (PySem.W.fnOf "law" "law" (defArgs s_law) (defBody s_law) (defScope s_law) .none kV13 dc13 pm13 an13 cd13 ct13), sl13⟩) (c13 : PySem.W.codeIn K cd13 "law" = true) (k13 : PySem.W.keepIn K (.ref f13) = true)
    (y_bool : PySem.W.nsIn K mainGlobals "bool" = some none) (y_int : PySem.W.nsIn K mainGlobals "int" = some none) (y_isinstance : PySem.W.nsIn K mainGlobals "isinstance" = some none) (y_len : PySem.W.nsIn K mainGlobals "len" = some none) (y_list : PySem.W.nsIn K mainGlobals "list" = some none) (y_range : PySem.W.nsIn K mainGlobals "range" = some none) (y_str : PySem.W.nsIn K mainGlobals "str" = some none) (y_tuple : PySem.W.nsIn K mainGlobals "tuple" = some none) :
    ∃ fd : FuncData, (∀ (s : Shared) (v : Value), BindsTo s fd ⟨[v], []⟩ [("script", v)]) ∧ ∀ base : Heap, K.In base → base.Ns mainGlobals mg → FnOk l.prog w K mg base CX0 8 fa fd ["script"] (spS K sem_law) := by
  have e := hfa.symm.trans (PySem.W.mg_of X G a13)
  cases e
  have F0 := fun_mk (st := s__law_next) l0 c0 k0
  have S0 : Src K mg "_law_next" s__law_next ["state", "limit"] := ⟨_, _, F0, PySem.W.mg_of X G a0, F0.binds fun _ _ _ _ _ _ us hl => match us, hl with | [_, _], _ => rfl⟩
  have F1 := fun_mk (st := s_value_key) l1 c1 k1
  have S1 : Src K mg "value_key" s_value_key ["value"] := ⟨_, _, F1, PySem.W.mg_of X G a1, F1.binds fun _ _ _ _ _ _ us hl => match us, hl with | [_], _ => rfl⟩
  have F2 := fun_mk (st := s_row_key) l2 c2 k2
  have S2 : Src K mg "row_key" s_row_key ["row"] := ⟨_, _, F2, PySem.W.mg_of X G a2, F2.binds fun _ _ _ _ _ _ us hl => match us, hl with | [_], _ => rfl⟩
  have F3 := fun_mk (st := s_came) l3 c3 k3
  have S3 : Src K mg "came" s_came ["old", "new"] := ⟨_, _, F3, PySem.W.mg_of X G a3, F3.binds fun _ _ _ _ _ _ us hl => match us, hl with | [_, _], _ => rfl⟩
  have F4 := fun_mk (st := s_went) l4 c4 k4
  have S4 : Src K mg "went" s_went ["old", "new"] := ⟨_, _, F4, PySem.W.mg_of X G a4, F4.binds fun _ _ _ _ _ _ us hl => match us, hl with | [_, _], _ => rfl⟩
  have F5 := fun_mk (st := s__law_char) l5 c5 k5
  have S5 : Src K mg "_law_char" s__law_char ["index"] := ⟨_, _, F5, PySem.W.mg_of X G a5, F5.binds fun _ _ _ _ _ _ us hl => match us, hl with | [_], _ => rfl⟩
  have F6 := fun_mk (st := s__law_value) l6 c6 k6
  have S6 : Src K mg "_law_value" s__law_value ["state", "kind"] := ⟨_, _, F6, PySem.W.mg_of X G a6, F6.binds fun _ _ _ _ _ _ us hl => match us, hl with | [_, _], _ => rfl⟩
  have F7 := fun_mk (st := s__law_drawn_row) l7 c7 k7
  have S7 : Src K mg "_law_drawn_row" s__law_drawn_row ["state", "width"] := ⟨_, _, F7, PySem.W.mg_of X G a7, F7.binds fun _ _ _ _ _ _ us hl => match us, hl with | [_, _], _ => rfl⟩
  have F8 := fun_mk (st := s__law_same) l8 c8 k8
  have S8 : Src K mg "_law_same" s__law_same ["actual", "expected"] := ⟨_, _, F8, PySem.W.mg_of X G a8, F8.binds fun _ _ _ _ _ _ us hl => match us, hl with | [_, _], _ => rfl⟩
  have F9 := fun_mk (st := s__law_count) l9 c9 k9
  have S9 : Src K mg "_law_count" s__law_count ["row", "rows"] := ⟨_, _, F9, PySem.W.mg_of X G a9, F9.binds fun _ _ _ _ _ _ us hl => match us, hl with | [_, _], _ => rfl⟩
  have F10 := fun_mk (st := s__law_balanced) l10 c10 k10
  have S10 : Src K mg "_law_balanced" s__law_balanced ["old", "new", "more", "fewer"] := ⟨_, _, F10, PySem.W.mg_of X G a10, F10.binds fun _ _ _ _ _ _ us hl => match us, hl with | [_, _, _, _], _ => rfl⟩
  have F11 := fun_mk (st := s__law_turned) l11 c11 k11
  have S11 : Src K mg "_law_turned" s__law_turned ["state", "old"] := ⟨_, _, F11, PySem.W.mg_of X G a11, F11.binds fun _ _ _ _ _ _ us hl => match us, hl with | [_, _], _ => rfl⟩
  have F12 := fun_mk (st := s__law_more) l12 c12 k12
  have S12 : Src K mg "_law_more" s__law_more ["old", "new"] := ⟨_, _, F12, PySem.W.mg_of X G a12, F12.binds fun _ _ _ _ _ _ us hl => match us, hl with | [_, _], _ => rfl⟩
  have F13 := fun_mk (st := s_law) l13 c13 k13
  have S13 : Src K mg "law" s_law ["script"] := ⟨_, _, F13, PySem.W.mg_of X G a13, F13.binds fun _ _ _ _ _ _ us hl => match us, hl with | [_], _ => rfl⟩
  have z_bool := PySem.W.mg_none_of X G y_bool
  have z_int := PySem.W.mg_none_of X G y_int
  have z_isinstance := PySem.W.mg_none_of X G y_isinstance
  have z_len := PySem.W.mg_none_of X G y_len
  have z_list := PySem.W.mg_none_of X G y_list
  have z_range := PySem.W.mg_none_of X G y_range
  have z_str := PySem.W.mg_none_of X G y_str
  have z_tuple := PySem.W.mg_none_of X G y_tuple
  refine ⟨PySem.W.fnOf "law" "law" (defArgs s_law) (defBody s_law) (defScope s_law) .none kV13 dc13 pm13 an13 cd13 ct13, fun s v => .of_eq rfl, fun base _ _ => ?_⟩
  have d__law_next := ok__law_next (Pr := l.prog) (w := w) (base := base) S0 z_int z_len
  have d_value_key := ok_value_key (Pr := l.prog) (w := w) (base := base) S1 z_bool z_int z_isinstance
  have d_row_key := ok_row_key (Pr := l.prog) (w := w) (base := base) S2 d_value_key z_tuple
  have d_came := ok_came (Pr := l.prog) (w := w) (base := base) S3 d_row_key
  have d_went := ok_went (Pr := l.prog) (w := w) (base := base) S4 d_came
  have d__law_char := ok__law_char (Pr := l.prog) (w := w) (base := base) S5 z_int
  have d__law_value := ok__law_value (Pr := l.prog) (w := w) (base := base) S6 d__law_char d__law_next
  have d__law_drawn_row := ok__law_drawn_row (Pr := l.prog) (w := w) (base := base) S7 d__law_next d__law_value z_range z_tuple
  have d__law_same := ok__law_same (Pr := l.prog) (w := w) (base := base) S8 z_bool z_int z_isinstance z_len z_list z_range z_str z_tuple 4
  have d__law_count := ok__law_count (Pr := l.prog) (w := w) (base := base) S9 d__law_same z_len
  have d__law_balanced := ok__law_balanced (Pr := l.prog) (w := w) (base := base) S10 d__law_count
  have d__law_turned := ok__law_turned (Pr := l.prog) (w := w) (base := base) S11 d__law_next z_len z_range
  have d__law_more := ok__law_more (Pr := l.prog) (w := w) (base := base) S12 d__law_count z_len z_range
  exact ok_law (Pr := l.prog) (w := w) (base := base) F13 d__law_balanced d__law_drawn_row d__law_more d__law_next d__law_same d__law_turned d_came d_went z_list z_range
end K38

namespace K38
open PySem PySem.Spec PyProof.Rows L2 Tr
theorem next_ok (x : Nx) (hx : x.ok) {lim : Int} (hl : 0 < lim) (hb : lim.natAbs < 2 ^ 200) : ∃ v x', Nx.ok x' ∧ x'.ns = x.ns ∧ 0 ≤ v ∧ v < lim ∧ sem__law_next [x.S, .d (.int lim)] = some (.d (.int v), [x'.S, .d (.int lim)]) := by
  obtain ⟨ns, i, c, s⟩ := x
  obtain ⟨c0, s0, s1⟩ := hx
  dsimp only at c0 s0 s1
  have hdv : ∀ q, divOk q lim = true := fun q => divOk_of hl hb (by decide) (by decide)
  have hmo : ∀ q, modOk q lim = true := fun q => decide_eq_true hl
  have hmu : ∀ (q : Int) (j : Int), 0 ≤ q → q < 2147483647 → j.natAbs < 2 ^ 100 → mulOk q j = true := fun q j h0 h1 h2 => mulOk_of (a := 31) (b := 100) (by omega) h2 (by decide) (by decide) (by decide)
  have hm1 : ∀ q : Int, modOk q 2147483647 = true := fun q => rfl
  have hd7 : ∀ q : Int, divOk q 7 = true := fun q => divOk_of (b := 10) (by decide) (by decide) (by decide) (by decide)
  by_cases hA : c = 0 ∧ i < ns.length
  · obtain ⟨rfl, hi⟩ := hA
    by_cases hC : 10 ^ 18 ≤ ns[i]
    · refine ⟨ns[i] % lim, ⟨ns, i + 1, ns[i] / lim, s⟩, ⟨Int.ediv_nonneg (by omega) (by omega), s0, s1⟩, rfl, Int.emod_nonneg _ (by omega), Int.emod_lt_of_pos _ hl, ?_⟩
      have h0 : 0 < ns[i] := by omega
      have hC2 : (1000000000000000000 : Int) ≤ ns[i] := hC
      simp [sem__law_next, b__law_next, Nx.S, mC, mVar, mVarD, mD, mZ, m2, mBin, mBinS, mUn, maNil, maCons, mTup, mLstZ, mLst, moN, moS, mSl, mTru, mTB, mNotT, mAndT, mOrT, mAndV, mOrV, mNotV, mIfE, mNx, mSeq, mIf, mSet, mDrop, mRet, mRetN, mBk, mCt, mTake, mAsg, mAug, mgName, mgNil, mgCons, mgTup, mApp, mSetI, mAugI, mcNil, mcV, mcR, res, putB, mCall, mCallP, backS, Tr.startT, runB, mFz, S.isD, S.view, gII, Tr.gSub, gCmp, gIx, gLen, lenD, gInt, gAdd, gIAdd, gNeg, atI, ixN, gEq_int, hdv, hmo, hi, h0, hC2, powOk]
    · have hC2 : ¬ (1000000000000000000 : Int) ≤ ns[i] := hC
      let s2 := (s * 48271 + ns[i] % 2147483647 + 7) % 2147483647
      have a1 : 0 ≤ s2 := Int.emod_nonneg _ (by decide)
      have a2 : s2 < 2147483647 := Int.emod_lt_of_pos _ (by decide)
      let s3 := (s2 * 69621 + 12345) % 2147483647
      have a3 : 0 ≤ s3 := Int.emod_nonneg _ (by decide)
      have a4 : s3 < 2147483647 := Int.emod_lt_of_pos _ (by decide)
      refine ⟨s3 / 7 % lim, ⟨ns, i + 1, 0, s3⟩, ⟨Int.le_refl 0, a3, a4⟩, rfl, Int.emod_nonneg _ (by omega), Int.emod_lt_of_pos _ hl, ?_⟩
      have m1 := hmu s 48271 s0 s1 (by decide)
      have m2' := hmu s2 69621 a1 a2 (by decide)
      simp only [s2] at m2'
      simp [sem__law_next, b__law_next, Nx.S, mC, mVar, mVarD, mD, mZ, m2, mBin, mBinS, mUn, maNil, maCons, mTup, mLstZ, mLst, moN, moS, mSl, mTru, mTB, mNotT, mAndT, mOrT, mAndV, mOrV, mNotV, mIfE, mNx, mSeq, mIf, mSet, mDrop, mRet, mRetN, mBk, mCt, mTake, mAsg, mAug, mgName, mgNil, mgCons, mgTup, mApp, mSetI, mAugI, mcNil, mcV, mcR, res, putB, mCall, mCallP, backS, Tr.startT, runB, mFz, S.isD, S.view, gII, Tr.gSub, gCmp, gIx, gLen, lenD, gInt, gAdd, gIAdd, gNeg, atI, ixN, gEq_int, hdv, hmo, hi, hC2, powOk, m1, m2', hm1, hd7, s2, s3]
  · by_cases h0 : 0 < c
    · have hc : ¬ c = 0 := by omega
      refine ⟨c % lim, ⟨ns, i, c / lim, s⟩, ⟨Int.ediv_nonneg (by omega) (by omega), s0, s1⟩, rfl, Int.emod_nonneg _ (by omega), Int.emod_lt_of_pos _ hl, ?_⟩
      simp [sem__law_next, b__law_next, Nx.S, mC, mVar, mVarD, mD, mZ, m2, mBin, mBinS, mUn, maNil, maCons, mTup, mLstZ, mLst, moN, moS, mSl, mTru, mTB, mNotT, mAndT, mOrT, mAndV, mOrV, mNotV, mIfE, mNx, mSeq, mIf, mSet, mDrop, mRet, mRetN, mBk, mCt, mTake, mAsg, mAug, mgName, mgNil, mgCons, mgTup, mApp, mSetI, mAugI, mcNil, mcV, mcR, res, putB, mCall, mCallP, backS, Tr.startT, runB, mFz, S.isD, S.view, gII, Tr.gSub, gCmp, gIx, gLen, lenD, gInt, gAdd, gIAdd, gNeg, atI, ixN, gEq_int, hdv, hmo, h0, hc]
    · obtain rfl : c = 0 := by omega
      have hi : ¬ i < ns.length := fun h => hA ⟨rfl, h⟩
      let s3 := (s * 69621 + 12345) % 2147483647
      have a3 : 0 ≤ s3 := Int.emod_nonneg _ (by decide)
      have a4 : s3 < 2147483647 := Int.emod_lt_of_pos _ (by decide)
      refine ⟨s3 / 7 % lim, ⟨ns, i, 0, s3⟩, ⟨Int.le_refl 0, a3, a4⟩, rfl, Int.emod_nonneg _ (by omega), Int.emod_lt_of_pos _ hl, ?_⟩
      have m1 := hmu s 69621 s0 s1 (by decide)
      simp [sem__law_next, b__law_next, Nx.S, mC, mVar, mVarD, mD, mZ, m2, mBin, mBinS, mUn, maNil, maCons, mTup, mLstZ, mLst, moN, moS, mSl, mTru, mTB, mNotT, mAndT, mOrT, mAndV, mOrV, mNotV, mIfE, mNx, mSeq, mIf, mSet, mDrop, mRet, mRetN, mBk, mCt, mTake, mAsg, mAug, mgName, mgNil, mgCons, mgTup, mApp, mSetI, mAugI, mcNil, mcV, mcR, res, putB, mCall, mCallP, backS, Tr.startT, runB, mFz, S.isD, S.view, gII, Tr.gSub, gCmp, gIx, gLen, lenD, gInt, gAdd, gIAdd, gNeg, atI, ixN, gEq_int, hdv, hmo, hi, m1, hm1, hd7, s3]
end K38

namespace K38
open PySem PySem.Spec PyProof.Rows L2 Tr
def chars1 : Str := " '!\"#$&()*+,-./0123456789:;<=>?@ABCDEFGHIJKLMNOPQRSTUVWXYZ[\\]^_`"
def chars2 : Str := "abcdefghijklmnopqrstuvwxyz{|}~\n"
theorem chars_len : (chars1 ++ chars2).length = 95 := by decide +kernel
theorem chars_ok : ∀ c ∈ (chars1 ++ chars2).cps.toList, c < 0x110000 := by decide +kernel
theorem char_ok (v : Int) : ∃ d, Ch d ∧ sem__law_char [.d (.int v)] = some (.d d, [.d (.int v)]) := by
  have h0 : 0 ≤ v % 95 := Int.emod_nonneg _ (by decide)
  have h1 : v % 95 < 95 := Int.emod_lt_of_pos _ (by decide)
  have hl : (chars1 ++ chars2).cps.toList.length = 95 := by rw [Array.length_toList]; exact chars_len
  have ha : atI (chars1 ++ chars2).cps.toList (v % 95) = (chars1 ++ chars2).cps.toList[(v % 95).toNat]? := by
    unfold atI ixN
    rw [hl, if_pos h0, if_pos (by omega)]
    rfl
  have hb : (v % 95).toNat < (chars1 ++ chars2).cps.toList.length := by omega
  rw [List.getElem?_eq_getElem hb] at ha
  have hc := chars_ok _ (List.getElem_mem hb)
  refine ⟨_, ⟨_, hc, rfl⟩, ?_⟩
  have hm : modOk v 95 = true := rfl
  have e1 := gAdd_str chars1 chars2 (by decide +kernel)
  have e2 := gIx_str (chars1 ++ chars2) (v % 95) _ (by rw [chars_len]; decide) ha
  have hb : b__law_char = mSeq (mSet 1 (mC (.str chars1))) (mSeq (mSet 1 (mBin true gAdd (mVar 1) (mC (.str chars2)))) (mRet (mD (mBinS true gIx (mVar 1) (mBin true gMod (mUn gInt (mVar 0)) (mC (.int 95))))))) := rfl
  rw [sem__law_char, hb]
  simp [mC, mVar, mVarD, mD, mZ, m2, mBin, mBinS, mUn, maNil, maCons, mTup, mLstZ, mLst, moN, moS, mSl, mTru, mTB, mNotT, mAndT, mOrT, mAndV, mOrV, mNotV, mIfE, mNx, mSeq, mIf, mSet, mDrop, mRet, mRetN, mBk, mCt, mTake, mAsg, mAug, mgName, mgNil, mgCons, mgTup, mApp, mSetI, mAugI, mcNil, mcV, mcR, res, putB, mCall, mCallP, backS, Tr.startT, runB, mFz, S.isD, S.view, gII, Tr.gSub, gCmp, gLen, lenD, gInt, gIAdd, gNeg, e1, e2, hm]
end K38

namespace K38
open PySem PySem.Spec PyProof.Rows L2 Tr
/-- the law's sameness of plain values -/
def smV : D → D → Bool
  | .non, .non => true
  | .bl a, .bl b => decide (a = b)
  | .int a, .int b => decide (a = b)
  | .str a, .str b => decide (a = b)
  | _, _ => false
theorem smV_eq {a b : D} (ha : Pl a) (hb : Pl b) : smV a b = true ↔ a = b := by
  rcases ha with rfl | ⟨x, rfl⟩ | ⟨x, rfl⟩ | ⟨x, hx, rfl⟩ <;> rcases hb with rfl | ⟨y, rfl⟩ | ⟨y, rfl⟩ | ⟨y, hy, rfl⟩ <;> simp [smV]
theorem same_val (n : Nat) {a b : D} (ha : Pl a) (hb : Pl b) : sem__law_same (n + 1) [.d a, .d b] = some (.d (.bl (smV a b)), [.d a, .d b]) := by
  rcases hb with rfl | ⟨y, rfl⟩ | ⟨y, rfl⟩ | ⟨y, hy, rfl⟩
  · rcases ha with rfl | ⟨x, rfl⟩ | ⟨x, rfl⟩ | ⟨x, hx, rfl⟩ <;> rfl
  · rcases ha with rfl | ⟨x, rfl⟩ | ⟨x, rfl⟩ | ⟨x, hx, rfl⟩
    · rfl
    · cases x <;> cases y <;> rfl
    · rfl
    · rfl
  · rcases ha with rfl | ⟨x, rfl⟩ | ⟨x, rfl⟩ | ⟨x, hx, rfl⟩
    · rfl
    · rfl
    · have h := gEq_int false x y
      simp [sem__law_same, b__law_same, mC, mVar, mVarD, mD, mZ, m2, mBin, mBinS, mUn, maNil, maCons, mTup, mLstZ, mLst, moN, moS, mSl, mTru, mTB, mNotT, mAndT, mOrT, mAndV, mOrV, mNotV, mIfE, mNx, mSeq, mIf, mSet, mDrop, mRet, mRetN, mBk, mCt, mTake, mAsg, mAug, mgName, mgNil, mgCons, mgTup, mApp, mSetI, mAugI, mcNil, mcV, mcR, res, putB, mCall, mCallP, backS, Tr.startT, runB, mFz, S.isD, S.view, gII, Tr.gSub, gCmp, gIx, gLen, lenD, gInt, gAdd, gIAdd, gNeg, atI, ixN, LIM, gIs, gIsi, D.isNd, isiD, isiN, tyN, S.isNon, truD, gEq_int, smV]
    · rfl
  · rcases ha with rfl | ⟨x, rfl⟩ | ⟨x, rfl⟩ | ⟨x, hx, rfl⟩
    · rfl
    · rfl
    · rfl
    · simp [sem__law_same, b__law_same, mC, mVar, mVarD, mD, mZ, m2, mBin, mBinS, mUn, maNil, maCons, mTup, mLstZ, mLst, moN, moS, mSl, mTru, mTB, mNotT, mAndT, mOrT, mAndV, mOrV, mNotV, mIfE, mNx, mSeq, mIf, mSet, mDrop, mRet, mRetN, mBk, mCt, mTake, mAsg, mAug, mgName, mgNil, mgCons, mgTup, mApp, mSetI, mAugI, mcNil, mcV, mcR, res, putB, mCall, mCallP, backS, Tr.startT, runB, mFz, S.isD, S.view, gII, Tr.gSub, gCmp, gIx, gLen, lenD, gInt, gAdd, gIAdd, gNeg, atI, ixN, LIM, gIs, gIsi, D.isNd, isiD, isiN, tyN, S.isNon, truD, gEq_str _ _ _ hx hy, smV]
def smR : List D → List D → Bool
  | [], [] => true
  | a :: r, b :: s => smV a b && smR r s
  | _, _ => false
theorem smR_eq : ∀ {r s : List D}, (∀ d ∈ r, Pl d) → (∀ d ∈ s, Pl d) → (smR r s = true ↔ r = s)
  | [], [], _, _ => by simp [smR]
  | [], _ :: _, _, _ => by simp [smR]
  | _ :: _, [], _, _ => by simp [smR]
  | a :: r, b :: s, h1, h2 => by
    have ih := smR_eq (r := r) (s := s) (fun d m => h1 d (List.mem_cons_of_mem _ m)) fun d m => h2 d (List.mem_cons_of_mem _ m)
    have h := smV_eq (h1 a (List.mem_cons_self ..)) (h2 b (List.mem_cons_self ..))
    simp only [smR, Bool.and_eq_true, h, ih, List.cons.injEq]
/-- one place of two rows -/
theorem bodyS (f : Sem1) (A C : S) (x y : D) (k : Int) (r : Bool) (i1 : gIx A (.d (.int k)) = some (.d x)) (i2 : gIx C (.d (.int k)) = some (.d y)) (e : f [.d x, .d y] = some (.d (.bl r), [.d x, .d y])) :
    B1__law_same f [some A, some C, some (.d (.int k))] = some (if r then .nx else .rt (.d (.bl false)), [some A, some C, some (.d (.int k))]) := by
  cases r <;> simp [B1__law_same, mC, mVar, mVarD, mD, mZ, m2, mBin, mBinS, mUn, maNil, maCons, mTup, mLstZ, mLst, moN, moS, mSl, mTru, mTB, mNotT, mAndT, mOrT, mAndV, mOrV, mNotV, mIfE, mNx, mSeq, mIf, mSet, mDrop, mRet, mRetN, mBk, mCt, mTake, mAsg, mAug, mgName, mgNil, mgCons, mgTup, mApp, mSetI, mAugI, mcNil, mcV, mcR, res, putB, mCall, mCallP, backS, Tr.startT, runB, mFz, S.isD, S.view, gII, Tr.gSub, gCmp, gLen, lenD, gInt, gAdd, gIAdd, gNeg, LIM, i1, i2, e, truD]
theorem loopS (f : Sem1) (hf : ∀ a b, Pl a → Pl b → f [.d a, .d b] = some (.d (.bl (smV a b)), [.d a, .d b])) : ∀ (s1 s2 p1 p2 : List D) (x2 : Option S), s1.length = s2.length → p1.length = p2.length → (∀ d ∈ s1, Pl d) → (∀ d ∈ s2, Pl d) →
    ∃ y2, forM (mgName 2) (B1__law_same f) (rangeD p1.length s1.length) [some (.d (.tup (p1 ++ s1))), some (.d (.tup (p2 ++ s2))), x2] = some (if smR s1 s2 then .nx else .rt (.d (.bl false)), [some (.d (.tup (p1 ++ s1))), some (.d (.tup (p2 ++ s2))), y2])
  | [], [], p1, p2, x2, _, _, _, _ => ⟨x2, rfl⟩
  | [], _ :: _, _, _, _, e, _, _, _ => by simp at e
  | _ :: _, [], _, _, _, e, _, _, _ => by simp at e
  | a :: s1, b :: s2, p1, p2, x2, hl, hp, h1, h2 => by
    obtain ⟨y2, e2⟩ := loopS f hf s1 s2 (p1 ++ [a]) (p2 ++ [b]) (some (.d (.int p1.length))) (by simpa using hl) (by simp [hp]) (fun d m => h1 d (List.mem_cons_of_mem _ m)) (fun d m => h2 d (List.mem_cons_of_mem _ m))
    rw [List.append_assoc, List.append_assoc, List.length_append] at e2
    have i1 : gIx (.d (.tup (p1 ++ a :: s1))) (.d (.int (p1.length : Int))) = some (.d a) := by
      show (atI (p1 ++ a :: s1) (p1.length : Int)).map S.d = _
      rw [atI_mid]
      rfl
    have i2 : gIx (.d (.tup (p2 ++ b :: s2))) (.d (.int (p1.length : Int))) = some (.d b) := by
      show (atI (p2 ++ b :: s2) (p1.length : Int)).map S.d = _
      rw [hp, atI_mid]
      rfl
    have eb := bodyS f _ _ a b _ _ i1 i2 (hf a b (h1 a (List.mem_cons_self ..)) (h2 b (List.mem_cons_self ..)))
    have g0 : mgName 2 (.int p1.length) [some (.d (.tup (p1 ++ a :: s1))), some (.d (.tup (p2 ++ b :: s2))), x2] = some [some (.d (.tup (p1 ++ a :: s1))), some (.d (.tup (p2 ++ b :: s2))), some (.d (.int p1.length))] := rfl
    rw [List.length_cons, rangeD_succ]
    show ∃ y2, _ = some (if (smV a b && smR s1 s2) = true then _ else _, _)
    cases z : smV a b with
    | true =>
      rw [z] at eb
      rw [Bool.true_and]
      exact ⟨y2, (forM_nx g0 eb).trans e2⟩
    | false =>
      rw [z] at eb
      exact ⟨_, forM_rt g0 eb⟩
end K38

namespace K38
open PySem PySem.Spec PyProof.Rows L2 Tr
theorem bodyA (f : Sem1) (A C : D) (a : Int) (y2 : Option S) (r : Bool) (h1 : gIs false (.d C) (.d .non) = some (.bl false)) (h2 : gIsi "bool" (.d C) = some (.bl false)) (h3 : gIsi "int" (.d C) = some (.bl false)) (h4 : gIsi "str" (.d C) = some (.bl false))
    (h5 : gIsi "tuple" (.d C) = some (.bl true)) (h6 : gIsi "tuple" (.d A) = some (.bl true)) (h7 : gIsi "list" (.d C) = some (.bl false)) (h8 : gLen (.d A) = some (.int a)) (h9 : gLen (.d C) = some (.int a))
    (eL : L1__law_same f [some (.d A), some (.d C), none] = some (if r then .nx else .rt (.d (.bl false)), [some (.d A), some (.d C), y2])) :
    runB [false, false] 3 (b__law_same f) [.d A, .d C] = some (.d (.bl r), [.d A, .d C]) := by
  cases r
  · simp [b__law_same, mC, mVar, mVarD, mD, mZ, m2, mBin, mBinS, mUn, maNil, maCons, mTup, mLstZ, mLst, moN, moS, mSl, mTru, mTB, mNotT, mAndT, mOrT, mAndV, mOrV, mNotV, mIfE, mNx, mSeq, mIf, mSet, mDrop, mRet, mRetN, mBk, mCt, mTake, mAsg, mAug, mgName, mgNil, mgCons, mgTup, mApp, mSetI, mAugI, mcNil, mcV, mcR, res, putB, mCall, mCallP, backS, Tr.startT, runB, mFz, S.isD, S.view, gII, Tr.gSub, gCmp, gIx, gInt, gAdd, gIAdd, gNeg, atI, ixN, LIM, truD, gEq_int, h1, h2, h3, h4, h5, h6, h7, h8, h9, eL]
  · simp [b__law_same, mC, mVar, mVarD, mD, mZ, m2, mBin, mBinS, mUn, maNil, maCons, mTup, mLstZ, mLst, moN, moS, mSl, mTru, mTB, mNotT, mAndT, mOrT, mAndV, mOrV, mNotV, mIfE, mNx, mSeq, mIf, mSet, mDrop, mRet, mRetN, mBk, mCt, mTake, mAsg, mAug, mgName, mgNil, mgCons, mgTup, mApp, mSetI, mAugI, mcNil, mcV, mcR, res, putB, mCall, mCallP, backS, Tr.startT, runB, mFz, S.isD, S.view, gII, Tr.gSub, gCmp, gIx, gInt, gAdd, gIAdd, gNeg, atI, ixN, LIM, truD, gEq_int, h1, h2, h3, h4, h5, h6, h7, h8, h9, eL]
theorem bodyB (n : Nat) (t1 t2 : List D) (y2 : Option S) (r : Bool) (hl : t1.length = t2.length) (eL : L1__law_same (sem__law_same n) [some (.d (.tup t1)), some (.d (.tup t2)), none] = some (if r then .nx else .rt (.d (.bl false)), [some (.d (.tup t1)), some (.d (.tup t2)), y2])) :
    sem__law_same (n + 1) [.d (.tup t1), .d (.tup t2)] = some (.d (.bl r), [.d (.tup t1), .d (.tup t2)]) :=
  bodyA (sem__law_same n) (.tup t1) (.tup t2) (t2.length : Int) y2 r rfl rfl rfl rfl rfl rfl rfl (by rw [← hl]; rfl) rfl eL
theorem same_row (n : Nat) {t1 t2 : List D} (hl : t1.length = t2.length) (hb : t1.length < 1000) (h1 : ∀ d ∈ t1, Pl d) (h2 : ∀ d ∈ t2, Pl d) : sem__law_same (n + 2) [.d (.tup t1), .d (.tup t2)] = some (.d (.bl (smR t1 t2)), [.d (.tup t1), .d (.tup t2)]) := by
  obtain ⟨y2, e⟩ := loopS (sem__law_same (n + 1)) (fun a b ha hb => same_val n ha hb) t1 t2 [] [] none hl rfl h1 h2
  refine bodyB (n + 1) t1 t2 y2 (smR t1 t2) hl ?_
  have em := mRange1_of (m := mUn gLen (mVar 1)) (τ := [some (.d (.tup t1)), some (.d (.tup t2)), none]) (τ1 := [some (.d (.tup t1)), some (.d (.tup t2)), none]) (j := (t2.length : Int)) rfl (by omega) (by omega)
  rw [Int.toNat_natCast, ← hl] at em
  exact (mFor_of em).trans e
theorem compM_filter {g : D → Sl → Option Sl} {mt : M Bool} {me : M S} {vs : List Nat} (p : D → Bool) {τ : Sl} : ∀ {ds : List D}, (∀ d ∈ ds, ∃ τ1 τ2, g d τ = some τ1 ∧ mt τ1 = some (p d, τ2) ∧ wipeT τ2 vs = τ ∧ me τ2 = some (.d d, τ2)) → compM g mt me vs ds τ = some (ds.filter p, τ)
  | [], _ => rfl
  | d :: r, h => by
    obtain ⟨τ1, τ2, e1, e2, e3, e4⟩ := h d (List.mem_cons_self ..)
    have ih := compM_filter p (ds := r) fun d' m => h d' (List.mem_cons_of_mem _ m)
    rw [compM, e1]
    dsimp only
    rw [e2]
    cases z : p d with
    | true =>
      dsimp only
      rw [e4]
      dsimp only
      rw [e3, ih, List.filter_cons, if_pos z]
    | false =>
      dsimp only
      rw [e3, ih, List.filter_cons, if_neg (by simp [z])]
def smD : D → D → Bool
  | .tup a, .tup b => smR a b
  | _, _ => false
/-- rows of one width -/
def Rw (w : Nat) (d : D) : Prop := ∃ t : List D, d = .tup t ∧ t.length = w ∧ ∀ x ∈ t, Pl x
theorem smD_eq {w : Nat} {a b : D} (ha : Rw w a) (hb : Rw w b) : smD a b = true ↔ a = b := by
  obtain ⟨t, rfl, _, p⟩ := ha
  obtain ⟨u, rfl, _, q⟩ := hb
  show smR t u = true ↔ _
  rw [smR_eq p q]
  simp
theorem same_rw (n : Nat) {w : Nat} (hw : w < 1000) {a b : D} (ha : Rw w a) (hb : Rw w b) : sem__law_same (n + 2) [.d a, .d b] = some (.d (.bl (smD a b)), [.d a, .d b]) := by
  obtain ⟨t, rfl, l1, p⟩ := ha
  obtain ⟨u, rfl, l2, q⟩ := hb
  exact same_row n (l1.trans l2.symm) (l1 ▸ hw) p q
def cnt (r : D) (rs : List D) : Nat := (rs.filter fun o => smD o r).length
theorem testC (f : Sem1) (r rs o : D) (b : Bool) (e : f [.d o, .d r] = some (.d (.bl b), [.d o, .d r])) : mTru (mCallP f (maCons (mVarD 2) (maCons (mVarD 0) maNil))) [some (.d r), some (.d rs), some (.d o)] = some (b, [some (.d r), some (.d rs), some (.d o)]) := by
  simp [mC, mVar, mVarD, mD, mZ, m2, mBin, mBinS, mUn, maNil, maCons, mTup, mLstZ, mLst, moN, moS, mSl, mTru, mTB, mNotT, mAndT, mOrT, mAndV, mOrV, mNotV, mIfE, mNx, mSeq, mIf, mSet, mDrop, mRet, mRetN, mBk, mCt, mTake, mAsg, mAug, mgName, mgNil, mgCons, mgTup, mApp, mSetI, mAugI, mcNil, mcV, mcR, res, putB, mCall, mCallP, backS, Tr.startT, runB, mFz, S.isD, S.view, gII, Tr.gSub, gCmp, gIx, gLen, lenD, gInt, gAdd, gIAdd, gNeg, atI, ixN, LIM, e, truD]
theorem count_ok {w : Nat} (hw : w < 1000) {r : D} {rs : List D} (hr : Rw w r) (hs : ∀ d ∈ rs, Rw w d) (hl : rs.length < 10000) : sem__law_count [.d r, .d (.lst rs)] = some (.d (.int (cnt r rs)), [.d r, .d (.lst rs)]) := by
  have ec : compM (mgName 2) T1__law_count E1__law_count [2] rs [some (.d r), some (.d (.lst rs)), none] = some (rs.filter fun o => smD o r, [some (.d r), some (.d (.lst rs)), none]) :=
    compM_filter (fun o => smD o r) fun o ho => ⟨_, [some (.d r), some (.d (.lst rs)), some (.d o)], rfl, testC _ r (.lst rs) o _ (same_rw 2 hw (hs o ho) hr), rfl, rfl⟩
  have em : mItems (mVarD 1) [some (.d r), some (.d (.lst rs)), none] = some (rs, [some (.d r), some (.d (.lst rs)), none]) := rfl
  have e1 : C1__law_count [some (.d r), some (.d (.lst rs)), none] = some (rs.filter fun o => smD o r, [some (.d r), some (.d (.lst rs)), none]) :=
    mComp_of em rfl rfl (by show rs.length < 16777216; omega) ec
  refine runB_rt rfl (m := b__law_count) (τ := [some (.d r), some (.d (.lst rs)), none]) ?_ rfl
  show b__law_count [some (.d r), some (.d (.lst rs)), none] = _
  unfold b__law_count mRet mUn mLC
  rw [e1]
  rfl
end K38

namespace K38
open PySem PySem.Spec PyProof.Rows L2 Tr
/-! ### keys of rows -/
def kt : D → List D
  | .non => [.int 0]
  | .bl b => [.int 1, .int (if b then 1 else 0)]
  | .int i => [.int 2, .int i]
  | d => [.int 3, d]
theorem kt_inj {a b : D} (ha : Pl a) (hb : Pl b) {xs ys : List D} (h : kt a ++ xs = kt b ++ ys) : a = b ∧ xs = ys := by
  rcases ha with rfl | ⟨x, rfl⟩ | ⟨x, rfl⟩ | ⟨x, hx, rfl⟩ <;> rcases hb with rfl | ⟨y, rfl⟩ | ⟨y, rfl⟩ | ⟨y, hy, rfl⟩ <;> simp [kt] at h
  · exact ⟨rfl, h⟩
  · obtain ⟨h1, h2⟩ := h
    cases x <;> cases y <;> simp_all
  · obtain ⟨h1, h2⟩ := h
    subst h1
    exact ⟨rfl, h2⟩
  · obtain ⟨h1, h2⟩ := h
    subst h1
    exact ⟨rfl, h2⟩
theorem flat_inj : ∀ {r s : List D}, r.length = s.length → (∀ d ∈ r, Pl d) → (∀ d ∈ s, Pl d) → r.flatMap kt = s.flatMap kt → r = s
  | [], [], _, _, _, _ => rfl
  | [], _ :: _, e, _, _, _ => by simp at e
  | _ :: _, [], e, _, _, _ => by simp at e
  | a :: r, b :: s, e, h1, h2, h => by
    rw [List.flatMap_cons, List.flatMap_cons] at h
    obtain ⟨h3, h4⟩ := kt_inj (h1 a (List.mem_cons_self ..)) (h2 b (List.mem_cons_self ..)) h
    rw [h3, flat_inj (by simpa using e) (fun d m => h1 d (List.mem_cons_of_mem _ m)) (fun d m => h2 d (List.mem_cons_of_mem _ m)) h4]
theorem key_ok {d : D} (h : Pl d) : sem_value_key [.d d] = some (.d (.tup (kt d)), [.d d]) := by
  rcases h with rfl | ⟨b, rfl⟩ | ⟨i, rfl⟩ | ⟨z, hz, rfl⟩
  · rfl
  · cases b <;> rfl
  · rfl
  · rfl
theorem kt_len (d : D) : (kt d).length ≤ 2 := by cases d <;> exact (by simp [kt])
theorem flat_len : ∀ r : List D, (r.flatMap kt).length ≤ 2 * r.length
  | [] => by decide
  | d :: r => by
    rw [List.flatMap_cons, List.length_append, List.length_cons]
    have := kt_len d
    have := flat_len r
    omega
theorem row_key_ok {r : List D} (hb : r.length < 1000) (h : ∀ d ∈ r, Pl d) : sem_row_key [.d (.tup r)] = some (.d (.tup (r.flatMap kt)), [.d (.tup r)]) := by
  obtain ⟨τ', e, x2, rfl⟩ := forM_inv2 (g := mgName 2) (mb := B1_row_key) (ds := r) (fun n τ => ∃ x2, τ = [some (.d (.tup r)), some (.lst (((r.take n).flatMap kt).map S.d)), x2]) (τ := [some (.d (.tup r)), some (.lst []), none]) ⟨_, rfl⟩ fun n d hd τ hI => by
    obtain ⟨x2, rfl⟩ := hI
    have hk := key_ok (h d (List.mem_of_getElem? hd))
    refine ⟨_, _, rfl, .inl ?_, some (.d d), rfl⟩
    have hl : (((r.take n).flatMap kt).map S.d).length + (kt d).length ≤ LIM := by
      have := flat_len (r.take n)
      have := kt_len d
      rw [List.length_map]
      rw [List.length_take] at *
      show _ ≤ 16777216
      omega
    have et : (r.take (n + 1)).flatMap kt = (r.take n).flatMap kt ++ kt d := by
      rw [List.take_add_one, hd]
      simp
    rw [et, List.map_append]
    simp only [B1_row_key, mExt, mZ, mCallP, maCons, maNil, mVarD, S.view, hk, List.getElem?_cons_succ, List.getElem?_cons_zero, List.map_cons, List.map_nil, List.set_cons_succ, List.set_cons_zero]
    rw [if_pos hl]
  rw [List.take_length] at e
  have el : L1_row_key [some (.d (.tup r)), some (.lst []), none] = some (.nx, [some (.d (.tup r)), some (.lst ((r.flatMap kt).map S.d)), x2]) := (mFor_of rfl).trans e
  refine runB_rt rfl (τ := [some (.d (.tup r)), some (.lst ((r.flatMap kt).map S.d)), x2]) ?_ rfl
  refine (seq_nx (τ1 := [some (.d (.tup r)), some (.lst []), none]) rfl).trans ((seq_nx el).trans ?_)
  have eg : gTupOf (.lst ((r.flatMap kt).map S.d)) = some (.tup (r.flatMap kt)) := by
    show (S.lst ((r.flatMap kt).map S.d)).dl.map D.tup = _
    rw [dl_map]
    rfl
  simp [mRet, mUn, mVar, eg]
/-! ### tokens as keys of a dict -/
theorem keysD_of : ∀ {ds : List D}, (∀ d ∈ ds, ∃ k, keyD d = some k) → ∃ ks, keysD ds = some ks
  | [], _ => ⟨[], rfl⟩
  | d :: r, h => by
    obtain ⟨k, hk⟩ := h d (List.mem_cons_self ..)
    obtain ⟨ks, hks⟩ := keysD_of (ds := r) fun d' m => h d' (List.mem_cons_of_mem _ m)
    exact ⟨k :: ks, by rw [keysD, hk, hks]⟩
theorem keyD_inj {a b : D} {k : Key} (h1 : keyD a = some k) (h2 : keyD b = some k) : a = b := by
  cases a <;> first | (cases h1; done) | skip
  all_goals cases b <;> first | (cases h2; done) | skip
  all_goals (cases h1; first | (cases h2; done) | (cases h2; rfl))
theorem keysD_inj : ∀ {xs ys : List D} {ks : List Key}, keysD xs = some ks → keysD ys = some ks → xs = ys
  | [], [], _, _, _ => rfl
  | [], d :: r, ks, h1, h2 => by
    cases h1
    unfold keysD at h2
    split at h2 <;> cases h2
  | d :: r, [], ks, h1, h2 => by
    cases h2
    unfold keysD at h1
    split at h1 <;> cases h1
  | a :: r, b :: s, ks, h1, h2 => by
    unfold keysD at h1 h2
    split at h1
    · rename_i k1 r1 e1 e2
      cases h1
      split at h2
      · rename_i k2 r2 e3 e4
        cases h2
        rw [keyD_inj e1 e3, keysD_inj e2 e4]
      · cases h2
    · cases h1
theorem kt_keys {d : D} (h : Pl d) : ∀ x ∈ kt d, ∃ k, keyD x = some k := by
  rcases h with rfl | ⟨b, rfl⟩ | ⟨i, rfl⟩ | ⟨z, hz, rfl⟩ <;> intro x hx <;> simp only [kt, List.mem_cons, List.not_mem_nil, or_false] at hx
  · subst hx; exact ⟨_, rfl⟩
  · rcases hx with rfl | rfl <;> exact ⟨_, rfl⟩
  · rcases hx with rfl | rfl <;> exact ⟨_, rfl⟩
  · rcases hx with rfl | rfl <;> exact ⟨_, rfl⟩
theorem row_keys {t : List D} (h : ∀ d ∈ t, Pl d) : ∃ ks, keysD (t.flatMap kt) = some ks := keysD_of fun x hx => by
  obtain ⟨d, hd, hx⟩ := List.mem_flatMap.mp hx
  exact kt_keys (h d hd) x hx
/-! ### a dict's parts -/
section
variable {κ : Type} [DecidableEq κ]
theorem dGet_put (k k' : κ) (s : S) : ∀ {ks : List κ} {ss : List S}, ks.length = ss.length → dGet (dPut ks ss k s).1 (dPut ks ss k s).2 k' = if k = k' then some s else dGet ks ss k' := by
  have hset : ∀ {ks : List κ} {ss : List S}, ks.length = ss.length → dGet ks (dSet k s ks ss) k' = if k = k' then (if k ∈ ks then some s else none) else dGet ks ss k' := by
    intro ks
    induction ks with
    | nil => intro ss e; by_cases z : k = k' <;> simp [dGet, z]
    | cons k1 ks ih =>
      intro ss e
      cases ss with
      | nil => simp at e
      | cons s1 ss =>
        have ih := ih (ss := ss) (by simpa using e)
        show dGet (k1 :: ks) ((if k1 = k then s else s1) :: dSet k s ks ss) k' = _
        by_cases h1 : k1 = k'
        · have e1 : ∀ (a : S) (r : List S), dGet (k1 :: ks) (a :: r) k' = some a := fun a r => by simp [dGet, h1]
          rw [e1, e1]
          by_cases h2 : k1 = k
          · have h3 : k = k' := h2.symm.trans h1
            rw [if_pos h2, if_pos h3, if_pos (by rw [← h2]; exact List.mem_cons_self ..)]
          · have h3 : ¬ k = k' := fun z => h2 (h1.trans z.symm)
            rw [if_neg h2, if_neg h3]
        · have e1 : ∀ (a : S) (r : List S), dGet (k1 :: ks) (a :: r) k' = dGet ks r k' := fun a r => by simp [dGet, h1]
          rw [e1, e1, ih]
          by_cases h3 : k = k'
          · rw [if_pos h3, if_pos h3]
            have : k ≠ k1 := fun z => h1 (z.symm.trans h3)
            simp [this]
          · rw [if_neg h3, if_neg h3]
  intro ks ss e
  unfold dPut
  by_cases h : k ∈ ks
  · rw [if_pos h]
    show dGet ks (dSet k s ks ss) k' = _
    rw [hset e, if_pos h]
  · rw [if_neg h]
    show dGet (ks ++ [k]) (ss ++ [s]) k' = _
    unfold dGet
    rw [List.zip_append e, List.find?_append]
    by_cases h3 : k = k'
    · subst h3
      have : (ks.zip ss).find? (fun kv => decide (kv.1 = k)) = none := by
        rw [List.find?_eq_none]
        intro x hx
        have := List.of_mem_zip hx
        simp only [decide_eq_true_eq]
        intro z
        exact h (z ▸ this.1)
      rw [this]
      simp
    · rw [if_neg h3]
      simp [h3]
theorem dPut_len (k : κ) (s : S) {ks : List κ} {ss : List S} (e : ks.length = ss.length) : (dPut ks ss k s).1.length = (dPut ks ss k s).2.length ∧ (dPut ks ss k s).2.length ≤ ss.length + 1 := by
  have hs : ∀ {ks : List κ} {ss : List S}, (dSet k s ks ss).length = ss.length := by
    intro ks
    induction ks with
    | nil => intro ss; cases ss <;> rfl
    | cons k1 ks ih =>
      intro ss
      cases ss with
      | nil => rfl
      | cons s1 ss =>
        show (_ :: dSet k s ks ss).length = _
        rw [List.length_cons, ih, List.length_cons]
  unfold dPut
  by_cases h : k ∈ ks
  · rw [if_pos h]
    exact ⟨e.trans hs.symm, by rw [hs]; omega⟩
  · rw [if_neg h]
    simp [e]
end
end K38

namespace K38
open PySem PySem.Spec PyProof.Rows L2 Tr
def kf : D → List Key
  | .tup t => (keysD (t.flatMap kt)).getD []
  | _ => []
def kd : D → D
  | .tup t => .tup (t.flatMap kt)
  | d => d
theorem kf_ok {w : Nat} {r : D} (h : Rw w r) : keyT (kd r) = some (kf r) := by
  obtain ⟨t, rfl, _, p⟩ := h
  obtain ⟨ks, e⟩ := row_keys p
  show keysD (t.flatMap kt) = some ((keysD (t.flatMap kt)).getD [])
  rw [e]
  rfl
theorem kf_inj {w : Nat} {r s : D} (h : Rw w r) (g : Rw w s) (e : kf r = kf s) : r = s := by
  have h1 := kf_ok h
  have h2 := kf_ok g
  obtain ⟨t, rfl, l1, p⟩ := h
  obtain ⟨u, rfl, l2, q⟩ := g
  rw [e] at h1
  rw [flat_inj (l1.trans l2.symm) p q (keysD_inj (xs := t.flatMap kt) (ys := u.flatMap kt) h1 h2)]
theorem rk_ok {w : Nat} (hw : w < 1000) {r : D} (h : Rw w r) : sem_row_key [.d r] = some (.d (kd r), [.d r]) := by
  obtain ⟨t, rfl, l, p⟩ := h
  exact row_key_ok (l ▸ hw) p
/-- the dict holds the counts c -/
structure Dk (w : Nat) (ks : List (List Key)) (ss : List S) (c : D → Int) : Prop where
  len : ks.length = ss.length
  val : ∀ r, Rw w r → (dGet ks ss (kf r) = none ∧ c r = 0) ∨ dGet ks ss (kf r) = some (.d (.int (c r)))
theorem dk_get {w : Nat} {ks : List (List Key)} {ss : List S} {c : D → Int} (h : Dk w ks ss c) {r : D} (hr : Rw w r) : ∃ o, hGet (.dit ks) ss (kd r) = some o ∧ ((o = none ∧ c r = 0) ∨ o = some (.d (.int (c r)))) := by
  refine ⟨dGet ks ss (kf r), ?_, h.val r hr⟩
  show (keyT (kd r)).map (dGet ks ss) = _
  rw [kf_ok hr]
  rfl
theorem dk_put {w : Nat} {ks : List (List Key)} {ss : List S} {c c' : D → Int} (h : Dk w ks ss c) (hl : ss.length < 10000) {r : D} (hr : Rw w r) (h1 : ∀ s, Rw w s → s ≠ r → c' s = c s) :
    ∃ ks' ss', hPut (.dit ks) ss (kd r) (.d (.int (c' r))) = some (.dit ks', ss') ∧ Dk w ks' ss' c' ∧ ss'.length ≤ ss.length + 1 := by
  refine ⟨(dPut ks ss (kf r) (.d (.int (c' r)))).1, (dPut ks ss (kf r) (.d (.int (c' r)))).2, ?_, ⟨(dPut_len _ _ h.len).1, fun s hs => ?_⟩, (dPut_len _ _ h.len).2⟩
  · show (if ss.length < LIM then (keyT (kd r)).map _ else none) = _
    rw [if_pos (by show ss.length < 16777216; omega), kf_ok hr]
    rfl
  · rw [dGet_put _ _ _ h.len]
    by_cases z : s = r
    · subst z
      rw [if_pos rfl]
      exact .inr rfl
    · rw [if_neg fun e => z (kf_inj hr hs e).symm, h1 s hs z]
      exact h.val s hs
theorem bodyC (f : Sem1) (A0 A1 a4 a5 : Option S) (h h' : Hd) (ss ss' : List S) (r k : D) (o : Option S) (v : Int) (e1 : f [.d r] = some (.d k, [.d r])) (hg : hGet h ss k = some o) (ho : (o = none ∧ v = 0) ∨ o = some (.d (.int v))) (hp : hPut h ss k (.d (.int (v + 1))) = some (h', ss')) :
    (mSeq (mSet 4 (mZ (mCallP f (maCons (mVarD 3) maNil)))) (mDPut 2 (mVarD 4) (mBin true gAdd (mDGet2 2 (mVarD 4) (mC (.int 0))) (mC (.int 1))))) [A0, A1, some (.nd h ss), some (.d r), a4, a5] = some (.nx, [A0, A1, some (.nd h' ss'), some (.d r), some (.d k), a5]) := by
  rcases ho with ⟨rfl, rfl⟩ | rfl
  · have hp : hPut h ss k (.d (.int 1)) = some (h', ss') := hp
    simp [mC, mVar, mVarD, mD, mZ, m2, mBin, mBinS, mUn, maNil, maCons, mTup, mLstZ, mLst, moN, moS, mSl, mTru, mTB, mNotT, mAndT, mOrT, mAndV, mOrV, mNotV, mIfE, mNx, mSeq, mIf, mSet, mDrop, mRet, mRetN, mBk, mCt, mTake, mAsg, mAug, mgName, mgNil, mgCons, mgTup, mApp, mSetI, mAugI, mcNil, mcV, mcR, res, putB, mCall, mCallP, backS, Tr.startT, runB, mFz, S.isD, S.view, gII, Tr.gSub, gCmp, gIx, gLen, lenD, gInt, gAdd, gIAdd, gNeg, atI, ixN, LIM, mDPut, mDGet2, e1, hg, hp]
  · simp [mC, mVar, mVarD, mD, mZ, m2, mBin, mBinS, mUn, maNil, maCons, mTup, mLstZ, mLst, moN, moS, mSl, mTru, mTB, mNotT, mAndT, mOrT, mAndV, mOrV, mNotV, mIfE, mNx, mSeq, mIf, mSet, mDrop, mRet, mRetN, mBk, mCt, mTake, mAsg, mAug, mgName, mgNil, mgCons, mgTup, mApp, mSetI, mAugI, mcNil, mcV, mcR, res, putB, mCall, mCallP, backS, Tr.startT, runB, mFz, S.isD, S.view, gII, Tr.gSub, gCmp, gIx, gLen, lenD, gInt, gAdd, gIAdd, gNeg, atI, ixN, LIM, mDPut, mDGet2, e1, hg, hp]
theorem cnt_snoc {w : Nat} {r s : D} (rs : List D) (hr : Rw w r) (hs : Rw w s) : (cnt s (rs ++ [r]) : Int) = if smD r s = true then (cnt s rs : Int) + 1 else cnt s rs := by
  unfold cnt
  rw [List.filter_append, List.length_append]
  by_cases h : smD r s = true
  · simp [h]
  · simp [h]
theorem loop1 {w : Nat} (hw : w < 1000) (A1 a3 a4 a5 : Option S) {old : List D} (ho : ∀ d ∈ old, Rw w d) (hl : old.length < 1000) : ∃ ks ss b3 b4, L1_came [some (.d (.lst old)), A1, some (.nd (.dit []) []), a3, a4, a5] = some (.nx, [some (.d (.lst old)), A1, some (.nd (.dit ks) ss), b3, b4, a5]) ∧ Dk w ks ss (fun r => cnt r old) ∧ ss.length ≤ old.length := by
  obtain ⟨τ', e, ks, ss, b3, b4, rfl, dk, hn⟩ := forM_inv2 (g := mgName 3) (mb := B1_came) (ds := old) (fun n τ => ∃ ks ss b3 b4, τ = [some (.d (.lst old)), A1, some (.nd (.dit ks) ss), b3, b4, a5] ∧ Dk w ks ss (fun r => cnt r (old.take n)) ∧ ss.length ≤ n) (τ := [some (.d (.lst old)), A1, some (.nd (.dit []) []), a3, a4, a5])
    ⟨[], [], a3, a4, rfl, ⟨rfl, fun r _ => .inl ⟨rfl, rfl⟩⟩, Nat.le_refl _⟩ fun n d hd τ hI => by
      obtain ⟨ks, ss, b3, b4, rfl, dk, hn⟩ := hI
      have hd' := ho d (List.mem_of_getElem? hd)
      have hnl : n < old.length := (List.getElem?_eq_some_iff.mp hd).1
      obtain ⟨o, g1, g2⟩ := dk_get dk hd'
      have et : old.take (n + 1) = old.take n ++ [d] := by rw [List.take_add_one, hd]; rfl
      have hc : ∀ s, Rw w s → s ≠ d → (cnt s (old.take (n + 1)) : Int) = cnt s (old.take n) := fun s hs z => by
        rw [et, cnt_snoc _ hd' hs, if_neg fun q => z ((smD_eq hd' hs).mp q).symm]
      have hc2 : (cnt d (old.take (n + 1)) : Int) = cnt d (old.take n) + 1 := by
        rw [et, cnt_snoc _ hd' hd', if_pos ((smD_eq hd' hd').mpr rfl)]
      obtain ⟨ks', ss', p1, p2, p3⟩ := dk_put (c' := fun r => cnt r (old.take (n + 1))) dk (by omega) hd' hc
      have p1' : hPut (.dit ks) ss (kd d) (.d (.int ((cnt d (old.take n) : Int) + 1))) = some (.dit ks', ss') := by rw [← hc2]; exact p1
      exact ⟨_, _, rfl, .inl (bodyC sem_row_key _ A1 b4 a5 _ _ ss ss' d (kd d) o _ (rk_ok hw hd') g1 g2 p1'), ks', ss', _, _, rfl, p2, by omega⟩
  rw [List.take_length] at dk
  exact ⟨ks, ss, b3, b4, (mFor_of rfl).trans e, dk, hn⟩
end K38

namespace K38
open PySem PySem.Spec PyProof.Rows L2 Tr
def moreP (old new : List D) : Nat → List D
  | 0 => []
  | n + 1 => match new[n]? with
    | some r => if cnt r old ≤ cnt r (new.take n) then moreP old new n ++ [r] else moreP old new n
    | none => moreP old new n
theorem moreP_len (old new : List D) : ∀ n, (moreP old new n).length ≤ n
  | 0 => Nat.le_refl _
  | n + 1 => by
    have ih := moreP_len old new n
    unfold moreP
    split
    · split
      · rw [List.length_append, List.length_singleton]; omega
      · omega
    · omega
theorem Dk.congr {w : Nat} {ks : List (List Key)} {ss : List S} {c c' : D → Int} (h : Dk w ks ss c) (e : ∀ r, Rw w r → c r = c' r) : Dk w ks ss c' :=
  ⟨h.len, fun r hr => by rw [← e r hr]; exact h.val r hr⟩
theorem bodyP (f : Sem1) (A0 A1 a4 a5 : Option S) (h h' : Hd) (ss ss' : List S) (r k : D) (v : Int) (e1 : f [.d r] = some (.d k, [.d r])) (hg : hGet h ss k = some (some (.d (.int v)))) (hv : 0 < v) (hp : hPut h ss k (.d (.int (v - 1))) = some (h', ss')) :
    (mSeq (mSet 4 (mZ (mCallP f (maCons (mVarD 3) maNil)))) (mIf (mTB (mBin true gGt (mDGet2 2 (mVarD 4) (mC (.int 0))) (mC (.int 0)))) (mDAug 2 gSub (mVarD 4) (mC (.int 1))) (mApp 5 (mVarD 3)))) [A0, A1, some (.nd h ss), some (.d r), a4, a5] = some (.nx, [A0, A1, some (.nd h' ss'), some (.d r), some (.d k), a5]) := by
  simp [mC, mVar, mVarD, mD, mZ, m2, mBin, mBinS, mUn, maNil, maCons, mTup, mLstZ, mLst, moN, moS, mSl, mTru, mTB, mNotT, mAndT, mOrT, mAndV, mOrV, mNotV, mIfE, mNx, mSeq, mIf, mSet, mDrop, mRet, mRetN, mBk, mCt, mTake, mAsg, mAug, mgName, mgNil, mgCons, mgTup, mApp, mSetI, mAugI, mcNil, mcV, mcR, res, putB, mCall, mCallP, backS, Tr.startT, runB, mFz, S.isD, S.view, gII, Tr.gSub, gCmp, gIx, gLen, lenD, gInt, gAdd, gIAdd, gNeg, atI, ixN, LIM, mDAug, mDGet2, e1, hg, hv, hp]
theorem bodyN (f : Sem1) (A0 A1 a4 : Option S) (h : Hd) (ss fs : List S) (r k : D) (o : Option S) (v : Int) (e1 : f [.d r] = some (.d k, [.d r])) (hg : hGet h ss k = some o) (ho : (o = none ∧ v = 0) ∨ o = some (.d (.int v))) (hv : ¬ 0 < v) (hl : fs.length < 16777216) :
    (mSeq (mSet 4 (mZ (mCallP f (maCons (mVarD 3) maNil)))) (mIf (mTB (mBin true gGt (mDGet2 2 (mVarD 4) (mC (.int 0))) (mC (.int 0)))) (mDAug 2 gSub (mVarD 4) (mC (.int 1))) (mApp 5 (mVarD 3)))) [A0, A1, some (.nd h ss), some (.d r), a4, some (.lst fs)] = some (.nx, [A0, A1, some (.nd h ss), some (.d r), some (.d k), some (.lst (fs ++ [.d r]))]) := by
  rcases ho with ⟨rfl, rfl⟩ | rfl
  · simp [mC, mVar, mVarD, mD, mZ, m2, mBin, mBinS, mUn, maNil, maCons, mTup, mLstZ, mLst, moN, moS, mSl, mTru, mTB, mNotT, mAndT, mOrT, mAndV, mOrV, mNotV, mIfE, mNx, mSeq, mIf, mSet, mDrop, mRet, mRetN, mBk, mCt, mTake, mAsg, mAug, mgName, mgNil, mgCons, mgTup, mApp, mSetI, mAugI, mcNil, mcV, mcR, res, putB, mCall, mCallP, backS, Tr.startT, runB, mFz, S.isD, S.view, gII, Tr.gSub, gCmp, gIx, gLen, lenD, gInt, gAdd, gIAdd, gNeg, atI, ixN, LIM, mDAug, mDGet2, e1, hg, hl]
  · simp [mC, mVar, mVarD, mD, mZ, m2, mBin, mBinS, mUn, maNil, maCons, mTup, mLstZ, mLst, moN, moS, mSl, mTru, mTB, mNotT, mAndT, mOrT, mAndV, mOrV, mNotV, mIfE, mNx, mSeq, mIf, mSet, mDrop, mRet, mRetN, mBk, mCt, mTake, mAsg, mAug, mgName, mgNil, mgCons, mgTup, mApp, mSetI, mAugI, mcNil, mcV, mcR, res, putB, mCall, mCallP, backS, Tr.startT, runB, mFz, S.isD, S.view, gII, Tr.gSub, gCmp, gIx, gLen, lenD, gInt, gAdd, gIAdd, gNeg, atI, ixN, LIM, mDAug, mDGet2, e1, hg, hv, hl]
theorem loop2 {w : Nat} (hw : w < 1000) (A0 a3 a4 : Option S) {old new : List D} (hn' : ∀ d ∈ new, Rw w d) (hl : new.length < 1000) (hlo : old.length < 1000) {ks : List (List Key)} {ss : List S} (dk0 : Dk w ks ss (fun r => cnt r old)) (hs0 : ss.length ≤ old.length) :
    ∃ ks' ss' b3 b4, L2_came [A0, some (.d (.lst new)), some (.nd (.dit ks) ss), a3, a4, some (.lst [])] = some (.nx, [A0, some (.d (.lst new)), some (.nd (.dit ks') ss'), b3, b4, some (.lst ((moreP old new new.length).map S.d))]) := by
  obtain ⟨τ', e, ks', ss', b3, b4, rfl, dk, hn⟩ := forM_inv2 (g := mgName 3) (mb := B2_came) (ds := new) (fun n τ => ∃ ks ss b3 b4, τ = [A0, some (.d (.lst new)), some (.nd (.dit ks) ss), b3, b4, some (.lst ((moreP old new n).map S.d))] ∧ Dk w ks ss (fun r => ((cnt r old - cnt r (new.take n) : Nat) : Int)) ∧ ss.length ≤ old.length + n) (τ := [A0, some (.d (.lst new)), some (.nd (.dit ks) ss), a3, a4, some (.lst [])])
    ⟨ks, ss, a3, a4, rfl, dk0.congr fun r _ => by simp [cnt], by omega⟩ fun n d hd τ hI => by
      obtain ⟨ks, ss, b3, b4, rfl, dk, hn⟩ := hI
      have hd' := hn' d (List.mem_of_getElem? hd)
      have hnl : n < new.length := (List.getElem?_eq_some_iff.mp hd).1
      obtain ⟨o, g1, g2⟩ := dk_get dk hd'
      have et : new.take (n + 1) = new.take n ++ [d] := by rw [List.take_add_one, hd]; rfl
      have hc : ∀ s, Rw w s → s ≠ d → cnt s (new.take (n + 1)) = cnt s (new.take n) := fun s hs z => by
        have := cnt_snoc (new.take n) hd' hs
        rw [if_neg fun q => z ((smD_eq hd' hs).mp q).symm, ← et] at this
        omega
      have hc2 : cnt d (new.take (n + 1)) = cnt d (new.take n) + 1 := by
        have := cnt_snoc (new.take n) hd' hd'
        rw [if_pos ((smD_eq hd' hd').mpr rfl), ← et] at this
        omega
      have hm : moreP old new (n + 1) = if cnt d old ≤ cnt d (new.take n) then moreP old new n ++ [d] else moreP old new n := by
        rw [moreP, hd]
      by_cases hv : cnt d old ≤ cnt d (new.take n)
      · rw [if_pos hv] at hm
        rw [hm, List.map_append]
        have hlf : ((moreP old new n).map S.d).length < 16777216 := by
          have := moreP_len old new n
          rw [List.length_map]
          omega
        refine ⟨_, _, rfl, .inl (bodyN sem_row_key A0 _ b4 _ ss _ d (kd d) o _ (rk_ok hw hd') g1 g2 (by omega) hlf), ks, ss, _, _, rfl, dk.congr fun s hs => ?_, by omega⟩
        show ((cnt s old - cnt s (new.take n) : Nat) : Int) = ((cnt s old - cnt s (new.take (n + 1)) : Nat) : Int)
        by_cases z : s = d
        · subst z
          rw [hc2]
          omega
        · rw [hc s hs z]
      · rw [if_neg hv] at hm
        rw [hm]
        obtain ⟨ks', ss', p1, p2, p3⟩ := dk_put (c' := fun r => ((cnt r old - cnt r (new.take (n + 1)) : Nat) : Int)) dk (by omega) hd' (fun s hs z => by
          show ((cnt s old - cnt s (new.take (n + 1)) : Nat) : Int) = ((cnt s old - cnt s (new.take n) : Nat) : Int)
          rw [hc s hs z])
        have hpos : (0 : Int) < ((cnt d old - cnt d (new.take n) : Nat) : Int) := by omega
        have g3 : o = some (.d (.int ((cnt d old - cnt d (new.take n) : Nat) : Int))) := g2.resolve_left fun z => by
          have := z.2
          omega
        subst g3
        have p1' : hPut (.dit ks) ss (kd d) (.d (.int (((cnt d old - cnt d (new.take n) : Nat) : Int) - 1))) = some (.dit ks', ss') := by
          have : ((cnt d old - cnt d (new.take n) : Nat) : Int) - 1 = ((cnt d old - cnt d (new.take (n + 1)) : Nat) : Int) := by
            rw [hc2]
            omega
          rw [this]
          exact p1
        exact ⟨_, _, rfl, .inl (bodyP sem_row_key A0 _ b4 _ _ _ ss ss' d (kd d) _ (rk_ok hw hd') g1 hpos p1'), ks', ss', _, _, rfl, p2, by omega⟩
  exact ⟨ks', ss', b3, b4, (mFor_of rfl).trans e⟩
theorem came_ok {w : Nat} (hw : w < 1000) {old new : List D} (ho : ∀ d ∈ old, Rw w d) (hn : ∀ d ∈ new, Rw w d) (hlo : old.length < 1000) (hln : new.length < 1000) :
    sem_came [.d (.lst old), .d (.lst new)] = some (.lst ((moreP old new new.length).map S.d), [.d (.lst old), .d (.lst new)]) := by
  obtain ⟨ks, ss, b3, b4, e1, dk, hs⟩ := loop1 hw (some (.d (.lst new))) none none none ho hlo
  obtain ⟨ks', ss', c3, c4, e2⟩ := loop2 hw (some (.d (.lst old))) b3 b4 hn hln hlo dk hs
  refine runB_rt rfl (m := b_came) (τ := [some (.d (.lst old)), some (.d (.lst new)), some (.nd (.dit ks') ss'), c3, c4, none]) ?_ rfl
  unfold b_came
  exact (seq_nx (τ1 := [some (.d (.lst old)), some (.d (.lst new)), some (.nd (.dit []) []), none, none, none]) rfl).trans ((seq_nx e1).trans ((seq_nx (τ1 := [some (.d (.lst old)), some (.d (.lst new)), some (.nd (.dit ks) ss), b3, b4, some (.lst [])]) rfl).trans ((seq_nx e2).trans rfl)))
end K38

namespace K38
open PySem PySem.Spec PyProof.Rows L2 Tr
theorem cut_take {α : Type} (xs : List α) (k : Nat) (h : k ≤ xs.length) : cut xs none (some (k : Int)) = xs.take k := by
  unfold cut
  rw [HT.sIx_nat, HT.sIx_none, List.drop_zero, Nat.sub_zero, Nat.min_eq_left h]
theorem bodyM (f : Sem1) (A0 A1 : Option S) (N O d pre : D) (fs : List S) (k a b : Int) (i1 : gIx (.d N) (.d (.int k)) = some (.d d)) (i2 : gSl (.d N) none (some k) = some pre) (c1 : f [.d d, .d pre] = some (.d (.int a), [.d d, .d pre])) (c2 : f [.d d, .d O] = some (.d (.int b), [.d d, .d O])) (hl : fs.length < 16777216) :
    (mIf (mTB (mBin true (gOrd .GtE) (mCallP f (maCons (mD (mBinS true gIx (mVar 1) (mVar 3))) (maCons (mSl true (mVar 1) moN (moS (mVar 3))) maNil))) (mCallP f (maCons (mD (mBinS true gIx (mVar 1) (mVar 3))) (maCons (mVarD 0) maNil))))) (mApp 2 (mD (mBinS true gIx (mVar 1) (mVar 3)))) mNx) [some (.d O), some (.d N), some (.lst fs), some (.d (.int k))] = some (.nx, [some (.d O), some (.d N), some (.lst (if b ≤ a then fs ++ [.d d] else fs)), some (.d (.int k))]) := by
  by_cases h : b ≤ a
  · simp [mC, mVar, mVarD, mD, mZ, m2, mBin, mBinS, mUn, maNil, maCons, mTup, mLstZ, mLst, moN, moS, mSl, mTru, mTB, mNotT, mAndT, mOrT, mAndV, mOrV, mNotV, mIfE, mNx, mSeq, mIf, mSet, mDrop, mRet, mRetN, mBk, mCt, mTake, mAsg, mAug, mgName, mgNil, mgCons, mgTup, mApp, mSetI, mAugI, mcNil, mcV, mcR, res, putB, mCall, mCallP, backS, Tr.startT, runB, mFz, S.isD, S.view, gII, Tr.gSub, gCmp, gLen, lenD, gInt, gAdd, gIAdd, gNeg, LIM, i1, i2, c1, c2, gOrd_int, TrO.cmpI, h, hl]
  · simp [mC, mVar, mVarD, mD, mZ, m2, mBin, mBinS, mUn, maNil, maCons, mTup, mLstZ, mLst, moN, moS, mSl, mTru, mTB, mNotT, mAndT, mOrT, mAndV, mOrV, mNotV, mIfE, mNx, mSeq, mIf, mSet, mDrop, mRet, mRetN, mBk, mCt, mTake, mAsg, mAug, mgName, mgNil, mgCons, mgTup, mApp, mSetI, mAugI, mcNil, mcV, mcR, res, putB, mCall, mCallP, backS, Tr.startT, runB, mFz, S.isD, S.view, gII, Tr.gSub, gCmp, gLen, lenD, gInt, gAdd, gIAdd, gNeg, LIM, i1, i2, c1, c2, gOrd_int, TrO.cmpI, h, hl]
theorem more_ok {w : Nat} (hw : w < 1000) {old new : List D} (ho : ∀ d ∈ old, Rw w d) (hn : ∀ d ∈ new, Rw w d) (hlo : old.length < 1000) (hln : new.length < 1000) :
    sem__law_more [.d (.lst old), .d (.lst new)] = some (.lst ((moreP old new new.length).map S.d), [.d (.lst old), .d (.lst new)]) := by
  obtain ⟨τ', e, b3, rfl⟩ := forM_inv2 (g := mgName 3) (mb := B1__law_more) (ds := rangeD 0 new.length) (fun n τ => ∃ b3, τ = [some (.d (.lst old)), some (.d (.lst new)), some (.lst ((moreP old new n).map S.d)), b3]) (τ := [some (.d (.lst old)), some (.d (.lst new)), some (.lst []), none]) ⟨none, rfl⟩ fun n d hd τ hI => by
    obtain ⟨b3, rfl⟩ := hI
    have hnl : n < new.length := by
      have := (List.getElem?_eq_some_iff.mp hd).1
      simpa [rangeD] using this
    have ed : d = .int (n : Int) := by
      unfold rangeD at hd
      rw [List.getElem?_map, List.getElem?_range hnl] at hd
      simp at hd
      exact hd.symm
    subst ed
    have hr := hn _ (List.getElem_mem hnl)
    have i1 : gIx (.d (.lst new)) (.d (.int (n : Int))) = some (.d new[n]) := by
      show (atI new (n : Int)).map S.d = _
      rw [atI_in (by omega) (by simpa using hnl)]
      rfl
    have i2 : gSl (.d (.lst new)) none (some (n : Int)) = some (.lst (new.take n)) := by
      show some (D.lst (cut new none (some (n : Int)))) = _
      rw [cut_take _ _ (by omega)]
    have c1 := count_ok hw (r := new[n]) (rs := new.take n) hr (fun x hx => hn x (List.mem_of_mem_take hx)) (by rw [List.length_take]; omega)
    have c2 := count_ok hw (r := new[n]) (rs := old) hr ho (by omega)
    have hlf : ((moreP old new n).map S.d).length < 16777216 := by
      have := moreP_len old new n
      rw [List.length_map]
      omega
    have eb := bodyM sem__law_count (some (.d (.lst old))) (some (.d (.lst new))) (.lst new) (.lst old) new[n] (.lst (new.take n)) _ n _ _ i1 i2 c1 c2 hlf
    have hm : moreP old new (n + 1) = if cnt new[n] old ≤ cnt new[n] (new.take n) then moreP old new n ++ [new[n]] else moreP old new n := by
      rw [moreP, List.getElem?_eq_getElem hnl]
    refine ⟨_, _, rfl, .inl eb, some (.d (.int (n : Int))), ?_⟩
    rw [hm]
    by_cases z : cnt new[n] old ≤ cnt new[n] (new.take n)
    · rw [if_pos z, if_pos (by omega), List.map_append]
      rfl
    · rw [if_neg z, if_neg (by omega)]
  have hr : (rangeD 0 new.length).length = new.length := by simp [rangeD]
  rw [hr] at e
  have em := mRange1_of (m := mUn gLen (mVar 1)) (τ := [some (.d (.lst old)), some (.d (.lst new)), some (.lst []), none]) (τ1 := [some (.d (.lst old)), some (.d (.lst new)), some (.lst []), none]) (j := (new.length : Int)) rfl (by omega) (by omega)
  rw [Int.toNat_natCast] at em
  refine runB_rt rfl (m := b__law_more) (τ := [some (.d (.lst old)), some (.d (.lst new)), none, b3]) ?_ rfl
  unfold b__law_more
  exact (seq_nx (τ1 := [some (.d (.lst old)), some (.d (.lst new)), some (.lst []), none]) rfl).trans ((seq_nx ((mFor_of em).trans e)).trans rfl)
/-! ### the same list -/
theorem bodyL (f : Sem1) (A C : D) (a : Int) (y2 : Option S) (h1 : gIs false (.d C) (.d .non) = some (.bl false)) (h2 : gIsi "bool" (.d C) = some (.bl false)) (h3 : gIsi "int" (.d C) = some (.bl false)) (h4 : gIsi "str" (.d C) = some (.bl false))
    (h5 : gIsi "tuple" (.d C) = some (.bl false)) (h6 : gIsi "list" (.d A) = some (.bl true)) (h7 : gIsi "list" (.d C) = some (.bl true)) (h8 : gLen (.d A) = some (.int a)) (h9 : gLen (.d C) = some (.int a))
    (eL : L1__law_same f [some (.d A), some (.d C), none] = some (.nx, [some (.d A), some (.d C), y2])) :
    runB [false, false] 3 (b__law_same f) [.d A, .d C] = some (.d (.bl true), [.d A, .d C]) := by
  simp [b__law_same, mC, mVar, mVarD, mD, mZ, m2, mBin, mBinS, mUn, maNil, maCons, mTup, mLstZ, mLst, moN, moS, mSl, mTru, mTB, mNotT, mAndT, mOrT, mAndV, mOrV, mNotV, mIfE, mNx, mSeq, mIf, mSet, mDrop, mRet, mRetN, mBk, mCt, mTake, mAsg, mAug, mgName, mgNil, mgCons, mgTup, mApp, mSetI, mAugI, mcNil, mcV, mcR, res, putB, mCall, mCallP, backS, Tr.startT, runB, mFz, S.isD, S.view, gII, Tr.gSub, gCmp, gIx, gInt, gAdd, gIAdd, gNeg, atI, ixN, LIM, truD, gEq_int, h1, h2, h3, h4, h5, h6, h7, h8, h9, eL]
theorem same_self (n : Nat) {xs : List D} (hl : xs.length < 10000) (h : ∀ x ∈ xs, sem__law_same n [.d x, .d x] = some (.d (.bl true), [.d x, .d x])) : sem__law_same (n + 1) [.d (.lst xs), .d (.lst xs)] = some (.d (.bl true), [.d (.lst xs), .d (.lst xs)]) := by
  obtain ⟨τ', e, b2, rfl⟩ := forM_inv2 (g := mgName 2) (mb := B1__law_same (sem__law_same n)) (ds := rangeD 0 xs.length) (fun k τ => ∃ b2, τ = [some (.d (.lst xs)), some (.d (.lst xs)), b2]) (τ := [some (.d (.lst xs)), some (.d (.lst xs)), none]) ⟨none, rfl⟩ fun k d hd τ hI => by
    obtain ⟨b2, rfl⟩ := hI
    have hnl : k < xs.length := by
      have := (List.getElem?_eq_some_iff.mp hd).1
      simpa [rangeD] using this
    have ed : d = .int (k : Int) := by
      unfold rangeD at hd
      rw [List.getElem?_map, List.getElem?_range hnl] at hd
      simp at hd
      exact hd.symm
    subst ed
    have i1 : gIx (.d (.lst xs)) (.d (.int (k : Int))) = some (.d xs[k]) := by
      show (atI xs (k : Int)).map S.d = _
      rw [atI_in (by omega) (by simpa using hnl)]
      rfl
    exact ⟨_, _, rfl, .inl (bodyS _ _ _ _ _ _ true i1 i1 (h _ (List.getElem_mem hnl))), _, rfl⟩
  have em := mRange1_of (m := mUn gLen (mVar 1)) (τ := [some (.d (.lst xs)), some (.d (.lst xs)), none]) (τ1 := [some (.d (.lst xs)), some (.d (.lst xs)), none]) (j := (xs.length : Int)) rfl (by omega) (by omega)
  rw [Int.toNat_natCast] at em
  exact bodyL (sem__law_same n) (.lst xs) (.lst xs) (xs.length : Int) b2 rfl rfl rfl rfl rfl rfl rfl rfl rfl ((mFor_of em).trans e)
theorem same_rows (n : Nat) {w : Nat} (hw : w < 1000) {xs : List D} (hl : xs.length < 10000) (h : ∀ x ∈ xs, Rw w x) : sem__law_same (n + 3) [.d (.lst xs), .d (.lst xs)] = some (.d (.bl true), [.d (.lst xs), .d (.lst xs)]) :=
  same_self (n + 2) hl fun x hx => by
    rw [same_rw n hw (h x hx) (h x hx), (smD_eq (h x hx) (h x hx)).mpr rfl]
/-! ### the balance -/
theorem cnt_more {w : Nat} {old new : List D} (hn : ∀ d ∈ new, Rw w d) {r : D} (hr : Rw w r) : ∀ n, n ≤ new.length → cnt r (moreP old new n) = cnt r (new.take n) - cnt r old
  | 0, _ => by simp [moreP, cnt]
  | n + 1, h => by
    have ih := cnt_more (old := old) hn hr n (by omega)
    have hnl : n < new.length := by omega
    have hd := hn _ (List.getElem_mem hnl)
    have et : new.take (n + 1) = new.take n ++ [new[n]] := by rw [List.take_add_one, List.getElem?_eq_getElem hnl]; rfl
    have c1 := cnt_snoc (new.take n) hd hr
    have c2 := cnt_snoc (moreP old new n) hd hr
    rw [et, moreP, List.getElem?_eq_getElem hnl]
    by_cases z : r = new[n]
    · have hs : smD new[n] r = true := (smD_eq hd hr).mpr z.symm
      rw [if_pos hs] at c1 c2
      show cnt r (if cnt new[n] old ≤ cnt new[n] (new.take n) then moreP old new n ++ [new[n]] else moreP old new n) = _
      rw [← z]
      rw [← z] at c1 c2
      by_cases q : cnt r old ≤ cnt r (new.take n)
      · rw [if_pos q]; omega
      · rw [if_neg q]; omega
    · have hs : ¬ smD new[n] r = true := fun q => z ((smD_eq hd hr).mp q).symm
      rw [if_neg hs] at c1 c2
      show cnt r (if cnt new[n] old ≤ cnt new[n] (new.take n) then moreP old new n ++ [new[n]] else moreP old new n) = _
      by_cases q : cnt new[n] old ≤ cnt new[n] (new.take n)
      · rw [if_pos q]; omega
      · rw [if_neg q]; omega
end K38

namespace K38
open PySem PySem.Spec PyProof.Rows L2 Tr
theorem bodyQ (f : Sem1) (A B C E r : D) (a b c d : Int) (c1 : f [.d r, .d A] = some (.d (.int a), [.d r, .d A])) (c2 : f [.d r, .d C] = some (.d (.int b), [.d r, .d C])) (c3 : f [.d r, .d B] = some (.d (.int c), [.d r, .d B])) (c4 : f [.d r, .d E] = some (.d (.int d), [.d r, .d E])) (h : a + b = c + d) (h2 : ¬ (0 < b ∧ 0 < d)) :
    (mSeq (mIf (mTB (mBin true (gEq true) (mBin true gAdd (mCallP f (maCons (mVarD 4) (maCons (mVarD 0) maNil))) (mCallP f (maCons (mVarD 4) (maCons (mVarD 2) maNil)))) (mBin true gAdd (mCallP f (maCons (mVarD 4) (maCons (mVarD 1) maNil))) (mCallP f (maCons (mVarD 4) (maCons (mVarD 3) maNil)))))) (mRet (mC (.bl false))) mNx)
 (mIf (mAndT (mTB (mBin true gGt (mCallP f (maCons (mVarD 4) (maCons (mVarD 2) maNil))) (mC (.int 0)))) (mTB (mBin true gGt (mCallP f (maCons (mVarD 4) (maCons (mVarD 3) maNil))) (mC (.int 0))))) (mRet (mC (.bl false))) mNx)) [some (.d A), some (.d B), some (.d C), some (.d E), some (.d r)] = some (.nx, [some (.d A), some (.d B), some (.d C), some (.d E), some (.d r)]) := by
  by_cases hb : 0 < b
  · have hd : ¬ 0 < d := fun z => h2 ⟨hb, z⟩
    simp [mC, mVar, mVarD, mD, mZ, m2, mBin, mBinS, mUn, maNil, maCons, mTup, mLstZ, mLst, moN, moS, mSl, mTru, mTB, mNotT, mAndT, mOrT, mAndV, mOrV, mNotV, mIfE, mNx, mSeq, mIf, mSet, mDrop, mRet, mRetN, mBk, mCt, mTake, mAsg, mAug, mgName, mgNil, mgCons, mgTup, mApp, mSetI, mAugI, mcNil, mcV, mcR, res, putB, mCall, mCallP, backS, Tr.startT, runB, mFz, S.isD, S.view, gII, Tr.gSub, gCmp, gIx, gLen, lenD, gInt, gAdd, gIAdd, gNeg, atI, ixN, LIM, c1, c2, c3, c4, gEq_int, h, hb, hd]
  · simp [mC, mVar, mVarD, mD, mZ, m2, mBin, mBinS, mUn, maNil, maCons, mTup, mLstZ, mLst, moN, moS, mSl, mTru, mTB, mNotT, mAndT, mOrT, mAndV, mOrV, mNotV, mIfE, mNx, mSeq, mIf, mSet, mDrop, mRet, mRetN, mBk, mCt, mTake, mAsg, mAug, mgName, mgNil, mgCons, mgTup, mApp, mSetI, mAugI, mcNil, mcV, mcR, res, putB, mCall, mCallP, backS, Tr.startT, runB, mFz, S.isD, S.view, gII, Tr.gSub, gCmp, gIx, gLen, lenD, gInt, gAdd, gIAdd, gNeg, atI, ixN, LIM, c1, c2, c3, c4, gEq_int, h, hb]
theorem balanced_ok {w : Nat} (hw : w < 1000) {old new : List D} (ho : ∀ d ∈ old, Rw w d) (hn : ∀ d ∈ new, Rw w d) (hlo : old.length < 1000) (hln : new.length < 1000) :
    sem__law_balanced [.d (.lst old), .d (.lst new), .d (.lst (moreP old new new.length)), .d (.lst (moreP new old old.length))] = some (.d (.bl true), [.d (.lst old), .d (.lst new), .d (.lst (moreP old new new.length)), .d (.lst (moreP new old old.length))]) := by
  have hm : ∀ (a b : List D), (∀ d ∈ b, Rw w d) → ∀ n, ∀ d ∈ moreP a b n, Rw w d := by
    intro a b hb n
    induction n with
    | zero => intro d h; simp [moreP] at h
    | succ n ih =>
      intro d h
      unfold moreP at h
      split at h
      · rename_i r e
        split at h
        · rcases List.mem_append.mp h with q | q
          · exact ih d q
          · rw [List.mem_singleton.mp q]
            exact hb r (List.mem_of_getElem? e)
        · exact ih d h
      · exact ih d h
  have l1 := moreP_len old new new.length
  have l2 := moreP_len new old old.length
  obtain ⟨τ', e, b4, rfl⟩ := forM_inv (g := mgName 4) (mb := B1__law_balanced) (fun τ => ∃ b4, τ = [some (.d (.lst old)), some (.d (.lst new)), some (.d (.lst (moreP old new new.length))), some (.d (.lst (moreP new old old.length))), b4]) (ds := old ++ new) (τ := [some (.d (.lst old)), some (.d (.lst new)), some (.d (.lst (moreP old new new.length))), some (.d (.lst (moreP new old old.length))), none]) ⟨none, rfl⟩ fun r hr τ hI => by
    obtain ⟨b4, rfl⟩ := hI
    have hr' : Rw w r := (List.mem_append.mp hr).elim (ho r) (hn r)
    have c1 := count_ok hw hr' ho (by omega)
    have c2 := count_ok hw hr' (hm old new hn new.length) (by omega)
    have c3 := count_ok hw hr' hn (by omega)
    have c4 := count_ok hw hr' (hm new old ho old.length) (by omega)
    have m1 := cnt_more (old := old) hn hr' new.length (Nat.le_refl _)
    have m2' := cnt_more (old := new) ho hr' old.length (Nat.le_refl _)
    rw [List.take_length] at m1 m2'
    exact ⟨_, _, rfl, bodyQ sem__law_count _ _ _ _ r _ _ _ _ c1 c2 c3 c4 (by omega) (by omega), _, rfl⟩
  have em : mItems (mBin true gAdd (mVar 0) (mVar 1)) [some (.d (.lst old)), some (.d (.lst new)), some (.d (.lst (moreP old new new.length))), some (.d (.lst (moreP new old old.length))), none] = some (old ++ new, [some (.d (.lst old)), some (.d (.lst new)), some (.d (.lst (moreP old new new.length))), some (.d (.lst (moreP new old old.length))), none]) := by
    have ha := gAdd_lst old new (by show _ ≤ 16777216; omega)
    generalize moreP old new new.length = a
    generalize moreP new old old.length = b
    exact mItems_of (d := .lst (old ++ new)) (by simp [mC, mVar, mVarD, mD, mZ, m2, mBin, mBinS, mUn, maNil, maCons, mTup, mLstZ, mLst, moN, moS, mSl, mTru, mTB, mNotT, mAndT, mOrT, mAndV, mOrV, mNotV, mIfE, mNx, mSeq, mIf, mSet, mDrop, mRet, mRetN, mBk, mCt, mTake, mAsg, mAug, mgName, mgNil, mgCons, mgTup, mApp, mSetI, mAugI, mcNil, mcV, mcR, res, putB, mCall, mCallP, backS, Tr.startT, runB, mFz, S.isD, S.view, gII, Tr.gSub, gCmp, gIx, gLen, lenD, gInt, gIAdd, gNeg, atI, ixN, LIM, ha]) rfl
  refine runB_rt rfl (m := b__law_balanced) (τ := [some (.d (.lst old)), some (.d (.lst new)), some (.d (.lst (moreP old new new.length))), some (.d (.lst (moreP new old old.length))), b4]) ?_ rfl
  unfold b__law_balanced
  exact (seq_nx ((mFor_of em).trans e)).trans rfl
/-! ### what is drawn -/
def Kinds : List D := [.str "integer", .str "text", .str "boolean"]
theorem k_ib : gEq false (.d (.str "integer")) (.d (.str "boolean")) = some (.bl false) := by with_unfolding_all rfl
theorem k_ii : gEq false (.d (.str "integer")) (.d (.str "integer")) = some (.bl true) := by with_unfolding_all rfl
theorem k_tb : gEq false (.d (.str "text")) (.d (.str "boolean")) = some (.bl false) := by with_unfolding_all rfl
theorem k_ti : gEq false (.d (.str "text")) (.d (.str "integer")) = some (.bl false) := by with_unfolding_all rfl
theorem k_bb : gEq false (.d (.str "boolean")) (.d (.str "boolean")) = some (.bl true) := by with_unfolding_all rfl
theorem pick9 (v : Int) (h0 : 0 ≤ v) (h9 : v < 9) : ∃ z : Str, PyData.strOk z = true ∧ z.length ≤ 5 ∧ gIx (.d (.lst [.str "", .str "a", .str "b", .str "ab", .str "B", .str "None", .str "True", .str "1", .str "-3"])) (.d (.int v)) = some (.d (.str z)) := by
  have : v = 0 ∨ v = 1 ∨ v = 2 ∨ v = 3 ∨ v = 4 ∨ v = 5 ∨ v = 6 ∨ v = 7 ∨ v = 8 := by omega
  rcases this with rfl | rfl | rfl | rfl | rfl | rfl | rfl | rfl | rfl
  · exact ⟨"", by decide +kernel, by decide +kernel, rfl⟩
  · exact ⟨"a", by decide +kernel, by decide +kernel, rfl⟩
  · exact ⟨"b", by decide +kernel, by decide +kernel, rfl⟩
  · exact ⟨"ab", by decide +kernel, by decide +kernel, rfl⟩
  · exact ⟨"B", by decide +kernel, by decide +kernel, rfl⟩
  · exact ⟨"None", by decide +kernel, by decide +kernel, rfl⟩
  · exact ⟨"True", by decide +kernel, by decide +kernel, rfl⟩
  · exact ⟨"1", by decide +kernel, by decide +kernel, rfl⟩
  · exact ⟨"-3", by decide +kernel, by decide +kernel, rfl⟩
theorem value_ok (x : Nx) (hx : x.ok) {k : D} (hk : k ∈ Kinds) : ∃ d x', Nx.ok x' ∧ Pl d ∧ sem__law_value [x.S, .d k] = some (.d d, [x'.S, .d k]) := by
  obtain ⟨v1, x1, ok1, _, l1, l2, e1⟩ := next_ok x hx (lim := 5) (by decide) (by decide)
  by_cases h5 : v1 = 0
  · exact ⟨.non, x1, ok1, .inl rfl, by simp [sem__law_value, b__law_value, mC, mVar, mVarD, mD, mZ, m2, mBin, mBinS, mUn, maNil, maCons, mTup, mLstZ, mLst, moN, moS, mSl, mTru, mTB, mNotT, mAndT, mOrT, mAndV, mOrV, mNotV, mIfE, mNx, mSeq, mIf, mSet, mDrop, mRet, mRetN, mBk, mCt, mTake, mAsg, mAug, mgName, mgNil, mgCons, mgTup, mApp, mSetI, mAugI, mcNil, mcV, mcR, res, putB, mCall, mCallP, backS, Tr.startT, runB, mFz, S.isD, S.view, gII, Tr.gSub, gCmp, gIx, gLen, lenD, gInt, gAdd, gIAdd, gNeg, atI, ixN, LIM, e1, gEq_int, h5]⟩
  · simp only [Kinds, List.mem_cons, List.not_mem_nil, or_false] at hk
    rcases hk with rfl | rfl | rfl
    · obtain ⟨v3, x3, ok3, _, l5, l6, e3⟩ := next_ok x1 ok1 (lim := 4) (by decide) (by decide)
      have h6 : ∃ L : Int, (L = 4 ∨ L = 10 ^ 40) ∧ gIx (.d (.lst [.int 4, .int 4, .int 4, .int 10000000000000000000000000000000000000000])) (.d (.int v3)) = some (.d (.int L)) := by
        have : v3 = 0 ∨ v3 = 1 ∨ v3 = 2 ∨ v3 = 3 := by omega
        rcases this with rfl | rfl | rfl | rfl
        · exact ⟨4, .inl rfl, rfl⟩
        · exact ⟨4, .inl rfl, rfl⟩
        · exact ⟨4, .inl rfl, rfl⟩
        · exact ⟨_, .inr rfl, rfl⟩
      obtain ⟨L, hL, e4⟩ := h6
      obtain ⟨v5, x5, ok5, _, l7, l8, e5⟩ := next_ok x3 ok3 (lim := L) (by omega) (by rcases hL with rfl | rfl <;> decide)
      obtain ⟨v2, x2, ok2, _, l3, l4, e2⟩ := next_ok x5 ok5 (lim := 2) (by decide) (by decide)
      have hv5 : v5.natAbs < 2 ^ 250 := Nat.lt_of_lt_of_le (m := 10 ^ 40) (by rcases hL with rfl | rfl <;> omega) (by decide)
      have m1 : mulOk 2 v2 = true := mulOk_of (a := 10) (b := 10) (by decide) (by omega) (by decide) (by decide) (by decide)
      have m2' : mulOk v5 (1 - 2 * v2) = true := mulOk_of (a := 250) (b := 10) hv5 (by omega) (by decide) (by decide) (by decide)
      exact ⟨.int (v5 * (1 - 2 * v2)), x2, ok2, .inr (.inr (.inl ⟨_, rfl⟩)), by simp [sem__law_value, b__law_value, mC, mVar, mVarD, mD, mZ, m2, mBin, mBinS, mUn, maNil, maCons, mTup, mLstZ, mLst, moN, moS, mSl, mTru, mTB, mNotT, mAndT, mOrT, mAndV, mOrV, mNotV, mIfE, mNx, mSeq, mIf, mSet, mDrop, mRet, mRetN, mBk, mCt, mTake, mAsg, mAug, mgName, mgNil, mgCons, mgTup, mApp, mSetI, mAugI, mcNil, mcV, mcR, res, putB, mCall, mCallP, backS, Tr.startT, runB, mFz, S.isD, S.view, gII, Tr.gSub, gCmp, gLen, lenD, gInt, gAdd, gIAdd, gNeg, LIM, e1, e2, e3, powOk, e4, e5, gEq_int, h5, k_ib, k_ii, m1, m2']⟩
    · obtain ⟨v2, x2, ok2, _, l3, l4, e2⟩ := next_ok x1 ok1 (lim := 9) (by decide) (by decide)
      obtain ⟨z, hz, hzl, p9⟩ := pick9 v2 l3 l4
      obtain ⟨v3, x3, ok3, _, l5, l6, e3⟩ := next_ok x2 ok2 (lim := 5) (by decide) (by decide)
      by_cases h3 : v3 = 0
      · obtain ⟨v4, x4, ok4, _, l7, l8, e4⟩ := next_ok x3 ok3 (lim := 95) (by decide) (by decide)
        obtain ⟨c, ⟨u, hu, rfl⟩, e8⟩ := char_ok v4
        have hadd := gAdd_str z ⟨#[u]⟩ (by show z.length + 1 ≤ 16777216; omega)
        exact ⟨.str (z ++ ⟨#[u]⟩), x4, ok4, .inr (.inr (.inr ⟨_, strOk_app hz (ch_ok hu), rfl⟩)), by simp [sem__law_value, b__law_value, mC, mVar, mVarD, mD, mZ, m2, mBin, mBinS, mUn, maNil, maCons, mTup, mLstZ, mLst, moN, moS, mSl, mTru, mTB, mNotT, mAndT, mOrT, mAndV, mOrV, mNotV, mIfE, mNx, mSeq, mIf, mSet, mDrop, mRet, mRetN, mBk, mCt, mTake, mAsg, mAug, mgName, mgNil, mgCons, mgTup, mApp, mSetI, mAugI, mcNil, mcV, mcR, res, putB, mCall, mCallP, backS, Tr.startT, runB, mFz, S.isD, S.view, gII, Tr.gSub, gCmp, gLen, lenD, gInt, gIAdd, gNeg, LIM, e1, e2, p9, e3, e4, e8, hadd, gEq_int, h5, h3, k_tb, k_ti]⟩
      · exact ⟨.str z, x3, ok3, .inr (.inr (.inr ⟨_, hz, rfl⟩)), by simp [sem__law_value, b__law_value, mC, mVar, mVarD, mD, mZ, m2, mBin, mBinS, mUn, maNil, maCons, mTup, mLstZ, mLst, moN, moS, mSl, mTru, mTB, mNotT, mAndT, mOrT, mAndV, mOrV, mNotV, mIfE, mNx, mSeq, mIf, mSet, mDrop, mRet, mRetN, mBk, mCt, mTake, mAsg, mAug, mgName, mgNil, mgCons, mgTup, mApp, mSetI, mAugI, mcNil, mcV, mcR, res, putB, mCall, mCallP, backS, Tr.startT, runB, mFz, S.isD, S.view, gII, Tr.gSub, gCmp, gLen, lenD, gInt, gIAdd, gNeg, LIM, e1, e2, p9, e3, gEq_int, h5, h3, k_tb, k_ti]⟩
    · obtain ⟨v2, x2, ok2, _, l3, l4, e2⟩ := next_ok x1 ok1 (lim := 2) (by decide) (by decide)
      exact ⟨.bl (decide (v2 = 1)), x2, ok2, .inr (.inl ⟨_, rfl⟩), by simp [sem__law_value, b__law_value, mC, mVar, mVarD, mD, mZ, m2, mBin, mBinS, mUn, maNil, maCons, mTup, mLstZ, mLst, moN, moS, mSl, mTru, mTB, mNotT, mAndT, mOrT, mAndV, mOrV, mNotV, mIfE, mNx, mSeq, mIf, mSet, mDrop, mRet, mRetN, mBk, mCt, mTake, mAsg, mAug, mgName, mgNil, mgCons, mgTup, mApp, mSetI, mAugI, mcNil, mcV, mcR, res, putB, mCall, mCallP, backS, Tr.startT, runB, mFz, S.isD, S.view, gII, Tr.gSub, gCmp, gIx, gLen, lenD, gInt, gAdd, gIAdd, gNeg, atI, ixN, LIM, e1, e2, gEq_int, h5, k_bb]⟩
end K38

namespace K38
open PySem PySem.Spec PyProof.Rows L2 Tr
theorem pickK (v : Int) (h0 : 0 ≤ v) (h3 : v < 3) : ∃ k, k ∈ Kinds ∧ gIx (.d (.lst [.str "integer", .str "text", .str "boolean"])) (.d (.int v)) = some (.d k) := by
  have : v = 0 ∨ v = 1 ∨ v = 2 := by omega
  rcases this with rfl | rfl | rfl
  · exact ⟨_, by simp [Kinds], rfl⟩
  · exact ⟨.str "text", by simp [Kinds], rfl⟩
  · exact ⟨.str "boolean", by simp [Kinds], rfl⟩
theorem ret_tup (c : M (List D)) (σ τ : Sl) (xs : List D) (h : c σ = some (xs, τ)) : mRet (mUn gTupOf (mLC c)) σ = some (.rt (.d (.tup xs)), τ) := by
  unfold mRet mUn mLC
  rw [h]
  rfl
theorem elt_ok (f1 f2 : Sem1) (a b : S) (X0 X1 X2 : S) (k v : D) (L : List D) (v1 : Int) (e1 : f1 [X0, .d (.int 3)] = some (.d (.int v1), [X1, .d (.int 3)])) (ek : gIx (.d (.lst L)) (.d (.int v1)) = some (.d k)) (ev : f2 [X1, .d k] = some (.d v, [X2, .d k])) :
    (mZ (mCall f2 (mcR 0 (mcV (mD (mBinS false gIx (mC (.lst L)) (mCall f1 (mcR 0 (mcV (mC (.int 3)) mcNil))))) mcNil)))) [some X0, some a, some b] = some (.d v, [some X2, some a, some b]) := by
  simp [mC, mVar, mVarD, mD, mZ, m2, mBin, mBinS, mUn, maNil, maCons, mTup, mLstZ, mLst, moN, moS, mSl, mTru, mTB, mNotT, mAndT, mOrT, mAndV, mOrV, mNotV, mIfE, mNx, mSeq, mIf, mSet, mDrop, mRet, mRetN, mBk, mCt, mTake, mAsg, mAug, mgName, mgNil, mgCons, mgTup, mApp, mSetI, mAugI, mcNil, mcV, mcR, res, putB, mCall, mCallP, backS, Tr.startT, runB, mFz, S.isD, S.view, gII, Tr.gSub, gCmp, gLen, lenD, gInt, gAdd, gIAdd, gNeg, LIM, e1, ek, ev]
theorem drawn_ok (x : Nx) (hx : x.ok) {w : Nat} (hw : w < 1000) : ∃ d x', Nx.ok x' ∧ Rw w d ∧ sem__law_drawn_row [x.S, .d (.int (w : Int))] = some (.d d, [x'.S, .d (.int (w : Int))]) := by
  obtain ⟨xs, τ', ec, ⟨y, oky, rfl⟩, hl, hp⟩ := compM_inv (g := mgName 2) (mt := mYes) (me := E1__law_drawn_row) (vs := [2]) (fun τ => ∃ y : Nx, y.ok ∧ τ = [some y.S, some (.d (.int (w : Int))), none]) Pl (ds := rangeD 0 w) (τ := [some x.S, some (.d (.int (w : Int))), none]) ⟨x, hx, rfl⟩ fun d hd τ hI => by
    obtain ⟨y, oky, rfl⟩ := hI
    obtain ⟨v1, y1, ok1, _, l1, l2, e1⟩ := next_ok y oky (lim := 3) (by decide) (by decide)
    obtain ⟨k, hk, ek⟩ := pickK v1 l1 l2
    obtain ⟨v, y2, ok2, hv, ev⟩ := value_ok y1 ok1 hk
    refine ⟨_, _, [some y2.S, some (.d (.int (w : Int))), some (.d d)], v, rfl, rfl, ?_, hv, y2, ok2, rfl⟩
    exact elt_ok sem__law_next sem__law_value _ _ _ _ _ k v [.str "integer", .str "text", .str "boolean"] v1 e1 ek ev
  have hr : (rangeD 0 w).length = w := by simp [rangeD]
  have em := mRange1_of (m := mVarD 1) (τ := [some x.S, some (.d (.int (w : Int))), none]) (τ1 := [some x.S, some (.d (.int (w : Int))), none]) (j := (w : Int)) rfl (by omega) (by omega)
  rw [Int.toNat_natCast] at em
  have e3 : C1__law_drawn_row [some x.S, some (.d (.int (w : Int))), none] = some (xs, [some y.S, some (.d (.int (w : Int))), none]) :=
    mComp_of em rfl rfl (by rw [hr]; exact Nat.lt_trans hw (by decide)) ec
  exact ⟨.tup xs, y, oky, ⟨xs, rfl, by rw [hl, hr], hp⟩, runB_rt rfl (m := b__law_drawn_row) (ret_tup C1__law_drawn_row _ _ _ e3) rfl⟩
theorem glen_own (rs : List D) : gLen (.lst (rs.map S.d)) = some (.int rs.length) := by
  unfold gLen
  rw [S.view_lst]
  simp [lenD]
theorem view_own (rs : List D) : (S.lst (rs.map S.d)).view = .lst rs := by
  rw [S.view_lst, List.map_map]
  congr 1
  exact (List.map_congr_left fun d _ => rfl).trans (List.map_id rs)
theorem ins_ok (x : Nx) (hx : x.ok) (O : Option S) (b4 : Option S) {ns : List D} (hn : ns.length < 5000) (d : D) : ∃ y v, Nx.ok y ∧ B1__law_turned [some x.S, O, some (.lst (ns.map S.d)), some (.d d), b4] = some (.nx, [some y.S, O, some (.lst ((ns.take v ++ [d] ++ ns.drop v).map S.d)), some (.d d), b4]) := by
  obtain ⟨v1, y, ok1, _, l1, l2, e1⟩ := next_ok x hx (lim := (ns.length : Int) + 1) (by omega) (Nat.lt_of_lt_of_le (m := 10000) (by omega) (by decide))
  have gl := glen_own ns
  refine ⟨y, v1.toNat, ok1, ?_⟩
  have hi : (mZ (mCall sem__law_next (mcR 0 (mcV (mBin true gAdd (mUn gLen (mVar 2)) (mC (.int 1))) mcNil)))) [some x.S, O, some (.lst (ns.map S.d)), some (.d d), b4] = some (.d (.int v1), [some y.S, O, some (.lst (ns.map S.d)), some (.d d), b4]) := by
    generalize S.lst (ns.map S.d) = R at gl ⊢
    generalize (ns.length : Int) = n at gl e1
    simp [mC, mVar, mVarD, mD, mZ, m2, mBin, mBinS, mUn, maNil, maCons, mTup, mLstZ, mLst, moN, moS, mSl, mTru, mTB, mNotT, mAndT, mOrT, mAndV, mOrV, mNotV, mIfE, mNx, mSeq, mIf, mSet, mDrop, mRet, mRetN, mBk, mCt, mTake, mAsg, mAug, mgName, mgNil, mgCons, mgTup, mApp, mSetI, mAugI, mcNil, mcV, mcR, res, putB, mCall, mCallP, backS, Tr.startT, runB, mFz, S.isD, S.view, gII, Tr.gSub, gCmp, gIx, gInt, gAdd, gIAdd, gNeg, atI, ixN, LIM, gl, e1]
  unfold B1__law_turned mIns
  show (match (mZ (mCall sem__law_next (mcR 0 (mcV (mBin true gAdd (mUn gLen (mVar 2)) (mC (.int 1))) mcNil)))) [some x.S, O, some (.lst (ns.map S.d)), some (.d d), b4] with | some (.d (.int i), τ1) => _ | _ => none) = _
  rw [hi]
  show (if (ns.map S.d).length < LIM ∧ 0 ≤ v1 ∧ v1 < 2 ^ 62 then _ else none) = _
  rw [if_pos ⟨by rw [List.length_map]; show ns.length < 16777216; omega, l1, by omega⟩]
  rw [List.map_append, List.map_append, List.map_take, List.map_drop]
  rfl
theorem pick4 (v : Int) (h0 : 0 ≤ v) (h4 : v < 4) : ∃ k : Nat, k ≤ 2 ∧ gIx (.d (.lst [.int 1, .int 1, .int 2, .int 0])) (.d (.int v)) = some (.d (.int (k : Int))) := by
  have : v = 0 ∨ v = 1 ∨ v = 2 ∨ v = 3 := by omega
  rcases this with rfl | rfl | rfl | rfl
  · exact ⟨1, by decide, rfl⟩
  · exact ⟨1, by decide, rfl⟩
  · exact ⟨2, by decide, rfl⟩
  · exact ⟨0, by decide, rfl⟩
theorem inner_ok (x : Nx) (hx : x.ok) (O b4 : Option S) {w : Nat} {ns : List D} (hn : ns.length < 1000) (hns : ∀ d ∈ ns, Rw w d) {d : D} (hd : Rw w d) : ∃ y ns' c4, Nx.ok y ∧ (∀ d ∈ ns', Rw w d) ∧ ns'.length ≤ ns.length + 2 ∧ L1__law_turned [some x.S, O, some (.lst (ns.map S.d)), some (.d d), b4] = some (.nx, [some (Nx.S y), O, some (.lst (List.map S.d ns')), some (.d d), c4]) := by
  obtain ⟨v1, x1, ok1, _, l1, l2, e1⟩ := next_ok x hx (lim := 4) (by decide) (by decide)
  obtain ⟨k, hk, ek⟩ := pick4 v1 l1 l2
  obtain ⟨τ', e, y, ns', c4, oky, h1, h2, rfl⟩ := forM_inv2 (g := mgName 4) (mb := B1__law_turned) (ds := rangeD 0 k) (fun n τ => ∃ y ns' c4, Nx.ok y ∧ (∀ d ∈ ns', Rw w d) ∧ ns'.length ≤ ns.length + n ∧ τ = [some (Nx.S y), O, some (.lst (List.map S.d ns')), some (.d d), c4]) (τ := [some x1.S, O, some (.lst (ns.map S.d)), some (.d d), b4]) ⟨x1, ns, b4, ok1, hns, by omega, rfl⟩ fun n i hi τ hI => by
    obtain ⟨y, ns', c4, oky, h1, h2, rfl⟩ := hI
    have hnl : n < k := by
      have := (List.getElem?_eq_some_iff.mp hi).1
      simpa [rangeD] using this
    obtain ⟨y2, v, ok2, e2⟩ := ins_ok y oky O (some (.d i)) (ns := ns') (by omega) d
    refine ⟨_, _, rfl, .inl e2, y2, _, _, ok2, fun z hz => ?_, ?_, rfl⟩
    · rcases List.mem_append.mp hz with m | m
      · rcases List.mem_append.mp m with m | m
        · exact h1 z (List.mem_of_mem_take m)
        · rw [List.mem_singleton.mp m]; exact hd
      · exact h1 z (List.mem_of_mem_drop m)
    · rw [List.length_append, List.length_append, List.length_take, List.length_drop, List.length_singleton]
      omega
  have hr : (rangeD 0 k).length = k := by simp [rangeD]
  rw [hr] at h2
  have hi : (mD (mBinS false gIx (mLstZ (maCons (mC (.int 1)) (maCons (mC (.int 1)) (maCons (mC (.int 2)) (maCons (mC (.int 0)) maNil))))) (mCall sem__law_next (mcR 0 (mcV (mC (.int 4)) mcNil))))) [some x.S, O, some (.lst (ns.map S.d)), some (.d d), b4] = some (.d (.int (k : Int)), [some x1.S, O, some (.lst (ns.map S.d)), some (.d d), b4]) := by
    generalize S.lst (ns.map S.d) = R
    simp [mC, mVar, mVarD, mD, mZ, m2, mBin, mBinS, mUn, maNil, maCons, mTup, mLstZ, mLst, moN, moS, mSl, mTru, mTB, mNotT, mAndT, mOrT, mAndV, mOrV, mNotV, mIfE, mNx, mSeq, mIf, mSet, mDrop, mRet, mRetN, mBk, mCt, mTake, mAsg, mAug, mgName, mgNil, mgCons, mgTup, mApp, mSetI, mAugI, mcNil, mcV, mcR, res, putB, mCall, mCallP, backS, Tr.startT, runB, mFz, S.isD, S.view, gII, Tr.gSub, gCmp, gLen, lenD, gInt, gAdd, gIAdd, gNeg, LIM, e1, ek]
  have em := mRange1_of hi (by omega) (by omega)
  rw [Int.toNat_natCast] at em
  exact ⟨y, ns', c4, oky, h1, by omega, (mFor_of em).trans e⟩
theorem turned_ok (x : Nx) (hx : x.ok) {w : Nat} {old : List D} (ho : ∀ d ∈ old, Rw w d) (hl : old.length < 100) : ∃ y ns, Nx.ok y ∧ (∀ d ∈ ns, Rw w d) ∧ ns.length ≤ 2 * old.length ∧ sem__law_turned [x.S, .d (.lst old)] = some (.lst (List.map S.d ns), [Nx.S y, .d (.lst old)]) := by
  obtain ⟨τ', e, y, ns, b3, b4, oky, h1, h2, rfl⟩ := forM_inv2 (g := mgName 3) (mb := B2__law_turned) (ds := old) (fun n τ => ∃ y ns b3 b4, Nx.ok y ∧ (∀ d ∈ ns, Rw w d) ∧ ns.length ≤ 2 * n ∧ τ = [some (Nx.S y), some (.d (.lst old)), some (.lst (List.map S.d ns)), b3, b4]) (τ := [some x.S, some (.d (.lst old)), some (.lst []), none, none]) ⟨x, [], none, none, hx, by simp, by simp, rfl⟩ fun n d hd τ hI => by
    obtain ⟨y, ns, b3, b4, oky, h1, h2, rfl⟩ := hI
    have hnl : n < old.length := (List.getElem?_eq_some_iff.mp hd).1
    obtain ⟨y2, ns', c4, ok2, g1, g2, e2⟩ := inner_ok y oky (some (.d (.lst old))) b4 (w := w) (ns := ns) (by omega) h1 (ho d (List.mem_of_getElem? hd))
    exact ⟨_, _, rfl, .inl e2, y2, ns', _, _, ok2, g1, by omega, rfl⟩
  refine ⟨y, ns, oky, h1, h2, runB_rt rfl (m := b__law_turned) (τ := [some y.S, some (.d (.lst old)), none, b3, b4]) ?_ rfl⟩
  unfold b__law_turned
  exact (seq_nx (τ1 := [some x.S, some (.d (.lst old)), some (.lst []), none, none]) rfl).trans ((seq_nx ((mFor_of rfl).trans e)).trans rfl)
end K38

namespace K38
open PySem PySem.Spec PyProof.Rows L2 Tr
theorem went_gen (f : Sem1) (a b : D) (s : S) (t : List S) (h : f [.d b, .d a] = some (s, t)) : runB [false, false] 2 (mRet (mCallP f (maCons (mVarD 1) (maCons (mVarD 0) maNil)))) [.d a, .d b] = some (s, [.d a, .d b]) := by
  simp [mC, mVar, mVarD, mD, mZ, m2, mBin, mBinS, mUn, maNil, maCons, mTup, mLstZ, mLst, moN, moS, mSl, mTru, mTB, mNotT, mAndT, mOrT, mAndV, mOrV, mNotV, mIfE, mNx, mSeq, mIf, mSet, mDrop, mRet, mRetN, mBk, mCt, mTake, mAsg, mAug, mgName, mgNil, mgCons, mgTup, mApp, mSetI, mAugI, mcNil, mcV, mcR, res, putB, mCall, mCallP, backS, Tr.startT, runB, mFz, S.isD, S.view, gII, Tr.gSub, gCmp, gIx, gLen, lenD, gInt, gAdd, gIAdd, gNeg, atI, ixN, LIM, h]
theorem em_gen (f : Sem1) (sc W a3 a5 : Option S) (X X1 : S) (n : Int) (e1 : f [X, .d (.int 10)] = some (.d (.int n), [X1, .d (.int 10)])) (h0 : 0 ≤ n) (h1 : n < 10) : mRange1 (mZ (mCall f (mcR 1 (mcV (mC (.int 10)) mcNil)))) [sc, some X, W, a3, none, a5, none, none, none] = some (rangeD 0 n.toNat, [sc, some X1, W, a3, none, a5, none, none, none]) :=
  mRange1_of (j := n) (by simp [mC, mVar, mVarD, mD, mZ, m2, mBin, mBinS, mUn, maNil, maCons, mTup, mLstZ, mLst, moN, moS, mSl, mTru, mTB, mNotT, mAndT, mOrT, mAndV, mOrV, mNotV, mIfE, mNx, mSeq, mIf, mSet, mDrop, mRet, mRetN, mBk, mCt, mTake, mAsg, mAug, mgName, mgNil, mgCons, mgTup, mApp, mSetI, mAugI, mcNil, mcV, mcR, res, putB, mCall, mCallP, backS, Tr.startT, runB, mFz, S.isD, S.view, gII, Tr.gSub, gCmp, gIx, gLen, lenD, gInt, gAdd, gIAdd, gNeg, atI, ixN, LIM, e1]) (by omega) (by omega)
theorem el_gen (f : Sem1) (sc a3 a5 k : Option S) (X Y : S) (W v : D) (ev : f [X, .d W] = some (.d v, [Y, .d W])) : mZ (mCall f (mcR 1 (mcV (mVarD 2) mcNil))) [sc, some X, some (.d W), a3, k, a5, none, none, none] = some (.d v, [sc, some Y, some (.d W), a3, k, a5, none, none, none]) := by
  simp [mC, mVar, mVarD, mD, mZ, m2, mBin, mBinS, mUn, maNil, maCons, mTup, mLstZ, mLst, moN, moS, mSl, mTru, mTB, mNotT, mAndT, mOrT, mAndV, mOrV, mNotV, mIfE, mNx, mSeq, mIf, mSet, mDrop, mRet, mRetN, mBk, mCt, mTake, mAsg, mAug, mgName, mgNil, mgCons, mgTup, mApp, mSetI, mAugI, mcNil, mcV, mcR, res, putB, mCall, mCallP, backS, Tr.startT, runB, mFz, S.isD, S.view, gII, Tr.gSub, gCmp, gIx, gLen, lenD, gInt, gAdd, gIAdd, gNeg, atI, ixN, LIM, ev]
theorem rows_ok (sc a3 a5 : Option S) {W : D} {w : Nat} (hW : W = .int (w : Int)) (hw : w < 1000) (x : Nx) (hx : x.ok) : ∃ rs y, mComp 9 (mRange1 (mZ (mCall sem__law_next (mcR 1 (mcV (mC (.int 10)) mcNil))))) (mgName 4) mYes (mZ (mCall sem__law_drawn_row (mcR 1 (mcV (mVarD 2) mcNil)))) [4] [sc, some x.S, some (.d W), a3, none, a5, none, none, none] = some (rs, [sc, some (Nx.S y), some (.d W), a3, none, a5, none, none, none]) ∧ y.ok ∧ (∀ d ∈ rs, Rw w d) ∧ rs.length < 10 := by
  obtain ⟨n, x1, ok1, _, l1, l2, e1⟩ := next_ok x hx (lim := 10) (by decide) (by decide)
  have hdr : ∀ y : Nx, y.ok → ∃ d x', Nx.ok x' ∧ Rw w d ∧ sem__law_drawn_row [y.S, .d W] = some (.d d, [x'.S, .d W]) := fun y hy => by
    rw [hW]
    exact drawn_ok y hy hw
  clear hW
  obtain ⟨rs, τ', ec, ⟨y, oky, rfl⟩, hl, hp⟩ := compM_inv (g := mgName 4) (mt := mYes) (me := mZ (mCall sem__law_drawn_row (mcR 1 (mcV (mVarD 2) mcNil)))) (vs := [4]) (fun τ => ∃ y : Nx, y.ok ∧ τ = [sc, some y.S, some (.d W), a3, none, a5, none, none, none]) (Rw w) (ds := rangeD 0 n.toNat) (τ := [sc, some x1.S, some (.d W), a3, none, a5, none, none, none]) ⟨x1, ok1, rfl⟩ fun d hd τ hI => by
    obtain ⟨y, oky, rfl⟩ := hI
    obtain ⟨v, y2, ok2, hv, ev⟩ := hdr y oky
    exact ⟨_, _, [sc, some y2.S, some (.d W), a3, some (.d d), a5, none, none, none], v, rfl, rfl, el_gen _ sc a3 a5 _ _ _ W v ev, hv, y2, ok2, rfl⟩
  have hr : (rangeD 0 n.toNat).length = n.toNat := by simp [rangeD]
  refine ⟨rs, y, ?_, oky, hp, by omega⟩
  exact mComp_of (em_gen _ sc (some (.d W)) a3 a5 _ _ n e1 l1 l2) rfl rfl (by rw [hr]; show n.toNat < 16777216; omega) ec
theorem gAdd_own (a b : List D) (h : a.length + b.length ≤ LIM) : gAdd (.lst (a.map S.d)) (.d (.lst b)) = some (.lst (a ++ b)) := by
  show (match (S.lst (a.map S.d)).dl, (some b : Option (List D)) with | some xs, some ys => if xs.length + ys.length ≤ LIM then some (D.lst (xs ++ ys)) else none | _, _ => none) = _
  rw [dl_map]
  show (if a.length + b.length ≤ LIM then some (D.lst (a ++ b)) else none) = _
  rw [if_pos h]
theorem tview (x : D) : (S.d x).view = x := rfl
theorem step9 (f g : Sem1) (a0 a1 a2 a4 a6 : Option S) (O N M E : D) (m e mo eo : S) (hm : m.view = M) (he : e.view = E) (g1 : g [.d O, .d N] = some (mo, [.d O, .d N])) (h1 : mo.view = M) (g2 : g [.d N, .d O] = some (eo, [.d N, .d O])) (h2 : eo.view = E) (f1 : f [.d M, .d M] = some (.d (.bl true), [.d M, .d M])) (f2 : f [.d E, .d E] = some (.d (.bl true), [.d E, .d E])) :
    (mIf (mOrT (mNotT (mTru (mCallV f (mvCons (mVar 7) (mvCons (mCallP g (maCons (mVarD 3) (maCons (mVarD 5) maNil))) maNil))))) (mNotT (mTru (mCallV f (mvCons (mVar 8) (mvCons (mCallP g (maCons (mVarD 5) (maCons (mVarD 3) maNil))) maNil)))))) (mRet (mC (.bl false))) mNx) [a0, a1, a2, some (.d O), a4, some (.d N), a6, some m, some e] = some (.nx, [a0, a1, a2, some (.d O), a4, some (.d N), a6, some m, some e]) := by
  simp [mC, mVar, mVarD, mD, mZ, m2, mBin, mBinS, mUn, maNil, maCons, mTup, mLstZ, mLst, moN, moS, mSl, mTru, mTB, mNotT, mAndT, mOrT, mAndV, mOrV, mNotV, mIfE, mNx, mSeq, mIf, mSet, mDrop, mRet, mRetN, mBk, mCt, mTake, mAsg, mAug, mgName, mgNil, mgCons, mgTup, mApp, mSetI, mAugI, mcNil, mcV, mcR, res, putB, mCall, mCallP, backS, Tr.startT, runB, mFz, S.isD, gII, Tr.gSub, gCmp, gIx, gLen, lenD, gInt, gAdd, gIAdd, gNeg, atI, ixN, LIM, mCallV, mvCons, D.flat, hm, he, g1, h1, g2, h2, f1, f2, truD, tview]
theorem step10 (f : Sem1) (a0 a1 a2 a4 a6 : Option S) (O N M E : D) (m e : S) (hm : m.view = M) (he : e.view = E) (f1 : f [.d O, .d N, .d M, .d E] = some (.d (.bl true), [.d O, .d N, .d M, .d E])) :
    (mIf (mNotT (mTru (mCallV f (mvCons (mVar 3) (mvCons (mVar 5) (mvCons (mVar 7) (mvCons (mVar 8) maNil))))))) (mRet (mC (.bl false))) mNx) [a0, a1, a2, some (.d O), a4, some (.d N), a6, some m, some e] = some (.nx, [a0, a1, a2, some (.d O), a4, some (.d N), a6, some m, some e]) := by
  simp [mC, mVar, mVarD, mD, mZ, m2, mBin, mBinS, mUn, maNil, maCons, mTup, mLstZ, mLst, moN, moS, mSl, mTru, mTB, mNotT, mAndT, mOrT, mAndV, mOrV, mNotV, mIfE, mNx, mSeq, mIf, mSet, mDrop, mRet, mRetN, mBk, mCt, mTake, mAsg, mAug, mgName, mgNil, mgCons, mgTup, mApp, mSetI, mAugI, mcNil, mcV, mcR, res, putB, mCall, mCallP, backS, Tr.startT, runB, mFz, S.isD, gII, Tr.gSub, gCmp, gIx, gLen, lenD, gInt, gAdd, gIAdd, gNeg, atI, ixN, LIM, mCallV, mvCons, D.flat, hm, he, f1, truD, tview]
theorem step13 (f : Sem1) (a0 a1 a2 a4 a7 a8 : Option S) (O N : D) (f1 : f [.d (.lst [O, N]), .d (.lst [O, N])] = some (.d (.bl true), [.d (.lst [O, N]), .d (.lst [O, N])])) :
    (mIf (mNotT (mTru (mCallP f (maCons (mVarD 6) (maCons (mLstZ (maCons (mVarD 3) (maCons (mVarD 5) maNil))) maNil))))) (mRet (mC (.bl false))) mNx) [a0, a1, a2, some (.d O), a4, some (.d N), some (.d (.lst [O, N])), a7, a8] = some (.nx, [a0, a1, a2, some (.d O), a4, some (.d N), some (.d (.lst [O, N])), a7, a8]) := by
  simp [mC, mVar, mVarD, mD, mZ, m2, mBin, mBinS, mUn, maNil, maCons, mTup, mLstZ, mLst, moN, moS, mSl, mTru, mTB, mNotT, mAndT, mOrT, mAndV, mOrV, mNotV, mIfE, mNx, mSeq, mIf, mSet, mDrop, mRet, mRetN, mBk, mCt, mTake, mAsg, mAug, mgName, mgNil, mgCons, mgTup, mApp, mSetI, mAugI, mcNil, mcV, mcR, res, putB, mCall, mCallP, backS, Tr.startT, runB, mFz, S.isD, S.view, gII, Tr.gSub, gCmp, gIx, gLen, lenD, gInt, gAdd, gIAdd, gNeg, atI, ixN, LIM, f1, truD]
theorem step14 (f g c wn : Sem1) (a0 a1 a2 a4 a7 a8 : Option S) (O N M E : D) (cm em mo eo : S) (c1 : c [.d O, .d N] = some (cm, [.d O, .d N])) (hc : cm.view = M) (w1 : wn [.d O, .d N] = some (em, [.d O, .d N])) (hw : em.view = E) (g1 : g [.d O, .d N] = some (mo, [.d O, .d N])) (h1 : mo.view = M) (g2 : g [.d N, .d O] = some (eo, [.d N, .d O])) (h2 : eo.view = E) (f1 : f [.d M, .d M] = some (.d (.bl true), [.d M, .d M])) (f2 : f [.d E, .d E] = some (.d (.bl true), [.d E, .d E])) :
    (mRet (mAndV (mZ (mCallP f (maCons (mZ (mCallP c (maCons (mD (mBinS true gIx (mVar 6) (mC (.int 0)))) (maCons (mD (mBinS true gIx (mVar 6) (mC (.int 1)))) maNil)))) (maCons (mZ (mCallP g (maCons (mVarD 3) (maCons (mVarD 5) maNil)))) maNil)))) (mZ (mCallP f (maCons (mZ (mCallP wn (maCons (mVarD 3) (maCons (mVarD 5) maNil)))) (maCons (mZ (mCallP g (maCons (mVarD 5) (maCons (mVarD 3) maNil)))) maNil)))))) [a0, a1, a2, some (.d O), a4, some (.d N), some (.d (.lst [O, N])), a7, a8] = some (.rt (.d (.bl true)), [a0, a1, a2, some (.d O), a4, some (.d N), some (.d (.lst [O, N])), a7, a8]) := by
  simp [mC, mVar, mVarD, mD, mZ, m2, mBin, mBinS, mUn, maNil, maCons, mTup, mLstZ, mLst, moN, moS, mSl, mTru, mTB, mNotT, mAndT, mOrT, mAndV, mOrV, mNotV, mIfE, mNx, mSeq, mIf, mSet, mDrop, mRet, mRetN, mBk, mCt, mTake, mAsg, mAug, mgName, mgNil, mgCons, mgTup, mApp, mSetI, mAugI, mcNil, mcV, mcR, res, putB, mCall, mCallP, backS, Tr.startT, runB, mFz, S.isD, gII, Tr.gSub, gCmp, gIx, gLen, lenD, gInt, gAdd, gIAdd, gNeg, atI, ixN, LIM, c1, hc, w1, hw, g1, h1, g2, h2, f1, f2, tview]
end K38

namespace K38
open PySem PySem.Spec PyProof.Rows L2 Tr
theorem went_ok {w : Nat} (hw : w < 1000) {old new : List D} (ho : ∀ d ∈ old, Rw w d) (hn : ∀ d ∈ new, Rw w d) (hlo : old.length < 1000) (hln : new.length < 1000) :
    sem_went [.d (.lst old), .d (.lst new)] = some (.lst ((moreP new old old.length).map S.d), [.d (.lst old), .d (.lst new)]) :=
  went_gen sem_came _ _ _ _ (came_ok hw hn ho hln hlo)
theorem step5 (f t : Sem1) (sc a4 a6 a7 a8 : Option S) (X X1 X2 : S) (W : Option S) (O : D) (nw ns : List D) (v : Int) (e1 : f [X, .d (.int 2)] = some (.d (.int v), [X1, .d (.int 2)])) (e2 : t [X1, .d O] = some (.lst (ns.map S.d), [X2, .d O])) (hl : ns.length + nw.length ≤ LIM) :
    ∃ Y nw', ((Y = X1 ∧ nw' = nw) ∨ (Y = X2 ∧ nw' = ns ++ cut nw none (some 2))) ∧ (mIf (mTB (mBin true (gEq false) (mCall f (mcR 1 (mcV (mC (.int 2)) mcNil))) (mC (.int 1)))) (mSet 5 (mBin true gAdd (mCall t (mcR 1 (mcV (mVarD 3) mcNil))) (mSl true (mVar 5) moN (moS (mC (.int 2)))))) mNx) [sc, some X, W, some (.d O), a4, some (.d (.lst nw)), a6, a7, a8] = some (.nx, [sc, some Y, W, some (.d O), a4, some (.d (.lst nw')), a6, a7, a8]) := by
  by_cases h : v = 1
  · have hs : gSl (.d (.lst nw)) none (some 2) = some (.lst (cut nw none (some 2))) := rfl
    have hc : (cut nw none (some 2)).length ≤ nw.length := by
      unfold cut
      rw [List.length_take, List.length_drop]
      omega
    have ha := gAdd_own ns (cut nw none (some 2)) (Nat.le_trans (Nat.add_le_add_left hc _) hl)
    refine ⟨X2, _, .inr ⟨rfl, rfl⟩, ?_⟩
    generalize S.lst (ns.map S.d) = R at e2 ha
    generalize D.lst nw = N at hs ⊢
    generalize D.lst (cut nw none (some 2)) = C at hs ha
    generalize D.lst (ns ++ cut nw none (some 2)) = T at ha ⊢
    simp [mC, mVar, mVarD, mD, mZ, m2, mBin, mBinS, mUn, maNil, maCons, mTup, mLstZ, mLst, moN, moS, mSl, mTru, mTB, mNotT, mAndT, mOrT, mAndV, mOrV, mNotV, mIfE, mNx, mSeq, mIf, mSet, mDrop, mRet, mRetN, mBk, mCt, mTake, mAsg, mAug, mgName, mgNil, mgCons, mgTup, mApp, mSetI, mAugI, mcNil, mcV, mcR, res, putB, mCall, mCallP, backS, Tr.startT, runB, mFz, S.isD, S.view, gII, Tr.gSub, gCmp, gIx, gLen, lenD, gInt, gIAdd, gNeg, atI, ixN, LIM, e1, e2, hs, ha, gEq_int, h]
  · exact ⟨X1, nw, .inl ⟨rfl, rfl⟩, by simp [mC, mVar, mVarD, mD, mZ, m2, mBin, mBinS, mUn, maNil, maCons, mTup, mLstZ, mLst, moN, moS, mSl, mTru, mTB, mNotT, mAndT, mOrT, mAndV, mOrV, mNotV, mIfE, mNx, mSeq, mIf, mSet, mDrop, mRet, mRetN, mBk, mCt, mTake, mAsg, mAug, mgName, mgNil, mgCons, mgTup, mApp, mSetI, mAugI, mcNil, mcV, mcR, res, putB, mCall, mCallP, backS, Tr.startT, runB, mFz, S.isD, S.view, gII, Tr.gSub, gCmp, gIx, gLen, lenD, gInt, gAdd, gIAdd, gNeg, atI, ixN, LIM, e1, gEq_int, h]⟩
theorem c7 (c : Sem1) (a0 a1 a2 a3 a4 a5 a7 a8 : Option S) (O N : D) (cm : S) (t : List S) (c1 : c [.d O, .d N] = some (cm, t)) : mCallP c (maCons (mD (mBinS true gIx (mVar 6) (mC (.int 0)))) (maCons (mD (mBinS true gIx (mVar 6) (mC (.int 1)))) maNil)) [a0, a1, a2, a3, a4, a5, some (.d (.lst [O, N])), a7, a8] = some (cm, [a0, a1, a2, a3, a4, a5, some (.d (.lst [O, N])), a7, a8]) := by
  simp [mC, mVar, mVarD, mD, mZ, m2, mBin, mBinS, mUn, maNil, maCons, mTup, mLstZ, mLst, moN, moS, mSl, mTru, mTB, mNotT, mAndT, mOrT, mAndV, mOrV, mNotV, mIfE, mNx, mSeq, mIf, mSet, mDrop, mRet, mRetN, mBk, mCt, mTake, mAsg, mAug, mgName, mgNil, mgCons, mgTup, mApp, mSetI, mAugI, mcNil, mcV, mcR, res, putB, mCall, mCallP, backS, Tr.startT, runB, mFz, S.isD, S.view, gII, Tr.gSub, gCmp, gIx, gLen, lenD, gInt, gAdd, gIAdd, gNeg, atI, ixN, LIM, c1]
theorem app7 (a0 a1 a2 a3 a4 a5 a6 a8 : Option S) (fs : List S) (h : fs.length < 16777216) : mApp 7 (mTup (maCons (mC (.str "spoilt")) maNil)) [a0, a1, a2, a3, a4, a5, a6, some (.lst fs), a8] = some (.nx, [a0, a1, a2, a3, a4, a5, a6, some (.lst (fs ++ [.d (.tup [.str "spoilt"])])), a8]) := by
  simp [mC, mVar, mVarD, mD, mZ, m2, mBin, mBinS, mUn, maNil, maCons, mTup, mLstZ, mLst, moN, moS, mSl, mTru, mTB, mNotT, mAndT, mOrT, mAndV, mOrV, mNotV, mIfE, mNx, mSeq, mIf, mSet, mDrop, mRet, mRetN, mBk, mCt, mTake, mAsg, mAug, mgName, mgNil, mgCons, mgTup, mApp, mSetI, mAugI, mcNil, mcV, mcR, res, putB, mCall, mCallP, backS, Tr.startT, runB, mFz, S.isD, S.view, gII, Tr.gSub, gCmp, gIx, gLen, lenD, gInt, gAdd, gIAdd, gNeg, atI, ixN, LIM, h]
theorem app8 (a0 a1 a2 a3 a4 a5 a6 a7 : Option S) (fs : List S) (h : fs.length < 16777216) : mApp 8 (mTup (maCons (mC (.str "spoilt")) maNil)) [a0, a1, a2, a3, a4, a5, a6, a7, some (.lst fs)] = some (.nx, [a0, a1, a2, a3, a4, a5, a6, a7, some (.lst (fs ++ [.d (.tup [.str "spoilt"])]))]) := by
  simp [mC, mVar, mVarD, mD, mZ, m2, mBin, mBinS, mUn, maNil, maCons, mTup, mLstZ, mLst, moN, moS, mSl, mTru, mTB, mNotT, mAndT, mOrT, mAndV, mOrV, mNotV, mIfE, mNx, mSeq, mIf, mSet, mDrop, mRet, mRetN, mBk, mCt, mTake, mAsg, mAug, mgName, mgNil, mgCons, mgTup, mApp, mSetI, mAugI, mcNil, mcV, mcR, res, putB, mCall, mCallP, backS, Tr.startT, runB, mFz, S.isD, S.view, gII, Tr.gSub, gCmp, gIx, gLen, lenD, gInt, gAdd, gIAdd, gNeg, atI, ixN, LIM, h]
theorem law_ok (ns : List Int) : ∃ r, sem_law [.d (.scr ns)] = some (.d (.bl true), r) := by
  let sc : Option S := some (.d (.scr ns))
  let x0 : Nx := ⟨ns, 0, 0, 1⟩
  have ok0 : x0.ok := ⟨Int.le_refl 0, (by decide : (0 : Int) ≤ 1), (by decide : (1 : Int) < 2147483647)⟩
  have e0 : mSet 1 (mLst (maCons (mUn gLstOf (mVar 0)) (maCons (mC (.int 0)) (maCons (mC (.int 0)) (maCons (mC (.int 1)) maNil))))) [sc, none, none, none, none, none, none, none, none] = some (.nx, [sc, some x0.S, none, none, none, none, none, none, none]) := by
    rfl
  obtain ⟨v1, x1, ok1, _, l1, l2, e1⟩ := next_ok x0 ok0 (lim := 4) (by decide) (by decide)
  obtain ⟨w, hw0⟩ := Int.eq_ofNat_of_zero_le l1
  have hw : w < 1000 := by omega
  have f1 : mSet 2 (mZ (mCall sem__law_next (mcR 1 (mcV (mC (.int 4)) mcNil)))) [sc, some x0.S, none, none, none, none, none, none, none] = some (.nx, [sc, some x1.S, some (.d (.int v1)), none, none, none, none, none, none]) := by
    simp [mC, mVar, mVarD, mD, mZ, m2, mBin, mBinS, mUn, maNil, maCons, mTup, mLstZ, mLst, moN, moS, mSl, mTru, mTB, mNotT, mAndT, mOrT, mAndV, mOrV, mNotV, mIfE, mNx, mSeq, mIf, mSet, mDrop, mRet, mRetN, mBk, mCt, mTake, mAsg, mAug, mgName, mgNil, mgCons, mgTup, mApp, mSetI, mAugI, mcNil, mcV, mcR, res, putB, mCall, mCallP, backS, Tr.startT, runB, mFz, S.isD, S.view, gII, Tr.gSub, gCmp, gIx, gLen, lenD, gInt, gAdd, gIAdd, gNeg, atI, ixN, LIM, e1]
  have hW : (D.int v1) = .int (w : Int) := by rw [hw0]
  generalize D.int v1 = W at f1 hW
  obtain ⟨old, x2, e2, ok2, ho, lo⟩ := rows_ok sc none none hW hw x1 ok1
  have f2 : mSet 3 (mLC C1_law) [sc, some x1.S, some (.d W), none, none, none, none, none, none] = some (.nx, [sc, some x2.S, some (.d W), some (.d (.lst old)), none, none, none, none, none]) :=
    set_of (i := 3) (m := mLC C1_law) (s := .d (.lst old)) (by unfold mLC; rw [show C1_law _ = _ from e2]) (by show 3 < 9; decide)
  obtain ⟨nw, x3, e3, ok3, hn, ln⟩ := rows_ok sc (some (.d (.lst old))) none hW hw x2 ok2
  have f3 : mSet 5 (mLC C2_law) [sc, some x2.S, some (.d W), some (.d (.lst old)), none, none, none, none, none] = some (.nx, [sc, some x3.S, some (.d W), some (.d (.lst old)), none, some (.d (.lst nw)), none, none, none]) :=
    set_of (i := 5) (m := mLC C2_law) (s := .d (.lst nw)) (by unfold mLC; rw [show C2_law _ = _ from e3]) (by show 5 < 9; decide)
  obtain ⟨v4, x4, ok4, _, _, _, e4⟩ := next_ok x3 ok3 (lim := 2) (by decide) (by decide)
  obtain ⟨x5, ts, ok5, ht, lt, e5⟩ := turned_ok x4 ok4 ho (by omega)
  obtain ⟨Y, new, hnew, f5⟩ := step5 sem__law_next sem__law_turned sc none none none none x3.S x4.S x5.S (some (.d W)) (.lst old) nw ts v4 e4 e5 (by show _ ≤ 16777216; omega)
  have hnw : (∀ d ∈ new, Rw w d) ∧ new.length < 1000 := by
    rcases hnew with ⟨_, rfl⟩ | ⟨_, rfl⟩
    · exact ⟨hn, by omega⟩
    · refine ⟨fun d h => (List.mem_append.mp h).elim (ht d) fun q => hn d (cut_mem q), ?_⟩
      have : (cut nw none (some 2)).length ≤ nw.length := by
        unfold cut
        rw [List.length_take, List.length_drop]
        omega
      rw [List.length_append]
      omega
  obtain ⟨hn2, ln2⟩ := hnw
  have c1 := came_ok hw ho hn2 (by omega) ln2
  have w1 := went_ok hw ho hn2 (by omega) ln2
  have m1 := more_ok hw ho hn2 (by omega) ln2
  have m2' := more_ok hw hn2 ho ln2 (by omega)
  have b1 := balanced_ok hw ho hn2 (by omega) ln2
  have hmm : ∀ (a b : List D), (∀ d ∈ b, Rw w d) → ∀ n, ∀ d ∈ moreP a b n, Rw w d := by
    intro a b hb n
    induction n with
    | zero => intro d h; simp [moreP] at h
    | succ n ih =>
      intro d h
      unfold moreP at h
      split at h
      · rename_i r e
        split at h
        · rcases List.mem_append.mp h with q | q
          · exact ih d q
          · rw [List.mem_singleton.mp q]
            exact hb r (List.mem_of_getElem? e)
        · exact ih d h
      · exact ih d h
  have k1 := moreP_len old new new.length
  have k2 := moreP_len new old old.length
  have s1 := same_rows 1 hw (xs := moreP old new new.length) (by omega) (hmm old new hn2 _)
  have s2 := same_rows 1 hw (xs := moreP new old old.length) (by omega) (hmm new old ho _)
  have so := same_rows 0 hw (xs := old) (by omega) ho
  have sn := same_rows 0 hw (xs := new) (by omega) hn2
  have sp := same_self 3 (xs := [.lst old, .lst new]) (show 2 < 10000 by decide) (fun x hx => by
    rcases List.mem_cons.mp hx with rfl | hx
    · exact so
    · rw [List.mem_singleton.mp hx]
      exact sn)
  have vM := view_own (moreP old new new.length)
  have vE := view_own (moreP new old old.length)
  have f9 := step9 (sem__law_same 4) sem__law_more sc (some Y) (some (.d W)) none (some (.d (.lst [.lst old, .lst new]))) (.lst old) (.lst new) _ _ _ _ _ _ vM vE m1 vM m2' vE s1 s2
  have f10 := step10 sem__law_balanced sc (some Y) (some (.d W)) none (some (.d (.lst [.lst old, .lst new]))) (.lst old) (.lst new) _ _ _ _ vM vE b1
  have f14 := fun a7 a8 => step14 (sem__law_same 4) sem__law_more sem_came sem_went sc (some Y) (some (.d W)) none a7 a8 (.lst old) (.lst new) _ _ _ _ _ _ c1 vM w1 vE m1 vM m2' vE s1 s2
  have f13 := fun a7 a8 => step13 (sem__law_same 4) sc (some Y) (some (.d W)) none a7 a8 (.lst old) (.lst new) sp
  have f6 : mSet 6 (mLstZ (maCons (mUn gLstOf (mVar 3)) (maCons (mUn gLstOf (mVar 5)) maNil))) [sc, some Y, some (.d W), some (.d (.lst old)), none, some (.d (.lst new)), none, none, none] = some (.nx, [sc, some Y, some (.d W), some (.d (.lst old)), none, some (.d (.lst new)), some (.d (.lst [.lst old, .lst new])), none, none]) := rfl
  have f7 := set_of (i := 7) (c7 sem_came sc (some Y) (some (.d W)) (some (.d (.lst old))) none (some (.d (.lst new))) none none _ _ _ _ c1) (by show 7 < 9; decide)
  have f8 := set_of (i := 8) (c7 sem_went sc (some Y) (some (.d W)) (some (.d (.lst old))) none (some (.d (.lst new))) (some (.lst ((moreP old new new.length).map S.d))) none _ _ _ _ w1) (by show 8 < 9; decide)
  have f11 := app7 sc (some Y) (some (.d W)) (some (.d (.lst old))) none (some (.d (.lst new))) (some (.d (.lst [.lst old, .lst new]))) (some (.lst ((moreP new old old.length).map S.d))) ((moreP old new new.length).map S.d) (by rw [List.length_map]; omega)
  have f12 := app8 sc (some Y) (some (.d W)) (some (.d (.lst old))) none (some (.d (.lst new))) (some (.d (.lst [.lst old, .lst new]))) (some (.lst (((moreP old new new.length).map S.d) ++ [.d (.tup [.str "spoilt"])]))) ((moreP new old old.length).map S.d) (by rw [List.length_map]; omega)
  refine ⟨[.d (.scr ns)], runB_rt rfl (m := b_law) (τ := [sc, some Y, some (.d W), some (.d (.lst old)), none, some (.d (.lst new)), some (.d (.lst [.lst old, .lst new])), some (.lst (((moreP old new new.length).map S.d) ++ [.d (.tup [.str "spoilt"])])), some (.lst (((moreP new old old.length).map S.d) ++ [.d (.tup [.str "spoilt"])]))]) ?_ rfl⟩
  unfold b_law
  exact (seq_nx e0).trans ((seq_nx f1).trans ((seq_nx f2).trans ((seq_nx f3).trans ((seq_nx f5).trans ((seq_nx f6).trans ((seq_nx f7).trans ((seq_nx f8).trans ((seq_nx f9).trans ((seq_nx f10).trans ((seq_nx f11).trans ((seq_nx f12).trans ((seq_nx (f13 _ _)).trans (f14 _ _)))))))))))))
end K38

open PySem PySem.W PyProof.Rows
set_option maxHeartbeats 0 in
theorem PySem.Challenge.cw_kithwhole_k38_came_and_went_holds : PySem.Challenge.rw_kithwhole_k38_came_and_went.Holds := by
  w_on; o_law; k_head; (case hw => w_witness2)
  k_fill
  refine L2.walk_of (l := PySem.Challenge.rw_kithwhole_k38_came_and_went) (n := 63) (k := 8) (x := "script") (CX := fun _ => L2.CX0) (sp := fun w => Tr.spS _ K38.sem_law) rfl (by decide) rfl ⟨rfl, by decide, by decide⟩ (fun w h Y => PySem.W.kIn_of Y) ?F (fun _ _ a ns hl _ hS => Tr.sp_law hS (K38.law_ok ns)) (fun _ _ _ _ _ h => h)
  case F =>
    intro w mg fa h KX G hmg
    refine' K38.all_mk KX G hmg ?a0 ?l0 ?c0 ?k0 ?a1 ?l1 ?c1 ?k1 ?a2 ?l2 ?c2 ?k2 ?a3 ?l3 ?c3 ?k3 ?a4 ?l4 ?c4 ?k4 ?a5 ?l5 ?c5 ?k5 ?a6 ?l6 ?c6 ?k6 ?a7 ?l7 ?c7 ?k7 ?a8 ?l8 ?c8 ?k8 ?a9 ?l9 ?c9 ?k9 ?a10 ?l10 ?c10 ?k10 ?a11 ?l11 ?c11 ?k11 ?a12 ?l12 ?c12 ?k12 ?a13 ?l13 ?c13 ?k13 ?y_bool ?y_int ?y_isinstance ?y_len ?y_list ?y_range ?y_str ?y_tuple
    (case a0 => k_is); (case l0 => k_is); (case c0 => k_is); (case k0 => k_is); (case a1 => k_is); (case l1 => k_is); (case c1 => k_is); (case k1 => k_is); (case a2 => k_is); (case l2 => k_is); (case c2 => k_is); (case k2 => k_is); (case a3 => k_is); (case l3 => k_is); (case c3 => k_is); (case k3 => k_is); (case a4 => k_is); (case l4 => k_is); (case c4 => k_is); (case k4 => k_is); (case a5 => k_is); (case l5 => k_is); (case c5 => k_is); (case k5 => k_is); (case a6 => k_is); (case l6 => k_is); (case c6 => k_is); (case k6 => k_is); (case a7 => k_is); (case l7 => k_is); (case c7 => k_is); (case k7 => k_is); (case a8 => k_is); (case l8 => k_is); (case c8 => k_is); (case k8 => k_is); (case a9 => k_is); (case l9 => k_is); (case c9 => k_is); (case k9 => k_is); (case a10 => k_is); (case l10 => k_is); (case c10 => k_is); (case k10 => k_is); (case a11 => k_is); (case l11 => k_is); (case c11 => k_is); (case k11 => k_is); (case a12 => k_is); (case l12 => k_is); (case c12 => k_is); (case k12 => k_is); (case a13 => k_is); (case l13 => k_is); (case c13 => k_is); (case k13 => k_is); (case y_bool => k_is); (case y_int => k_is); (case y_isinstance => k_is); (case y_len => k_is); (case y_list => k_is); (case y_range => k_is); (case y_str => k_is); (case y_tuple => k_is)

