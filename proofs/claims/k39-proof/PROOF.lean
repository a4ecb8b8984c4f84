import PyProof.Rows.All
import Wide.All
import OpenK.AllK
import Wide.FinOn
import HandS.ForMost
import HandS.Style
import HandS.Gcd
import HandS.IsInst
import HandS.Wide
import HandS.Zip
import KE.GoesEnumKw
import HandS.TupAny
import HandS.Deep
import PySem.Challenge.RW_trusswork_k39_whole_three_forces_meet
import HandS.EndBits
set_option Elab.async false
set_option linter.all false
set_option maxRecDepth 100000
set_option maxHeartbeats 4000000
/-! A layer of data over the hand layer: readings as partial functions on plain data. -/
namespace TB
open PySem L2

abbrev D := PyData
abbrev Fg := PySem.W.Frag

/-! ### heaps without some addresses -/
open Classical in
noncomputable def wo (H : Hp) (M : Addr → Prop) : Hp := fun a => if M a then none else H a
theorem wo_some {H : Hp} {M : Addr → Prop} {a : Addr} {o : HO} (h : H a = some o) (m : ¬ M a) : wo H M a = some o := by
  unfold wo; rw [if_neg m]; exact h
theorem wo_get {H : Hp} {M : Addr → Prop} {a : Addr} {o : HO} (h : wo H M a = some o) : H a = some o ∧ ¬ M a := by
  unfold wo at h
  by_cases m : M a
  · rw [if_pos m] at h; cases h
  · rw [if_neg m] at h; exact ⟨h, m⟩
theorem wo_same {H : Hp} {M : Addr → Prop} : Same (wo H M) H := fun _ _ h => (wo_get h).1
theorem wo_mono {H H' : Hp} {M : Addr → Prop} (s : Same H H') : Same (wo H M) (wo H' M) := fun a o h => wo_some (s a o (wo_get h).1) (wo_get h).2
theorem wo_less {H : Hp} {M M' : Addr → Prop} (s : ∀ a, M' a → M a) : Same (wo H M) (wo H M') := fun a o h => wo_some (wo_get h).1 fun m => (wo_get h).2 (s a m)

theorem same_upd {H : Hp} {p : Addr} {o : HO} (h : H p = none) : Same H (upd H p o) := fun b x e => by
  rw [upd_ne (ne_of_none e h)]; exact e
theorem rd_same {H H' : Hp} {a : Addr} {u : HO} (s : Same H H') (h : Rd H a u) : Rd H' a u := by
  rcases h with h | ⟨o, h⟩
  · exact .inl (s _ _ h)
  · exact .inr ⟨o, s _ _ h⟩
theorem sqL_same {K : Fg} {H H' : Hp} {a : Addr} {xs : List V} (s : Same H H') (h : SqL K H a xs) : SqL K H' a xs := by
  rcases h with h | h
  · exact .inl (rd_same s h)
  · exact .inr h
theorem sqT_same {K : Fg} {H H' : Hp} {a : Addr} {xs : List V} (s : Same H H') (h : SqT K H a xs) : SqT K H' a xs := by
  rcases h with h | h
  · exact .inl (rd_same s h)
  · exact .inr h

/-! ### data at a value -/
def kD : Key → D
  | .inl i => .int i
  | .inr x => .str x
mutual
inductive Rp (K : Fg) (H : Hp) : V → D → Prop
  | non : Rp K H .non .none
  | bl (b : Bool) : Rp K H (.bl b) (.bool b)
  | int (i : Int) : Rp K H (.int i) (.int i)
  | str (x : Str) : Rp K H (.str x) (.str x)
  | lst {a : Addr} {xs : List V} {ds : List D} : H a = some (.lst xs) → RpA K H xs ds → Rp K H (.ref a) (.list ds)
  /-- a list that is only read (the script, a list of the top) -/
  | ro {a : Addr} {xs : List V} {ds : List D} : SqL K H a xs → RpA K H xs ds → Rp K H (.ref a) (.dict [(.none, .list ds)])
  | tup {a : Addr} {xs : List V} {ds : List D} : SqT K H a xs → RpA K H xs ds → Rp K H (.ref a) (.tuple ds)
  | dct {a : Addr} {kvs : List (Key × V)} {kds : List (D × D)} : H a = some (.dK kvs) → RpK K H kvs kds → Rp K H (.ref a) (.dict kds)
inductive RpA (K : Fg) (H : Hp) : List V → List D → Prop
  | nil : RpA K H [] []
  | cons {v : V} {vs : List V} {d : D} {ds : List D} : Rp K H v d → RpA K H vs ds → RpA K H (v :: vs) (d :: ds)
inductive RpK (K : Fg) (H : Hp) : List (Key × V) → List (D × D) → Prop
  | nil : RpK K H [] []
  | cons {k : Key} {v : V} {kvs : List (Key × V)} {d : D} {ds : List (D × D)} : Rp K H v d → RpK K H kvs ds → RpK K H ((k, v) :: kvs) ((kD k, d) :: ds)
end
section
variable {K : Fg} {H H' : Hp}
mutual
theorem Rp.mono (s : Same H H') : ∀ {v : V} {d : D}, Rp K H v d → Rp K H' v d
  | _, _, .non => .non
  | _, _, .bl b => .bl b
  | _, _, .int i => .int i
  | _, _, .str x => .str x
  | _, _, .lst h r => .lst (s _ _ h) (RpA.mono s r)
  | _, _, .ro h r => .ro (sqL_same s h) (RpA.mono s r)
  | _, _, .tup h r => .tup (sqT_same s h) (RpA.mono s r)
  | _, _, .dct h r => .dct (s _ _ h) (RpK.mono s r)
theorem RpA.mono (s : Same H H') : ∀ {vs : List V} {ds : List D}, RpA K H vs ds → RpA K H' vs ds
  | _, _, .nil => .nil
  | _, _, .cons h r => .cons (Rp.mono s h) (RpA.mono s r)
theorem RpK.mono (s : Same H H') : ∀ {vs : List (Key × V)} {ds : List (D × D)}, RpK K H vs ds → RpK K H' vs ds
  | _, _, .nil => .nil
  | _, _, .cons h r => .cons (Rp.mono s h) (RpK.mono s r)
end
theorem RpA.length : ∀ {vs : List V} {ds : List D}, RpA K H vs ds → vs.length = ds.length
  | _, _, .nil => rfl
  | _, _, .cons _ r => by simp only [List.length_cons, RpA.length r]
theorem RpA.get : ∀ {vs : List V} {ds : List D} {i : Nat} {d : D}, RpA K H vs ds → ds[i]? = some d → ∃ v, vs[i]? = some v ∧ Rp K H v d
  | _, _, _, _, .nil, e => by simp at e
  | _, _, 0, _, .cons h _, e => by simp at e; subst e; exact ⟨_, rfl, h⟩
  | _, _, i + 1, d, .cons _ r, e => by
    obtain ⟨v, h1, h2⟩ := RpA.get (i := i) (d := d) r (by simpa using e)
    exact ⟨v, by simpa using h1, h2⟩
theorem RpA.getV : ∀ {vs : List V} {ds : List D} {i : Nat} {v : V}, RpA K H vs ds → vs[i]? = some v → ∃ d, ds[i]? = some d ∧ Rp K H v d
  | _, _, _, _, .nil, e => by simp at e
  | _, _, 0, _, .cons h _, e => by simp at e; subst e; exact ⟨_, rfl, h⟩
  | _, _, i + 1, d, .cons _ r, e => by
    obtain ⟨v, h1, h2⟩ := RpA.getV (i := i) (v := d) r (by simpa using e)
    exact ⟨v, by simpa using h1, h2⟩
theorem RpA.append : ∀ {vs ws : List V} {ds es : List D}, RpA K H vs ds → RpA K H ws es → RpA K H (vs ++ ws) (ds ++ es)
  | _, _, _, _, .nil, s => s
  | _, _, _, _, .cons h r, s => .cons h (RpA.append r s)
theorem RpA.set {w : V} {e : D} (q : Rp K H w e) : ∀ {vs : List V} {ds : List D} (i : Nat), RpA K H vs ds → RpA K H (vs.set i w) (ds.set i e)
  | _, _, _, .nil => .nil
  | _, _, 0, .cons _ r => .cons q r
  | _, _, i + 1, .cons h r => .cons h (RpA.set q i r)
theorem RpA.eraseIdx : ∀ {vs : List V} {ds : List D} (i : Nat), RpA K H vs ds → RpA K H (vs.eraseIdx i) (ds.eraseIdx i)
  | _, _, _, .nil => .nil
  | _, _, 0, .cons _ r => r
  | _, _, i + 1, .cons h r => .cons h (RpA.eraseIdx i r)
theorem RpA.take : ∀ {vs : List V} {ds : List D} (i : Nat), RpA K H vs ds → RpA K H (vs.take i) (ds.take i)
  | _, _, 0, _ => .nil
  | _, _, _ + 1, .nil => .nil
  | _, _, i + 1, .cons h r => .cons h (RpA.take i r)
theorem RpA.drop : ∀ {vs : List V} {ds : List D} (i : Nat), RpA K H vs ds → RpA K H (vs.drop i) (ds.drop i)
  | _, _, 0, r => r
  | _, _, _ + 1, .nil => .nil
  | _, _, i + 1, .cons _ r => RpA.drop i r
theorem RpA.reverse : ∀ {vs : List V} {ds : List D}, RpA K H vs ds → RpA K H vs.reverse ds.reverse
  | _, _, .nil => .nil
  | _, _, .cons h r => by
    rw [List.reverse_cons, List.reverse_cons]
    exact RpA.append (RpA.reverse r) (.cons h .nil)
theorem RpA.ints : ∀ {vs : List V} {ns : List Int}, RpA K H vs (ns.map PyData.int) → vs = ns.map V.int
  | [], [], _ => rfl
  | v :: vs, n :: ns, h => by
    cases h with
    | cons h r => cases h; rw [RpA.ints r]; rfl
theorem RpA.bools : ∀ {vs : List V} {ns : List Bool}, RpA K H vs (ns.map PyData.bool) → vs = ns.map V.bl
  | [], [], _ => rfl
  | v :: vs, n :: ns, h => by
    cases h with
    | cons h r => cases h; rw [RpA.bools r]; rfl
theorem RpA.of_ints : ∀ (ns : List Int), RpA K H (ns.map V.int) (ns.map PyData.int)
  | [] => .nil
  | n :: ns => .cons (.int n) (RpA.of_ints ns)
end

/-! ### what a slot holds -/
inductive Sl where
  /-- nothing known -/
  | no
  /-- data that nobody changes -/
  | d (x : D)
  /-- a list of the frame's own -/
  | m (xs : List D)
  /-- the list that was handed in to be changed -/
  | p (xs : List D)
abbrev DEnv := List Sl
abbrev GE := DEnv → Option (D × DEnv)
abbrev GT := DEnv → Option (Bool × DEnv)
/-- a new list -/
abbrev GF := DEnv → Option (List D × DEnv)
/-- several data -/
abbrev GA := DEnv → Option (List D × DEnv)

abbrev Mm (M0 W : Addr → Prop) : Addr → Prop := fun a => M0 a ∨ W a
def isCell : HO → Prop
  | .lst _ => True
  | .dK _ => True
  | _ => False
def SlR (K : Fg) (M0 : Addr → Prop) (B : Option Addr) (W : Addr → Prop) (H : Hp) (v : Option (Option V)) : Sl → Prop
  | .no => True
  | .d x => ∃ u, v = some (some u) ∧ Rp K (wo H (Mm M0 W)) u x
  | .m xs => ∃ a vs, v = some (some (V.ref a)) ∧ W a ∧ some a ≠ B ∧ ¬ M0 a ∧ H a = some (.lst vs) ∧ RpA K (wo H (Mm M0 W)) vs xs
  | .p xs => ∃ a vs, v = some (some (V.ref a)) ∧ W a ∧ some a = B ∧ H a = some (.lst vs) ∧ RpA K (wo H (Mm M0 W)) vs xs
def Sl.isM : Sl → Prop
  | .m _ => True
  | .p _ => True
  | _ => False
structure EnvR (K : Fg) (M0 : Addr → Prop) (B : Option Addr) (W : Addr → Prop) (ρ : DEnv) (σ : L2.St) (H : Hp) : Prop where
  len : σ.length = ρ.length
  slot : ∀ (i : Nat) (s : Sl), ρ[i]? = some s → SlR K M0 B W H σ[i]? s
  dist : ∀ (i j : Nat) (s t : Sl), ρ[i]? = some s → ρ[j]? = some t → s.isM → t.isM → σ[i]? = σ[j]? → i = j
  trk : ∀ a, Mm M0 W a → ∃ o, H a = some o ∧ isCell o
  bw : ∀ b, B = some b → W b
/-- nothing but W was changed -/
def Stp (W : Addr → Prop) (H H' : Hp) : Prop := ∀ a o, H a = some o → ¬ W a → H' a = some o
theorem Stp.refl {W : Addr → Prop} {H : Hp} : Stp W H H := fun _ _ h _ => h
theorem Stp.trans {W : Addr → Prop} {H H1 H2 : Hp} (a : Stp W H H1) (b : Stp W H1 H2) : Stp W H H2 := fun c o h n => b c o (a c o h n) n
theorem Stp.same {W : Addr → Prop} {H H' : Hp} (s : Same H H') : Stp W H H' := fun a o h _ => s a o h
theorem Stp.wo {M0 W : Addr → Prop} {H H' : Hp} (s : Stp W H H') : Same (TB.wo H (Mm M0 W)) (TB.wo H' (Mm M0 W)) := fun a o h => by
  obtain ⟨h1, h2⟩ := wo_get h
  exact wo_some (s a o h1 fun w => h2 (.inr w)) h2
/-- W has become W' -/
structure Nxt (W W' : Addr → Prop) (H H' : Hp) : Prop where
  stp : Stp W H H'
  new : ∀ a, W' a → W a ∨ H a = none
theorem Nxt.refl {W : Addr → Prop} {H : Hp} : Nxt W W H H := ⟨.refl, fun _ h => .inl h⟩
theorem Nxt.of {W : Addr → Prop} {H H' : Hp} (s : Stp W H H') : Nxt W W H H' := ⟨s, fun _ h => .inl h⟩
theorem none_back {W : Addr → Prop} {H H' : Hp} (s : Stp W H H') {a : Addr} (h : H' a = none) : W a ∨ H a = none := by
  by_cases w : W a
  · exact .inl w
  · right
    cases e : H a with
    | none => rfl
    | some o => rw [s a o e w] at h; cases h
theorem Nxt.trans {W W1 W2 : Addr → Prop} {H H1 H2 : Hp} (a : Nxt W W1 H H1) (b : Nxt W1 W2 H1 H2) : Nxt W W2 H H2 where
  stp := fun c o h n => b.stp c o (a.stp c o h n) fun w => by
    rcases a.new c w with x | x
    · exact n x
    · rw [h] at x; cases x
  new := fun c w => by
    rcases b.new c w with x | x
    · exact a.new c x
    · exact none_back a.stp x
theorem Nxt.wo {M0 W W' : Addr → Prop} {H H' : Hp} (s : Nxt W W' H H') : Same (TB.wo H (Mm M0 W)) (TB.wo H' (Mm M0 W')) := fun a o h => by
  obtain ⟨h1, h2⟩ := wo_get h
  refine wo_some (s.stp a o h1 fun w => h2 (.inr w)) fun m => ?_
  rcases m with m | m
  · exact h2 (.inl m)
  · rcases s.new a m with x | x
    · exact h2 (.inr x)
    · rw [h1] at x; cases x
section
variable {K : Fg} {M0 : Addr → Prop} {B : Option Addr} {W W' : Addr → Prop} {ρ ρ' : DEnv} {σ σ' : L2.St} {H H' : Hp}
theorem EnvR.same (E : EnvR K M0 B W ρ σ H) (s : Same H H') : EnvR K M0 B W ρ σ H' where
  len := E.len
  slot := fun i t h => by
    have q := E.slot i t h
    cases t with
    | no => trivial
    | d x => obtain ⟨u, e, r⟩ := q; exact ⟨u, e, r.mono (wo_mono s)⟩
    | m xs => obtain ⟨a, vs, e, w, b, z, h1, r⟩ := q; exact ⟨a, vs, e, w, b, z, s _ _ h1, r.mono (wo_mono s)⟩
    | p xs => obtain ⟨a, vs, e, w, b, h1, r⟩ := q; exact ⟨a, vs, e, w, b, s _ _ h1, r.mono (wo_mono s)⟩
  dist := E.dist
  trk := fun a m => let ⟨o, h, c⟩ := E.trk a m; ⟨o, s a o h, c⟩
  bw := E.bw
theorem EnvR.fresh (E : EnvR K M0 B W ρ σ H) {p : Addr} (h : H p = none) : ¬ Mm M0 W p := fun m => by
  obtain ⟨o, e, _⟩ := E.trk p m
  rw [h] at e; cases e
/-- a name gets data -/
theorem EnvR.setD (E : EnvR K M0 B W ρ σ H) {i : Nat} {v : V} {x : D} (r : Rp K (wo H (Mm M0 W)) v x) : EnvR K M0 B W (ρ.set i (.d x)) (σ.set i (some v)) H where
  len := by simpa using E.len
  slot := fun j t h => by
    by_cases e : i = j
    · subst e
      by_cases hi : i < ρ.length
      · rw [List.getElem?_set_self hi] at h
        cases h
        exact ⟨v, by rw [List.getElem?_set_self (by rw [E.len]; exact hi)], r⟩
      · rw [List.getElem?_eq_none (by simpa using hi)] at h; cases h
    · rw [List.getElem?_set_ne e] at h
      rw [List.getElem?_set_ne e]
      exact E.slot j t h
  dist := fun j k s t h1 h2 m1 m2 q => by
    by_cases e1 : i = j
    · subst e1
      by_cases hi : i < ρ.length
      · rw [List.getElem?_set_self hi] at h1; cases h1; exact m1.elim
      · rw [List.getElem?_eq_none (by simpa using hi)] at h1; cases h1
    · by_cases e2 : i = k
      · subst e2
        by_cases hi : i < ρ.length
        · rw [List.getElem?_set_self hi] at h2; cases h2; exact m2.elim
        · rw [List.getElem?_eq_none (by simpa using hi)] at h2; cases h2
      · rw [List.getElem?_set_ne e1] at h1 q
        rw [List.getElem?_set_ne e2] at h2 q
        exact E.dist j k s t h1 h2 m1 m2 q
  trk := E.trk
  bw := E.bw
end

theorem getElem?_set' {α : Type} {l : List α} {i j : Nat} {x y : α} (h : (l.set i x)[j]? = some y) : (i = j ∧ y = x ∧ i < l.length) ∨ (i ≠ j ∧ l[j]? = some y) := by
  by_cases e : i = j
  · subst e
    by_cases hi : i < l.length
    · rw [List.getElem?_set_self hi] at h
      exact .inl ⟨rfl, (Option.some.inj h).symm, hi⟩
    · rw [List.getElem?_eq_none (by simpa using hi)] at h; cases h
  · rw [List.getElem?_set_ne e] at h
    exact .inr ⟨e, h⟩
section
variable {K : Fg} {M0 : Addr → Prop} {B : Option Addr} {W W' : Addr → Prop} {ρ ρ' : DEnv} {σ σ' : L2.St} {H H' : Hp}
/-- one list was changed -/
theorem EnvR.cell (E : EnvR K M0 B W ρ σ H) {i : Nat} {s s' : Sl} {a : Addr} {vs : List V} {xs : List D} (hi : ρ[i]? = some s) (hs : s.isM) (ha : σ[i]? = some (some (V.ref a)))
    (hs' : (∃ ys, s = .m ys ∧ s' = .m xs) ∨ (∃ ys, s = .p ys ∧ s' = .p xs))
    (st : ∀ b o, H b = some o → b ≠ a → H' b = some o) (hn : H' a = some (.lst vs)) (r : RpA K (wo H' (Mm M0 W)) vs xs) : EnvR K M0 B W (ρ.set i s') σ H' ∧ Stp W H H' := by
  have wa : W a := by
    have q := E.slot i s hi
    rcases hs' with ⟨ys, rfl, _⟩ | ⟨ys, rfl, _⟩
    · obtain ⟨a', _, e, w, _⟩ := q
      rw [ha] at e; cases e; exact w
    · obtain ⟨a', _, e, w, _⟩ := q
      rw [ha] at e; cases e; exact w
  have stp : Stp W H H' := fun b o h n => st b o h fun e => n (e ▸ wa)
  refine ⟨⟨by simpa using E.len, fun j t h => ?_, fun j k t u h1 h2 m1 m2 q => ?_, fun b m => ?_, E.bw⟩, stp⟩
  · rcases getElem?_set' h with ⟨e, e2, hl⟩ | ⟨e, h⟩
    · subst e e2
      have q := E.slot i s hi
      rcases hs' with ⟨ys, rfl, rfl⟩ | ⟨ys, rfl, rfl⟩
      · obtain ⟨a', _, e, w, b, z, _⟩ := q
        rw [ha] at e; cases e
        exact ⟨a, vs, ha, w, b, z, hn, r⟩
      · obtain ⟨a', _, e, w, b, _⟩ := q
        rw [ha] at e; cases e
        exact ⟨a, vs, ha, w, b, hn, r⟩
    · have q := E.slot j t h
      have ne : ∀ c, σ[j]? = some (some (V.ref c)) → t.isM → c ≠ a := fun c hc mt z => by
        subst z
        exact e (E.dist i j s t hi h hs mt (ha.trans hc.symm))
      cases t with
      | no => trivial
      | d x => obtain ⟨u, e1, r1⟩ := q; exact ⟨u, e1, r1.mono stp.wo⟩
      | m ys => obtain ⟨c, ws, e1, w, b, z, h1, r1⟩ := q; exact ⟨c, ws, e1, w, b, z, st _ _ h1 (ne c e1 trivial), r1.mono stp.wo⟩
      | p ys => obtain ⟨c, ws, e1, w, b, h1, r1⟩ := q; exact ⟨c, ws, e1, w, b, st _ _ h1 (ne c e1 trivial), r1.mono stp.wo⟩
  · have key : ∀ (j : Nat) (t : Sl), (ρ.set i s')[j]? = some t → t.isM → ∃ t', ρ[j]? = some t' ∧ t'.isM := fun j t h m => by
      rcases getElem?_set' h with ⟨e, e2, hl⟩ | ⟨e, h⟩
      · subst e; exact ⟨s, hi, hs⟩
      · exact ⟨t, h, m⟩
    obtain ⟨t1, h1', m1'⟩ := key j t h1 m1
    obtain ⟨t2, h2', m2'⟩ := key k u h2 m2
    exact E.dist j k t1 t2 h1' h2' m1' m2' q
  · by_cases e : b = a
    · exact ⟨.lst vs, by rw [e]; exact hn, trivial⟩
    · obtain ⟨o, h, c⟩ := E.trk b m
      exact ⟨o, st b o h e, c⟩
theorem EnvR.addr (E : EnvR K M0 B W ρ σ H) {i : Nat} {s : Sl} (h : ρ[i]? = some s) (m : s.isM) : ∃ a, σ[i]? = some (some (V.ref a)) ∧ W a := by
  have q := E.slot i s h
  cases s with
  | no => exact m.elim
  | d x => exact m.elim
  | m ys => obtain ⟨c, ws, e1, w, _⟩ := q; exact ⟨c, e1, w⟩
  | p ys => obtain ⟨c, ws, e1, w, _⟩ := q; exact ⟨c, e1, w⟩
/-- one more list is set apart -/
theorem EnvR.apart (E : EnvR K M0 B W ρ σ H) {p : Addr} {vs : List V} (np : H p = none) (s : Same H H') (hp : H' p = some (.lst vs)) : EnvR K (fun a => M0 a ∨ a = p) B W ρ σ H' := by
  have sm : Same (wo H (Mm M0 W)) (wo H' (Mm (fun a => M0 a ∨ a = p) W)) := fun a o h => by
    obtain ⟨h1, h2⟩ := wo_get h
    refine wo_some (s a o h1) fun m => ?_
    rcases m with (m | m) | m
    · exact h2 (.inl m)
    · rw [m, np] at h1; cases h1
    · exact h2 (.inr m)
  refine ⟨E.len, fun j t h => ?_, E.dist, fun b m => ?_, E.bw⟩
  · have q := E.slot j t h
    cases t with
    | no => trivial
    | d x => obtain ⟨u, e1, r1⟩ := q; exact ⟨u, e1, r1.mono sm⟩
    | m ys =>
      obtain ⟨c, ws, e1, w, b, z, h1, r1⟩ := q
      refine ⟨c, ws, e1, w, b, fun y => ?_, s _ _ h1, r1.mono sm⟩
      rcases y with y | y
      · exact z y
      · rw [y, np] at h1; cases h1
    | p ys => obtain ⟨c, ws, e1, w, b, h1, r1⟩ := q; exact ⟨c, ws, e1, w, b, s _ _ h1, r1.mono sm⟩
  · rcases m with (m | m) | m
    · obtain ⟨o, h, c⟩ := E.trk b (.inl m); exact ⟨o, s _ _ h, c⟩
    · exact ⟨.lst vs, by rw [m]; exact hp, trivial⟩
    · obtain ⟨o, h, c⟩ := E.trk b (.inr m); exact ⟨o, s _ _ h, c⟩
/-- what was set apart is data now -/
theorem EnvR.join {M1 : Addr → Prop} (E : EnvR K M1 B W ρ σ H) (h : ∀ a, M0 a → M1 a) : EnvR K M0 B W ρ σ H := by
  have sm : Same (wo H (Mm M1 W)) (wo H (Mm M0 W)) := wo_less fun a m => m.elim (fun m => .inl (h a m)) .inr
  refine ⟨E.len, fun j t h' => ?_, E.dist, fun b m => E.trk b (m.elim (fun m => .inl (h b m)) .inr), E.bw⟩
  have q := E.slot j t h'
  cases t with
  | no => trivial
  | d x => obtain ⟨u, e1, r1⟩ := q; exact ⟨u, e1, r1.mono sm⟩
  | m ys => obtain ⟨c, ws, e1, w, b, z, h1, r1⟩ := q; exact ⟨c, ws, e1, w, b, fun y => z (h c y), h1, r1.mono sm⟩
  | p ys => obtain ⟨c, ws, e1, w, b, h1, r1⟩ := q; exact ⟨c, ws, e1, w, b, h1, r1.mono sm⟩
/-- a name gets a list that was set apart -/
theorem EnvR.setM {p : Addr} (E : EnvR K (fun a => M0 a ∨ a = p) B W ρ σ H) {i : Nat} {vs : List V} {xs : List D} (nB : some p ≠ B) (nM : ¬ M0 p) (hp : H p = some (.lst vs))
    (r : RpA K (wo H (Mm (fun a => M0 a ∨ a = p) W)) vs xs) : EnvR K M0 B (fun a => W a ∨ a = p) (ρ.set i (.m xs)) (σ.set i (some (V.ref p))) H := by
  have sm : Same (wo H (Mm (fun a => M0 a ∨ a = p) W)) (wo H (Mm M0 fun a => W a ∨ a = p)) := wo_less fun a m => by
    rcases m with m | m | m
    · exact .inl (.inl m)
    · exact .inr m
    · exact .inl (.inr m)
  have ad : ∀ (j : Nat) (t : Sl), ρ[j]? = some t → t.isM → W p ∨ σ[j]? ≠ some (some (V.ref p)) := fun j t h m => by
    have q := E.slot j t h
    cases t with
    | no => exact m.elim
    | d x => exact m.elim
    | m ys => obtain ⟨c, ws, e1, w, b, z, _⟩ := q; exact .inr fun e => by rw [e1] at e; cases e; exact z (.inr rfl)
    | p ys =>
      obtain ⟨c, ws, e1, w, b, _⟩ := q
      exact .inr fun e => by rw [e1] at e; cases e; exact nB b
  have nσ : ∀ (j : Nat) (t : Sl), ρ[j]? = some t → t.isM → σ[j]? ≠ some (some (V.ref p)) := fun j t h m e => by
    have q := E.slot j t h
    cases t with
    | no => exact m.elim
    | d x => exact m.elim
    | m ys => obtain ⟨c, ws, e1, w, b, z, _⟩ := q; rw [e1] at e; cases e; exact z (.inr rfl)
    | p ys => obtain ⟨c, ws, e1, w, b, _⟩ := q; rw [e1] at e; cases e; exact nB b
  refine ⟨by simpa using E.len, fun j t h => ?_, fun j k t u h1 h2 m1 m2 q => ?_, fun b m => ?_, fun b e => .inl (E.bw b e)⟩
  · rcases getElem?_set' h with ⟨e, e2, hl⟩ | ⟨e, h⟩
    · subst e e2
      exact ⟨p, vs, by rw [List.getElem?_set_self (by rw [E.len]; exact hl)], .inr rfl, nB, nM, hp, r.mono sm⟩
    · rw [List.getElem?_set_ne e]
      have q := E.slot j t h
      cases t with
      | no => trivial
      | d x => obtain ⟨u, e1, r1⟩ := q; exact ⟨u, e1, r1.mono sm⟩
      | m ys => obtain ⟨c, ws, e1, w, b, z, h1, r1⟩ := q; exact ⟨c, ws, e1, .inl w, b, fun y => z (.inl y), h1, r1.mono sm⟩
      | p ys => obtain ⟨c, ws, e1, w, b, h1, r1⟩ := q; exact ⟨c, ws, e1, .inl w, b, h1, r1.mono sm⟩
  · rcases getElem?_set' h1 with ⟨e, e2, hl⟩ | ⟨e, h1⟩
    · rcases getElem?_set' h2 with ⟨e', e2', hl'⟩ | ⟨e', h2⟩
      · exact e.symm.trans e'
      · subst e
        rw [List.getElem?_set_self (by rw [E.len]; exact hl), List.getElem?_set_ne e'] at q
        exact absurd q.symm (nσ k u h2 m2)
    · rcases getElem?_set' h2 with ⟨e', e2', hl'⟩ | ⟨e', h2⟩
      · subst e'
        rw [List.getElem?_set_self (by rw [E.len]; exact hl'), List.getElem?_set_ne e] at q
        exact absurd q (nσ j t h1 m1)
      · rw [List.getElem?_set_ne e, List.getElem?_set_ne e'] at q
        exact E.dist j k t u h1 h2 m1 m2 q
  · rcases m with m | m | m
    · exact E.trk b (.inl (.inl m))
    · exact E.trk b (.inr m)
    · exact E.trk b (.inl (.inr m))
/-- a list of one's own is data from now on -/
theorem EnvR.freeze (E : EnvR K M0 B W ρ σ H) {i : Nat} {xs : List D} (hi : ρ[i]? = some (.m xs)) : ∃ W', (∀ a, W' a → W a) ∧ EnvR K M0 B W' (ρ.set i (.d (.list xs))) σ H := by
  obtain ⟨a, vs, ea, wa, ba, za, ha, ra⟩ := E.slot i _ hi
  have sm : Same (wo H (Mm M0 W)) (wo H (Mm M0 fun b => W b ∧ b ≠ a)) := wo_less fun b m => m.elim .inl fun m => .inr m.1
  refine ⟨fun b => W b ∧ b ≠ a, fun b h => h.1, by simpa using E.len, fun j t h => ?_, fun j k t u h1 h2 m1 m2 q => ?_, fun b m => E.trk b (m.elim .inl fun m => .inr m.1), fun b e => ⟨E.bw b e, fun z => ba (by rw [← z, e])⟩⟩
  · rcases getElem?_set' h with ⟨e, e2, hl⟩ | ⟨e, h⟩
    · subst e e2
      exact ⟨_, ea, .lst (wo_some ha fun m => m.elim za fun m => m.2 rfl) (ra.mono sm)⟩
    · have q := E.slot j t h
      have ne : ∀ c, σ[j]? = some (some (V.ref c)) → t.isM → c ≠ a := fun c hc mt z => by
        subst z
        exact e (E.dist i j _ t hi h trivial mt (ea.trans hc.symm))
      cases t with
      | no => trivial
      | d x => obtain ⟨u, e1, r1⟩ := q; exact ⟨u, e1, r1.mono sm⟩
      | m ys => obtain ⟨c, ws, e1, w, b, z, h1, r1⟩ := q; exact ⟨c, ws, e1, ⟨w, ne c e1 trivial⟩, b, z, h1, r1.mono sm⟩
      | p ys => obtain ⟨c, ws, e1, w, b, h1, r1⟩ := q; exact ⟨c, ws, e1, ⟨w, ne c e1 trivial⟩, b, h1, r1.mono sm⟩
  · rcases getElem?_set' h1 with ⟨e, e2, hl⟩ | ⟨e, h1⟩
    · subst e2; exact m1.elim
    · rcases getElem?_set' h2 with ⟨e', e2', hl'⟩ | ⟨e', h2⟩
      · subst e2'; exact m2.elim
      · exact E.dist j k t u h1 h2 m1 m2 q
/-- a slot forgotten -/
theorem EnvR.forget (E : EnvR K M0 B W ρ σ H) (i : Nat) : EnvR K M0 B W (ρ.set i .no) σ H := by
  refine ⟨by simpa using E.len, fun j t h => ?_, fun j k t u h1 h2 m1 m2 q => ?_, E.trk, E.bw⟩
  · rcases getElem?_set' h with ⟨e, e2, hl⟩ | ⟨e, h⟩
    · subst e2; trivial
    · exact E.slot j t h
  · rcases getElem?_set' h1 with ⟨e, e2, hl⟩ | ⟨e, h1⟩
    · subst e2; exact m1.elim
    · rcases getElem?_set' h2 with ⟨e', e2', hl'⟩ | ⟨e', h2⟩
      · subst e2'; exact m2.elim
      · exact E.dist j k t u h1 h2 m1 m2 q
end
end TB
namespace TB
open PySem L2

/-! ### readings and what they give -/
structure SemE (K : Fg) (t : TE) (g : GE) : Prop where
  run : ∀ {M0 : Addr → Prop} {B : Option Addr} {W : Addr → Prop} {ρ ρ' : DEnv} {d : D} {σ : L2.St} {H : Hp} {Q : VK}, g ρ = some (d, ρ') → EnvR K M0 B W ρ σ H →
    (∀ v H', Stp W H H' → EnvR K M0 B W ρ' σ H' → Rp K (wo H' (Mm M0 W)) v d → Q v H') → t σ H Q
structure SemT (K : Fg) (t : TT) (g : GT) : Prop where
  run : ∀ {M0 : Addr → Prop} {B : Option Addr} {W : Addr → Prop} {ρ ρ' : DEnv} {b : Bool} {σ : L2.St} {H : Hp} {Q : Bool → Hp → Prop}, g ρ = some (b, ρ') → EnvR K M0 B W ρ σ H →
    (∀ H', Stp W H H' → EnvR K M0 B W ρ' σ H' → Q b H') → t σ H Q
structure SemA (K : Fg) (t : TA) (g : GA) : Prop where
  run : ∀ {M0 : Addr → Prop} {B : Option Addr} {W : Addr → Prop} {ρ ρ' : DEnv} {ds : List D} {σ : L2.St} {H : Hp} {Q : List V → Hp → Prop}, g ρ = some (ds, ρ') → EnvR K M0 B W ρ σ H →
    (∀ vs H', Stp W H H' → EnvR K M0 B W ρ' σ H' → RpA K (wo H' (Mm M0 W)) vs ds → Q vs H') → t σ H Q
/-- a new list, known to nobody else -/
structure SemF (K : Fg) (t : TE) (g : GF) : Prop where
  run : ∀ {M0 : Addr → Prop} {B : Option Addr} {W : Addr → Prop} {ρ ρ' : DEnv} {ds : List D} {σ : L2.St} {H : Hp} {Q : VK}, g ρ = some (ds, ρ') → EnvR K M0 B W ρ σ H →
    (∀ p vs H', Stp W H H' → EnvR K (fun a => M0 a ∨ a = p) B W ρ' σ H' → H p = none → H' p = some (.lst vs) → RpA K (wo H' (Mm (fun a => M0 a ∨ a = p) W)) vs ds → Q (.ref p) H') → t σ H Q

structure DE (K : Fg) (X : Cx) (e : Expr) (t : TE) (g : GE) : Prop where
  pe : PE X e t
  sem : SemE K t g
structure DF (K : Fg) (X : Cx) (e : Expr) (t : TE) (g : GF) : Prop where
  pe : PE X e t
  sem : SemF K t g
structure DT (K : Fg) (X : Cx) (e : Expr) (t : TT) (g : GT) : Prop where
  pt : PT X e t
  sem : SemT K t g
structure DA (K : Fg) (X : Cx) (es : List Expr) (t : TA) (g : GA) : Prop where
  pa : PA X es t
  sem : SemA K t g

/-! ### data functions -/
def gVar (i : Nat) : GE := fun ρ => match ρ[i]? with
  | some (.d x) => some (x, ρ)
  | _ => none
def gC (x : D) : GE := fun ρ => some (x, ρ)
def gBin (op : D → D → Option D) (ga gb : GE) : GE := fun ρ => (ga ρ).bind fun p => (gb p.2).bind fun q => (op p.1 q.1).map fun z => (z, q.2)
def gUn (op : D → Option D) (ga : GE) : GE := fun ρ => (ga ρ).bind fun p => (op p.1).map fun z => (z, p.2)
def gOfF (g : GF) : GE := fun ρ => (g ρ).map fun p => (.list p.1, p.2)
def aNil : GA := fun ρ => some ([], ρ)
def aCons (ga : GE) (gr : GA) : GA := fun ρ => (ga ρ).bind fun p => (gr p.2).map fun q => (p.1 :: q.1, q.2)
def gTpl (ga : GA) : GE := fun ρ => (ga ρ).bind fun p => if p.1.length ≤ 16777216 then some (.tuple p.1, p.2) else none
def gLst (ga : GA) : GF := fun ρ => (ga ρ).bind fun p => if p.1.length ≤ 16777216 then some (p.1, p.2) else none
/-- a built-in or a def on data -/
def gFun (f : List D → Option D) (ga : GA) : GE := fun ρ => (ga ρ).bind fun p => (f p.1).map fun z => (z, p.2)
def gFunF (f : List D → Option (List D)) (ga : GA) : GF := fun ρ => (ga ρ).bind fun p => (f p.1).map fun z => (z, p.2)
/-- a test that is a truth value -/
def gB (ga : GE) : GT := fun ρ => (ga ρ).bind fun p => match p.1 with
  | .bool b => some (b, p.2)
  | _ => none
def gAnd (ga gb : GT) : GT := fun ρ => (ga ρ).bind fun p => if p.1 = true then gb p.2 else some (false, p.2)
def gOr (ga gb : GT) : GT := fun ρ => (ga ρ).bind fun p => if p.1 = true then some (true, p.2) else gb p.2
def gNot (ga : GT) : GT := fun ρ => (ga ρ).map fun p => (!p.1, p.2)
def gAndV (ga gb : GE) : GE := fun ρ => (ga ρ).bind fun p => match p.1 with
  | .bool b => if b = true then gb p.2 else some (.bool false, p.2)
  | _ => none
def gOrV (ga gb : GE) : GE := fun ρ => (ga ρ).bind fun p => match p.1 with
  | .bool b => if b = true then some (.bool true, p.2) else gb p.2
  | _ => none
def gNotV (ga : GE) : GE := fun ρ => (ga ρ).bind fun p => match p.1 with
  | .bool b => some (.bool (!b), p.2)
  | _ => none
def gIfE (gt : GT) (ga gb : GE) : GE := fun ρ => (gt ρ).bind fun p => if p.1 = true then ga p.2 else gb p.2

section
variable {K : Fg} {ta tb : TE} {ga gb : GE} {t u : TT} {gt gu : GT}
theorem sem_var {i : Nat} : SemE K (tVar i) (gVar i) := ⟨fun {M0 B W ρ ρ' d σ H Q} h E q => by
  unfold gVar at h
  split at h
  · rename_i x hx
    cases h
    obtain ⟨v, e, r⟩ := E.slot i _ hx
    exact ⟨v, e, q v H .refl E r⟩
  · cases h⟩
theorem sem_c {v : V} {x : D} (r : ∀ H, Rp K H v x) : SemE K (tC v) (gC x) := ⟨fun h E q => by
  cases h
  exact q _ _ .refl E (r _)⟩
theorem none_of_trk {M0 : Addr → Prop} {B : Option Addr} {W : Addr → Prop} {ρ : DEnv} {σ : L2.St} {H : Hp} (E : EnvR K M0 B W ρ σ H) : ∀ a, Mm M0 W a → ∃ o, H a = some o ∧ isCell o := E.trk
/-- an operation on two values does on data what op says -/
def ROk (K : Fg) (r : R2) (op : D → D → Option D) : Prop := ∀ {H : Hp} {M : Addr → Prop} {x y : V} {dx dy dz : D} {Q : VK}, (∀ a, M a → ∃ o, H a = some o ∧ isCell o) → Rp K (wo H M) x dx → Rp K (wo H M) y dy → op dx dy = some dz →
  (∀ v H', Same H H' → Rp K (wo H' M) v dz → Q v H') → r x y H Q
def UOk (K : Fg) (r : V → Hp → VK → Prop) (op : D → Option D) : Prop := ∀ {H : Hp} {M : Addr → Prop} {x : V} {dx dz : D} {Q : VK}, (∀ a, M a → ∃ o, H a = some o ∧ isCell o) → Rp K (wo H M) x dx → op dx = some dz →
  (∀ v H', Same H H' → Rp K (wo H' M) v dz → Q v H') → r x H Q
def COk (K : Fg) (r : List V → Hp → VK → Prop) (f : List D → Option D) : Prop := ∀ {H : Hp} {M : Addr → Prop} {vs : List V} {ds : List D} {dz : D} {Q : VK}, (∀ a, M a → ∃ o, H a = some o ∧ isCell o) → RpA K (wo H M) vs ds → f ds = some dz →
  (∀ v H', Same H H' → Rp K (wo H' M) v dz → Q v H') → r vs H Q
def CFOk (K : Fg) (r : List V → Hp → VK → Prop) (f : List D → Option (List D)) : Prop := ∀ {H : Hp} {M : Addr → Prop} {vs : List V} {ds zs : List D} {Q : VK}, (∀ a, M a → ∃ o, H a = some o ∧ isCell o) → RpA K (wo H M) vs ds → f ds = some zs →
  (∀ p ws H', Same H H' → H p = none → H' p = some (.lst ws) → RpA K (wo H' fun a => M a ∨ a = p) ws zs → Q (.ref p) H') → r vs H Q
theorem sem_op {r : R2} {op : D → D → Option D} (hr : ROk K r op) (ha : SemE K ta ga) (hb : SemE K tb gb) : SemE K (tOp r ta tb) (gBin op ga gb) := ⟨fun {M0 B W ρ ρ' d σ H Q} h E q => by
  unfold gBin at h
  obtain ⟨⟨x, ρ1⟩, h1, h⟩ := Option.bind_eq_some_iff.mp h
  obtain ⟨⟨y, ρ2⟩, h2, h⟩ := Option.bind_eq_some_iff.mp h
  obtain ⟨z, h3, h⟩ := Option.map_eq_some_iff.mp h
  cases h
  refine ha.run h1 E fun v1 H1 s1 E1 r1 => ?_
  refine hb.run h2 E1 fun v2 H2 s2 E2 r2 => ?_
  refine hr E2.trk (r1.mono s2.wo) r2 h3 fun v H' s r => ?_
  exact q v H' ((s1.trans s2).trans (.same s)) (E2.same s) r⟩
theorem sem_un {r : V → Hp → VK → Prop} {op : D → Option D} (hr : UOk K r op) (ha : SemE K ta ga) : SemE K (tUn r ta) (gUn op ga) := ⟨fun {M0 B W ρ ρ' d σ H Q} h E q => by
  unfold gUn at h
  obtain ⟨⟨x, ρ1⟩, h1, h⟩ := Option.bind_eq_some_iff.mp h
  obtain ⟨z, h3, h⟩ := Option.map_eq_some_iff.mp h
  cases h
  refine ha.run h1 E fun v1 H1 s1 E1 r1 => ?_
  refine hr E1.trk r1 h3 fun v H' s r => ?_
  exact q v H' (s1.trans (.same s)) (E1.same s) r⟩
theorem wo_new {H H' : Hp} {M : Addr → Prop} {p : Addr} (n : ¬ M p) : Same (wo H' fun a => M a ∨ a = p) (wo H' M) := wo_less fun _ m => .inl m
theorem sem_ofF {te : TE} {g : GF} (h : SemF K te g) : SemE K te (gOfF g) := ⟨fun {M0 B W ρ ρ' d σ H Q} e E q => by
  unfold gOfF at e
  obtain ⟨⟨x, ρ1⟩, h1, e⟩ := Option.map_eq_some_iff.mp e
  cases e
  refine h.run h1 E fun p vs H' s0 E0 np hp r => ?_
  refine q _ _ s0 (E0.join fun a m => .inl m) (.lst (wo_some hp fun m => ?_) (r.mono (wo_less fun a m => m.elim (fun m => .inl (.inl m)) .inr)))
  exact E.fresh np m⟩
theorem sem_nil : SemA K tNil aNil := ⟨fun h E q => by
  cases h
  exact q _ _ .refl E .nil⟩
theorem sem_cons {tr : TA} {gr : GA} (ha : SemE K ta ga) (hr : SemA K tr gr) : SemA K (tCons ta tr) (aCons ga gr) := ⟨fun {M0 B W ρ ρ' d σ H Q} h E q => by
  unfold aCons at h
  obtain ⟨⟨x, ρ1⟩, h1, h⟩ := Option.bind_eq_some_iff.mp h
  obtain ⟨⟨xs, ρ2⟩, h2, h⟩ := Option.map_eq_some_iff.mp h
  cases h
  refine ha.run h1 E fun v1 H1 s1 E1 r1 => ?_
  refine hr.run h2 E1 fun vs H2 s2 E2 r2 => ?_
  exact q _ _ (s1.trans s2) E2 (.cons (r1.mono s2.wo) r2)⟩
theorem sz {n : Nat} (h : n ≤ 16777216) : n ≤ sizeLine := by rw [sizeLine_eq]; exact h
theorem sem_tup {t : TA} {g : GA} (h : SemA K t g) : SemE K (tTup t) (gTpl g) := ⟨fun {M0 B W ρ ρ' d σ H Q} e E q => by
  unfold gTpl at e
  obtain ⟨⟨x, ρ1⟩, h1, e⟩ := Option.bind_eq_some_iff.mp e
  split at e
  · rename_i hl
    cases e
    refine h.run h1 E fun vs H1 s1 E1 r1 => ⟨sz (by rw [r1.length]; exact hl), fun p np => ?_⟩
    have s := same_upd (o := .tup vs) np
    exact q _ _ (s1.trans (.same s)) (E1.same s) (.tup (SqT.of (wo_some upd_same (E1.fresh np))) (r1.mono (wo_mono s)))
  · cases e⟩
theorem back_none {M0 : Addr → Prop} {B : Option Addr} {W : Addr → Prop} {ρ : DEnv} {σ : L2.St} {H H' : Hp} {p : Addr} (s : Stp W H H') (E : EnvR K M0 B W ρ σ H) (np : H' p = none) (E' : ∃ ρ' σ', EnvR K M0 B W ρ' σ' H') : H p = none := by
  obtain ⟨ρ', σ', E'⟩ := E'
  rcases none_back s np with w | h
  · exact absurd (.inr w) (E'.fresh np)
  · exact h
theorem lay_new {M0 : Addr → Prop} {B : Option Addr} {W : Addr → Prop} {ρ : DEnv} {σ : L2.St} {H : Hp} {p : Addr} {vs : List V} {ds : List D} (E : EnvR K M0 B W ρ σ H) (np : H p = none) (r : RpA K (wo H (Mm M0 W)) vs ds) :
    RpA K (wo (upd H p (.lst vs)) (Mm (fun a => M0 a ∨ a = p) W)) vs ds := r.mono fun a o h => by
  obtain ⟨h1, h2⟩ := wo_get h
  have ne : a ≠ p := ne_of_none h1 np
  refine wo_some (by rw [upd_ne ne]; exact h1) fun m => ?_
  rcases m with (m | m) | m
  · exact h2 (.inl m)
  · exact ne m
  · exact h2 (.inr m)
theorem sem_lst {t : TA} {g : GA} (h : SemA K t g) : SemF K (tLst t) (gLst g) := ⟨fun {M0 B W ρ ρ' d σ H Q} e E q => by
  unfold gLst at e
  obtain ⟨⟨x, ρ1⟩, h1, e⟩ := Option.bind_eq_some_iff.mp e
  split at e
  · rename_i hl
    cases e
    refine h.run h1 E fun vs H1 s1 E1 r1 => ⟨sz (by rw [r1.length]; exact hl), fun p np => ?_⟩
    exact q p vs _ (s1.trans (.same (same_upd np))) (E1.apart np (same_upd np) upd_same) (back_none s1 E np ⟨_, _, E1⟩) upd_same (lay_new E1 np r1)
  · cases e⟩
theorem sem_fun {r : List V → Hp → VK → Prop} {f : List D → Option D} {t : TA} {g : GA} (hr : COk K r f) (h : SemA K t g) : SemE K (tCB r t) (gFun f g) := ⟨fun {M0 B W ρ ρ' d σ H Q} e E q => by
  unfold gFun at e
  obtain ⟨⟨x, ρ1⟩, h1, e⟩ := Option.bind_eq_some_iff.mp e
  obtain ⟨z, h3, e⟩ := Option.map_eq_some_iff.mp e
  cases e
  refine h.run h1 E fun vs H1 s1 E1 r1 => ?_
  refine hr E1.trk r1 h3 fun v H' s rv => ?_
  exact q v H' (s1.trans (.same s)) (E1.same s) rv⟩
theorem sem_funF {r : List V → Hp → VK → Prop} {f : List D → Option (List D)} {t : TA} {g : GA} (hr : CFOk K r f) (h : SemA K t g) : SemF K (tCB r t) (gFunF f g) := ⟨fun {M0 B W ρ ρ' d σ H Q} e E q => by
  unfold gFunF at e
  obtain ⟨⟨x, ρ1⟩, h1, e⟩ := Option.bind_eq_some_iff.mp e
  obtain ⟨z, h3, e⟩ := Option.map_eq_some_iff.mp e
  cases e
  refine h.run h1 E fun vs H1 s1 E1 r1 => ?_
  refine hr E1.trk r1 h3 fun p ws H' s np hp rv => ?_
  refine q p ws H' (s1.trans (.same s)) (E1.apart np s hp) (back_none s1 E np ⟨_, _, E1⟩) hp (rv.mono (wo_less fun a m => ?_))
  rcases m with m | m
  · exact m.elim (fun m => .inl (.inl m)) fun m => .inr m
  · exact .inl (.inr m)⟩
/-! tests -/
theorem sem_B (ha : SemE K ta ga) : SemT K (tB ta) (gB ga) := ⟨fun {M0 B W ρ ρ' d σ H Q} h E q => by
  unfold gB at h
  obtain ⟨⟨x, ρ1⟩, h1, h⟩ := Option.bind_eq_some_iff.mp h
  split at h
  · rename_i b hb
    cases h
    have hb : x = .bool _ := hb
    subst hb
    refine ha.run h1 E fun v H1 s1 E1 r1 => ?_
    cases r1
    exact ⟨_, rfl, q _ s1 E1⟩
  · cases h⟩
theorem sem_and (ha : SemT K t gt) (hb : SemT K u gu) : SemT K (tAnd t u) (gAnd gt gu) := ⟨fun {M0 B W ρ ρ' d σ H Q} h E q => by
  unfold gAnd at h
  obtain ⟨⟨x, ρ1⟩, h1, h⟩ := Option.bind_eq_some_iff.mp h
  refine ha.run h1 E fun H1 s1 E1 => ?_
  cases x with
  | true => exact hb.run h E1 fun H2 s2 E2 => q _ (s1.trans s2) E2
  | false => cases h; exact q _ s1 E1⟩
theorem sem_or (ha : SemT K t gt) (hb : SemT K u gu) : SemT K (tOr t u) (gOr gt gu) := ⟨fun {M0 B W ρ ρ' d σ H Q} h E q => by
  unfold gOr at h
  obtain ⟨⟨x, ρ1⟩, h1, h⟩ := Option.bind_eq_some_iff.mp h
  refine ha.run h1 E fun H1 s1 E1 => ?_
  cases x with
  | false => exact hb.run h E1 fun H2 s2 E2 => q _ (s1.trans s2) E2
  | true => cases h; exact q _ s1 E1⟩
theorem sem_not (ha : SemT K t gt) : SemT K (tNot t) (gNot gt) := ⟨fun {M0 B W ρ ρ' d σ H Q} h E q => by
  unfold gNot at h
  obtain ⟨⟨x, ρ1⟩, h1, h⟩ := Option.map_eq_some_iff.mp h
  cases h
  exact ha.run h1 E fun H1 s1 E1 => q _ s1 E1⟩
theorem sem_andV (ha : SemE K ta ga) (hb : SemE K tb gb) : SemE K (tAndV ta tb) (gAndV ga gb) := ⟨fun {M0 B W ρ ρ' d σ H Q} h E q => by
  unfold gAndV at h
  obtain ⟨⟨x, ρ1⟩, h1, h⟩ := Option.bind_eq_some_iff.mp h
  split at h
  · rename_i b hb'
    have hb' : x = .bool b := hb'
    subst hb'
    refine ha.run h1 E fun v H1 s1 E1 r1 => ?_
    cases r1
    refine ⟨_, rfl, ?_⟩
    cases b with
    | true => exact hb.run h E1 fun v2 H2 s2 E2 r2 => q _ _ (s1.trans s2) E2 r2
    | false => cases h; exact q _ _ s1 E1 (.bl false)
  · cases h⟩
theorem sem_orV (ha : SemE K ta ga) (hb : SemE K tb gb) : SemE K (tOrV ta tb) (gOrV ga gb) := ⟨fun {M0 B W ρ ρ' d σ H Q} h E q => by
  unfold gOrV at h
  obtain ⟨⟨x, ρ1⟩, h1, h⟩ := Option.bind_eq_some_iff.mp h
  split at h
  · rename_i b hb'
    have hb' : x = .bool b := hb'
    subst hb'
    refine ha.run h1 E fun v H1 s1 E1 r1 => ?_
    cases r1
    refine ⟨_, rfl, ?_⟩
    cases b with
    | false => exact hb.run h E1 fun v2 H2 s2 E2 r2 => q _ _ (s1.trans s2) E2 r2
    | true => cases h; exact q _ _ s1 E1 (.bl true)
  · cases h⟩
theorem sem_notV (ha : SemE K ta ga) : SemE K (tNotV ta) (gNotV ga) := ⟨fun {M0 B W ρ ρ' d σ H Q} h E q => by
  unfold gNotV at h
  obtain ⟨⟨x, ρ1⟩, h1, h⟩ := Option.bind_eq_some_iff.mp h
  split at h
  · rename_i b hb'
    have hb' : x = .bool b := hb'
    subst hb'
    cases h
    refine ha.run h1 E fun v H1 s1 E1 r1 => ?_
    cases r1
    exact ⟨_, rfl, q _ _ s1 E1 (.bl _)⟩
  · cases h⟩
theorem sem_ifE (ht : SemT K t gt) (ha : SemE K ta ga) (hb : SemE K tb gb) : SemE K (tIf t ta tb) (gIfE gt ga gb) := ⟨fun {M0 B W ρ ρ' d σ H Q} h E q => by
  unfold gIfE at h
  obtain ⟨⟨x, ρ1⟩, h1, h⟩ := Option.bind_eq_some_iff.mp h
  refine ht.run h1 E fun H1 s1 E1 => ?_
  cases x with
  | true => exact ha.run h E1 fun v2 H2 s2 E2 r2 => q _ _ (s1.trans s2) E2 r2
  | false => exact hb.run h E1 fun v2 H2 s2 E2 r2 => q _ _ (s1.trans s2) E2 r2⟩
end

/-! ### operations on data -/
def dAdd : D → D → Option D
  | .int i, .int j => some (.int (i + j))
  | .list a, .list b => if a.length + b.length ≤ 16777216 then some (.list (a ++ b)) else none
  | .tuple a, .tuple b => if a ≠ [] ∧ a.length + b.length ≤ 16777216 then some (.tuple (a ++ b)) else none
  | .str a, .str b => if a.length + b.length ≤ 16777216 then some (.str (a ++ b)) else none
  | _, _ => none
def dSub : D → D → Option D
  | .int i, .int j => some (.int (i - j))
  | _, _ => none
def mulOk (i j : Int) : Bool := decide (i.natAbs.log2 + j.natAbs.log2 < 134000000)
def dMul : D → D → Option D
  | .int i, .int j => if mulOk i j = true then some (.int (i * j)) else none
  | _, _ => none
def dFdiv : D → D → Option D
  | .int i, .int j => if j ≠ 0 ∧ j.natAbs.log2 < 9000 then some (.int (i.fdiv j)) else none
  | _, _ => none
def dMod : D → D → Option D
  | .int i, .int j => if j ≠ 0 then some (.int (i.fmod j)) else none
  | _, _ => none
def dPow : D → D → Option D
  | .int i, .int j => if 0 ≤ j ∧ j ≤ 1000000 ∧ i.natAbs < 2 ^ 64 then some (.int (i ^ j.toNat)) else none
  | _, _ => none
def dNeg : D → Option D
  | .int i => some (.int (-i))
  | _ => none
def dLt : D → D → Option D
  | .int i, .int j => some (.bool (decide (i < j)))
  | _, _ => none
def dLe : D → D → Option D
  | .int i, .int j => some (.bool (decide (i ≤ j)))
  | _, _ => none
def dGt : D → D → Option D
  | .int i, .int j => some (.bool (decide (j < i)))
  | _, _ => none
def dGe : D → D → Option D
  | .int i, .int j => some (.bool (decide (j ≤ i)))
  | _, _ => none
def dEq (x y : D) : Option D := if SeqAt.shaped x = true ∧ SeqAt.shaped y = true then some (.bool (PyData.eqv x y)) else none
def dNe (x y : D) : Option D := if SeqAt.shaped x = true ∧ SeqAt.shaped y = true then some (.bool (!PyData.eqv x y)) else none
/-- x[i] -/
def dIx : D → D → Option D
  | .tuple xs, .int i => atI xs i
  | .list xs, .int i => atI xs i
  | .dict [(.none, .list xs)], .int i => atI xs i
  | _, _ => none

section
variable {K : Fg}
theorem rok_I0 {g : Int → Int → V} {f : Int → Int → D} {op : D → D → Option D} (hf : ∀ i j H, Rp K H (g i j) (f i j)) (ho : ∀ x y z, op x y = some z → ∃ i j, x = .int i ∧ y = .int j ∧ z = f i j) : ROk K (rI0 g) op := fun {H M x y dx dy dz Q} _ rx ry e q => by
  obtain ⟨i, j, rfl, rfl, rfl⟩ := ho _ _ _ e
  cases rx; cases ry
  exact ⟨i, j, rfl, rfl, q _ _ (.refl _) (hf i j _)⟩
theorem rok_I {C : Int → Int → Prop} {g : Int → Int → V} {f : Int → Int → D} {op : D → D → Option D} (hf : ∀ i j H, Rp K H (g i j) (f i j)) (ho : ∀ x y z, op x y = some z → ∃ i j, x = .int i ∧ y = .int j ∧ C i j ∧ z = f i j) : ROk K (rI C g) op := fun {H M x y dx dy dz Q} _ rx ry e q => by
  obtain ⟨i, j, rfl, rfl, c, rfl⟩ := ho _ _ _ e
  cases rx; cases ry
  exact ⟨i, j, rfl, rfl, c, q _ _ (.refl _) (hf i j _)⟩
theorem Rp.lst_get {H : Hp} {v : V} {xs : List D} (r : Rp K H v (.list xs)) : ∃ a vs, v = .ref a ∧ H a = some (.lst vs) ∧ RpA K H vs xs := by
  cases r with
  | lst h r => exact ⟨_, _, rfl, h, r⟩
theorem Rp.tup_get {H : Hp} {v : V} {xs : List D} (r : Rp K H v (.tuple xs)) : ∃ a vs, v = .ref a ∧ SqT K H a vs ∧ RpA K H vs xs := by
  cases r with
  | tup h r => exact ⟨_, _, rfl, h, r⟩
theorem Rp.str_get {H : Hp} {v : V} {x : Str} (r : Rp K H v (.str x)) : v = .str x := by
  cases r; rfl
theorem Rp.int_get {H : Hp} {v : V} {x : Int} (r : Rp K H v (.int x)) : v = .int x := by
  cases r; rfl
theorem Rp.bl_get {H : Hp} {v : V} {x : Bool} (r : Rp K H v (.bool x)) : v = .bl x := by
  cases r; rfl
theorem Rp.non_get {H : Hp} {v : V} (r : Rp K H v .none) : v = .non := by
  cases r; rfl
theorem Rp.ro_get {H : Hp} {v : V} {xs : List D} (r : Rp K H v (.dict [(.none, .list xs)])) : ∃ a vs, v = .ref a ∧ SqL K H a vs ∧ RpA K H vs xs := by
  generalize e : PyData.dict [(.none, .list xs)] = d at r
  cases r with
  | ro h r => cases e; exact ⟨_, _, rfl, h, r⟩
  | dct h r =>
    cases r with
    | nil => cases e
    | @cons k v kvs d ds h1 r1 =>
      injection e with e
      injection e with e1 e2
      injection e1 with e3 e4
      cases k <;> cases e3
  | _ => cases e
/-- a new list beside the others -/
theorem lay_any {H : Hp} {M : Addr → Prop} {p : Addr} {vs : List V} {ds : List D} (tr : ∀ a, M a → ∃ o, H a = some o ∧ isCell o) (np : H p = none) (r : RpA K (wo H M) vs ds) : Rp K (wo (upd H p (.lst vs)) M) (.ref p) (.list ds) := by
  have n : ¬ M p := fun m => by
    obtain ⟨o, e, _⟩ := tr p m
    rw [np] at e; cases e
  exact .lst (wo_some upd_same n) (r.mono (wo_mono (same_upd np)))
theorem lay_tup {H : Hp} {M : Addr → Prop} {p : Addr} {vs : List V} {ds : List D} (tr : ∀ a, M a → ∃ o, H a = some o ∧ isCell o) (np : H p = none) (r : RpA K (wo H M) vs ds) : Rp K (wo (upd H p (.tup vs)) M) (.ref p) (.tuple ds) := by
  have n : ¬ M p := fun m => by
    obtain ⟨o, e, _⟩ := tr p m
    rw [np] at e; cases e
  exact .tup (SqT.of (wo_some upd_same n)) (r.mono (wo_mono (same_upd np)))
abbrev rAddS : R2 := fun x y H Q => ∃ i j, x = .str i ∧ y = .str j ∧ i.length + j.length ≤ sizeLine ∧ Q (.str (i ++ j)) H
abbrev rAddAny (K : Fg) : R2 := fun x y H Q => rI0 (fun i j => .int (i + j)) x y H Q ∨ ((rCat x y H Q) ∨ (rCatT K x y H Q ∨ rAddS x y H Q))
theorem op_addAny {X : Cx} : OpR X (binaryOp .Add) (rAddAny X.K) := op_add.or (op_cat.or (op_catT.or op_add_str))
theorem rok_add : ROk K (rAddAny K) dAdd := fun {H M x y dx dy dz Q} tr rx ry e q => by
  unfold dAdd at e
  split at e
  · cases e; cases rx; cases ry
    exact .inl ⟨_, _, rfl, rfl, q _ _ (.refl _) (.int _)⟩
  · split at e
    · rename_i hl
      cases e
      obtain ⟨a, vs, rfl, h1, r1⟩ := rx.lst_get
      obtain ⟨b, ws, rfl, h2, r2⟩ := ry.lst_get
      refine .inr (.inl ⟨a, b, vs, ws, rfl, rfl, (wo_get h1).1, (wo_get h2).1, sz (by rw [r1.length, r2.length]; exact hl), fun p np => ?_⟩)
      exact q _ _ (same_upd np) (lay_any tr np (r1.append r2))
    · cases e
  · split at e
    · rename_i hl
      cases e
      obtain ⟨a, vs, rfl, h1, r1⟩ := rx.tup_get
      obtain ⟨b, ws, rfl, h2, r2⟩ := ry.tup_get
      refine .inr (.inr (.inl ⟨a, b, vs, ws, rfl, rfl, sqT_same wo_same h1, sqT_same wo_same h2, fun z => ?_, sz (by rw [r1.length, r2.length]; exact hl.2), fun z => ?_, fun z p np => ?_⟩))
      · subst z
        have := r1.length
        exact hl.1 (List.length_eq_zero_iff.mp this.symm)
      · subst z
        have := r2.length
        have e2 := List.length_eq_zero_iff.mp this.symm
        rw [e2, List.append_nil] at q
        exact q _ _ (.refl _) (.tup h1 r1)
      · exact q _ _ (same_upd np) (lay_tup tr np (r1.append r2))
    · cases e
  · split at e
    · rename_i hl
      cases e
      have e1 := rx.str_get
      have e2 := ry.str_get
      subst e1 e2
      exact .inr (.inr (.inr ⟨_, _, rfl, rfl, sz hl, q _ _ (.refl _) (.str _)⟩))
    · cases e
  · cases e
theorem rok_sub : ROk K (rI0 fun i j => .int (i - j)) dSub := rok_I0 (f := fun i j => .int (i - j)) (fun _ _ _ => .int _) fun x y z e => by
  unfold dSub at e
  split at e
  · cases e; exact ⟨_, _, rfl, rfl, rfl⟩
  · cases e
def CMulX (i j : Int) : Prop := mulOk i j = true
theorem CMulX.ok {i j : Int} (h : CMulX i j) : IntMulOk i j := by
  have b : ∀ x : Int, Builtin.Int.intBits x ≤ x.natAbs.log2 + 1 := fun x => by
    unfold Builtin.Int.intBits
    split <;> omega
  have h1 := b i
  have h2 := b j
  have h3 : i.natAbs.log2 + j.natAbs.log2 < 134000000 := of_decide_eq_true h
  have el : bitsLine = 134217728 := by decide
  intro z
  have z3 := of_decide_eq_true (Bool.and_eq_true_iff.mp z).2
  unfold Builtin.Int.intBits at h1 h2
  rw [el] at z3
  unfold Builtin.Int.intBits at z3
  omega
theorem op_mulX {X : Cx} : OpR X (binaryOp .Mult) (rI CMulX fun i j => .int (i * j)) := opI fun _ _ _ _ _ _ _ c q => PyProof.Rows.mul_int q (CMulX.ok c)
theorem rok_mul : ROk K (rI CMulX fun i j => .int (i * j)) dMul := rok_I (f := fun i j => .int (i * j)) (fun _ _ _ => .int _) fun x y z e => by
  unfold dMul at e
  split at e
  · split at e
    · rename_i c; cases e; exact ⟨_, _, rfl, rfl, c, rfl⟩
    · cases e
  · cases e
def CDivX (_ j : Int) : Prop := j ≠ 0 ∧ j.natAbs.log2 < 9000
theorem op_fdivX {X : Cx} : OpR X (binaryOp .FloorDiv) (rI CDivX fun i j => .int (i.fdiv j)) := opI fun i j _ _ _ _ _ c q => PyProof.Rows.floordiv_int c.1 q (.inl (PyProof.noPylong_of_log2 c.2))
theorem rok_fdiv : ROk K (rI CDivX fun i j => .int (i.fdiv j)) dFdiv := rok_I (f := fun i j => .int (i.fdiv j)) (fun _ _ _ => .int _) fun x y z e => by
  unfold dFdiv at e
  split at e
  · split at e
    · rename_i c; cases e; exact ⟨_, _, rfl, rfl, c, rfl⟩
    · cases e
  · cases e
theorem rok_mod : ROk K (rI (fun _ j => j ≠ 0) fun i j => .int (i.fmod j)) dMod := rok_I (f := fun i j => .int (i.fmod j)) (fun _ _ _ => .int _) fun x y z e => by
  unfold dMod at e
  split at e
  · split at e
    · rename_i c; cases e; exact ⟨_, _, rfl, rfl, c, rfl⟩
    · cases e
  · cases e
theorem rok_pow : ROk K (rI CPow fun i j => .int (i ^ j.toNat)) dPow := rok_I (f := fun i j => .int (i ^ j.toNat)) (fun _ _ _ => .int _) fun x y z e => by
  unfold dPow at e
  split at e
  · split at e
    · rename_i c; cases e; exact ⟨_, _, rfl, rfl, c, rfl⟩
    · cases e
  · cases e
theorem uok_neg : UOk K (rU fun i => .int (-i)) dNeg := fun {H M x dx dz Q} _ rx e q => by
  unfold dNeg at e
  split at e
  · cases e; cases rx
    exact ⟨_, rfl, q _ _ (.refl _) (.int _)⟩
  · cases e
theorem rok_lt : ROk K (rI0 fun i j => .bl (decide (i < j))) dLt := rok_I0 (f := fun i j => .bool (decide (i < j))) (fun _ _ _ => .bl _) fun x y z e => by
  unfold dLt at e
  split at e
  · cases e; exact ⟨_, _, rfl, rfl, rfl⟩
  · cases e
theorem rok_le : ROk K (rI0 fun i j => .bl (decide (i ≤ j))) dLe := rok_I0 (f := fun i j => .bool (decide (i ≤ j))) (fun _ _ _ => .bl _) fun x y z e => by
  unfold dLe at e
  split at e
  · cases e; exact ⟨_, _, rfl, rfl, rfl⟩
  · cases e
theorem rok_gt : ROk K (rI0 fun i j => .bl (decide (j < i))) dGt := rok_I0 (f := fun i j => .bool (decide (j < i))) (fun _ _ _ => .bl _) fun x y z e => by
  unfold dGt at e
  split at e
  · cases e; exact ⟨_, _, rfl, rfl, rfl⟩
  · cases e
theorem rok_ge : ROk K (rI0 fun i j => .bl (decide (j ≤ i))) dGe := rok_I0 (f := fun i j => .bool (decide (j ≤ i))) (fun _ _ _ => .bl _) fun x y z e => by
  unfold dGe at e
  split at e
  · cases e; exact ⟨_, _, rfl, rfl, rfl⟩
  · cases e
mutual
theorem Rp.dp {H : Hp} : ∀ {v : V} {d : D}, Rp K H v d → d.canLay0 = true → Dp K H v d
  | _, _, .non, _ => .non
  | _, _, .bl b, _ => .bl b
  | _, _, .int i, _ => .int i
  | _, _, .str x, _ => .str x
  | _, _, .lst h r, c => .lst (SqL.of h) (RpA.dp r (by simpa [PyData.canLay0] using c))
  | _, _, .tup h r, c => .tup h (RpA.dp r (by simpa [PyData.canLay0] using c))
  | _, _, .ro h r, c => by simp [PyData.canLay0] at c
  | _, _, .dct h r, c => by simp [PyData.canLay0] at c
theorem RpA.dp {H : Hp} : ∀ {vs : List V} {ds : List D}, RpA K H vs ds → PyData.canLayAll0 ds = true → DpAll K H vs ds
  | _, _, .nil, _ => .nil
  | _, _, .cons h r, c => by
    have c' := c
    unfold PyData.canLayAll0 at c'
    have c2 := Bool.and_eq_true_iff.mp c'
    exact .cons (Rp.dp h c2.1) (RpA.dp r c2.2)
end
theorem rok_eq : ROk K (rEqD K) dEq := fun {H M x y dx dy dz Q} _ rx ry e q => by
  unfold dEq at e
  split at e
  · rename_i c
    cases e
    exact ⟨dx, dy, (rx.mono wo_same).dp (SeqAt.canLay_of_shaped c.1), (ry.mono wo_same).dp (SeqAt.canLay_of_shaped c.2), c.1, c.2, q _ _ (.refl _) (.bl _)⟩
  · cases e
theorem rok_ne : ROk K (rNeD K) dNe := fun {H M x y dx dy dz Q} _ rx ry e q => by
  unfold dNe at e
  split at e
  · rename_i c
    cases e
    exact ⟨dx, dy, (rx.mono wo_same).dp (SeqAt.canLay_of_shaped c.1), (ry.mono wo_same).dp (SeqAt.canLay_of_shaped c.2), c.1, c.2, q _ _ (.refl _) (.bl _)⟩
  · cases e
theorem RpA.at {H : Hp} {vs : List V} {ds : List D} {i : Int} {d : D} (r : RpA K H vs ds) (h : atI ds i = some d) : ∃ v, atI vs i = some v ∧ Rp K H v d := by
  unfold atI at h ⊢
  obtain ⟨j, h1, h2⟩ := Option.bind_eq_some_iff.mp h
  obtain ⟨v, h3, h4⟩ := r.get h2
  exact ⟨v, by rw [r.length, h1]; exact h3, h4⟩
abbrev rIxAny (K : Fg) : R2 := fun x y H Q => rIxL K x y H Q ∨ rIxT K x y H Q
theorem ix_any {X : Cx} : IxR X (rIxAny X.K) := ix_list.or ix_tup
theorem rok_ix : ROk K (rIxAny K) dIx := fun {H M x y dx dy dz Q} _ rx ry e q => by
  unfold dIx at e
  split at e
  · obtain ⟨a, vs, rfl, h, r⟩ := rx.tup_get
    cases ry
    obtain ⟨v, h1, h2⟩ := r.at e
    exact .inr ⟨a, vs, _, v, rfl, rfl, sqT_same wo_same h, h1, q _ _ (.refl _) h2⟩
  · obtain ⟨a, vs, rfl, h, r⟩ := rx.lst_get
    cases ry
    obtain ⟨v, h1, h2⟩ := r.at e
    exact .inl ⟨a, vs, _, v, rfl, rfl, SqL.of (wo_get h).1, h1, q _ _ (.refl _) h2⟩
  · obtain ⟨a, vs, rfl, h, r⟩ := rx.ro_get
    cases ry
    obtain ⟨v, h1, h2⟩ := r.at e
    exact .inl ⟨a, vs, _, v, rfl, rfl, sqL_same wo_same h, h1, q _ _ (.refl _) h2⟩
  · cases e
end
end TB
namespace TB
open PySem L2

/-! ### statements -/
inductive Out where
  | nx | bk | ct
  | rt (x : D)
  | rf (xs : List D)
abbrev GS := DEnv → Option (Out × DEnv)
def At (K : Fg) (M0 : Addr → Prop) (B : Option Addr) (W : Addr → Prop) (H : Hp) (E : Ends) (σ : L2.St) : Out → Prop
  | .nx => E.nx σ H
  | .bk => E.bk σ H
  | .ct => E.ct σ H
  | .rt x => ∀ v, Rp K (wo H (Mm M0 W)) v x → E.rt v H
  | .rf xs => ∀ p vs, W p → some p ≠ B → ¬ M0 p → H p = some (.lst vs) → RpA K (wo H (Mm M0 W)) vs xs → E.rt (.ref p) H
structure SemS (K : Fg) (t : TS) (g : GS) : Prop where
  run : ∀ {M0 : Addr → Prop} {B : Option Addr} {W : Addr → Prop} {ρ ρ' : DEnv} {o : Out} {σ : L2.St} {H : Hp} {E : Ends}, g ρ = some (o, ρ') → EnvR K M0 B W ρ σ H →
    (∀ W' σ' H', Nxt W W' H H' → EnvR K M0 B W' ρ' σ' H' → At K M0 B W' H' E σ' o) → t E σ H
structure DS (K : Fg) (X : Cx) (st : Stmt) (t : TS) (g : GS) : Prop where
  ps : PS X st t
  sem : SemS K t g
structure DSs (K : Fg) (X : Cx) (st : List Stmt) (t : TS) (g : GS) : Prop where
  pss : PSs X st t
  sem : SemS K t g

def gDrop (ge : GE) : GS := fun ρ => (ge ρ).map fun p => (.nx, p.2)
def gSet (i : Nat) (ge : GE) : GS := fun ρ => (ge ρ).map fun p => (.nx, p.2.set i (.d p.1))
def gSetF (i : Nat) (ge : GF) : GS := fun ρ => (ge ρ).map fun p => (.nx, p.2.set i (.m p.1))
def gRet (ge : GE) : GS := fun ρ => (ge ρ).map fun p => (.rt p.1, p.2)
def gRetN : GS := fun ρ => some (.rt .none, ρ)
/-- return a list of one's own, handed over -/
def gRetM (i : Nat) : GS := fun ρ => match ρ[i]? with
  | some (.m xs) => some (.rf xs, ρ)
  | _ => none
def gSkip : GS := fun ρ => some (.nx, ρ)
def gBrk : GS := fun ρ => some (.bk, ρ)
def gCnt : GS := fun ρ => some (.ct, ρ)
def gSeq (g h : GS) : GS := fun ρ => (g ρ).bind fun p => match p.1 with
  | .nx => h p.2
  | o => some (o, p.2)
def gIf (gt : GT) (g h : GS) : GS := fun ρ => (gt ρ).bind fun p => if p.1 = true then g p.2 else h p.2
/-- a, b = x, y -/
def gPar (i j : Nat) (ga : GA) : GS := fun ρ => (ga ρ).bind fun p => match p.1 with
  | [x, y] => some (.nx, (p.2.set i (.d x)).set j (.d y))
  | _ => none
/-- from here on the i-th slot's list is data -/
def gFrz (i : Nat) (g : GS) : GS := fun ρ => match ρ[i]? with
  | some (.m xs) => g (ρ.set i (.d (.list xs)))
  | _ => g ρ
abbrev GG := D → DEnv → Option DEnv
def Keep (ts : List Nat) (σ σ' : L2.St) : Prop := σ'.length = σ.length ∧ ∀ j, j ∉ ts → σ'[j]? = σ[j]?
structure SemG (K : Fg) (t : TG) (g : GG) (ts : List Nat) : Prop where
  run : ∀ {M0 : Addr → Prop} {B : Option Addr} {W : Addr → Prop} {ρ ρ' : DEnv} {x : D} {v : V} {σ : L2.St} {H : Hp} {Q : L2.St → Hp → Prop}, g x ρ = some ρ' → EnvR K M0 B W ρ σ H → Rp K (wo H (Mm M0 W)) v x →
    (∀ σ' H', Same H H' → EnvR K M0 B W ρ' σ' H' → Keep ts σ σ' → Q σ' H') → t v σ H Q
def gN (i : Nat) : GG := fun x ρ => some (ρ.set i (.d x))
abbrev GGs := List D → DEnv → Option DEnv
structure SemGs (K : Fg) (t : TGs) (g : GGs) (ts : List Nat) : Prop where
  run : ∀ {M0 : Addr → Prop} {B : Option Addr} {W : Addr → Prop} {ρ ρ' : DEnv} {xs : List D} {vs : List V} {σ : L2.St} {H : Hp} {Q : L2.St → Hp → Prop}, g xs ρ = some ρ' → EnvR K M0 B W ρ σ H → RpA K (wo H (Mm M0 W)) vs xs →
    (∀ σ' H', Same H H' → EnvR K M0 B W ρ' σ' H' → Keep ts σ σ' → Q σ' H') → t vs σ H Q
def gNoG : GGs := fun xs ρ => match xs with
  | [] => some ρ
  | _ => none
def gConsG (g : GG) (h : GGs) : GGs := fun xs ρ => match xs with
  | x :: r => (g x ρ).bind fun ρ1 => h r ρ1
  | [] => none
def gTupG (n : Nat) (h : GGs) : GG := fun x ρ => match x with
  | .tuple xs => if xs.length = n then h xs ρ else none
  | _ => none
def gAsg (ge : GE) (g : GG) : GS := fun ρ => (ge ρ).bind fun p => (g p.1 p.2).map fun ρ' => (.nx, ρ')

section
variable {K : Fg} {te : TE} {ge : GE} {t u : TS} {g h : GS}
theorem At.ne {M0 : Addr → Prop} {B : Option Addr} {W : Addr → Prop} {H : Hp} {E : Ends} {σ : L2.St} {o : Out} {nx : L2.St → Hp → Prop} (a : At K M0 B W H E σ o) (n : o ≠ .nx) : At K M0 B W H { E with nx := nx } σ o := by
  cases o with
  | nx => exact absurd rfl n
  | _ => exact a
theorem sem_drop (he : SemE K te ge) : SemS K (tDrop te) (gDrop ge) := ⟨fun {M0 B W ρ ρ' o σ H E} e R q => by
  unfold gDrop at e
  obtain ⟨⟨x, ρ1⟩, h1, e⟩ := Option.map_eq_some_iff.mp e
  cases e
  exact he.run h1 R fun v H' s R' r => q W σ H' (.of s) R'⟩
theorem sem_set {i : Nat} (he : SemE K te ge) : SemS K (tAsg te (gName i)) (gSet i ge) := ⟨fun {M0 B W ρ ρ' o σ H E} e R q => by
  unfold gSet at e
  obtain ⟨⟨x, ρ1⟩, h1, e⟩ := Option.map_eq_some_iff.mp e
  cases e
  exact he.run h1 R fun v H' s R' r => q W _ H' (.of s) (R'.setD r)⟩
theorem sem_setF {i : Nat} {gf : GF} (he : SemF K te gf) : SemS K (tAsg te (gName i)) (gSetF i gf) := ⟨fun {M0 B W ρ ρ' o σ H E} e R q => by
  unfold gSetF at e
  obtain ⟨⟨x, ρ1⟩, h1, e⟩ := Option.map_eq_some_iff.mp e
  cases e
  refine he.run h1 R fun p vs H' s R' np hp r => ?_
  have nM : ¬ M0 p := fun m => R.fresh np (.inl m)
  have nB : some p ≠ B := fun m => R.fresh np (.inr (R.bw p m.symm))
  refine q (fun a => W a ∨ a = p) _ H' ⟨s, fun a w => w.elim .inl fun z => .inr (by rw [z]; exact np)⟩ (R'.setM nB nM hp r)⟩
theorem sem_ret (he : SemE K te ge) : SemS K (tRet te) (gRet ge) := ⟨fun {M0 B W ρ ρ' o σ H E} e R q => by
  unfold gRet at e
  obtain ⟨⟨x, ρ1⟩, h1, e⟩ := Option.map_eq_some_iff.mp e
  cases e
  exact he.run h1 R fun v H' s R' r => q W σ H' (.of s) R' v r⟩
theorem sem_retN : SemS K tRetN gRetN := ⟨fun {M0 B W ρ ρ' o σ H E} e R q => by
  cases e
  exact q W σ H .refl R _ .non⟩
theorem sem_retM {i : Nat} : SemS K (tRet (tVar i)) (gRetM i) := ⟨fun {M0 B W ρ ρ' o σ H E} e R q => by
  unfold gRetM at e
  split at e
  · rename_i xs hx
    cases e
    obtain ⟨a, vs, ea, wa, ba, za, ha, ra⟩ := R.slot i _ hx
    exact ⟨_, ea, q W σ H .refl R a vs wa ba za ha ra⟩
  · cases e⟩
theorem sem_skip : SemS K tNext gSkip := ⟨fun e R q => by
  cases e
  exact q _ _ _ .refl R⟩
theorem sem_brk : SemS K tBreak gBrk := ⟨fun e R q => by
  cases e
  exact q _ _ _ .refl R⟩
theorem sem_cnt : SemS K tCont gCnt := ⟨fun e R q => by
  cases e
  exact q _ _ _ .refl R⟩
theorem sem_seq (h1 : SemS K t g) (h2 : SemS K u h) : SemS K (tSeq t u) (gSeq g h) := ⟨fun {M0 B W ρ ρ' o σ H E} e R q => by
  unfold gSeq at e
  obtain ⟨⟨o1, ρ1⟩, e1, e⟩ := Option.bind_eq_some_iff.mp e
  refine h1.run e1 R fun W1 σ1 H1 n1 R1 => ?_
  cases o1 with
  | nx => exact h2.run e R1 fun W2 σ2 H2 n2 R2 => q _ _ _ (n1.trans n2) R2
  | _ => cases e; exact (q _ _ _ n1 R1).ne (fun z => nomatch z)⟩
theorem sem_if {tt : TT} {gt : GT} (ht : SemT K tt gt) (h1 : SemS K t g) (h2 : SemS K u h) : SemS K (tIfS tt t u) (gIf gt g h) := ⟨fun {M0 B W ρ ρ' o σ H E} e R q => by
  unfold gIf at e
  obtain ⟨⟨b, ρ1⟩, e1, e⟩ := Option.bind_eq_some_iff.mp e
  refine ht.run e1 R fun H1 s1 R1 => ?_
  cases b with
  | true => exact h1.run e R1 fun W2 σ2 H2 n2 R2 => q _ _ _ ((Nxt.of s1).trans n2) R2
  | false => exact h2.run e R1 fun W2 σ2 H2 n2 R2 => q _ _ _ ((Nxt.of s1).trans n2) R2⟩
theorem sem_par {i j : Nat} {ta : TA} {ga : GA} (ha : SemA K ta ga) : SemS K (tPar i j ta) (gPar i j ga) := ⟨fun {M0 B W ρ ρ' o σ H E} e R q => by
  unfold gPar at e
  obtain ⟨⟨xs, ρ1⟩, e1, e⟩ := Option.bind_eq_some_iff.mp e
  refine ha.run e1 R fun vs H1 s1 R1 r => ?_
  split at e
  · rename_i x y hxy
    cases e
    have hxy : xs = [x, y] := hxy
    subst hxy
    cases r with
    | cons r r' =>
      cases r' with
      | cons r' r2 =>
        cases r2
        exact ⟨_, _, rfl, q W _ H1 (.of s1) ((R1.setD r).setD r')⟩
  · cases e⟩
theorem sem_frz (i : Nat) (h1 : SemS K t g) : SemS K t (gFrz i g) := ⟨fun {M0 B W ρ ρ' o σ H E} e R q => by
  unfold gFrz at e
  split at e
  · rename_i xs hx
    obtain ⟨W', hw, R'⟩ := R.freeze hx
    exact h1.run e R' fun W2 σ2 H2 n2 R2 => q _ _ _ (Nxt.trans ⟨.refl, fun a w => .inl (hw a w)⟩ n2) R2
  · exact h1.run e R q⟩
theorem semG_name {i : Nat} : SemG K (gName i) (gN i) [i] := ⟨fun {M0 B W ρ ρ' x v σ H Q} e R r q => by
  cases e
  exact q _ _ (.refl _) (R.setD r) ⟨by simp, fun j hj => by
    rw [List.getElem?_set_ne (fun z => hj (by simp [z]))]⟩⟩
theorem semGs_nil : SemGs K gNil gNoG [] := ⟨fun {M0 B W ρ ρ' xs vs σ H Q} e R r q => by
  unfold gNoG at e
  cases r with
  | nil => cases e; exact ⟨rfl, q _ _ (.refl _) R ⟨rfl, fun _ _ => rfl⟩⟩
  | cons _ _ => cases e⟩
theorem semGs_cons {tg : TG} {gg : GG} {a b : List Nat} {tgs : TGs} {ggs : GGs} (h1 : SemG K tg gg a) (h2 : SemGs K tgs ggs b) : SemGs K (gCons tg tgs) (gConsG gg ggs) (a ++ b) := ⟨fun {M0 B W ρ ρ' xs vs σ H Q} e R r q => by
  unfold gConsG at e
  cases r with
  | nil => cases e
  | cons r rr =>
    obtain ⟨ρ1, e1, e⟩ := Option.bind_eq_some_iff.mp e
    refine ⟨_, _, rfl, h1.run e1 R r fun σ1 H1 s1 R1 k1 => ?_⟩
    refine h2.run e R1 (rr.mono (wo_mono s1)) fun σ2 H2 s2 R2 k2 => q _ _ (s1.trans s2) R2 ⟨k2.1.trans k1.1, fun j hj => ?_⟩
    rw [k2.2 j fun z => hj (List.mem_append_right _ z), k1.2 j fun z => hj (List.mem_append_left _ z)]⟩
theorem semG_tup {n : Nat} {a : List Nat} {tgs : TGs} {ggs : GGs} (h2 : SemGs K tgs ggs a) : SemG K (gTup K n tgs) (gTupG n ggs) a := ⟨fun {M0 B W ρ ρ' x v σ H Q} e R r q => by
  unfold gTupG at e
  split at e
  · rename_i xs
    split at e
    · rename_i hn
      obtain ⟨b, vs, rfl, h, r⟩ := r.tup_get
      exact ⟨b, vs, rfl, sqT_same wo_same h, by rw [r.length]; exact hn, h2.run e R r q⟩
    · cases e
  · cases e⟩
theorem sem_asg {tg : TG} {gg : GG} {a : List Nat} (he : SemE K te ge) (hg : SemG K tg gg a) : SemS K (tAsg te tg) (gAsg ge gg) := ⟨fun {M0 B W ρ ρ' o σ H E} e R q => by
  unfold gAsg at e
  obtain ⟨⟨x, ρ1⟩, e1, e⟩ := Option.bind_eq_some_iff.mp e
  obtain ⟨ρ2, e2, e⟩ := Option.map_eq_some_iff.mp e
  cases e
  exact he.run e1 R fun v H1 s1 R1 r => hg.run e2 R1 r fun σ2 H2 s2 R2 _ => q W _ _ (.of (s1.trans (.same s2))) R2⟩
end

/-! ### lists that are changed -/
def cellOf : Option Sl → Option (List D)
  | some (.m xs) => some xs
  | some (.p xs) => some xs
  | _ => none
def reCell (xs : List D) : Option Sl → Sl
  | some (.m _) => .m xs
  | some (.p _) => .p xs
  | _ => .no
theorem EnvR.cellAt {K : Fg} {M0 : Addr → Prop} {B : Option Addr} {W : Addr → Prop} {ρ : DEnv} {σ : L2.St} {H : Hp} {i : Nat} {xs : List D} (R : EnvR K M0 B W ρ σ H) (h : cellOf ρ[i]? = some xs) :
    ∃ a vs, σ[i]? = some (some (V.ref a)) ∧ W a ∧ H a = some (.lst vs) ∧ RpA K (wo H (Mm M0 W)) vs xs ∧ ∀ {ys : List D} {ws : List V} {H' : Hp}, (∀ b o, H b = some o → b ≠ a → H' b = some o) → H' a = some (.lst ws) → RpA K (wo H' (Mm M0 W)) ws ys →
      EnvR K M0 B W (ρ.set i (reCell ys ρ[i]?)) σ H' ∧ Stp W H H' := by
  unfold cellOf at h
  split at h
  · rename_i ys hy
    cases h
    obtain ⟨a, vs, ea, wa, ba, za, ha, ra⟩ := R.slot i _ hy
    refine ⟨a, vs, ea, wa, ha, ra, fun st hn r => ?_⟩
    rw [hy]
    exact R.cell hy trivial ea (.inl ⟨_, rfl, rfl⟩) st hn r
  · rename_i ys hy
    cases h
    obtain ⟨a, vs, ea, wa, ba, ha, ra⟩ := R.slot i _ hy
    refine ⟨a, vs, ea, wa, ha, ra, fun st hn r => ?_⟩
    rw [hy]
    exact R.cell hy trivial ea (.inr ⟨_, rfl, rfl⟩) st hn r
  · cases h
/-- xs.append(e) -/
def gApp (i : Nat) (ge : GE) : GS := fun ρ => (cellOf ρ[i]?).bind fun _ => (ge ρ).bind fun p => (cellOf p.2[i]?).bind fun xs => if xs.length < 16777216 then some (.nx, p.2.set i (reCell (xs ++ [p.1]) p.2[i]?)) else none
/-- xs[k], xs a list that may change -/
def gIxM (i : Nat) (gk : GE) : GE := fun ρ => (cellOf ρ[i]?).bind fun _ => (gk ρ).bind fun p => match p.1 with
  | .int k => (cellOf p.2[i]?).bind fun xs => (atI xs k).map fun x => (x, p.2)
  | _ => none
def gLenM (i : Nat) : GE := fun ρ => (cellOf ρ[i]?).map fun xs => (.int xs.length, ρ)
/-- xs[k] = e -/
def gPut (i : Nat) (ge gk : GE) : GS := fun ρ => (ge ρ).bind fun p => (cellOf p.2[i]?).bind fun _ => (gk p.2).bind fun q => match q.1 with
  | .int k => (cellOf q.2[i]?).bind fun xs => (ixN xs.length k).map fun j => (.nx, q.2.set i (reCell (xs.set j p.1) q.2[i]?))
  | _ => none
/-- xs.pop(k) -/
def gPopAt (i : Nat) (gk : GE) : GE := fun ρ => (cellOf ρ[i]?).bind fun _ => (gk ρ).bind fun p => match p.1 with
  | .int k => (cellOf p.2[i]?).bind fun xs => if -(2 ^ 63) ≤ k ∧ k < 2 ^ 63 then (ixN xs.length k).bind fun j => xs[j]?.map fun x => (x, p.2.set i (reCell (xs.eraseIdx j) p.2[i]?)) else none
  | _ => none
section
variable {K : Fg} {te tk : TE} {ge gk : GE}
theorem upd_other {H : Hp} {a : Addr} {u : HO} : ∀ b o, H b = some o → b ≠ a → upd H a u b = some o := fun b o h n => by rw [upd_ne n]; exact h
theorem wo_upd {H : Hp} {a : Addr} {u : HO} {M : Addr → Prop} (m : M a) : Same (wo H M) (wo (upd H a u) M) := fun b o h => by
  obtain ⟨h1, h2⟩ := wo_get h
  have ne : b ≠ a := fun z => by rw [z] at h2; exact h2 m
  exact wo_some (by rw [upd_ne ne]; exact h1) h2
theorem tyV_list {H : Hp} {a : Addr} {vs : List V} (h : H a = some (.lst vs)) : tyV K "list" (.ref a) H := Or.inl ⟨rfl, _, SqL.of h⟩
theorem sem_app {i : Nat} (he : SemE K te ge) : SemS K (tDrop (tBM K "list" rAppend (tVar i) (tCons te tNil))) (gApp i ge) := ⟨fun {M0 B W ρ ρ' o σ H E} e R q => by
  unfold gApp at e
  obtain ⟨xs0, e0, e⟩ := Option.bind_eq_some_iff.mp e
  obtain ⟨⟨x, ρ1⟩, e1, e⟩ := Option.bind_eq_some_iff.mp e
  obtain ⟨xs, e2, e⟩ := Option.bind_eq_some_iff.mp e
  obtain ⟨a, vs0, ea, _, h0, _⟩ := R.cellAt e0
  split at e
  · rename_i hl
    cases e
    refine ⟨_, ea, tyV_list h0, ?_⟩
    refine he.run e1 R fun v H1 s1 R1 r1 => ?_
    obtain ⟨b, vs, eb, wb, hb, rb, re⟩ := R1.cellAt e2
    rw [ea] at eb; cases eb
    have ra : RpA K (wo (upd H1 a (.lst (vs ++ [v]))) (Mm M0 W)) (vs ++ [v]) (xs ++ [x]) := (rb.append (.cons r1 .nil)).mono (wo_upd (.inr wb))
    obtain ⟨R2, s2⟩ := re upd_other upd_same ra
    refine ⟨a, vs, v, rfl, rfl, hb, ?_, q W _ _ (.of (s1.trans s2)) R2⟩
    rw [rb.length, sizeLine_eq]; exact hl
  · cases e⟩
theorem sem_ixM {i : Nat} (hk : SemE K tk gk) : SemE K (tOp (rIxAny K) (tVar i) tk) (gIxM i gk) := ⟨fun {M0 B W ρ ρ' d σ H Q} e R q => by
  unfold gIxM at e
  obtain ⟨xs0, e0, e⟩ := Option.bind_eq_some_iff.mp e
  obtain ⟨⟨x, ρ1⟩, e1, e⟩ := Option.bind_eq_some_iff.mp e
  split at e
  · rename_i k hk'
    have hk' : x = .int k := hk'
    subst hk'
    obtain ⟨xs, e2, e⟩ := Option.bind_eq_some_iff.mp e
    obtain ⟨y, e3, e⟩ := Option.map_eq_some_iff.mp e
    cases e
    obtain ⟨a, vs0, ea, _, h0, _⟩ := R.cellAt e0
    refine ⟨_, ea, hk.run e1 R fun v H1 s1 R1 r1 => ?_⟩
    obtain ⟨b, vs, eb, wb, hb, rb, re⟩ := R1.cellAt e2
    rw [ea] at eb; cases eb
    obtain ⟨w, ew, rw'⟩ := rb.at e3
    have := r1.int_get
    subst this
    exact .inl ⟨a, vs, k, w, rfl, rfl, SqL.of hb, ew, q _ _ s1 R1 rw'⟩
  · cases e⟩
theorem sem_lenM {i : Nat} : SemE K (tCB (fun xs H Q => ∃ p ys, xs = [V.ref p] ∧ (SqL K H p ys ∨ SqT K H p ys) ∧ Q (.int ys.length) H) (tCons (tVar i) tNil)) (gLenM i) := ⟨fun {M0 B W ρ ρ' d σ H Q} e R q => by
  unfold gLenM at e
  obtain ⟨xs, e0, e⟩ := Option.map_eq_some_iff.mp e
  cases e
  obtain ⟨a, vs, ea, _, h0, r0, _⟩ := R.cellAt e0
  refine ⟨_, ea, a, vs, rfl, .inl (SqL.of h0), q _ _ .refl R ?_⟩
  rw [r0.length]
  exact .int _⟩
theorem sem_put {i : Nat} (he : SemE K te ge) (hk : SemE K tk gk) : SemS K (tAsg te (gSub (tVar i) tk rSetL)) (gPut i ge gk) := ⟨fun {M0 B W ρ ρ' o σ H E} e R q => by
  unfold gPut at e
  obtain ⟨⟨x, ρ1⟩, e1, e⟩ := Option.bind_eq_some_iff.mp e
  obtain ⟨xs0, e0, e⟩ := Option.bind_eq_some_iff.mp e
  obtain ⟨⟨y, ρ2⟩, e2, e⟩ := Option.bind_eq_some_iff.mp e
  split at e
  · rename_i k hk'
    have hk' : y = .int k := hk'
    subst hk'
    obtain ⟨xs, e3, e⟩ := Option.bind_eq_some_iff.mp e
    obtain ⟨j, e4, e⟩ := Option.map_eq_some_iff.mp e
    cases e
    refine he.run e1 R fun v H1 s1 R1 r1 => ?_
    obtain ⟨a, vs0, ea, _, h0, _⟩ := R1.cellAt e0
    refine ⟨_, ea, hk.run e2 R1 fun w H2 s2 R2 r2 => ?_⟩
    obtain ⟨b, vs, eb, wb, hb, rb, re⟩ := R2.cellAt e3
    rw [ea] at eb; cases eb
    have := r2.int_get
    subst this
    have ra : RpA K (wo (upd H2 a (.lst (vs.set j v))) (Mm M0 W)) (vs.set j v) (xs.set j x) := (rb.set (r1.mono s2.wo) j).mono (wo_upd (.inr wb))
    obtain ⟨R3, s3⟩ := re upd_other upd_same ra
    exact ⟨a, vs, k, j, rfl, rfl, hb, by rw [rb.length]; exact e4, q W _ _ (.of ((s1.trans s2).trans s3)) R3⟩
  · cases e⟩
theorem sem_popAt {i : Nat} (hk : SemE K tk gk) : SemE K (tBM K "list" rPopAt (tVar i) (tCons tk tNil)) (gPopAt i gk) := ⟨fun {M0 B W ρ ρ' d σ H Q} e R q => by
  unfold gPopAt at e
  obtain ⟨xs0, e0, e⟩ := Option.bind_eq_some_iff.mp e
  obtain ⟨⟨x, ρ1⟩, e1, e⟩ := Option.bind_eq_some_iff.mp e
  split at e
  · rename_i k hk'
    have hk' : x = .int k := hk'
    subst hk'
    obtain ⟨xs, e2, e⟩ := Option.bind_eq_some_iff.mp e
    split at e
    · rename_i hb2
      obtain ⟨j, e3, e⟩ := Option.bind_eq_some_iff.mp e
      obtain ⟨y, e4, e⟩ := Option.map_eq_some_iff.mp e
      cases e
      obtain ⟨a, vs0, ea, _, h0, _⟩ := R.cellAt e0
      refine ⟨_, ea, tyV_list h0, ?_⟩
      refine hk.run e1 R fun v H1 s1 R1 r1 => ?_
      obtain ⟨b, vs, eb, wb, hb, rb, re⟩ := R1.cellAt e2
      rw [ea] at eb; cases eb
      have := r1.int_get
      subst this
      obtain ⟨w, ew, rw'⟩ := rb.get e4
      have ra : RpA K (wo (upd H1 a (.lst (vs.eraseIdx j))) (Mm M0 W)) (vs.eraseIdx j) (xs.eraseIdx j) := (rb.eraseIdx j).mono (wo_upd (.inr wb))
      obtain ⟨R3, s3⟩ := re upd_other upd_same ra
      exact ⟨a, vs, k, j, w, rfl, rfl, hb, hb2.1, hb2.2, (ixN_seq (by rw [rb.length]; exact e3)).1, ew, q _ _ (s1.trans s3) R3 (rw'.mono (wo_upd (.inr wb)))⟩
    · cases e
  · cases e⟩
end
end TB
namespace TB
open PySem L2

/-! ### what is walked -/
structure ItOk (K : Fg) (J : It) (ds : List D) (Hb : Hp) : Prop where
  stop : ∀ H, Same Hb H → J.stop ds.length H
  go : ∀ i H, Same Hb H → i < ds.length → J.go i H
  yld : ∀ (i : Nat) (H : Hp) (M : Addr → Prop) (x : V) (H' : Hp), Same Hb (wo H M) → (∀ a, M a → ∃ o, H a = some o ∧ isCell o) → J.yld i H x H' → Same H H' ∧ ∀ d, ds[i]? = some d → Rp K (wo H' M) x d
structure SemI (K : Fg) (wi : TI) (gi : GA) : Prop where
  run : ∀ {M0 : Addr → Prop} {B : Option Addr} {W : Addr → Prop} {ρ ρ' : DEnv} {ds : List D} {σ : L2.St} {H : Hp} {R : It → Hp → Prop}, gi ρ = some (ds, ρ') → EnvR K M0 B W ρ σ H →
    (∀ J H', Stp W H H' → EnvR K M0 B W ρ' σ H' → ItOk K J ds (wo H' (Mm M0 W)) → R J H') → wi σ H R
structure DI (K : Fg) (X : Cx) (tg e : Expr) (t : TI) (g : GA) : Prop where
  pi : PI X tg e t
  sem : SemI K t g
structure DG (K : Fg) (X : Cx) (e : Expr) (t : TG) (g : GG) (ts : List Nat) : Prop where
  pg : PG X e t
  sem : SemG K t g ts
structure DGs (K : Fg) (X : Cx) (es : List Expr) (t : TGs) (g : GGs) (ts : List Nat) : Prop where
  pgs : PGs X es t
  sem : SemGs K t g ts

/-- a walked list, tuple -/
def gItems (ge : GE) : GA := fun ρ => (ge ρ).bind fun p => match p.1 with
  | .list xs => some (xs, p.2)
  | .dict [(.none, .list xs)] => some (xs, p.2)
  | _ => none
def gItemsT (ge : GE) : GA := fun ρ => (ge ρ).bind fun p => match p.1 with
  | .tuple xs => some (xs, p.2)
  | _ => none
def rangeD (lo : Int) (n : Nat) : List D := (List.range n).map fun (i : Nat) => PyData.int (lo + (i : Int))
def gRange1 (ga : GA) : GA := fun ρ => (ga ρ).bind fun p => match p.1 with
  | [.int j] => if -(2 ^ 62) ≤ j ∧ j < 2 ^ 62 then some (rangeD 0 j.toNat, p.2) else none
  | _ => none
def gRange2 (ga : GA) : GA := fun ρ => (ga ρ).bind fun p => match p.1 with
  | [.int i, .int j] => if -(2 ^ 62) ≤ i ∧ i < 2 ^ 62 ∧ -(2 ^ 62) ≤ j ∧ j < 2 ^ 62 then some (rangeD i (j - i).toNat, p.2) else none
  | _ => none
section
variable {K : Fg} {te : TE} {ge : GE}
theorem itl_ok {a : Addr} {vs : List V} {ds : List D} {Hb : Hp} (h : SqL K Hb a vs) (r : RpA K Hb vs ds) : ItOk K (Itl K a) ds Hb where
  stop := fun H s => ⟨vs, sqL_same s h, by rw [r.length]; exact Nat.le_refl _⟩
  go := fun i H s hi => ⟨vs, vs[i]'(by rw [r.length]; exact hi), sqL_same s h, by simp [r.length, hi]⟩
  yld := fun i H M x H' s tr y => by
    obtain ⟨e, y⟩ := y
    subst e
    refine ⟨.refl _, fun d hd => ?_⟩
    have e1 := y vs (sqL_same (fun a o h => wo_same _ _ (s a o h)) h)
    obtain ⟨v, e2, rv⟩ := r.get hd
    rw [e1] at e2; cases e2
    exact rv.mono s
theorem itt_ok {a : Addr} {vs : List V} {ds : List D} {Hb : Hp} (h : SqT K Hb a vs) (r : RpA K Hb vs ds) : ItOk K (Itt K a) ds Hb where
  stop := fun H s => ⟨vs, sqT_same s h, by rw [r.length]; exact Nat.le_refl _⟩
  go := fun i H s hi => ⟨vs, vs[i]'(by rw [r.length]; exact hi), sqT_same s h, by simp [r.length, hi]⟩
  yld := fun i H M x H' s tr y => by
    obtain ⟨e, y⟩ := y
    subst e
    refine ⟨.refl _, fun d hd => ?_⟩
    have e1 := y vs (sqT_same (fun a o h => wo_same _ _ (s a o h)) h)
    obtain ⟨v, e2, rv⟩ := r.get hd
    rw [e1] at e2; cases e2
    exact rv.mono s
theorem itr_ok {lo : Int} {n : Nat} {Hb : Hp} : ItOk K (Itr lo n) (rangeD lo n) Hb where
  stop := fun H s => by unfold rangeD; rw [List.length_map, List.length_range]; exact Nat.le_refl _
  go := fun i H s hi => by
    unfold rangeD at hi
    rw [List.length_map, List.length_range] at hi
    exact hi
  yld := fun i H M x H' s tr y => by
    obtain ⟨e, y⟩ := y
    subst e y
    refine ⟨.refl _, fun d hd => ?_⟩
    unfold rangeD at hd
    rw [List.getElem?_map] at hd
    obtain ⟨j, hj, e⟩ := Option.map_eq_some_iff.mp hd
    have := List.getElem?_eq_some_iff.mp hj
    obtain ⟨hl, e2⟩ := this
    rw [List.getElem_range] at e2
    subst e2
    subst e
    exact .int _
theorem sem_items (he : SemE K te ge) : SemI K (iList K te) (gItems ge) := ⟨fun {M0 B W ρ ρ' ds σ H R} e E q => by
  unfold gItems at e
  obtain ⟨⟨x, ρ1⟩, e1, e⟩ := Option.bind_eq_some_iff.mp e
  refine he.run e1 E fun v H' s E' r => ?_
  split at e
  · rename_i xs hx
    have hx : x = .list xs := hx
    subst hx
    cases e
    obtain ⟨a, vs, rfl, h, r⟩ := r.lst_get
    exact ⟨a, rfl, ⟨vs, SqL.of (wo_get h).1⟩, q _ _ s E' (itl_ok (SqL.of h) r)⟩
  · rename_i xs hx
    have hx : x = .dict [(.none, .list xs)] := hx
    subst hx
    cases e
    obtain ⟨a, vs, rfl, h, r⟩ := r.ro_get
    exact ⟨a, rfl, ⟨vs, sqL_same wo_same h⟩, q _ _ s E' (itl_ok h r)⟩
  · cases e⟩
theorem sem_itemsT (he : SemE K te ge) : SemI K (iTup K te) (gItemsT ge) := ⟨fun {M0 B W ρ ρ' ds σ H R} e E q => by
  unfold gItemsT at e
  obtain ⟨⟨x, ρ1⟩, e1, e⟩ := Option.bind_eq_some_iff.mp e
  refine he.run e1 E fun v H' s E' r => ?_
  split at e
  · rename_i xs hx
    have hx : x = .tuple xs := hx
    subst hx
    cases e
    obtain ⟨a, vs, rfl, h, r⟩ := r.tup_get
    exact ⟨a, rfl, ⟨vs, sqT_same wo_same h⟩, q _ _ s E' (itt_ok h r)⟩
  · cases e⟩
theorem sem_range1 {ta : TA} {ga : GA} (ha : SemA K ta ga) : SemI K (iRng1 ta) (gRange1 ga) := ⟨fun {M0 B W ρ ρ' ds σ H R} e E q => by
  unfold gRange1 at e
  obtain ⟨⟨xs, ρ1⟩, e1, e⟩ := Option.bind_eq_some_iff.mp e
  refine ha.run e1 E fun vs H' s E' r => ?_
  split at e
  · rename_i j hx
    have hx : xs = [.int j] := hx
    subst hx
    split at e
    · rename_i hj
      cases e
      cases r with
      | cons r r' =>
        cases r'
        have := r.int_get
        subst this
        exact ⟨j, rfl, hj.1, hj.2, q _ _ s E' itr_ok⟩
    · cases e
  · cases e⟩
theorem sem_range2 {ta : TA} {ga : GA} (ha : SemA K ta ga) : SemI K (iRng2 ta) (gRange2 ga) := ⟨fun {M0 B W ρ ρ' ds σ H R} e E q => by
  unfold gRange2 at e
  obtain ⟨⟨xs, ρ1⟩, e1, e⟩ := Option.bind_eq_some_iff.mp e
  refine ha.run e1 E fun vs H' s E' r => ?_
  split at e
  · rename_i i j hx
    have hx : xs = [.int i, .int j] := hx
    subst hx
    split at e
    · rename_i hj
      cases e
      cases r with
      | cons r r' =>
        cases r' with
        | cons r' r2 =>
          cases r2
          have := r.int_get
          have := r'.int_get
          subst_vars
          exact ⟨i, j, rfl, hj, q _ _ s E' itr_ok⟩
    · cases e
  · cases e⟩
end

/-! ### for -/
def forGo (gg : GG) (gb : GS) : List D → DEnv → Option (Out × DEnv)
  | [], ρ => some (.nx, ρ)
  | x :: r, ρ => (gg x ρ).bind fun ρ1 => (gb ρ1).bind fun p => match p.1 with
    | .nx => forGo gg gb r p.2
    | .ct => forGo gg gb r p.2
    | .bk => some (.nx, p.2)
    | o => some (o, p.2)
def gFor (gi : GA) (gg : GG) (gb : GS) : GS := fun ρ => (gi ρ).bind fun p => forGo gg gb p.1 p.2
def whGo (gt : GT) (gb : GS) : Nat → DEnv → Option (Out × DEnv)
  | 0, _ => none
  | n + 1, ρ => (gt ρ).bind fun p => if p.1 = true then (gb p.2).bind fun r => match r.1 with
      | .nx => whGo gt gb n r.2
      | .ct => whGo gt gb n r.2
      | .bk => some (.nx, r.2)
      | o => some (o, r.2)
    else some (.nx, p.2)
def gWhile (N : Nat) (gt : GT) (gb : GS) : GS := whGo gt gb N
section
variable {K : Fg}
theorem drop_cons {α : Type} {l : List α} {i : Nat} (h : i < l.length) : l.drop i = l[i] :: l.drop (i + 1) := List.drop_eq_getElem_cons h
theorem sem_for {wi : TI} {gi : GA} {tg : TG} {gg : GG} {ts : List Nat} {tb : TS} {gb : GS} (hi : SemI K wi gi) (hg : SemG K tg gg ts) (hb : SemS K tb gb) : SemS K (tFor wi tg tb) (gFor gi gg gb) := ⟨fun {M0 B W ρ ρ' o σ H E} e R q => by
  unfold gFor at e
  obtain ⟨⟨ds, ρ1⟩, e1, e⟩ := Option.bind_eq_some_iff.mp e
  refine hi.run e1 R fun J H1 s1 R1 ok => ?_
  refine ⟨fun i m σ2 H2 => m = ds.length - i ∧ i ≤ ds.length ∧ ∃ W' ρi, Nxt W W' H1 H2 ∧ EnvR K M0 B W' ρi σ2 H2 ∧ forGo gg gb (ds.drop i) ρi = some (o, ρ'), ⟨_, rfl, Nat.zero_le _, W, ρ1, .refl, R1, e⟩, ?_⟩
  rintro i m σ2 H2 ⟨rfl, hi, W', ρi, n2, R2, e2⟩
  have sb : Same (wo H1 (Mm M0 W)) (wo H2 (Mm M0 W')) := n2.wo
  have sb' : Same (wo H1 (Mm M0 W)) H2 := fun a o h => wo_same _ _ (sb a o h)
  by_cases hl : i < ds.length
  · right
    rw [drop_cons hl] at e2
    unfold forGo at e2
    obtain ⟨ρ2, eg, e2⟩ := Option.bind_eq_some_iff.mp e2
    obtain ⟨⟨o2, ρ3⟩, eb, e2⟩ := Option.bind_eq_some_iff.mp e2
    refine ⟨ok.go i H2 sb' hl, fun σ' H' => ∃ W' ρi, Nxt W W' H1 H' ∧ EnvR K M0 B W' ρi σ' H' ∧ forGo gg gb (ds.drop (i + 1)) ρi = some (o, ρ'), fun σ' H' h => ⟨ds.length - (i + 1), by omega, rfl, hl, h⟩, fun x H' y => ?_⟩
    obtain ⟨sy, ry⟩ := ok.yld i H2 (Mm M0 W') x H' sb R2.trk y
    have rx := ry ds[i] (List.getElem?_eq_getElem hl)
    refine hg.run eg (R2.same sy) rx fun σ3 H3 s3 R3 _ => ?_
    refine hb.run eb R3 fun W4 σ4 H4 n4 R4 => ?_
    have n5 : Nxt W W4 H1 H4 := n2.trans ((Nxt.of (.same (sy.trans s3))).trans n4)
    have n6 : Nxt W W4 H H4 := (Nxt.of s1).trans n5
    cases o2 with
    | nx => exact ⟨W4, ρ3, n5, R4, e2⟩
    | ct => exact ⟨W4, ρ3, n5, R4, e2⟩
    | bk => cases e2; exact q W4 σ4 H4 n6 R4
    | rt x => cases e2; exact q W4 σ4 H4 n6 R4
    | rf x => cases e2; exact q W4 σ4 H4 n6 R4
  · left
    have hil : i = ds.length := by omega
    subst hil
    rw [List.drop_length] at e2
    unfold forGo at e2
    cases e2
    exact ⟨ok.stop H2 sb', q W' σ2 H2 ((Nxt.of s1).trans n2) R2⟩⟩
theorem sem_while {N : Nat} {tt : TT} {gt : GT} {tb : TS} {gb : GS} (ht : SemT K tt gt) (hb : SemS K tb gb) : SemS K (tWhile tt tb) (gWhile N gt gb) := ⟨fun {M0 B W ρ ρ' o σ H E} e R q => by
  refine ⟨fun m σ2 H2 => ∃ W' ρi, Nxt W W' H H2 ∧ EnvR K M0 B W' ρi σ2 H2 ∧ whGo gt gb m ρi = some (o, ρ'), ⟨N, W, ρ, .refl, R, e⟩, ?_⟩
  rintro m σ2 H2 ⟨W', ρi, n2, R2, e2⟩
  cases m with
  | zero => unfold whGo at e2; cases e2
  | succ m =>
    unfold whGo at e2
    obtain ⟨⟨b, ρ2⟩, et, e2⟩ := Option.bind_eq_some_iff.mp e2
    refine ht.run et R2 fun H3 s3 R3 => ?_
    cases b with
    | true =>
      obtain ⟨⟨o2, ρ3⟩, eb, e2⟩ := Option.bind_eq_some_iff.mp e2
      refine ⟨fun σ' H' => ∃ W' ρi, Nxt W W' H H' ∧ EnvR K M0 B W' ρi σ' H' ∧ whGo gt gb m ρi = some (o, ρ'), fun σ' H' h => ⟨m, Nat.lt_succ_self _, h⟩, ?_⟩
      refine hb.run eb R3 fun W4 σ4 H4 n4 R4 => ?_
      have n5 : Nxt W W4 H H4 := n2.trans ((Nxt.of s3).trans n4)
      cases o2 with
      | nx => exact ⟨W4, ρ3, n5, R4, e2⟩
      | ct => exact ⟨W4, ρ3, n5, R4, e2⟩
      | bk => cases e2; exact q W4 σ4 H4 n5 R4
      | rt x => cases e2; exact q W4 σ4 H4 n5 R4
      | rf x => cases e2; exact q W4 σ4 H4 n5 R4
    | false =>
      cases e2
      exact q W' σ2 H3 (n2.trans (.of s3)) R3⟩
end

/-! ### comprehensions -/
def wipeD (ρ : DEnv) : List Nat → DEnv
  | [] => ρ
  | v :: vs => (wipeD ρ vs).set v .no
def lcGo (gg : GG) (gt : GT) (ge : GE) (vs : List Nat) : List D → DEnv → Option (List D × DEnv)
  | [], ρ => some ([], ρ)
  | x :: r, ρ => (gg x ρ).bind fun ρ1 => (gt ρ1).bind fun p => if p.1 = true then (ge p.2).bind fun y => (lcGo gg gt ge vs r (wipeD y.2 vs)).map fun z => (y.1 :: z.1, z.2)
    else lcGo gg gt ge vs r (wipeD p.2 vs)
def dataAt (ρ : DEnv) (i : Nat) : Bool := match ρ[i]? with
  | some (.d _) => true
  | some .no => true
  | none => true
  | _ => false
def back (ρ : DEnv) (ρ' : DEnv) : List Nat → DEnv
  | [] => ρ'
  | v :: vs => match ρ[v]? with
    | some s => (back ρ ρ' vs).set v s
    | none => back ρ ρ' vs
def gLc (gi : GA) (gg : GG) (gt : GT) (ge : GE) (vs : List Nat) : GF := fun ρ => (gi ρ).bind fun p =>
  if p.1.length ≤ 16777216 ∧ vs.all (dataAt p.2) = true then (lcGo gg gt ge vs p.1 (wipeD p.2 vs)).map fun z => (z.1, back p.2 z.2 vs) else none
def gYes : GT := fun ρ => some (true, ρ)
section
variable {K : Fg}
theorem sem_yes : SemT K tYes gYes := ⟨fun e R q => by cases e; exact q _ .refl R⟩
theorem EnvR.wipe {M0 : Addr → Prop} {B : Option Addr} {W : Addr → Prop} {ρ : DEnv} {σ : L2.St} {H : Hp} (R : EnvR K M0 B W ρ σ H) : ∀ vs : List Nat, EnvR K M0 B W (wipeD ρ vs) (L2.wipe σ vs) H
  | [] => R
  | v :: vs => by
    have R1 := R.wipe vs
    unfold wipeD L2.wipe
    refine ⟨by simpa using R1.len, fun j t h => ?_, fun j k t u h1 h2 m1 m2 q => ?_, R1.trk, R1.bw⟩
    · rcases getElem?_set' h with ⟨e, e2, hl⟩ | ⟨e, h⟩
      · subst e2; trivial
      · rw [List.getElem?_set_ne e]; exact R1.slot j t h
    · rcases getElem?_set' h1 with ⟨e, e2, hl⟩ | ⟨e, h1⟩
      · subst e2; exact m1.elim
      · rcases getElem?_set' h2 with ⟨e', e2', hl'⟩ | ⟨e', h2⟩
        · subst e2'; exact m2.elim
        · rw [List.getElem?_set_ne e, List.getElem?_set_ne e'] at q
          exact R1.dist j k t u h1 h2 m1 m2 q
theorem wipe_get (σ : L2.St) : ∀ (vs : List Nat) (j : Nat), (L2.wipe σ vs)[j]? = if j ∈ vs then σ[j]?.map fun _ => none else σ[j]?
  | [], j => by simp [L2.wipe]
  | v :: vs, j => by
    have ih := wipe_get σ vs j
    have hl := L2.wipe_length σ vs
    unfold L2.wipe
    by_cases e : v = j
    · subst e
      by_cases hv : v < σ.length
      · rw [List.getElem?_set_self (by rw [hl]; exact hv)]
        simp [hv]
      · rw [List.getElem?_eq_none (by rw [List.length_set, hl]; omega), List.getElem?_eq_none (by omega)]
        simp
    · rw [List.getElem?_set_ne e, ih]
      by_cases hj : j ∈ vs
      · simp [hj]
      · simp [hj, Ne.symm e]
theorem wipe_eq {σ σ' : L2.St} {vs : List Nat} (hl : σ'.length = σ.length) (h : ∀ j, j ∉ vs → σ'[j]? = σ[j]?) : L2.wipe σ' vs = L2.wipe σ vs := by
  apply List.ext_getElem?
  intro j
  rw [wipe_get, wipe_get]
  by_cases hj : j ∈ vs
  · simp only [hj, if_true]
    by_cases hl2 : j < σ.length
    · rw [List.getElem?_eq_getElem hl2, List.getElem?_eq_getElem (by omega)]
      rfl
    · rw [List.getElem?_eq_none (by omega), List.getElem?_eq_none (by omega)]
  · simp only [hj, if_false]
    exact h j hj
theorem wipe_wipe (σ : L2.St) (vs : List Nat) : L2.wipe (L2.wipe σ vs) vs = L2.wipe σ vs := wipe_eq (L2.wipe_length σ vs) fun j hj => by rw [wipe_get]; simp [hj]
theorem wipeD_len (ρ : DEnv) : ∀ vs : List Nat, (wipeD ρ vs).length = ρ.length
  | [] => rfl
  | v :: vs => by unfold wipeD; rw [List.length_set, wipeD_len ρ vs]
theorem back_len (ρ ρ' : DEnv) : ∀ vs : List Nat, (back ρ ρ' vs).length = ρ'.length
  | [] => rfl
  | v :: vs => by
    unfold back
    split
    · rw [List.length_set, back_len ρ ρ' vs]
    · exact back_len ρ ρ' vs
theorem back_get (ρ ρ' : DEnv) (hl : ρ'.length = ρ.length) : ∀ (vs : List Nat) (j : Nat), (back ρ ρ' vs)[j]? = if j ∈ vs then ρ[j]? else ρ'[j]?
  | [], j => by simp [back]
  | v :: vs, j => by
    have ih := back_get ρ ρ' hl vs j
    have hb := back_len ρ ρ' vs
    unfold back
    split
    · rename_i s hs
      by_cases e : v = j
      · subst e
        have hv : v < ρ.length := by
          have := List.getElem?_eq_some_iff.mp hs
          exact this.1
        rw [List.getElem?_set_self (by rw [hb, hl]; exact hv)]
        simp [hs]
      · rw [List.getElem?_set_ne e, ih]
        by_cases hj : j ∈ vs
        · simp [hj]
        · simp [hj, Ne.symm e]
    · rename_i hs
      rw [ih]
      by_cases e : v = j
      · subst e
        by_cases hj : v ∈ vs
        · simp [hj]
        · have : ρ.length ≤ v := List.getElem?_eq_none_iff.mp hs
          simp [hj, hs]
          omega
      · by_cases hj : j ∈ vs
        · simp [hj]
        · simp [hj, Ne.symm e]
theorem EnvR.back {M0 M1 : Addr → Prop} {B : Option Addr} {W : Addr → Prop} {ρ ρ' : DEnv} {σ : L2.St} {H H' : Hp} {vs : List Nat} (R : EnvR K M0 B W ρ σ H) (R' : EnvR K M1 B W ρ' (L2.wipe σ vs) H') (sm : Same (wo H (Mm M0 W)) (wo H' (Mm M1 W))) (hd : vs.all (dataAt ρ) = true) :
    EnvR K M1 B W (TB.back ρ ρ' vs) σ H' := by
  have hl : ρ'.length = ρ.length := by rw [← R'.len, L2.wipe_length, R.len]
  have key : ∀ (j : Nat) (t : Sl), (TB.back ρ ρ' vs)[j]? = some t → t.isM → ρ'[j]? = some t ∧ σ[j]? = (L2.wipe σ vs)[j]? := fun j t h m => by
    rw [back_get ρ ρ' hl] at h
    by_cases hj : j ∈ vs
    · simp only [hj, if_true] at h
      have := List.all_eq_true.mp hd j hj
      unfold dataAt at this
      rw [h] at this
      cases t with
      | no => exact m.elim
      | d x => exact m.elim
      | m x => simp at this
      | p x => simp at this
    · simp only [hj, if_false] at h
      exact ⟨h, by rw [wipe_get]; simp [hj]⟩
  refine ⟨by rw [back_len, hl, R.len], fun j t h => ?_, fun j k t u h1 h2 m1 m2 q => ?_, R'.trk, R'.bw⟩
  · have h0 := h
    rw [back_get ρ ρ' hl] at h
    by_cases hj : j ∈ vs
    · simp only [hj, if_true] at h
      have := List.all_eq_true.mp hd j hj
      unfold dataAt at this
      rw [h] at this
      cases t with
      | no => trivial
      | d x =>
        obtain ⟨u, e, r⟩ := R.slot j _ h
        exact ⟨u, e, r.mono sm⟩
      | m x => simp at this
      | p x => simp at this
    · simp only [hj, if_false] at h
      have := R'.slot j t h
      rw [wipe_get] at this
      simpa [hj] using this
  · obtain ⟨a1, b1⟩ := key j t h1 m1
    obtain ⟨a2, b2⟩ := key k u h2 m2
    exact R'.dist j k t u a1 a2 m1 m2 (by rw [← b1, ← b2]; exact q)
theorem sem_lc {wi : TI} {gi : GA} {tg : TG} {gg : GG} {ts : List Nat} {tt : TT} {gt : GT} {te : TE} {ge : GE} {vs : List Nat} (hi : SemI K wi gi) (hg : SemG K tg gg ts) (ht : SemT K tt gt) (he : SemE K te ge) (hv : ∀ j ∈ ts, j ∈ vs) :
    SemF K (tLc wi tg tt te vs) (gLc gi gg gt ge vs) := ⟨fun {M0 B W ρ ρ' zs σ H Q} e R q => by
  unfold gLc at e
  obtain ⟨⟨ds, ρ1⟩, e1, e⟩ := Option.bind_eq_some_iff.mp e
  refine hi.run e1 R fun J H1 s1 R1 ok => ?_
  intro D nD
  split at e
  · rename_i hc
    obtain ⟨hl, hd⟩ := hc
    have hl : ds.length ≤ 16777216 := hl
    have hd : vs.all (dataAt ρ1) = true := hd
    obtain ⟨⟨zs', ρ2⟩, e2, e⟩ := Option.map_eq_some_iff.mp e
    cases e
    have R1' := R1.apart nD (same_upd nD) (upd_same (o := .lst []))
    have nH : H D = none := back_none s1 R nD ⟨_, _, R1⟩
    have nMm : ¬ Mm M0 W D := R1.fresh nD
    have s0 : Same (wo H1 (Mm M0 W)) (wo (upd H1 D (.lst [])) (Mm (fun a => M0 a ∨ a = D) W)) := fun a o h => by
      obtain ⟨h1, h2⟩ := wo_get h
      have ne : a ≠ D := ne_of_none h1 nD
      exact wo_some (by rw [upd_ne ne]; exact h1) fun m => m.elim (fun m => m.elim (fun m => h2 (.inl m)) ne) fun m => h2 (.inr m)
    refine ⟨fun i m H2 => m = ds.length - i ∧ i ≤ ds.length ∧ ∃ ρi acc, Stp W (upd H1 D (.lst [])) (upd H2 D (.lst [])) ∧ EnvR K (fun a => M0 a ∨ a = D) B W ρi (L2.wipe σ vs) H2 ∧ H2 D = some (.lst acc) ∧ acc.length ≤ i ∧
      Same (wo H1 (Mm M0 W)) (wo H2 (Mm (fun a => M0 a ∨ a = D) W)) ∧ ∃ ys zr, zs' = ys ++ zr ∧ RpA K (wo H2 (Mm (fun a => M0 a ∨ a = D) W)) acc ys ∧ lcGo gg gt ge vs (ds.drop i) ρi = some (zr, ρ2),
      ⟨_, rfl, Nat.zero_le _, _, [], fun a o h n => by rw [upd_upd]; exact h, R1'.wipe vs, upd_same, Nat.zero_le _, s0, [], zs', rfl, .nil, e2⟩, ?_⟩
    rintro i m H2 ⟨rfl, hil, ρi, acc, st2, R2, hD, hal, sb, ys, zr, ez, ra, ei⟩
    have sb' : Same (wo H1 (Mm M0 W)) H2 := fun a o h => wo_same _ _ (sb a o h)
    by_cases hlt : i < ds.length
    · right
      rw [drop_cons hlt] at ei
      unfold lcGo at ei
      obtain ⟨ρ3, eg, ei⟩ := Option.bind_eq_some_iff.mp ei
      obtain ⟨⟨b, ρ4⟩, et, ei⟩ := Option.bind_eq_some_iff.mp ei
      refine ⟨ok.go i H2 sb' hlt, fun H' => i + 1 ≤ ds.length ∧ ∃ ρi acc, Stp W (upd H1 D (.lst [])) (upd H' D (.lst [])) ∧ EnvR K (fun a => M0 a ∨ a = D) B W ρi (L2.wipe σ vs) H' ∧ H' D = some (.lst acc) ∧ acc.length ≤ i + 1 ∧
        Same (wo H1 (Mm M0 W)) (wo H' (Mm (fun a => M0 a ∨ a = D) W)) ∧ ∃ ys zr, zs' = ys ++ zr ∧ RpA K (wo H' (Mm (fun a => M0 a ∨ a = D) W)) acc ys ∧ lcGo gg gt ge vs (ds.drop (i + 1)) ρi = some (zr, ρ2),
        fun H' h => ⟨ds.length - (i + 1), by omega, rfl, h⟩, fun x H' y => ?_⟩
      obtain ⟨sy, ry⟩ := ok.yld i H2 (Mm (fun a => M0 a ∨ a = D) W) x H' sb R2.trk y
      have rx := ry ds[i] (List.getElem?_eq_getElem hlt)
      refine hg.run eg (R2.same sy) rx fun σ3 H3 s3 R3 k3 => ?_
      have hw : L2.wipe σ3 vs = L2.wipe σ vs := by
        have h1 : L2.wipe σ3 vs = L2.wipe (L2.wipe σ vs) vs := wipe_eq k3.1 fun j hj => k3.2 j fun z => hj (hv j z)
        rw [h1, wipe_wipe]
      refine ⟨hw, ?_⟩
      refine ht.run et R3 fun H4 s4 R4 => ?_
      have DW : ¬ W D := fun w => nMm (.inr w)
      have updS : ∀ {Ha Hb : Hp}, Stp W Ha Hb → Stp W (upd Ha D (.lst [])) (upd Hb D (.lst [])) := fun {Ha Hb} s a o h n => by
        by_cases e : a = D
        · rw [e, upd_same] at h ⊢; exact h
        · rw [upd_ne e] at h ⊢; exact s a o h n
      have s24 : Stp W H2 H4 := (Stp.same (sy.trans s3)).trans s4
      have hD4 : H4 D = some (.lst acc) := s24 D _ hD DW
      have sm24 : Same (wo H2 (Mm (fun a => M0 a ∨ a = D) W)) (wo H4 (Mm (fun a => M0 a ∨ a = D) W)) := s24.wo
      cases b with
      | true =>
        rw [if_pos rfl] at ei ⊢
        obtain ⟨⟨y1, ρ5⟩, ee, ei⟩ := Option.bind_eq_some_iff.mp ei
        obtain ⟨⟨zr', ρ6⟩, er, ei⟩ := Option.map_eq_some_iff.mp ei
        cases ei
        refine he.run ee R4 fun w H5 s5 R5 r5 => ?_
        have hD5 : H5 D = some (.lst acc) := s5 D _ hD4 DW
        have wu : Same (wo H5 (Mm (fun a => M0 a ∨ a = D) W)) (wo (upd H5 D (.lst (acc ++ [w]))) (Mm (fun a => M0 a ∨ a = D) W)) := wo_upd (.inl (.inr rfl))
        have R6 : EnvR K (fun a => M0 a ∨ a = D) B W (wipeD ρ5 vs) (L2.wipe σ vs) (upd H5 D (.lst (acc ++ [w]))) := by
          have R5' := R5.wipe vs
          rw [hw] at R5'
          refine ⟨R5'.len, fun j t h => ?_, R5'.dist, fun b m => ?_, R5'.bw⟩
          · have q := R5'.slot j t h
            cases t with
            | no => trivial
            | d x => obtain ⟨u, e1, r1⟩ := q; exact ⟨u, e1, r1.mono wu⟩
            | m ys2 =>
              obtain ⟨c, ws, e1, w', b, z, h1, r1⟩ := q
              have cD : c ≠ D := fun e => DW (by rw [← e]; exact w')
              exact ⟨c, ws, e1, w', b, z, by rw [upd_ne cD]; exact h1, r1.mono wu⟩
            | p ys2 =>
              obtain ⟨c, ws, e1, w', b, h1, r1⟩ := q
              have cD : c ≠ D := fun e => DW (by rw [← e]; exact w')
              exact ⟨c, ws, e1, w', b, by rw [upd_ne cD]; exact h1, r1.mono wu⟩
          · by_cases e : b = D
            · exact ⟨.lst (acc ++ [w]), by rw [e]; exact upd_same, trivial⟩
            · obtain ⟨o, h, c⟩ := R5'.trk b m
              exact ⟨o, by rw [upd_ne e]; exact h, c⟩
        refine ⟨acc, hD5, by rw [sizeLine_eq]; omega, hlt, _, acc ++ [w], ?_, R6, upd_same, by simp; omega, ?_, ys ++ [y1], zr', by rw [ez]; simp, ?_, er⟩
        · refine st2.trans ?_
          have := updS (s24.trans s5)
          intro a o h n
          have := this a o h n
          rw [upd_upd]
          exact this
        · exact ((sb.trans sm24).trans s5.wo).trans wu
        · exact ((ra.mono (sm24.trans s5.wo)).append (.cons r5 .nil)).mono wu
      | false =>
        rw [if_neg Bool.false_ne_true] at ei ⊢
        have R5' := R4.wipe vs
        rw [hw] at R5'
        exact ⟨hlt, _, acc, st2.trans (updS s24), R5', hD4, Nat.le_succ_of_le hal, sb.trans sm24, ys, zr, ez, ra.mono sm24, ei⟩
    · left
      have he' : i = ds.length := by omega
      subst he'
      rw [List.drop_length] at ei
      unfold lcGo at ei
      cases ei
      rw [List.append_nil] at ez
      subst ez
      refine ⟨ok.stop H2 sb', ?_⟩
      refine q D acc H2 ?_ (R1.back R2 sb hd) nH hD ra
      intro a o h n
      have h1 := s1 a o h n
      have ne : a ≠ D := ne_of_none h1 nD
      have := st2 a o (by rw [upd_ne ne]; exact h1) n
      rw [upd_ne ne] at this
      exact this
  · cases e⟩
end
end TB
namespace TB
open PySem L2

/-! ### promises of defs -/
abbrev Trk (M : Addr → Prop) (H : Hp) : Prop := ∀ a, M a → ∃ o, H a = some o ∧ isCell o
/-- data in, data out -/
def spD (K : Fg) (f : List D → Option D) : Sp := fun vs H Q _ => ∃ (M : Addr → Prop) (ds : List D) (r : D), RpA K (wo H M) vs ds ∧ f ds = some r ∧ Trk M H ∧ ∀ v H', Same H H' → Rp K (wo H' M) v r → Q v H'
/-- data in, a new list out -/
def spF (K : Fg) (f : List D → Option (List D)) : Sp := fun vs H Q _ => ∃ (M : Addr → Prop) (ds rs : List D), RpA K (wo H M) vs ds ∧ f ds = some rs ∧ Trk M H ∧
  ∀ p ws H', Same H H' → H p = none → H' p = some (.lst ws) → RpA K (wo H' fun a => M a ∨ a = p) ws rs → Q (.ref p) H'
/-- the first argument is a list that is changed -/
def spP (K : Fg) (f : List D → List D → Option (D × List D)) : Sp := fun vs H Q _ => ∃ (M : Addr → Prop) (b : Addr) (vs0 pvs : List V) (ps ds ps' : List D) (r : D), vs = .ref b :: vs0 ∧ M b ∧ H b = some (.lst pvs) ∧ RpA K (wo H M) pvs ps ∧ RpA K (wo H M) vs0 ds ∧
  f ps ds = some (r, ps') ∧ Trk M H ∧ ∀ v H' pvs', (∀ a o, H a = some o → a ≠ b → H' a = some o) → H' b = some (.lst pvs') → RpA K (wo H' M) pvs' ps' → Rp K (wo H' M) v r → Q v H'

def runD (nN np : Nat) (g : GS) (ds : List D) : Option D := if ds.length = np then (g (ds.map Sl.d ++ List.replicate (nN - np) .no)).bind fun p => match p.1 with
  | .rt x => some x
  | .rf xs => some (.list xs)
  | .nx => some .none
  | _ => none else none
def runF (nN np : Nat) (g : GS) (ds : List D) : Option (List D) := if ds.length = np then (g (ds.map Sl.d ++ List.replicate (nN - np) .no)).bind fun p => match p.1 with
  | .rf xs => some xs
  | _ => none else none
def runP (nN np : Nat) (g : GS) (ps ds : List D) : Option (D × List D) := if ds.length + 1 = np then (g (.p ps :: (ds.map Sl.d ++ List.replicate (nN - np) .no))).bind fun (p : Out × DEnv) => match p.2[0]? with
  | some (Sl.p ps') => match p.1 with
    | .rt x => some (x, ps')
    | .rf xs => some (.list xs, ps')
    | .nx => some (.none, ps')
    | _ => none
  | _ => none else none

section
variable {P : Program} {w : World} {K : Fg} {mg : Str → Option Value} {base : Heap}
theorem start_get (N : List Str) (vs : List V) (i : Nat) : (L2.start N vs)[i]? = if i < vs.length then vs[i]?.map some else if i < N.length then some none else none := by
  unfold L2.start
  by_cases h : i < vs.length
  · rw [List.getElem?_append_left (by simpa using h), List.getElem?_map]
    simp [h]
  · rw [List.getElem?_append_right (by simpa using h), List.length_map, List.getElem?_replicate]
    simp only [h, if_false]
    by_cases h2 : i < N.length
    · rw [if_pos (by omega), if_pos h2]
    · rw [if_neg (by omega), if_neg h2]
theorem envR_start {N : List Str} {vs : List V} {ds : List D} {M : Addr → Prop} {H : Hp} (r : RpA K (wo H M) vs ds) (tr : Trk M H) (hn : ds.length ≤ N.length) :
    EnvR K M none (fun _ => False) (ds.map Sl.d ++ List.replicate (N.length - ds.length) .no) (L2.start N vs) H := by
  have sm : Same (wo H M) (wo H (Mm M fun _ => False)) := wo_less fun a m => m.elim id False.elim
  have hl := r.length
  have nm : ∀ (i : Nat) (s : Sl), (ds.map Sl.d ++ List.replicate (N.length - ds.length) Sl.no)[i]? = some s → ¬ s.isM := fun i s h m => by
    by_cases hi : i < ds.length
    · rw [List.getElem?_append_left (by simpa using hi), List.getElem?_map] at h
      obtain ⟨x, _, e⟩ := Option.map_eq_some_iff.mp h
      subst e; exact m
    · rw [List.getElem?_append_right (by simpa using hi), List.getElem?_replicate] at h
      split at h
      · cases h; exact m
      · cases h
  refine ⟨?_, fun i s h => ?_, fun i j s t h1 h2 m1 m2 q => absurd m1 (nm i s h1), fun a m => m.elim (tr a) False.elim, fun b e => nomatch e⟩
  · unfold L2.start
    simp [hl]
  · by_cases hi : i < ds.length
    · rw [List.getElem?_append_left (by simpa using hi), List.getElem?_map] at h
      obtain ⟨x, hx, e⟩ := Option.map_eq_some_iff.mp h
      subst e
      obtain ⟨v, hv, rv⟩ := r.get hx
      refine ⟨v, ?_, rv.mono sm⟩
      rw [start_get, if_pos (by rw [hl]; exact hi), hv]
      rfl
    · rw [List.getElem?_append_right (by simpa using hi), List.getElem?_replicate] at h
      split at h
      · cases h; trivial
      · cases h
theorem spD_len {f : List D → Option D} {n : Nat} (hf : ∀ ds r, f ds = some r → ds.length = n) : ∀ vs H Q E, spD K f vs H Q E → vs.length = n := fun vs H Q E ⟨M, ds, r, h, e, _⟩ => by rw [h.length]; exact hf _ _ e
theorem runD_len {nN np : Nat} {g : GS} {ds : List D} {r : D} (h : runD nN np g ds = some r) : ds.length = np := by
  unfold runD at h
  split at h
  · assumption
  · cases h
theorem runF_len {nN np : Nat} {g : GS} {ds r : List D} (h : runF nN np g ds = some r) : ds.length = np := by
  unfold runF at h
  split at h
  · assumption
  · cases h
theorem runP_len {nN np : Nat} {g : GS} {ps ds : List D} {r : D × List D} (h : runP nN np g ps ds = some r) : ds.length + 1 = np := by
  unfold runP at h
  split at h
  · assumption
  · cases h
/-- a def that takes and gives data -/
theorem fn_d {x qual : Str} {st : Stmt} {f : Addr} {fd : FuncData} {N ps : List Str} {k : Nat} {g : GS} (F : Fun K x qual st f fd) (S : FnScope N ps (defScope st)) (hN : ps.length ≤ N.length)
    (hb : ∀ (cdv : Value) (A : Around) (outer : List PySem.Env) (s : Shared) (H : Hp) (E : XK), Room k (A.deeper (PyProof.Rows.envOfC qual (defScope st) s.heap.objs.size f cdv)) → ∃ t, DSs K (cxOf CX0 P w K mg base N qual (defScope st) f cdv A outer s H E).nox (defBody st) t g) :
    FnOk P w K mg base CX0 (k + 1) f fd ps (spD K (runD N.length ps.length g)) := by
  refine F.ok S (spD_len fun ds r h => runD_len h) fun cdv A outer s H vs Q E hr h => ?_
  obtain ⟨M, ds, r, rv, e, tr, q⟩ := h
  obtain ⟨t, hd⟩ := hb cdv A outer s H E hr
  refine ⟨t, hd.pss, ?_⟩
  have hl := runD_len e
  unfold runD at e
  rw [if_pos hl] at e
  obtain ⟨⟨o, ρ'⟩, e1, e⟩ := Option.bind_eq_some_iff.mp e
  rw [← hl] at e1
  refine hd.sem.run e1 (envR_start rv tr (by rw [hl]; exact hN)) fun W' σ' H' n R => ?_
  have s : Same H H' := fun a o h => n.stp a o h id
  cases o with
  | nx => cases e; exact q _ _ s .non
  | bk => cases e
  | ct => cases e
  | rt x => cases e; exact fun v r => q v H' s (r.mono (wo_less fun a m => .inl m))
  | rf xs =>
    cases e
    exact fun p vs wp nB nM hp r => q _ _ s (.lst (wo_some hp nM) (r.mono (wo_less fun a m => .inl m)))
/-- .. a new list -/
theorem fn_f {x qual : Str} {st : Stmt} {f : Addr} {fd : FuncData} {N ps : List Str} {k : Nat} {g : GS} (F : Fun K x qual st f fd) (S : FnScope N ps (defScope st)) (hN : ps.length ≤ N.length)
    (hb : ∀ (cdv : Value) (A : Around) (outer : List PySem.Env) (s : Shared) (H : Hp) (E : XK), Room k (A.deeper (PyProof.Rows.envOfC qual (defScope st) s.heap.objs.size f cdv)) → ∃ t, DSs K (cxOf CX0 P w K mg base N qual (defScope st) f cdv A outer s H E).nox (defBody st) t g) :
    FnOk P w K mg base CX0 (k + 1) f fd ps (spF K (runF N.length ps.length g)) := by
  refine F.ok S (fun vs H Q E ⟨M, ds, r, h, e, _⟩ => by rw [h.length]; exact runF_len e) fun cdv A outer s H vs Q E hr h => ?_
  obtain ⟨M, ds, r, rv, e, tr, q⟩ := h
  obtain ⟨t, hd⟩ := hb cdv A outer s H E hr
  refine ⟨t, hd.pss, ?_⟩
  have hl := runF_len e
  unfold runF at e
  rw [if_pos hl] at e
  obtain ⟨⟨o, ρ'⟩, e1, e⟩ := Option.bind_eq_some_iff.mp e
  rw [← hl] at e1
  refine hd.sem.run e1 (envR_start rv tr (by rw [hl]; exact hN)) fun W' σ' H' n R => ?_
  have s : Same H H' := fun a o h => n.stp a o h id
  cases o with
  | rf xs =>
    cases e
    refine fun p vs wp nB nM hp r => q p vs H' s ?_ hp (r.mono (wo_less fun a m => ?_))
    · exact (n.new p wp).elim False.elim id
    · rcases m with m | m
      · exact .inl m
      · exact .inr (by rw [m]; exact wp)
  | _ => cases e
/-- a def that changes the list which comes first -/
theorem fn_p {x qual : Str} {st : Stmt} {f : Addr} {fd : FuncData} {N ps : List Str} {k : Nat} {g : GS} (F : Fun K x qual st f fd) (S : FnScope N ps (defScope st)) (hN : ps.length ≤ N.length)
    (hb : ∀ (cdv : Value) (A : Around) (outer : List PySem.Env) (s : Shared) (H : Hp) (E : XK), Room k (A.deeper (PyProof.Rows.envOfC qual (defScope st) s.heap.objs.size f cdv)) → ∃ t, DSs K (cxOf CX0 P w K mg base N qual (defScope st) f cdv A outer s H E).nox (defBody st) t g) :
    FnOk P w K mg base CX0 (k + 1) f fd ps (spP K (runP N.length ps.length g)) := by
  refine F.ok S (fun vs H Q E ⟨M, b, vs0, pvs, ps, ds, ps', r, e0, _, _, _, h, e, _⟩ => by rw [e0, List.length_cons, h.length]; exact runP_len e) fun cdv A outer s H vs Q E hr h => ?_
  obtain ⟨M, b, vs0, pvs, ps0, ds, ps', r, e0, Mb, hb0, rp, rv, e, tr, q⟩ := h
  subst e0
  obtain ⟨t, hd⟩ := hb cdv A outer s H E hr
  refine ⟨t, hd.pss, ?_⟩
  have hl := runP_len e
  unfold runP at e
  rw [if_pos hl] at e
  obtain ⟨⟨o, ρ'⟩, e1, e⟩ := Option.bind_eq_some_iff.mp e
  have hlen := rv.length
  have sm : Same (wo H M) (wo H (Mm M fun a => a = b)) := wo_less fun a m => m.elim id fun m => by rw [m]; exact Mb
  have R0 : EnvR K M (some b) (fun a => a = b) (.p ps0 :: (ds.map Sl.d ++ List.replicate (N.length - ps.length) .no)) (L2.start N (.ref b :: vs0)) H := by
    have nm : ∀ (i : Nat) (s : Sl), (Sl.p ps0 :: (ds.map Sl.d ++ List.replicate (N.length - ps.length) Sl.no))[i]? = some s → s.isM → i = 0 := fun i s h m => by
      cases i with
      | zero => rfl
      | succ i =>
        rw [List.getElem?_cons_succ] at h
        by_cases hi : i < ds.length
        · rw [List.getElem?_append_left (by simpa using hi), List.getElem?_map] at h
          obtain ⟨x, _, e⟩ := Option.map_eq_some_iff.mp h
          subst e; exact m.elim
        · rw [List.getElem?_append_right (by simpa using hi), List.getElem?_replicate] at h
          split at h
          · cases h; exact m.elim
          · cases h
    refine ⟨?_, fun i s h => ?_, fun i j s t h1 h2 m1 m2 q => (nm i s h1 m1).trans (nm j t h2 m2).symm, fun a m => m.elim (tr a) fun m => tr a (by rw [m]; exact Mb), fun c e => by cases e; rfl⟩
    · unfold L2.start
      simp [hlen]
      omega
    · cases i with
      | zero =>
        cases h
        refine ⟨b, pvs, ?_, rfl, rfl, hb0, rp.mono sm⟩
        rw [start_get]; simp
      | succ i =>
        rw [List.getElem?_cons_succ] at h
        by_cases hi : i < ds.length
        · rw [List.getElem?_append_left (by simpa using hi), List.getElem?_map] at h
          obtain ⟨x, hx, e⟩ := Option.map_eq_some_iff.mp h
          subst e
          obtain ⟨v, hv, rv⟩ := rv.get hx
          refine ⟨v, ?_, rv.mono sm⟩
          rw [start_get, if_pos (by simp [hlen]; exact hi), List.getElem?_cons_succ, hv]
          rfl
        · rw [List.getElem?_append_right (by simpa using hi), List.getElem?_replicate] at h
          split at h
          · cases h; trivial
          · cases h
  refine hd.sem.run e1 R0 fun W' σ' H' n R => ?_
  have s : ∀ a o, H a = some o → a ≠ b → H' a = some o := fun a o h ne => n.stp a o h ne
  split at e
  · rename_i ps1 hp1
    obtain ⟨c, ws, _, _, ec, hc, rc⟩ := R.slot 0 _ hp1
    cases ec
    have sm' : Same (wo H' (Mm M W')) (wo H' M) := wo_less fun a m => .inl m
    cases o with
    | nx => cases e; exact q _ _ ws s hc (rc.mono sm') .non
    | bk => cases e
    | ct => cases e
    | rt x => cases e; exact fun v r => q v H' ws s hc (rc.mono sm') (r.mono sm')
    | rf xs =>
      cases e
      exact fun p vs wp nB nM hp r => q _ _ ws s hc (rc.mono sm') (.lst (wo_some hp nM) (r.mono sm'))
  · cases e

/-! ### calls of defs -/
theorem sem_call {t : TA} {ga : GA} {f : List D → Option D} {E : XK} (ha : SemA K t ga) : SemE K (tCall (spD K f) [] E t) (gFun f ga) := ⟨fun {M0 B W ρ ρ' d σ H Q} e R q => by
  unfold gFun at e
  obtain ⟨⟨x, ρ1⟩, h1, e⟩ := Option.bind_eq_some_iff.mp e
  obtain ⟨z, h3, e⟩ := Option.map_eq_some_iff.mp e
  cases e
  refine ha.run h1 R fun vs H1 s1 R1 r1 => ?_
  refine ⟨Mm M0 W, x, d, by rw [List.append_nil]; exact r1, h3, R1.trk, fun v H' s r => ?_⟩
  exact q v H' (s1.trans (.same s)) (R1.same s) r⟩
theorem sem_callF {t : TA} {ga : GA} {f : List D → Option (List D)} {E : XK} (ha : SemA K t ga) : SemF K (tCall (spF K f) [] E t) (gFunF f ga) := ⟨fun {M0 B W ρ ρ' d σ H Q} e R q => by
  unfold gFunF at e
  obtain ⟨⟨x, ρ1⟩, h1, e⟩ := Option.bind_eq_some_iff.mp e
  obtain ⟨z, h3, e⟩ := Option.map_eq_some_iff.mp e
  cases e
  refine ha.run h1 R fun vs H1 s1 R1 r1 => ?_
  refine ⟨Mm M0 W, x, d, by rw [List.append_nil]; exact r1, h3, R1.trk, fun p ws H' s np hp rv => ?_⟩
  refine q p ws H' (s1.trans (.same s)) (R1.apart np s hp) (back_none s1 R np ⟨_, _, R1⟩) hp (rv.mono (wo_less fun a m => ?_))
  rcases m with m | m
  · exact m.elim (fun m => .inl (.inl m)) fun m => .inr m
  · exact .inl (.inr m)⟩
/-- f(pool, ..) -/
def gFunP (i : Nat) (f : List D → List D → Option (D × List D)) (ga : GA) : GE := fun ρ => (cellOf ρ[i]?).bind fun _ => (ga ρ).bind fun p => (cellOf p.2[i]?).bind fun ps => (f ps p.1).map fun z => (z.1, p.2.set i (reCell z.2 p.2[i]?))
theorem sem_callP {i : Nat} {t : TA} {ga : GA} {f : List D → List D → Option (D × List D)} {E : XK} (ha : SemA K t ga) : SemE K (tCall (spP K f) [] E (tCons (tVar i) t)) (gFunP i f ga) := ⟨fun {M0 B W ρ ρ' d σ H Q} e R q => by
  unfold gFunP at e
  obtain ⟨ps0, e0, e⟩ := Option.bind_eq_some_iff.mp e
  obtain ⟨⟨x, ρ1⟩, h1, e⟩ := Option.bind_eq_some_iff.mp e
  obtain ⟨ps, e2, e⟩ := Option.bind_eq_some_iff.mp e
  obtain ⟨⟨z, ps'⟩, h3, e⟩ := Option.map_eq_some_iff.mp e
  cases e
  obtain ⟨a, vs0, ea, _, h0, _⟩ := R.cellAt e0
  refine ⟨_, ea, ha.run h1 R fun vs H1 s1 R1 r1 => ?_⟩
  obtain ⟨b, pvs, eb, wb, hb, rb, re⟩ := R1.cellAt e2
  rw [ea] at eb; cases eb
  refine ⟨Mm M0 W, a, vs, pvs, ps, x, ps', z, by simp, .inr wb, hb, rb, r1, h3, R1.trk, fun v H' pvs' st hb' rp r => ?_⟩
  obtain ⟨R2, s2⟩ := re st hb' rp
  exact q v H' (s1.trans s2) R2 r⟩
end
end TB
namespace TB
open PySem L2

/-! ### a term for each construct -/
section
variable {K : Fg} {X : Cx} {a b c e : Expr} {es : List Expr} {ta tb tc te : TE} {ga gb gc ge : GE} {pos : Pos}
theorem d_var (i : Nat) {x : Str} {pos : Pos} (hN : X.N[i]? = some x := by rfl) (hv : Vis X.env.scope x := by first | exact Or.inl rfl | exact Or.inr (Or.inl rfl) | exact Or.inr (Or.inr rfl)) (hd : (x == ("__debug__" : Str)) = false := by decide)
    (hcd : (x == ("__classdict__" : Str)) = false := by decide) : DE K X (.Name x pos) (tVar i) (gVar i) := ⟨pe_var hN hv hd hcd, sem_var⟩
theorem d_int {i j pos} : DE K X (.Constant (.int i) j pos) (tC (.int i)) (gC (.int i)) := ⟨pe_int, sem_c fun _ => .int i⟩
theorem d_bl {b j pos} : DE K X (.Constant (.bool b) j pos) (tC (.bl b)) (gC (.bool b)) := ⟨pe_bl, sem_c fun _ => .bl b⟩
theorem d_non {j pos} : DE K X (.Constant .none j pos) (tC .non) (gC .none) := ⟨pe_non, sem_c fun _ => .non⟩
theorem d_str {x j pos} : DE K X (.Constant (.str x) j pos) (tC (.str x)) (gC (.str x)) := ⟨pe_str, sem_c fun _ => .str x⟩
/-- a tuple of ints of the top -/
def KTup (K : Fg) (a : Addr) (ns : List Int) : Prop := ∀ H, SqT K H a (ns.map V.int)
theorem d_gtup {x : Str} {q : Addr} {ns : List Int} {pos : Pos} (hg : Gl X x) (hm : X.mg x = some (.ref q)) (h : KTup K q ns) (hd : (x == ("__debug__" : Str)) = false := by decide) : DE K X (.Name x pos) (tC (.ref q)) (gC (.tuple (ns.map PyData.int))) :=
  ⟨pe_glob hg hm rfl hd, sem_c fun H => .tup (h H) (RpA.of_ints ns)⟩
theorem d_add (ha : DE K X a ta ga) (hb : DE K X b tb gb) (hK : X.K = K := by rfl) : DE K X (.BinOp a .Add b pos) (tOp (rAddAny K) ta tb) (gBin dAdd ga gb) := ⟨by subst hK; exact pe_op op_addAny ha.pe hb.pe, sem_op rok_add ha.sem hb.sem⟩
theorem d_sub (ha : DE K X a ta ga) (hb : DE K X b tb gb) : DE K X (.BinOp a .Sub b pos) (tOp (rI0 fun i j => .int (i - j)) ta tb) (gBin dSub ga gb) := ⟨pe_op op_sub ha.pe hb.pe, sem_op rok_sub ha.sem hb.sem⟩
theorem d_mul (ha : DE K X a ta ga) (hb : DE K X b tb gb) : DE K X (.BinOp a .Mult b pos) (tOp (rI CMulX fun i j => .int (i * j)) ta tb) (gBin dMul ga gb) := ⟨pe_op op_mulX ha.pe hb.pe, sem_op rok_mul ha.sem hb.sem⟩
theorem d_fdiv (ha : DE K X a ta ga) (hb : DE K X b tb gb) : DE K X (.BinOp a .FloorDiv b pos) (tOp (rI CDivX fun i j => .int (i.fdiv j)) ta tb) (gBin dFdiv ga gb) := ⟨pe_op op_fdivX ha.pe hb.pe, sem_op rok_fdiv ha.sem hb.sem⟩
theorem d_mod (ha : DE K X a ta ga) (hb : DE K X b tb gb) : DE K X (.BinOp a .Mod b pos) (tOp (rI (fun _ j => j ≠ 0) fun i j => .int (i.fmod j)) ta tb) (gBin dMod ga gb) := ⟨pe_op op_modN ha.pe hb.pe, sem_op rok_mod ha.sem hb.sem⟩
theorem d_pow (ha : DE K X a ta ga) (hb : DE K X b tb gb) : DE K X (.BinOp a .Pow b pos) (tOp (rI CPow fun i j => .int (i ^ j.toNat)) ta tb) (gBin dPow ga gb) := ⟨pe_op op_pow ha.pe hb.pe, sem_op rok_pow ha.sem hb.sem⟩
theorem d_neg (ha : DE K X a ta ga) : DE K X (.UnaryOp .USub a pos) (tUn (rU fun i => .int (-i)) ta) (gUn dNeg ga) := ⟨pe_un un_neg ha.pe, sem_un uok_neg ha.sem⟩
theorem d_lt (ha : DE K X a ta ga) (hb : DE K X b tb gb) : DE K X (.Compare a [.Lt] [b] pos) (tOp (rI0 fun i j => .bl (decide (i < j))) ta tb) (gBin dLt ga gb) := ⟨pe_cmpR op_lt ha.pe hb.pe (nomark _), sem_op rok_lt ha.sem hb.sem⟩
theorem d_le (ha : DE K X a ta ga) (hb : DE K X b tb gb) : DE K X (.Compare a [.LtE] [b] pos) (tOp (rI0 fun i j => .bl (decide (i ≤ j))) ta tb) (gBin dLe ga gb) := ⟨pe_cmpR op_le ha.pe hb.pe (nomark _), sem_op rok_le ha.sem hb.sem⟩
theorem d_gt (ha : DE K X a ta ga) (hb : DE K X b tb gb) : DE K X (.Compare a [.Gt] [b] pos) (tOp (rI0 fun i j => .bl (decide (j < i))) ta tb) (gBin dGt ga gb) := ⟨pe_cmpR op_gt ha.pe hb.pe (nomark _), sem_op rok_gt ha.sem hb.sem⟩
theorem d_ge (ha : DE K X a ta ga) (hb : DE K X b tb gb) : DE K X (.Compare a [.GtE] [b] pos) (tOp (rI0 fun i j => .bl (decide (j ≤ i))) ta tb) (gBin dGe ga gb) := ⟨pe_cmpR op_ge ha.pe hb.pe (nomark _), sem_op rok_ge ha.sem hb.sem⟩
theorem d_eq (hu : X.A.units + 64 < cLine) (ha : DE K X a ta ga) (hb : DE K X b tb gb) (hK : X.K = K := by rfl) : DE K X (.Compare a [.Eq] [b] pos) (tOp (rEqD K) ta tb) (gBin dEq ga gb) := ⟨by subst hK; exact pe_cmpR (op_eqD hu) ha.pe hb.pe (nomark _), sem_op rok_eq ha.sem hb.sem⟩
theorem d_ne (hu : X.A.units + 64 < cLine) (ha : DE K X a ta ga) (hb : DE K X b tb gb) (hK : X.K = K := by rfl) : DE K X (.Compare a [.NotEq] [b] pos) (tOp (rNeD K) ta tb) (gBin dNe ga gb) := ⟨by subst hK; exact pe_cmpR (op_neD hu) ha.pe hb.pe (nomark _), sem_op rok_ne ha.sem hb.sem⟩
theorem d_ix (ha : DE K X a ta ga) (hb : DE K X b tb gb) (hs : PlainIx b := by intro _ _; rfl) (hK : X.K = K := by rfl) : DE K X (.Subscript a b pos) (tOp (rIxAny K) ta tb) (gBin dIx ga gb) := ⟨by subst hK; exact pe_ix ix_any ha.pe hb.pe hs, sem_op rok_ix ha.sem hb.sem⟩
theorem d_ixM (i : Nat) {x : Str} {p : Pos} (hb : DE K X b tb gb) (hN : X.N[i]? = some x := by rfl) (hv : Vis X.env.scope x := by first | exact Or.inl rfl | exact Or.inr (Or.inl rfl) | exact Or.inr (Or.inr rfl)) (hd : (x == ("__debug__" : Str)) = false := by decide)
    (hcd : (x == ("__classdict__" : Str)) = false := by decide) (hs : PlainIx b := by intro _ _; rfl) (hK : X.K = K := by rfl) : DE K X (.Subscript (.Name x p) b pos) (tOp (rIxAny K) (tVar i) tb) (gIxM i gb) := ⟨by subst hK; exact pe_ix ix_any (pe_var hN hv hd hcd) hb.pe hs, sem_ixM hb.sem⟩
theorem d_nil : DA K X [] tNil aNil := ⟨pa_nil, sem_nil⟩
theorem d_cons {t : TA} {g : GA} (ha : DE K X e te ge) (hr : DA K X es t g) (hs : starEach (e :: es) X.env = (false, eval e X.env) :: starEach es X.env := by rfl) : DA K X (e :: es) (tCons te t) (aCons ge g) := ⟨pa_cons ha.pe hr.pa hs, sem_cons ha.sem hr.sem⟩
theorem d_tup {t : TA} {g : GA} {k : Nat} (h : DA K X es t g) : DE K X (.Tuple es k pos) (tTup t) (gTpl g) := ⟨pe_tup h.pa, sem_tup h.sem⟩
theorem d_lst {t : TA} {g : GA} (h : DA K X es t g) : DF K X (.List es pos) (tLst t) (gLst g) := ⟨pe_lst h.pa, sem_lst h.sem⟩
theorem d_ofF {g : GF} (h : DF K X e te g) : DE K X e te (gOfF g) := ⟨h.pe, sem_ofF h.sem⟩
/-! tests -/
variable {tt tu : TT} {gt gu : GT} {rest : List Expr}
theorem d_tst (h : DE K X e te ge) (he : ∀ whole, isTrue e X.env whole = (do let v ← whole; standAt e.pos; holding [v] (truthy v)) := by intro _; rfl) : DT K X e (tB te) (gB ge) := ⟨pt_val h.pe he, sem_B h.sem⟩
theorem d_tcmp {op : CmpOp} {r : R2} {g : GE} (h : DE K X (.Compare a [op] [b] pos) (tOp r ta tb) g) (ho : OpR X (compareOp op) r) (ha : PE X a ta) (hb : PE X b tb) (hm : behindInMarks op b = false) : DT K X (.Compare a [op] [b] pos) (tB (tOp r ta tb)) (gB g) :=
  ⟨pt_cmpR ho ha hb hm, sem_B h.sem⟩
theorem t_lt (ha : DE K X a ta ga) (hb : DE K X b tb gb) : DT K X (.Compare a [.Lt] [b] pos) (tB (tOp (rI0 fun i j => .bl (decide (i < j))) ta tb)) (gB (gBin dLt ga gb)) := ⟨pt_cmpR op_lt ha.pe hb.pe (nomark _), sem_B (sem_op rok_lt ha.sem hb.sem)⟩
theorem t_le (ha : DE K X a ta ga) (hb : DE K X b tb gb) : DT K X (.Compare a [.LtE] [b] pos) (tB (tOp (rI0 fun i j => .bl (decide (i ≤ j))) ta tb)) (gB (gBin dLe ga gb)) := ⟨pt_cmpR op_le ha.pe hb.pe (nomark _), sem_B (sem_op rok_le ha.sem hb.sem)⟩
theorem t_gt (ha : DE K X a ta ga) (hb : DE K X b tb gb) : DT K X (.Compare a [.Gt] [b] pos) (tB (tOp (rI0 fun i j => .bl (decide (j < i))) ta tb)) (gB (gBin dGt ga gb)) := ⟨pt_cmpR op_gt ha.pe hb.pe (nomark _), sem_B (sem_op rok_gt ha.sem hb.sem)⟩
theorem t_ge (ha : DE K X a ta ga) (hb : DE K X b tb gb) : DT K X (.Compare a [.GtE] [b] pos) (tB (tOp (rI0 fun i j => .bl (decide (j ≤ i))) ta tb)) (gB (gBin dGe ga gb)) := ⟨pt_cmpR op_ge ha.pe hb.pe (nomark _), sem_B (sem_op rok_ge ha.sem hb.sem)⟩
theorem t_eq (hu : X.A.units + 64 < cLine) (ha : DE K X a ta ga) (hb : DE K X b tb gb) (hK : X.K = K := by rfl) : DT K X (.Compare a [.Eq] [b] pos) (tB (tOp (rEqD K) ta tb)) (gB (gBin dEq ga gb)) := ⟨by subst hK; exact pt_cmpR (op_eqD hu) ha.pe hb.pe (nomark _), sem_B (sem_op rok_eq ha.sem hb.sem)⟩
theorem t_ne (hu : X.A.units + 64 < cLine) (ha : DE K X a ta ga) (hb : DE K X b tb gb) (hK : X.K = K := by rfl) : DT K X (.Compare a [.NotEq] [b] pos) (tB (tOp (rNeD K) ta tb)) (gB (gBin dNe ga gb)) := ⟨by subst hK; exact pt_cmpR (op_neD hu) ha.pe hb.pe (nomark _), sem_B (sem_op rok_ne ha.sem hb.sem)⟩
theorem t_not (h : DT K X e tt gt) : DT K X (.UnaryOp .Not e pos) (tNot tt) (gNot gt) := ⟨pt_not h.pt, sem_not h.sem⟩
structure DW (K : Fg) (X : Cx) (e : Expr) (t : TT) (g : GT) : Prop where
  pw : PW X e t
  sem : SemT K t g
theorem w_and1 (h : DT K X a tt gt) : DW K X (.BoolOp .And [a] pos) tt gt := ⟨pw_and1 h.pt, h.sem⟩
theorem w_or1 (h : DT K X a tt gt) : DW K X (.BoolOp .Or [a] pos) tt gt := ⟨pw_or1 h.pt, h.sem⟩
theorem w_and (h : DT K X a tt gt) (h2 : DW K X (.BoolOp .And (b :: rest) pos) tu gu) : DW K X (.BoolOp .And (a :: b :: rest) pos) (tAnd tt tu) (gAnd gt gu) := ⟨pw_and h.pt h2.pw, sem_and h.sem h2.sem⟩
theorem w_or (h : DT K X a tt gt) (h2 : DW K X (.BoolOp .Or (b :: rest) pos) tu gu) : DW K X (.BoolOp .Or (a :: b :: rest) pos) (tOr tt tu) (gOr gt gu) := ⟨pw_or h.pt h2.pw, sem_or h.sem h2.sem⟩
theorem t_w (h : DW K X e tt gt) : DT K X e tt gt := ⟨h.pw.pt, h.sem⟩
theorem d_one {op} (h : DE K X a ta ga) : DE K X (.BoolOp op [a] pos) ta ga := ⟨pe_one h.pe, h.sem⟩
theorem d_and (h : DE K X a ta ga) (h2 : DE K X (.BoolOp .And (b :: rest) pos) tb gb) : DE K X (.BoolOp .And (a :: b :: rest) pos) (tAndV ta tb) (gAndV ga gb) := ⟨pe_and h.pe h2.pe, sem_andV h.sem h2.sem⟩
theorem d_or (h : DE K X a ta ga) (h2 : DE K X (.BoolOp .Or (b :: rest) pos) tb gb) : DE K X (.BoolOp .Or (a :: b :: rest) pos) (tOrV ta tb) (gOrV ga gb) := ⟨pe_or h.pe h2.pe, sem_orV h.sem h2.sem⟩
theorem d_not (h : DE K X a ta ga) : DE K X (.UnaryOp .Not a pos) (tNotV ta) (gNotV ga) := ⟨pe_not h.pe, sem_notV h.sem⟩
theorem d_ifE (h : DT K X c tt gt) (ha : DE K X a ta ga) (hb : DE K X b tb gb) : DE K X (.IfExp c a b pos) (tIf tt ta tb) (gIfE gt ga gb) := ⟨pe_ifExp h.pt ha.pe hb.pe, sem_ifE h.sem ha.sem hb.sem⟩
end

/-! ### is -/
def isD : D → D → Bool
  | .none, .none => true
  | .bool a, .bool b => a == b
  | _, _ => false
def dIs : D → D → Option D
  | x, .none => some (.bool (isD x .none))
  | x, .bool b => some (.bool (isD x (.bool b)))
  | _, _ => none
def dIsNot : D → D → Option D
  | x, .none => some (.bool (!isD x .none))
  | x, .bool b => some (.bool (!isD x (.bool b)))
  | _, _ => none
def rIsX : R2 := fun x y H Q => (y = .non ∨ ∃ b, y = .bl b) ∧ Q (.bl (decide (x = y))) H
def rNotX : R2 := fun x y H Q => (y = .non ∨ ∃ b, y = .bl b) ∧ Q (.bl (!decide (x = y))) H
theorem is_vals {x y : V} {v u : Value} (rx : RelV x v) (ry : RelV y u) (hy : y = .non ∨ ∃ b, y = .bl b) (hb : ∀ n, x ≠ .ty n) : plainIs v u = true ∧ (v == u) = decide (x = y) := by
  rcases hy with rfl | ⟨b, rfl⟩
  · cases (show u = Value.none from ry)
    cases x with
    | non => cases rx; exact ⟨rfl, rfl⟩
    | bl _ => cases rx; exact ⟨rfl, rfl⟩
    | int _ => obtain ⟨t, rfl⟩ := rx; exact ⟨rfl, rfl⟩
    | str _ => obtain ⟨t, rfl⟩ := rx; exact ⟨rfl, rfl⟩
    | byt _ => obtain ⟨t, rfl⟩ := rx; exact ⟨rfl, rfl⟩
    | flt _ => obtain ⟨t, rfl⟩ := rx; exact ⟨rfl, rfl⟩
    | ref _ => cases rx; exact ⟨rfl, rfl⟩
    | ty n => exact absurd rfl (hb n)
  · cases (show u = Value.bool b from ry)
    cases x with
    | non => cases rx; exact ⟨rfl, rfl⟩
    | bl c =>
      cases (show v = Value.bool c from rx)
      refine ⟨rfl, ?_⟩
      cases b <;> cases c <;> rfl
    | int _ => obtain ⟨t, rfl⟩ := rx; exact ⟨rfl, rfl⟩
    | str _ => obtain ⟨t, rfl⟩ := rx; exact ⟨rfl, rfl⟩
    | byt _ => obtain ⟨t, rfl⟩ := rx; exact ⟨rfl, rfl⟩
    | flt _ => obtain ⟨t, rfl⟩ := rx; exact ⟨rfl, rfl⟩
    | ref _ => cases rx; exact ⟨rfl, rfl⟩
    | ty n => exact absurd rfl (hb n)
def rIsY : R2 := fun x y H Q => (∀ n, x ≠ .ty n) ∧ rIsX x y H Q
def rNotY : R2 := fun x y H Q => (∀ n, x ≠ .ty n) ∧ rNotX x y H Q
theorem op_isY {X : Cx} : OpR X (compareOp .Is) rIsY := by
  intro pins s σ H x y v u Q I rx ry h
  obtain ⟨hb, hy, q⟩ := h
  obtain ⟨h1, h2⟩ := is_vals rx ry hy hb
  exact wpAny_is_plain h1 ⟨.bl _, H, I, by rw [h2]; rfl, q⟩
theorem op_notY {X : Cx} : OpR X (compareOp .IsNot) rNotY := by
  intro pins s σ H x y v u Q I rx ry h
  obtain ⟨hb, hy, q⟩ := h
  obtain ⟨h1, h2⟩ := is_vals rx ry hy hb
  exact wpAny_isNot_plain h1 ⟨.bl _, H, I, by rw [h2]; rfl, q⟩
section
variable {K : Fg}
theorem Rp.noTy {H : Hp} {v : V} {x : D} (r : Rp K H v x) : ∀ n, v ≠ .ty n := by
  cases r <;> intro n h <;> cases h
theorem Rp.isN {H : Hp} {v : V} {x : D} (r : Rp K H v x) : decide (v = .non) = isD x .none := by
  cases r <;> rfl
theorem Rp.isB {H : Hp} {v : V} {x : D} {b : Bool} (r : Rp K H v x) : decide (v = .bl b) = isD x (.bool b) := by
  cases r with
  | bl c => cases b <;> cases c <;> rfl
  | _ => rfl
theorem rok_is : ROk K rIsY dIs := fun {H M x y dx dy dz Q} _ rx ry e q => by
  unfold dIs at e
  split at e
  · cases e
    have := ry.non_get; subst this
    exact ⟨rx.noTy, .inl rfl, q _ _ (.refl _) (by rw [rx.isN]; exact .bl _)⟩
  · cases e
    have := ry.bl_get; subst this
    exact ⟨rx.noTy, .inr ⟨_, rfl⟩, q _ _ (.refl _) (by rw [rx.isB]; exact .bl _)⟩
  · cases e
theorem rok_isNot : ROk K rNotY dIsNot := fun {H M x y dx dy dz Q} _ rx ry e q => by
  unfold dIsNot at e
  split at e
  · cases e
    have := ry.non_get; subst this
    exact ⟨rx.noTy, .inl rfl, q _ _ (.refl _) (by rw [rx.isN]; exact .bl _)⟩
  · cases e
    have := ry.bl_get; subst this
    exact ⟨rx.noTy, .inr ⟨_, rfl⟩, q _ _ (.refl _) (by rw [rx.isB]; exact .bl _)⟩
  · cases e
variable {X : Cx} {a b e : Expr} {ta tb te : TE} {ga gb ge : GE} {pos : Pos}
theorem d_is (ha : DE K X a ta ga) (hb : DE K X b tb gb) : DE K X (.Compare a [.Is] [b] pos) (tOp rIsY ta tb) (gBin dIs ga gb) := ⟨pe_cmpR op_isY ha.pe hb.pe (nomark _), sem_op rok_is ha.sem hb.sem⟩
theorem d_isNot (ha : DE K X a ta ga) (hb : DE K X b tb gb) : DE K X (.Compare a [.IsNot] [b] pos) (tOp rNotY ta tb) (gBin dIsNot ga gb) := ⟨pe_cmpR op_notY ha.pe hb.pe (nomark _), sem_op rok_isNot ha.sem hb.sem⟩
theorem t_is (ha : DE K X a ta ga) (hb : DE K X b tb gb) : DT K X (.Compare a [.Is] [b] pos) (tB (tOp rIsY ta tb)) (gB (gBin dIs ga gb)) := ⟨pt_cmpR op_isY ha.pe hb.pe (nomark _), sem_B (sem_op rok_is ha.sem hb.sem)⟩
theorem t_isNot (ha : DE K X a ta ga) (hb : DE K X b tb gb) : DT K X (.Compare a [.IsNot] [b] pos) (tB (tOp rNotY ta tb)) (gB (gBin dIsNot ga gb)) := ⟨pt_cmpR op_notY ha.pe hb.pe (nomark _), sem_B (sem_op rok_isNot ha.sem hb.sem)⟩
end

/-! ### built-ins on data -/
def fLen : List D → Option D
  | [.list xs] => some (.int xs.length)
  | [.tuple xs] => some (.int xs.length)
  | [.dict [(.none, .list xs)]] => some (.int xs.length)
  | _ => none
def fInt : List D → Option D
  | [.int i] => some (.int i)
  | _ => none
def fAbs : List D → Option D
  | [.int i] => some (.int (if i < 0 then -i else i))
  | _ => none
def fGcd : List D → Option D
  | [.int a, .int b] => some (.int ((Nat.gcd a.natAbs b.natAbs : Nat) : Int))
  | _ => none
def fMax2 : List D → Option D
  | [.int i, .int j] => some (.int (if j > i then j else i))
  | _ => none
def fMin2 : List D → Option D
  | [.int i, .int j] => some (.int (if j < i then j else i))
  | _ => none
def fList : List D → Option (List D)
  | [.list xs] => some xs
  | [.tuple xs] => some xs
  | [.dict [(.none, .list xs)]] => some xs
  | _ => none
def boolsOf : List D → Option (List Bool)
  | [] => some []
  | .bool b :: r => (boolsOf r).map fun bs => b :: bs
  | _ => none
def fAll : List D → Option D
  | [.list xs] => (boolsOf xs).map fun bs => .bool (bs.all id)
  | _ => none
def fAny : List D → Option D
  | [.list xs] => (boolsOf xs).map fun bs => .bool (bs.any id)
  | _ => none
section
variable {K : Fg}
abbrev rLenX (K : Fg) : List V → Hp → VK → Prop := fun xs H Q => ∃ p ys, xs = [.ref p] ∧ (SqL K H p ys ∨ SqT K H p ys) ∧ Q (.int ys.length) H
theorem cok_len : COk K (rLenX K) fLen := fun {H M vs ds dz Q} tr r e q => by
  unfold fLen at e
  split at e
  · cases e
    cases r with
    | cons r r' =>
      cases r'
      obtain ⟨a, ws, rfl, h, r⟩ := r.lst_get
      exact ⟨a, ws, rfl, .inl (SqL.of (wo_get h).1), q _ _ (.refl _) (by rw [r.length]; exact .int _)⟩
  · cases e
    cases r with
    | cons r r' =>
      cases r'
      obtain ⟨a, ws, rfl, h, r⟩ := r.tup_get
      exact ⟨a, ws, rfl, .inr (sqT_same wo_same h), q _ _ (.refl _) (by rw [r.length]; exact .int _)⟩
  · cases e
    cases r with
    | cons r r' =>
      cases r'
      obtain ⟨a, ws, rfl, h, r⟩ := r.ro_get
      exact ⟨a, ws, rfl, .inl (sqL_same wo_same h), q _ _ (.refl _) (by rw [r.length]; exact .int _)⟩
  · cases e
abbrev rInt1 : List V → Hp → VK → Prop := fun xs H Q => (∃ i, xs = [.int i] ∧ Q (.int i) H) ∨ ∃ k, xs = [.bl k] ∧ Q (.int (if k then 1 else 0)) H
theorem cok_int : COk K rInt1 fInt := fun {H M vs ds dz Q} tr r e q => by
  unfold fInt at e
  split at e
  · cases e
    cases r with
    | cons r r' =>
      cases r'
      have := r.int_get; subst this
      exact .inl ⟨_, rfl, q _ _ (.refl _) (.int _)⟩
  · cases e
abbrev rAbs1 : List V → Hp → VK → Prop := fun xs H Q => ∃ i, xs = [.int i] ∧ Q (.int (if i < 0 then -i else i)) H
theorem cok_abs : COk K rAbs1 fAbs := fun {H M vs ds dz Q} tr r e q => by
  unfold fAbs at e
  split at e
  · cases e
    cases r with
    | cons r r' =>
      cases r'
      have := r.int_get; subst this
      exact ⟨_, rfl, q _ _ (.refl _) (.int _)⟩
  · cases e
theorem two_ints {H : Hp} {vs : List V} {i j : Int} (r : RpA K H vs [.int i, .int j]) : vs = [.int i, .int j] := by
  cases r with
  | cons r r' =>
    cases r' with
    | cons r' r2 =>
      cases r2
      rw [r.int_get, r'.int_get]
theorem cok_gcd : COk K rGcd fGcd := fun {H M vs ds dz Q} tr r e q => by
  unfold fGcd at e
  split at e
  · cases e
    exact ⟨_, _, two_ints r, q _ _ (.refl _) (.int _)⟩
  · cases e
abbrev rMax2 : List V → Hp → VK → Prop := fun xs H Q => ∃ i j, xs = [.int i, .int j] ∧ Q (.int (if j > i then j else i)) H
abbrev rMin2 : List V → Hp → VK → Prop := fun xs H Q => ∃ i j, xs = [.int i, .int j] ∧ Q (.int (if j < i then j else i)) H
theorem cok_max2 : COk K rMax2 fMax2 := fun {H M vs ds dz Q} tr r e q => by
  unfold fMax2 at e
  split at e
  · cases e
    exact ⟨_, _, two_ints r, q _ _ (.refl _) (.int _)⟩
  · cases e
theorem cok_min2 : COk K rMin2 fMin2 := fun {H M vs ds dz Q} tr r e q => by
  unfold fMin2 at e
  split at e
  · cases e
    exact ⟨_, _, two_ints r, q _ _ (.refl _) (.int _)⟩
  · cases e
abbrev rListOf (K : Fg) : List V → Hp → VK → Prop := fun xs H Q => ∃ p ys, xs = [.ref p] ∧ (SqL K H p ys ∨ SqT K H p ys) ∧ ∀ l, H l = none → Q (.ref l) (upd H l (.lst ys))
theorem lay_f {H : Hp} {M : Addr → Prop} {p : Addr} {vs : List V} {ds : List D} (np : H p = none) (r : RpA K (wo H M) vs ds) : RpA K (wo (upd H p (.lst vs)) fun a => M a ∨ a = p) vs ds := r.mono fun a o h => by
  obtain ⟨h1, h2⟩ := wo_get h
  have ne : a ≠ p := ne_of_none h1 np
  exact wo_some (by rw [upd_ne ne]; exact h1) fun m => m.elim h2 ne
theorem cfok_list : CFOk K (rListOf K) fList := fun {H M vs ds zs Q} tr r e q => by
  unfold fList at e
  split at e
  · cases e
    cases r with
    | cons r r' =>
      cases r'
      obtain ⟨a, ws, rfl, h, r⟩ := r.lst_get
      exact ⟨a, ws, rfl, .inl (SqL.of (wo_get h).1), fun l hl => q l ws _ (same_upd hl) hl upd_same (lay_f hl r)⟩
  · cases e
    cases r with
    | cons r r' =>
      cases r'
      obtain ⟨a, ws, rfl, h, r⟩ := r.tup_get
      exact ⟨a, ws, rfl, .inr (sqT_same wo_same h), fun l hl => q l ws _ (same_upd hl) hl upd_same (lay_f hl r)⟩
  · cases e
    cases r with
    | cons r r' =>
      cases r'
      obtain ⟨a, ws, rfl, h, r⟩ := r.ro_get
      exact ⟨a, ws, rfl, .inl (sqL_same wo_same h), fun l hl => q l ws _ (same_upd hl) hl upd_same (lay_f hl r)⟩
  · cases e
theorem boolsOf_map : ∀ {xs : List D} {bs : List Bool}, boolsOf xs = some bs → xs = bs.map PyData.bool
  | [], bs, h => by cases h; rfl
  | .bool b :: r, bs, h => by
    unfold boolsOf at h
    obtain ⟨cs, h1, h⟩ := Option.map_eq_some_iff.mp h
    cases h
    rw [boolsOf_map h1]; rfl
  | .none :: _, _, h => by cases h
  | .int _ :: _, _, h => by cases h
  | .str _ :: _, _, h => by cases h
  | .list _ :: _, _, h => by cases h
  | .tuple _ :: _, _, h => by cases h
  | .dict _ :: _, _, h => by cases h
theorem boolsOf_of : ∀ bs : List Bool, boolsOf (bs.map PyData.bool) = some bs
  | [] => rfl
  | b :: r => by
    show (boolsOf (r.map PyData.bool)).map (fun bs => b :: bs) = _
    rw [boolsOf_of r]; rfl
theorem cok_all : COk K (rAll K) fAll := fun {H M vs ds dz Q} tr r e q => by
  unfold fAll at e
  split at e
  · obtain ⟨bs, h1, e⟩ := Option.map_eq_some_iff.mp e
    cases e
    cases r with
    | cons r r' =>
      cases r'
      obtain ⟨a, ws, rfl, h, r⟩ := r.lst_get
      rw [boolsOf_map h1] at r
      refine ⟨a, bs, rfl, ?_, q _ _ (.refl _) (.bl _)⟩
      rw [← r.bools]
      exact SqL.of (wo_get h).1
  · cases e
theorem cok_any : COk K (rAny K) fAny := fun {H M vs ds dz Q} tr r e q => by
  unfold fAny at e
  split at e
  · obtain ⟨bs, h1, e⟩ := Option.map_eq_some_iff.mp e
    cases e
    cases r with
    | cons r r' =>
      cases r'
      obtain ⟨a, ws, rfl, h, r⟩ := r.lst_get
      rw [boolsOf_map h1] at r
      refine ⟨a, bs, rfl, ?_, q _ _ (.refl _) (.bl _)⟩
      rw [← r.bools]
      exact SqL.of (wo_get h).1
  · cases e
/-- the name of a datum's class -/
def tyD : D → String
  | .none => "NoneType"
  | .bool _ => "bool"
  | .int _ => "int"
  | .str _ => "str"
  | .list _ => "list"
  | .tuple _ => "tuple"
  | .dict [(.none, .list _)] => "list"
  | .dict _ => "dict"
/-- isinstance(x, T), x a datum -/
def dIsi (T : String) (x : D) : Option D := (kitB (tyD x) T).map PyData.bool
theorem Rp.tyX {H : Hp} {M : Addr → Prop} {v : V} {x : D} (r : Rp K (wo H M) v x) : TyX K H v (.type (tyD x)) := by
  cases r with
  | non => exact .base .non
  | bl b => exact .base (.bl b)
  | int i => exact .base (.int i)
  | str i => exact .base (.str i)
  | lst h r => exact .base (.lst (wo_get h).1)
  | ro h r =>
    rcases h with (h | ⟨o, h⟩) | ⟨o, its, n, h, h2, _⟩
    · exact .base (.lst (wo_get h).1)
    · exact .base (.frz (wo_get h).1)
    · exact .kList h h2
  | tup h r =>
    rcases h with (h | ⟨o, h⟩) | ⟨o, its, n, h, h2, _⟩
    · exact .base (.tup (wo_get h).1)
    · exact .fTuple (wo_get h).1
    · exact .kTuple h h2
  | @dct a kvs kds h r =>
    have e : tyD (.dict kds) = "dict" := by
      cases r with
      | nil => rfl
      | @cons k v kvs d ds h1 r1 => cases k <;> rfl
    rw [e]
    exact .base (.dK (wo_get h).1)
theorem sem_isi {te : TE} {ge : GE} {T : String} (he : SemE K te ge) : SemE K (tCB (rIsi K) (tCons te (tCons (tC (.ty T)) tNil))) (gUn (dIsi T) ge) := ⟨fun {M0 B W ρ ρ' d σ H Q} e R q => by
  unfold gUn at e
  obtain ⟨⟨x, ρ1⟩, e1, e⟩ := Option.bind_eq_some_iff.mp e
  obtain ⟨y, e2, e⟩ := Option.map_eq_some_iff.mp e
  cases e
  unfold dIsi at e2
  obtain ⟨b, e3, e2⟩ := Option.map_eq_some_iff.mp e2
  cases e2
  refine he.run e1 R fun v H1 s1 R1 r1 => ?_
  exact ⟨v, .ty T, _, _, b, rfl, .ty T, r1.tyX, kit_ty e3, q _ _ s1 R1 (.bl b)⟩⟩
end

/-! ### calls -/
section
variable {K : Fg} {X : Cx} {e : Expr} {es : List Expr} {t : TA} {ga : GA} {te : TE} {ge : GE} {p pos : Pos} {x : Str}
theorem d_len (hm : X.mg "len" = none) (ha : DA K X (e :: es) t ga) (hg : Gl X "len" := by rfl) (hK : X.K = K := by rfl) (he : starEach (e :: es) X.env = (false, eval e X.env) :: starEach es X.env := by rfl) (hpl : (backTo pos (starEach es X.env)).any (·.1) = false := by rfl) :
    DE K X (.Call (.Name "len" p) (e :: es) [] pos) (tCB (rLenX K) t) (gFun fLen ga) := ⟨by subst hK; exact pe_callB call_len_seq hg hm boot_len ha.pa (he := he) (hpl := hpl), sem_fun cok_len ha.sem⟩
theorem d_callB {id : String} {r : List V → Hp → VK → Prop} {f : List D → Option D} (hc : CallR X (.builtin id) r) (hr : COk K r f) (hm : X.mg x = none) (hv : bootBuiltins x = some (.builtin id)) (ha : DA K X (e :: es) t ga) (hg : Gl X x := by rfl) (hn : x ≠ "__name__" := by decide) (hdb : (x == ("__debug__" : Str)) = false := by decide)
    (he : starEach (e :: es) X.env = (false, eval e X.env) :: starEach es X.env := by rfl) (hpl : (backTo pos (starEach es X.env)).any (·.1) = false := by rfl) :
    DE K X (.Call (.Name x p) (e :: es) [] pos) (tCB r t) (gFun f ga) := ⟨pe_callB hc hg hm hv ha.pa hn hdb he hpl, sem_fun hr ha.sem⟩
theorem d_callTy {T : String} {r : List V → Hp → VK → Prop} {f : List D → Option D} (hc : CallR X (.type T) r) (hr : COk K r f) (hm : X.mg x = none) (hv : bootBuiltins x = some (.type T)) (ha : DA K X (e :: es) t ga) (hg : Gl X x := by rfl) (hn : x ≠ "__name__" := by decide) (hdb : (x == ("__debug__" : Str)) = false := by decide)
    (he : starEach (e :: es) X.env = (false, eval e X.env) :: starEach es X.env := by rfl) (hpl : (backTo pos (starEach es X.env)).any (·.1) = false := by rfl) :
    DE K X (.Call (.Name x p) (e :: es) [] pos) (tCB r t) (gFun f ga) := ⟨pe_callTy hc hg hm hv ha.pa hn hdb he hpl, sem_fun hr ha.sem⟩
theorem d_callTyF {T : String} {r : List V → Hp → VK → Prop} {f : List D → Option (List D)} (hc : CallR X (.type T) r) (hr : CFOk K r f) (hm : X.mg x = none) (hv : bootBuiltins x = some (.type T)) (ha : DA K X (e :: es) t ga) (hg : Gl X x := by rfl) (hn : x ≠ "__name__" := by decide) (hdb : (x == ("__debug__" : Str)) = false := by decide)
    (he : starEach (e :: es) X.env = (false, eval e X.env) :: starEach es X.env := by rfl) (hpl : (backTo pos (starEach es X.env)).any (·.1) = false := by rfl) :
    DF K X (.Call (.Name x p) (e :: es) [] pos) (tCB r t) (gFunF f ga) := ⟨pe_callTy hc hg hm hv ha.pa hn hdb he hpl, sem_funF hr ha.sem⟩
/-- a built-in that a module's name holds (from math import gcd) -/
theorem d_callM {id : String} {r : List V → Hp → VK → Prop} {f : List D → Option D} (hc : CallR X (.builtin id) r) (hr : COk K r f) (hm : X.mg x = some (.builtin id)) (ha : DA K X (e :: es) t ga) (hg : Gl X x := by rfl) (hdb : (x == ("__debug__" : Str)) = false := by decide)
    (he : starEach (e :: es) X.env = (false, eval e X.env) :: starEach es X.env := by rfl) (hpl : (backTo pos (starEach es X.env)).any (·.1) = false := by rfl) :
    DE K X (.Call (.Name x p) (e :: es) [] pos) (tCB r t) (gFun f ga) := ⟨pe_callBfun hc hg hm ha.pa hdb he hpl, sem_fun hr ha.sem⟩
theorem d_isi {y : Str} {T : String} {p2 : Pos} (hm : X.mg "isinstance" = none) (hm2 : X.mg y = none) (hv : bootBuiltins y = some (.type T)) (h : DE K X e te ge) (hg : Gl X "isinstance" := by rfl) (hg2 : Gl X y := by rfl) (hK : X.K = K := by rfl) (hn : y ≠ "__name__" := by decide) (hdb : (y == ("__debug__" : Str)) = false := by decide)
    (hs : starEach [e, .Name y p2] X.env = (false, eval e X.env) :: starEach [.Name y p2] X.env := by rfl) (hs2 : starEach [.Name y p2] X.env = (false, eval (.Name y p2) X.env) :: starEach [] X.env := by rfl) (hpl : (backTo pos (starEach [.Name y p2] X.env)).any (·.1) = false := by rfl) :
    DE K X (.Call (.Name "isinstance" p) [e, .Name y p2] [] pos) (tCB (rIsi K) (tCons te (tCons (tC (.ty T)) tNil))) (gUn (dIsi T) ge) :=
  ⟨by subst hK; exact pe_callB call_isi hg hm (by decide +kernel) (pa_cons h.pe (pa_cons (pe_bltn hg2 hm2 hv rfl hn hdb) pa_nil hs2) hs) (he := hs) (hpl := hpl), sem_isi h.sem⟩
/-- a def's call -/
structure FD (P : Program) (w : World) (K : Fg) (mg : Str → Option Value) (base : Heap) (k : Nat) (x : Str) (ps : List Str) (sp : Sp) : Prop where
  ok : ∃ (f : Addr) (fd : FuncData), FnOk P w K mg base CX0 k f fd ps sp ∧ mg x = some (.ref f) ∧ PySem.W.keepIn K (.ref f) = true ∧ Binds K fd ps []
theorem d_call {P : Program} {w : World} {K : Fg} {mg : Str → Option Value} {base : Heap} {k : Nat} {ps : List Str} {f : List D → Option D} (F : FD P w K mg base k x ps (spD K f)) (hr : Room k X.A) (ha : DA K X (e :: es) t ga)
    (h1 : X.prog = P := by rfl) (h2 : X.w = w := by rfl) (h3 : X.K = K := by rfl) (h4 : X.mg = mg := by rfl) (h5 : X.base = base := by rfl) (hg : Gl X x := by rfl) (hdb : (x == ("__debug__" : Str)) = false := by decide)
    (he : starEach (e :: es) X.env = (false, eval e X.env) :: starEach es X.env := by rfl) (hpl : (backTo pos (starEach es X.env)).any (·.1) = false := by rfl) :
    DE K X (.Call (.Name x p) (e :: es) [] pos) (tCall (spD K f) [] E0 t) (gFun f ga) := by
  subst h1 h2 h3 h4 h5
  obtain ⟨a, fd, G, hm, hk, hb⟩ := F.ok
  exact ⟨pe_call G hr hg hm hk hb .nil pass0 ha.pa hdb he hpl, sem_call ha.sem⟩
theorem d_callF {P : Program} {w : World} {K : Fg} {mg : Str → Option Value} {base : Heap} {k : Nat} {ps : List Str} {f : List D → Option (List D)} (F : FD P w K mg base k x ps (spF K f)) (hr : Room k X.A) (ha : DA K X (e :: es) t ga)
    (h1 : X.prog = P := by rfl) (h2 : X.w = w := by rfl) (h3 : X.K = K := by rfl) (h4 : X.mg = mg := by rfl) (h5 : X.base = base := by rfl) (hg : Gl X x := by rfl) (hdb : (x == ("__debug__" : Str)) = false := by decide)
    (he : starEach (e :: es) X.env = (false, eval e X.env) :: starEach es X.env := by rfl) (hpl : (backTo pos (starEach es X.env)).any (·.1) = false := by rfl) :
    DF K X (.Call (.Name x p) (e :: es) [] pos) (tCall (spF K f) [] E0 t) (gFunF f ga) := by
  subst h1 h2 h3 h4 h5
  obtain ⟨a, fd, G, hm, hk, hb⟩ := F.ok
  exact ⟨pe_call G hr hg hm hk hb .nil pass0 ha.pa hdb he hpl, sem_callF ha.sem⟩
theorem d_callP {P : Program} {w : World} {K : Fg} {mg : Str → Option Value} {base : Heap} {k : Nat} {ps : List Str} {f : List D → List D → Option (D × List D)} (i : Nat) {y : Str} {py : Pos} (F : FD P w K mg base k x ps (spP K f)) (hr : Room k X.A) (ha : DA K X es t ga)
    (hN : X.N[i]? = some y := by rfl) (hv : Vis X.env.scope y := by first | exact Or.inl rfl | exact Or.inr (Or.inl rfl) | exact Or.inr (Or.inr rfl)) (hd : (y == ("__debug__" : Str)) = false := by decide) (hcd : (y == ("__classdict__" : Str)) = false := by decide)
    (h1 : X.prog = P := by rfl) (h2 : X.w = w := by rfl) (h3 : X.K = K := by rfl) (h4 : X.mg = mg := by rfl) (h5 : X.base = base := by rfl) (hg : Gl X x := by rfl) (hdb : (x == ("__debug__" : Str)) = false := by decide)
    (he : starEach (.Name y py :: es) X.env = (false, eval (.Name y py) X.env) :: starEach es X.env := by rfl) (hpl : (backTo pos (starEach es X.env)).any (·.1) = false := by rfl) :
    DE K X (.Call (.Name x p) (.Name y py :: es) [] pos) (tCall (spP K f) [] E0 (tCons (tVar i) t)) (gFunP i f ga) := by
  subst h1 h2 h3 h4 h5
  obtain ⟨a, fd, G, hm, hk, hb⟩ := F.ok
  exact ⟨pe_call G hr hg hm hk hb .nil pass0 (pa_cons (pe_var hN hv hd hcd) ha.pa he) hdb he hpl, sem_callP ha.sem⟩
theorem d_lenM (i : Nat) {y : Str} {py : Pos} (hm : X.mg "len" = none) (hN : X.N[i]? = some y := by rfl) (hv : Vis X.env.scope y := by first | exact Or.inl rfl | exact Or.inr (Or.inl rfl) | exact Or.inr (Or.inr rfl)) (hd : (y == ("__debug__" : Str)) = false := by decide) (hcd : (y == ("__classdict__" : Str)) = false := by decide)
    (hg : Gl X "len" := by rfl) (hK : X.K = K := by rfl) (he : starEach [.Name y py] X.env = (false, eval (.Name y py) X.env) :: starEach [] X.env := by rfl) (hpl : (backTo pos (starEach [] X.env)).any (·.1) = false := by rfl) :
    DE K X (.Call (.Name "len" p) [.Name y py] [] pos) (tCB (rLenX K) (tCons (tVar i) tNil)) (gLenM i) := ⟨by subst hK; exact pe_callB call_len_seq hg hm boot_len (pa_cons (pe_var hN hv hd hcd) pa_nil he) (he := he) (hpl := hpl), sem_lenM⟩
theorem d_popAt (i : Nat) {y : Str} {py pa : Pos} (h : DE K X e te ge) (hN : X.N[i]? = some y := by rfl) (hv : Vis X.env.scope y := by first | exact Or.inl rfl | exact Or.inr (Or.inl rfl) | exact Or.inr (Or.inr rfl)) (hd : (y == ("__debug__" : Str)) = false := by decide) (hcd : (y == ("__classdict__" : Str)) = false := by decide)
    (hK : X.K = K := by rfl) (hbase : attributeBase (.Name y py) "pop" X.env (eval (.Name y py) X.env) = eval (.Name y py) X.env := by rfl)
    (hfew : ((backTo pos (starEach [e] X.env)).all (fun x => !x.1) && (backToKw pos (keywordEach [] X.env)).all (fun x => x.1.isSome) && decide ([e].length + ([] : List Keyword).length + (if ([] : List Keyword).isEmpty then 0 else 1) < 30)) = true := by rfl)
    (hline : (pa.endLine == pos.line) = true := by rfl) (hs : starEach [e] X.env = (false, eval e X.env) :: starEach [] X.env := by rfl) (hplain : (backTo pos (starEach [] X.env)).any (·.1) = false := by rfl) :
    DE K X (.Call (.Attribute (.Name y py) "pop" pa) [e] [] pos) (tBM K "list" rPopAt (tVar i) (tCons te tNil)) (gPopAt i ge) :=
  ⟨by subst hK; exact pe_bm PySem.F.plainAttrs_list PySem.F.slot_list_pop PySem.F.type_list_pop (by exact mt_popAt) (pe_var hN hv hd hcd) (pa_cons h.pe pa_nil hs) hbase hfew hline hs hplain, sem_popAt h.sem⟩
end

/-! ### statements -/
section
variable {K : Fg} {X : Cx} {e : Expr} {te : TE} {ge : GE} {st : Stmt} {rest body a b : List Stmt} {t u : TS} {g h : GS} {pos : Pos}
theorem s_nil : DSs K X [] tNext gSkip := ⟨pss_nil, sem_skip⟩
theorem s_cons (h1 : DS K X st t g) (h2 : DSs K X rest u h) : DSs K X (st :: rest) (tSeq t u) (gSeq g h) := ⟨pss_cons h1.ps h2.pss, sem_seq h1.sem h2.sem⟩
theorem s_one (h1 : DS K X st t g) : DSs K X [st] t g := ⟨pss_one h1.ps, h1.sem⟩
theorem s_frz (i : Nat) (h1 : DSs K X body t g) : DSs K X body t (gFrz i g) := ⟨h1.pss, sem_frz i h1.sem⟩
theorem s_pass : DS K X (.Pass pos) tNext gSkip := ⟨ps_pass, sem_skip⟩
theorem s_break : DS K X (.Break pos) tBreak gBrk := ⟨ps_break, sem_brk⟩
theorem s_continue : DS K X (.Continue pos) tCont gCnt := ⟨ps_continue, sem_cnt⟩
theorem s_doc {x j pos pos'} : DS K X (.Expr (.Constant (.str x) j pos) pos') tNext gSkip := ⟨ps_doc, sem_skip⟩
theorem s_expr (he : DE K X e te ge) (hs : swapsWith e none pos.line X.env = pure false := by rfl) : DS K X (.Expr e pos) (tDrop te) (gDrop ge) := ⟨ps_expr he.pe hs, sem_drop he.sem⟩
theorem s_set (i : Nat) {x : Str} {pos' : Pos} (he : DE K X e te ge) (hN : X.N.Nodup) (hi : X.N[i]? = some x := by rfl) (hx : Loc X.env.scope x := by first | exact Or.inl rfl | exact Or.inr rfl) (hs : swapsWith e (some (.Name x pos')) pos.line X.env = pure false := by rfl)
    (hf : X.fn x = true ∨ X.env.scope.names.lookup x = some .local := by first | exact .inl rfl | exact .inr rfl) : DS K X (.Assign [.Name x pos'] e pos) (tAsg te (gName i)) (gSet i ge) := ⟨ps_set hN hi hx he.pe hs hf, sem_set he.sem⟩
theorem s_setF (i : Nat) {x : Str} {pos' : Pos} {gf : GF} (he : DF K X e te gf) (hN : X.N.Nodup) (hi : X.N[i]? = some x := by rfl) (hx : Loc X.env.scope x := by first | exact Or.inl rfl | exact Or.inr rfl) (hs : swapsWith e (some (.Name x pos')) pos.line X.env = pure false := by rfl)
    (hf : X.fn x = true ∨ X.env.scope.names.lookup x = some .local := by first | exact .inl rfl | exact .inr rfl) : DS K X (.Assign [.Name x pos'] e pos) (tAsg te (gName i)) (gSetF i gf) := ⟨ps_set hN hi hx he.pe hs hf, sem_setF he.sem⟩
theorem s_ret (he : DE K X e te ge) : DS K X (.Return (some e) pos) (tRet te) (gRet ge) := ⟨ps_ret he.pe, sem_ret he.sem⟩
theorem s_retN : DS K X (.Return none pos) tRetN gRetN := ⟨ps_retN, sem_retN⟩
theorem s_retM (i : Nat) {x : Str} {p : Pos} (hN : X.N[i]? = some x := by rfl) (hv : Vis X.env.scope x := by first | exact Or.inl rfl | exact Or.inr (Or.inl rfl) | exact Or.inr (Or.inr rfl)) (hd : (x == ("__debug__" : Str)) = false := by decide)
    (hcd : (x == ("__classdict__" : Str)) = false := by decide) : DS K X (.Return (some (.Name x p)) pos) (tRet (tVar i)) (gRetM i) := ⟨ps_ret (pe_var hN hv hd hcd), sem_retM⟩
def gRetF (gf : GF) : GS := fun ρ => (gf ρ).map fun p => (.rt (.list p.1), p.2)
/-- return a new list: handed over -/
def gRetFF (gf : GF) : GS := fun ρ => (gf ρ).map fun p => (.rf p.1, p.2)
theorem sem_retFF {gf : GF} (he : SemF K te gf) : SemS K (tRet te) (gRetFF gf) := ⟨fun {M0 B W ρ ρ' o σ H E} e R q => by
  unfold gRetFF at e
  obtain ⟨⟨x, ρ1⟩, h1, e⟩ := Option.map_eq_some_iff.mp e
  cases e
  refine he.run h1 R fun p vs H' s R' np hp r => ?_
  have nM : ¬ M0 p := fun m => R.fresh np (.inl m)
  have nB : some p ≠ B := fun m => R.fresh np (.inr (R.bw p m.symm))
  have sm : Same (wo H' (Mm (fun a => M0 a ∨ a = p) W)) (wo H' (Mm M0 fun a => W a ∨ a = p)) := wo_less fun a m => by
    rcases m with m | m | m
    · exact .inl (.inl m)
    · exact .inr m
    · exact .inl (.inr m)
  have R2 : EnvR K M0 B (fun a => W a ∨ a = p) ρ1 σ H' := by
    refine ⟨R'.len, fun j t h => ?_, R'.dist, fun b m => ?_, fun b e => .inl (R'.bw b e)⟩
    · have q := R'.slot j t h
      cases t with
      | no => trivial
      | d x => obtain ⟨u, e1, r1⟩ := q; exact ⟨u, e1, r1.mono sm⟩
      | m ys => obtain ⟨c, ws, e1, w, b, z, h1, r1⟩ := q; exact ⟨c, ws, e1, .inl w, b, fun y => z (.inl y), h1, r1.mono sm⟩
      | p ys => obtain ⟨c, ws, e1, w, b, h1, r1⟩ := q; exact ⟨c, ws, e1, .inl w, b, h1, r1.mono sm⟩
    · rcases m with m | m | m
      · exact R'.trk b (.inl (.inl m))
      · exact R'.trk b (.inr m)
      · exact R'.trk b (.inl (.inr m))
  exact q (fun a => W a ∨ a = p) σ H' ⟨s, fun a w => w.elim .inl fun z => .inr (by rw [z]; exact np)⟩ R2 p vs (.inr rfl) nB nM hp (r.mono sm)⟩
theorem s_retF {gf : GF} (he : DF K X e te gf) : DS K X (.Return (some e) pos) (tRet te) (gRetFF gf) := ⟨ps_ret he.pe, sem_retFF he.sem⟩
theorem s_if {c : Expr} {tt : TT} {gt : GT} (hc : DT K X c tt gt) (h1 : DSs K X a t g) (h2 : DSs K X b u h) : DS K X (.If c a b pos) (tIfS tt t u) (gIf gt g h) := ⟨ps_if hc.pt h1.pss h2.pss, sem_if hc.sem h1.sem h2.sem⟩
theorem s_par (i j : Nat) {x y : Str} {c d : Expr} {ta : TA} {ga : GA} {px py pt : Pos} {kt k2 pt2} (ha : DA K X [c, d] ta ga) (hN : X.N.Nodup) (hc : X.calm = true := by rfl) (hi : X.N[i]? = some x := by rfl) (hj : X.N[j]? = some y := by rfl) (hij : i ≠ j := by decide)
    (hx : X.env.scope.names.lookup x = some .local := by rfl) (hy : X.env.scope.names.lookup y = some .local := by rfl)
    (hw : swappedStores [.Tuple [.Name x px, .Name y py] kt pt] (.Tuple [c, d] k2 pt2) X.env = pure (some [x, y]) := by rfl)
    (hs : swapsWithSole [.Tuple [.Name x px, .Name y py] kt pt] (.Tuple [c, d] k2 pt2) pos.line X.env = pure false := by rfl) :
    DS K X (.Assign [.Tuple [.Name x px, .Name y py] kt pt] (.Tuple [c, d] k2 pt2) pos) (tPar i j ta) (gPar i j ga) := ⟨ps_par hc hN hi hj hij hx hy ha.pa hw hs, sem_par ha.sem⟩
theorem g_name (i : Nat) {x : Str} {pos : Pos} (hN : X.N.Nodup) (hi : X.N[i]? = some x := by rfl) (hx : Loc X.env.scope x := by first | exact Or.inl rfl | exact Or.inr rfl) (hf : X.fn x = true ∨ X.env.scope.names.lookup x = some .local := by first | exact .inl rfl | exact .inr rfl) :
    DG K X (.Name x pos) (gName i) (gN i) [i] := ⟨pg_name hN hi hx hf, semG_name⟩
theorem g_nil : DGs K X [] L2.gNil gNoG [] := ⟨pgs_nil, semGs_nil⟩
theorem g_cons {c : Expr} {es : List Expr} {tg : TG} {gg : GG} {ta tb : List Nat} {tgs : TGs} {ggs : GGs} (h1 : DG K X c tg gg ta) (h2 : DGs K X es tgs ggs tb) (hs : (assignEach (c :: es) X.env).map (·.2) = assign c X.env :: (assignEach es X.env).map (·.2) := by rfl) :
    DGs K X (c :: es) (L2.gCons tg tgs) (gConsG gg ggs) (ta ++ tb) := ⟨pgs_cons h1.pg h2.pgs hs, semGs_cons h1.sem h2.sem⟩
theorem g_tup {es : List Expr} {k n : Nat} {ta : List Nat} {tgs : TGs} {ggs : GGs} (h : DGs K X es tgs ggs ta) (hc : X.calm = true := by rfl) (hn : (assignEach es X.env).length = n := by rfl) (hst : (assignEach es X.env).findIdx? (·.1) = none := by rfl) (hK : X.K = K := by rfl) :
    DG K X (.Tuple es k pos) (L2.gTup K n tgs) (gTupG n ggs) ta := ⟨by subst hK; exact pg_tup hc h.pgs hn hst, semG_tup h.sem⟩
theorem s_asg {tg : Expr} {tgt : TG} {gg : GG} {ta : List Nat} (he : DE K X e te ge) (hg : DG K X tg tgt gg ta) (hs : swapsWithSole [tg] e pos.line X.env = pure false := by rfl) (hw : swappedStores [tg] e X.env = pure none := by rfl)
    (h1 : (assignEach [tg] X.env).map (·.2) = [assign tg X.env] := by rfl) : DS K X (.Assign [tg] e pos) (tAsg te tgt) (gAsg ge gg) := ⟨ps_asg he.pe hg.pg hs hw h1, sem_asg he.sem hg.sem⟩
theorem s_put (i : Nat) {x : Str} {px ps : Pos} {k : Expr} {tk : TE} {gk : GE} (he : DE K X e te ge) (hk : DE K X k tk gk) (hN : X.N[i]? = some x := by rfl) (hv : Vis X.env.scope x := by first | exact Or.inl rfl | exact Or.inr (Or.inl rfl) | exact Or.inr (Or.inr rfl)) (hd : (x == ("__debug__" : Str)) = false := by decide)
    (hcd : (x == ("__classdict__" : Str)) = false := by decide)
    (ha : ∀ v, assign (.Subscript (.Name x px) k ps) X.env v = (do
      let ov ← holding [v] (eval (.Name x px) X.env)
      let iv ← holding [v, ov] (eval k X.env)
      standAt ps
      holding [v, ov, iv] (setItem ov iv v)
      release [v, ov, iv] []) := by intro _; rfl) (hs : swapsWithSole [.Subscript (.Name x px) k ps] e pos.line X.env = pure false := by rfl) (hw : swappedStores [.Subscript (.Name x px) k ps] e X.env = pure none := by rfl)
    (h1 : (assignEach [.Subscript (.Name x px) k ps] X.env).map (·.2) = [assign (.Subscript (.Name x px) k ps) X.env] := by rfl) :
    DS K X (.Assign [.Subscript (.Name x px) k ps] e pos) (tAsg te (gSub (tVar i) tk rSetL)) (gPut i ge gk) := ⟨ps_asg he.pe (pg_sub (pe_var hN hv hd hcd) hk.pe set_list ha) hs hw h1, sem_put he.sem hk.sem⟩
theorem s_app (i : Nat) {y : Str} {py pa pc : Pos} (he : DE K X e te ge) (hN : X.N[i]? = some y := by rfl) (hv : Vis X.env.scope y := by first | exact Or.inl rfl | exact Or.inr (Or.inl rfl) | exact Or.inr (Or.inr rfl)) (hd : (y == ("__debug__" : Str)) = false := by decide) (hcd : (y == ("__classdict__" : Str)) = false := by decide)
    (hK : X.K = K := by rfl) (hbase : attributeBase (.Name y py) "append" X.env (eval (.Name y py) X.env) = eval (.Name y py) X.env := by rfl)
    (hfew : ((backTo pc (starEach [e] X.env)).all (fun x => !x.1) && (backToKw pc (keywordEach [] X.env)).all (fun x => x.1.isSome) && decide ([e].length + ([] : List Keyword).length + (if ([] : List Keyword).isEmpty then 0 else 1) < 30)) = true := by rfl)
    (hline : (pa.endLine == pc.line) = true := by rfl) (hs : starEach [e] X.env = (false, eval e X.env) :: starEach [] X.env := by rfl) (hplain : (backTo pc (starEach [] X.env)).any (·.1) = false := by rfl)
    (hsw : swapsWith (.Call (.Attribute (.Name y py) "append" pa) [e] [] pc) none pos.line X.env = pure false := by rfl) :
    DS K X (.Expr (.Call (.Attribute (.Name y py) "append" pa) [e] [] pc) pos) (tDrop (tBM K "list" rAppend (tVar i) (tCons te tNil))) (gApp i ge) :=
  ⟨by subst hK; exact ps_expr (pe_bm PySem.F.plainAttrs_list PySem.F.slot_list_append PySem.F.type_list_append (by exact mt_append) (pe_var hN hv hd hcd) (pa_cons he.pe pa_nil hs) hbase hfew hline hs hplain) hsw, sem_app he.sem⟩
theorem i_list {tg : Expr} (he : DE K X e te ge) (hK : X.K = K := by rfl) : DI K X tg e (iList K te) (gItems ge) := ⟨by subst hK; exact pi_list he.pe, sem_items he.sem⟩
theorem i_tup {tg : Expr} (he : DE K X e te ge) (hK : X.K = K := by rfl) : DI K X tg e (iTup K te) (gItemsT ge) := ⟨by subst hK; exact pi_tup he.pe, sem_itemsT he.sem⟩
theorem i_range1 {tg c : Expr} {ta : TA} {ga : GA} {p pos : Pos} (hm : X.mg "range" = none) (ha : DA K X [c] ta ga) (hg : Gl X "range" := by rfl) (hs : starEach [c] X.env = [(false, eval c X.env)] := by rfl) : DI K X tg (.Call (.Name "range" p) [c] [] pos) (iRng1 ta) (gRange1 ga) :=
  ⟨pi_range1 hg hm ha.pa hs, sem_range1 ha.sem⟩
theorem i_range2 {tg c d : Expr} {ta : TA} {ga : GA} {p pos : Pos} (hm : X.mg "range" = none) (ha : DA K X [c, d] ta ga) (hg : Gl X "range" := by rfl) (hs : starEach [c, d] X.env = [(false, eval c X.env), (false, eval d X.env)] := by rfl) (hs2 : starEach [d] X.env = [(false, eval d X.env)] := by rfl) :
    DI K X tg (.Call (.Name "range" p) [c, d] [] pos) (iRng2 ta) (gRange2 ga) := ⟨pi_range2 hg hm ha.pa hs hs2, sem_range2 ha.sem⟩
theorem s_for {tg iter : Expr} {wi : TI} {gi : GA} {tgt : TG} {gg : GG} {ta : List Nat} (hi : DI K X tg iter wi gi) (hg : DG K X tg tgt gg ta) (hb : DSs K X body t g) (hp : PassesOwn (model X.prog X.w) X.A X.env X.xe) (hc : X.calm = true := by rfl)
    (hs : ∀ x, foldedSetIterable iter X.env x = pure x := by intro _; rfl) : DS K X (.For tg iter body [] pos) (tFor wi tgt t) (gFor gi gg g) := ⟨ps_for hp hc hi.pi hg.pg hb.pss hs, sem_for hi.sem hg.sem hb.sem⟩
theorem s_while (N : Nat) {c : Expr} {tt : TT} {gt : GT} (hc : DT K X c tt gt) (hb : DSs K X body t g) (hp : PassesOwn (model X.prog X.w) X.A X.env X.xe) : DS K X (.While c body [] pos) (tWhile tt t) (gWhile N gt g) := ⟨ps_while hp hc.pt hb.pss, sem_while hc.sem hb.sem⟩
/-! comprehensions -/
variable {tg iter : Expr} {ifs : List Expr} {scope : Scope} {own : List (Str × Nat)} {wi : TI} {gi : GA} {tgt : TG} {gg : GG} {ts : List Nat} {tt : TT} {gt : GT}
structure DTs (K : Fg) (X : Cx) (es : List Expr) (t : TT) (g : GT) : Prop where
  pts : PTs X es t
  sem : SemT K t g
theorem c_nil : DTs K X [] tYes gYes := ⟨pts_nil, sem_yes⟩
theorem c_one {c : Expr} (h : DT K X c tt gt) : DTs K X [c] tt gt := ⟨pts_one h.pt, h.sem⟩
theorem d_lc (own : List (Str × Nat)) (hi : DI K X tg iter wi gi) (ok : BlkOk X.N X.env.scope scope own)
    (hg : ∀ (s : Shared) (H : Hp) (C : Addr) (cl : List (Str × Addr)) (fp : List Addr), DG K (X.blk s H scope (compEnvC scope cl C X.env) fp) tg tgt gg ts) (ht : ∀ (s : Shared) (H : Hp) (C : Addr) (cl : List (Str × Addr)) (fp : List Addr), DTs K (X.blk s H scope (compEnvC scope cl C X.env) fp) ifs tt gt)
    (he : ∀ (s : Shared) (H : Hp) (C : Addr) (cl : List (Str × Addr)) (fp : List Addr), DE K (X.blk s H scope (compEnvC scope cl C X.env) fp) e te ge) (hN : X.N.Nodup) (any : Shared × Hp) (hv : ∀ j ∈ ts, j ∈ own.map (·.2) := by decide) (hc : X.calm = true := by rfl) (hs : ∀ x, foldedSetIterable iter X.env x = pure x := by intro _; rfl) :
    DF K X (.ListComp e [⟨tg, iter, ifs, 0⟩] scope pos) (tLc wi tgt tt te (own.map (·.2))) (gLc gi gg gt ge (own.map (·.2))) :=
  ⟨pe_lc hc hN hi.pi ok (fun s H C cl fp => (hg s H C cl fp).pg) (fun s H C cl fp => (ht s H C cl fp).pts) (fun s H C cl fp => (he s H C cl fp).pe) hs,
    sem_lc hi.sem (hg any.1 any.2 0 [] []).sem (ht any.1 any.2 0 [] []).sem (he any.1 any.2 0 [] []).sem hv⟩
end
end TB
/-! zip(xs, ys, strict=..) of two lists. -/
namespace TB
open PySem
open Sem (wp)
abbrev IsZipT (h : Heap) (z TI TO : Addr) (f0 : Value) : Prop :=
  h.get? z = some { cls := .type "zip", dict := none, data := .fields #[f0, .bool false, .bool true, .ref TI, .ref TO], slots := #[] }
theorem typeCall_zipS (x y b : Value) : checkTypeCall "zip" ⟨[x, y], [(Str.ofString "strict", b)]⟩ = pure () := by kernel_rfl
theorem newCall_zipS (x y b : Value) : checkBuiltinCall "zip.__new__" ⟨[.type "zip", x, y], [(Str.ofString "strict", b)]⟩ = pure () := by kernel_rfl
theorem initArgs_zipS (o x y b : Value) : argsOk "object.__init__" ⟨[o, x, y], [(Str.ofString "strict", b)]⟩ := by unfold argsOk; kernel_rfl
/-- the five new objects: two list iterators, two tuples, the zip -/
abbrev zS1 (h : Heap) (l1 : Addr) : Heap := h.push { cls := .type "list_iterator", data := .fields #[.ref l1, .int 0 0] }
abbrev zS2 (h : Heap) (l1 l2 : Addr) : Heap := (zS1 h l1).push { cls := .type "list_iterator", data := .fields #[.ref l2, .int 0 0] }
abbrev zS3 (h : Heap) (l1 l2 : Addr) : Heap := (zS2 h l1 l2).push { cls := .type "tuple", data := .seq #[.ref h.objs.size, .ref (zS1 h l1).objs.size] }
abbrev zS4 (h : Heap) (l1 l2 : Addr) : Heap := (zS3 h l1 l2).push { cls := .type "tuple", data := .seq #[.none, .none] }
abbrev zS5 (b : Bool) (h : Heap) (l1 l2 : Addr) : Heap := (zS4 h l1 l2).push { cls := .type "zip", data := .fields #[.none, .bool false, .bool b, .ref (zS2 h l1 l2).objs.size, .ref (zS3 h l1 l2).objs.size] }
theorem meets_zipS (b : Bool) (l1 l2 : Addr) (xs ys : Array Value) :
    Meets (Builtin.«zip.__new__» ⟨[.type "zip", .ref l1, .ref l2], [(Str.ofString "strict", .bool b)]⟩) (fun _ R s => s.heap.IsList l1 xs ∧ s.heap.IsList l2 ys ∧
      R (.ok (.ret (.ref (zS4 s.heap l1 l2).objs.size))) { s with heap := zS5 b s.heap l1 l2 }) :=
  .of_wp fun prog w A R s h => by
    obtain ⟨hp, g, d, tk, os⟩ := s
    obtain ⟨q1, q2, h⟩ := h
    have hsub := sub_zip
    have e2 : (Str.ofString "strict" != ("strict" : Str)) = false := by decide +kernel
    have L1 : Heap.IsList (Shared.heap ⟨hp, g, d, tk, os⟩) l1 xs := q1
    have L2 : Heap.IsList (Shared.heap ⟨hp.push { cls := .type "list_iterator", data := .fields #[.ref l1, .int 0 0] }, g, d, tk, os⟩) l2 ys := Heap.IsList.push q2 _
    wp_walk using wpAny_pyIter_list L1, wpAny_pyIter_list L2
    exact ⟨_, rfl, h⟩
section
variable {prog : Program} {w : World} {A : Around} {E : Value → Shared → Prop} {s : Shared}
theorem call_zipS {b : Bool} {l1 l2 : Addr} {xs ys : Array Value} {Q : Value → Shared → Prop} (hl1 : s.heap.IsList l1 xs) (hl2 : s.heap.IsList l2 ys)
    (h : ∀ h', h'.get? (s.heap.objs.size + 4) = some { cls := .type "zip", dict := none, data := .fields #[.none, .bool false, .bool b, .ref (s.heap.objs.size + 2), .ref (s.heap.objs.size + 3)], slots := #[] } → IsPair h' (s.heap.objs.size + 2) (.ref s.heap.objs.size) (.ref (s.heap.objs.size + 1)) →
      IsPair h' (s.heap.objs.size + 3) .none .none → h'.IsListIter s.heap.objs.size l1 0 → h'.IsListIter (s.heap.objs.size + 1) l2 0 → h'.objs.size = s.heap.objs.size + 5 →
      (∀ c o, s.heap.get? c = some o → h'.get? c = some o) → Q (.ref (s.heap.objs.size + 4)) { s with heap := h' }) :
    wpAny (model prog w) A (call (.type "zip") [.ref l1, .ref l2] [(Str.ofString "strict", .bool b)]) Q E s := by
  refine callType_newKw F.called_zip (by decide) (typeCall_zipS _ _ _) (newCall_zipS _ _ _) (fun obj => initArgs_zipS obj _ _ _) F.entry_zip_new (meets_zipS b l1 l2 xs ys) ⟨hl1, hl2, ?_⟩
  have n1 : (zS1 s.heap l1).objs.size = s.heap.objs.size + 1 := Heap.size_push ..
  have n2 : (zS2 s.heap l1 l2).objs.size = s.heap.objs.size + 2 := by rw [Heap.size_push, n1]
  have n3 : (zS3 s.heap l1 l2).objs.size = s.heap.objs.size + 3 := by rw [Heap.size_push, n2]
  have n4 : (zS4 s.heap l1 l2).objs.size = s.heap.objs.size + 4 := by rw [Heap.size_push, n3]
  have n5 : (zS5 b s.heap l1 l2).objs.size = s.heap.objs.size + 5 := by rw [Heap.size_push, n4]
  have p5 : (zS5 b s.heap l1 l2).get? (zS4 s.heap l1 l2).objs.size = some _ := Heap.get?_push_size _ rfl
  have p4 : (zS5 b s.heap l1 l2).get? (zS3 s.heap l1 l2).objs.size = some _ := Heap.get?_push_of_some _ (Heap.get?_push_size _ rfl)
  have p3 : (zS5 b s.heap l1 l2).get? (zS2 s.heap l1 l2).objs.size = some _ := Heap.get?_push_of_some _ (Heap.get?_push_of_some _ (Heap.get?_push_size _ rfl))
  have p2 : (zS5 b s.heap l1 l2).get? (zS1 s.heap l1).objs.size = some _ := Heap.get?_push_of_some _ (Heap.get?_push_of_some _ (Heap.get?_push_of_some _ (Heap.get?_push_size _ rfl)))
  have p1 : (zS5 b s.heap l1 l2).get? s.heap.objs.size = some _ := Heap.get?_push_of_some _ (Heap.get?_push_of_some _ (Heap.get?_push_of_some _ (Heap.get?_push_of_some _ (Heap.get?_push_size _ rfl))))
  show _ ∧ _
  rw [n2, n3, n4] at p5
  rw [n1, n2] at p3
  rw [n3] at p4
  rw [n1] at p2
  rw [n4]
  refine ⟨⟨_, p5, rfl⟩, h _ p5 p3 p4 ⟨_, p1, rfl, rfl⟩ ⟨_, p2, rfl, rfl⟩ n5 fun c o x => ?_⟩
  exact Heap.get?_push_of_some _ (Heap.get?_push_of_some _ (Heap.get?_push_of_some _ (Heap.get?_push_of_some _ (Heap.get?_push_of_some _ x))))

theorem orEnd_item {it l : Addr} {i : Nat} {items : Array Value} {x : Value} {Q : Option Value → Shared → Prop} (hit : s.heap.IsListIter it l i) (hl : s.heap.IsList l items) (hx : items[i]? = some x)
    (hQ : ∀ h', h'.IsListIter it l (i + 1) → Heap.SameBut it s.heap h' → Q (some x) { s with heap := h' }) : wpAny (model prog w) A (Builtin.SmallTypes.nextOrEnd (.ref it)) Q E s := by
  unfold Builtin.SmallTypes.nextOrEnd
  exact wpAny_bind (wpAny_attempt (wpAny_nextOf_list_item hit hl hx fun h' a b => wpAny_pure (hQ h' a b)))
theorem orEnd_end {it l : Addr} {i : Nat} {items : Array Value} {Q : Option Value → Shared → Prop} (hh : A.handled = none) (hit : s.heap.IsListIter it l i) (hl : s.heap.IsList l items) (hx : items[i]? = none)
    (hQ : ∀ h', Heap.ExtBut it s.heap h' → Q none { s with heap := h' }) : wpAny (model prog w) A (Builtin.SmallTypes.nextOrEnd (.ref it)) Q E s := by
  unfold Builtin.SmallTypes.nextOrEnd
  refine wpAny_bind (wpAny_attempt (wpAny_nextOf_list_end hh hit hl hx fun h' e a b => ?_))
  obtain ⟨o, ho, hc⟩ := b
  refine wpAny_bind (wpAny_isInstance (T := "StopIteration") (b := true) ⟨o, ho, hc⟩ isSubtype_stop ?_)
  exact wpAny_pure (hQ h' a)

theorem zipT_item {z TI TO i1 i2 l1 l2 : Addr} {k1 k2 : Nat} {xs ys : Array Value} {x y a b : Value} {Q : Value → Shared → Prop} (D : ZipApart z TI TO i1 i2 l1 l2)
    (hz : IsZipT s.heap z TI TO .none) (hTI : IsPair s.heap TI (.ref i1) (.ref i2)) (hTO : IsPair s.heap TO a b)
    (h1 : s.heap.IsListIter i1 l1 k1) (h2 : s.heap.IsListIter i2 l2 k2) (hl1 : s.heap.IsList l1 xs) (hl2 : s.heap.IsList l2 ys) (hx : xs[k1]? = some x) (hy : ys[k2]? = some y)
    (hQ : ∀ h', IsZipT h' z TI TO (rawInt s.heap.objs.size) → IsPair h' TO x y → h'.IsListIter i1 l1 (k1 + 1) → h'.IsListIter i2 l2 (k2 + 1) → IsPair h' s.heap.objs.size x y → h'.objs.size = s.heap.objs.size + 1 →
      (∀ c o, c ≠ z → c ≠ TO → c ≠ i1 → c ≠ i2 → s.heap.get? c = some o → h'.get? c = some o) → Q (.ref s.heap.objs.size) { s with heap := h' }) :
    wpAny (model prog w) A (Builtin.«zip.__next__» ⟨[.ref z], []⟩) (fun fin s' => ∃ v, fin = .done (.ret v) ∧ Q v s') E s := by
  show wpAny _ _ (field (.ref z) 2 >>= _) _ _ _
  refine wpAny_bind (wpAny_field hz rfl (x := .bool true) rfl ?_)
  show wpAny _ _ (field (.ref z) 3 >>= _) _ _ _
  refine wpAny_bind (wpAny_field hz rfl (x := .ref TI) rfl ?_)
  refine wpAny_bind (wpAny_seqItems hTI rfl ?_)
  show wpAny _ _ (Builtin.SmallTypes.ownedTupleIsFree (.ref z) >>= _) _ _ _
  refine wpAny_bind ?_
  unfold Builtin.SmallTypes.ownedTupleIsFree
  refine wpAny_bind (wpAny_field hz rfl (x := .none) rfl (wpAny_pure ?_))
  simp only [if_true]
  refine wpAny_bind (wpAny_rule ?_)
  refine wpAny_bind (wpAny_field hz rfl (x := .ref TO) rfl ?_)
  refine wpAny_bind (wpAny_setField_rec hz (by simp) fun h₁ z1 s1 => ?_)
  replace z1 : IsZipT h₁ z TI TO .ellipsis := z1
  refine wpAny_bind ?_
  simp only [List.zipIdx_cons, List.zipIdx_nil, List.forIn_cons, List.forIn_nil]
  refine wpAny_bind (wpAny_bind (wpAny_onRaise ?_))
  show wpAny _ _ (Builtin.SmallTypes.nextOrEnd (.ref i1)) _ _ _
  refine orEnd_item (h1.extBut s1.extBut D.i1z) (hl1.extBut s1.extBut D.l1z) hx fun h₂ a2 s2 => ?_
  have o2 : IsPair h₂ TO a b := s2.extBut _ _ D.TOi1 (s1.extBut _ _ D.TOz hTO)
  refine wpAny_bind (wpAny_seqItems o2 rfl ?_)
  refine wpAny_bind (wpAny_updateSeq_pair o2 fun h₃ o3 s3 => ?_)
  replace o3 : IsPair h₃ TO x b := o3
  refine wpAny_bind (wpAny_letGo (wpAny_pure ?_))
  refine wpAny_bind (wpAny_bind (wpAny_onRaise ?_))
  show wpAny _ _ (Builtin.SmallTypes.nextOrEnd (.ref i2)) _ _ _
  refine orEnd_item (((h2.extBut s1.extBut D.i2z).extBut s2.extBut D.i12.symm).extBut s3.extBut D.TOi2.symm) (((hl2.extBut s1.extBut D.l2z).extBut s2.extBut D.l2i1).extBut s3.extBut D.l2TO) hy fun h₄ a4 s4 => ?_
  have o4 : IsPair h₄ TO x b := s4.extBut _ _ D.TOi2 o3
  refine wpAny_bind (wpAny_seqItems o4 rfl ?_)
  refine wpAny_bind (wpAny_updateSeq_pair o4 fun h₅ o5 s5 => ?_)
  replace o5 : IsPair h₅ TO x y := o5
  refine wpAny_bind (wpAny_letGo (wpAny_pure (wpAny_pure ?_)))
  refine wpAny_bind (wpAny_seqItems o5 rfl ?_)
  refine wpAny_bind (wpAny_newTuple ?_)
  have sz5 : h₅.objs.size = s.heap.objs.size := by rw [s5.1, s4.1, s3.1, s2.1, s1.1]
  have z5 : IsZipT h₅ z TI TO .ellipsis := s5.extBut _ _ D.TOz.symm (s4.extBut _ _ D.i2z.symm (s3.extBut _ _ D.TOz.symm (s2.extBut _ _ D.i1z.symm z1)))
  have k5 : ∀ c o, c ≠ z → c ≠ TO → c ≠ i1 → c ≠ i2 → s.heap.get? c = some o → h₅.get? c = some o := fun c o c1 c2 c3 c4 e =>
    s5.extBut _ _ c2 (s4.extBut _ _ c4 (s3.extBut _ _ c2 (s2.extBut _ _ c3 (s1.extBut _ _ c1 e))))
  have a5 : h₅.IsListIter i1 l1 (k1 + 1) := ((a2.extBut s3.extBut D.TOi1.symm).extBut s4.extBut D.i12).extBut s5.extBut D.TOi1.symm
  have b5 : h₅.IsListIter i2 l2 (k2 + 1) := a4.extBut s5.extBut D.TOi2.symm
  have zl : z < h₅.objs.size := Heap.lt_size z5
  show wpAny _ _ (Builtin.SmallTypes.ownedTupleHandOut (.ref z) (.ref h₅.objs.size) >>= _) _ _ _
  refine wpAny_bind ?_
  unfold Builtin.SmallTypes.ownedTupleHandOut
  have z6 : IsZipT (h₅.push { cls := .type "tuple", data := .seq #[x, y] }) z TI TO .ellipsis := Heap.get?_push_of_some _ z5
  refine wpAny_bind (wpAny_setField_rec z6 (by simp) fun h₇ z7 s7 => ?_)
  replace z7 : IsZipT h₇ z TI TO (rawInt h₅.objs.size) := z7
  refine wpAny_setField_rec z7 (by simp) fun h₈ z8 s8 => ?_
  replace z8 : IsZipT h₈ z TI TO (rawInt h₅.objs.size) := z8
  have up : ∀ c o, c ≠ z → h₅.get? c = some o → h₈.get? c = some o := fun c o c1 e => s8.extBut _ _ c1 (s7.extBut _ _ c1 (Heap.get?_push_of_some _ e))
  have t8 : IsPair h₈ h₅.objs.size x y := s8.extBut _ _ (Nat.ne_of_gt zl) (s7.extBut _ _ (Nat.ne_of_gt zl) (Heap.get?_push_size _ rfl))
  have n8 : h₈.objs.size = h₅.objs.size + 1 := by rw [s8.1, s7.1, Heap.size_push]
  rw [sz5] at z8 t8 n8
  refine wpAny_pure ⟨_, rfl, ?_⟩
  show Q (.ref h₅.objs.size) _
  rw [sz5]
  exact hQ h₈ z8 (up _ _ D.TOz o5) (a5.at fun o e => up _ o D.i1z e) (b5.at fun o e => up _ o D.i2z e) t8 n8 fun c o c1 c2 c3 c4 e => up c o c1 (k5 c o c1 c2 c3 c4 e)

theorem zipT_end {z TI TO i1 i2 l1 l2 : Addr} {k1 k2 : Nat} {xs ys : Array Value} {a b : Value} {Q : Fin → Shared → Prop} (hh : A.handled = none) (D : ZipApart z TI TO i1 i2 l1 l2)
    (hz : IsZipT s.heap z TI TO .none) (hTI : IsPair s.heap TI (.ref i1) (.ref i2)) (hTO : IsPair s.heap TO a b)
    (h1 : s.heap.IsListIter i1 l1 k1) (h2 : s.heap.IsListIter i2 l2 k2) (hl1 : s.heap.IsList l1 xs) (hl2 : s.heap.IsList l2 ys) (hx : xs[k1]? = none) (hy : ys[k2]? = none)
    (hE : ∀ h' e, (∀ c o, c ≠ z → c ≠ TO → c ≠ i1 → c ≠ i2 → s.heap.get? c = some o → h'.get? c = some o) → (∃ o, h'.get? e = some o ∧ o.cls = .type "StopIteration") → E (.ref e) { s with heap := h' }) :
    wpAny (model prog w) A (Builtin.«zip.__next__» ⟨[.ref z], []⟩) Q E s := by
  show wpAny _ _ (field (.ref z) 2 >>= _) _ _ _
  refine wpAny_bind (wpAny_field hz rfl (x := .bool true) rfl ?_)
  show wpAny _ _ (field (.ref z) 3 >>= _) _ _ _
  refine wpAny_bind (wpAny_field hz rfl (x := .ref TI) rfl ?_)
  refine wpAny_bind (wpAny_seqItems hTI rfl ?_)
  show wpAny _ _ (Builtin.SmallTypes.ownedTupleIsFree (.ref z) >>= _) _ _ _
  refine wpAny_bind ?_
  unfold Builtin.SmallTypes.ownedTupleIsFree
  refine wpAny_bind (wpAny_field hz rfl (x := .none) rfl (wpAny_pure ?_))
  simp only [if_true]
  refine wpAny_bind (wpAny_rule ?_)
  refine wpAny_bind (wpAny_field hz rfl (x := .ref TO) rfl ?_)
  refine wpAny_bind (wpAny_setField_rec hz (by simp) fun h₁ z1 s1 => ?_)
  replace z1 : IsZipT h₁ z TI TO .ellipsis := z1
  refine wpAny_bind ?_
  simp only [List.zipIdx_cons, List.zipIdx_nil, List.forIn_cons, List.forIn_nil]
  refine wpAny_bind (wpAny_bind (wpAny_onRaise ?_))
  show wpAny _ _ (Builtin.SmallTypes.nextOrEnd (.ref i1)) _ _ _
  refine orEnd_end hh (h1.extBut s1.extBut D.i1z) (hl1.extBut s1.extBut D.l1z) hx fun h₂ s2 => ?_
  have z2 : IsZipT h₂ z TI TO .ellipsis := s2 _ _ D.i1z.symm z1
  refine wpAny_bind (wpAny_setField_rec z2 (by simp) fun h₃ _ s3 => ?_)
  refine wpAny_bind ?_
  show wpAny _ _ (forIn ([(Value.ref i2, 1)] : List (Value × Nat)) _ _ >>= _) _ _ _
  simp only [List.forIn_cons, List.forIn_nil]
  refine wpAny_bind (wpAny_bind ?_)
  refine wpAny_bind ?_
  have g2 : h₃.IsListIter i2 l2 k2 := ((h2.extBut s1.extBut D.i2z).extBut s2 D.i12.symm).extBut s3.extBut D.i2z
  have m2 : h₃.IsList l2 ys := ((hl2.extBut s1.extBut D.l2z).extBut s2 D.l2i1).extBut s3.extBut D.l2z
  refine orEnd_end hh g2 m2 hy fun h₄ s4 => ?_
  rw [if_neg (show ¬ (Option.isSome (none : Option Value) = true) by simp)]
  refine wpAny_pure ?_
  show wpAny _ _ (pure _) _ _ _
  refine wpAny_pure ?_
  refine wpAny_bind (wpAny_rule ?_)
  show wpAny _ _ (newExc (.type "StopIteration") [] >>= _) _ _ _
  refine wpAny_bind ?_
  simp only [newExc, newTuple]
  refine wpAny_bind (wpAny_newObj_type ?_ (by size_fits))
  refine wpAny_bind (m := firstArgMember _ _) (wpAny_of_eq (a := Value.none) (by first | rfl | (simp only [firstArgMember]; rfl)) ?_)
  refine wpAny_newObj_type ?_ (by size_fits)
  simp only [raiseNew]
  refine wpAny_bind (wpAny_handled ?_)
  first | rw [show A.in1.handled = none from hh] | rw [hh]
  refine wpAny_bind (wpAny_pure (wpAny_throw ?_))
  refine hE _ _ (fun c o c1 c2 c3 c4 x => ?_) ⟨_, Heap.get?_push_size _ rfl, rfl⟩
  exact Heap.get?_push_of_some _ (Heap.get?_push_of_some _ (s4 _ _ c4 (s3.extBut _ _ c1 (s2 _ _ c3 (s1.extBut _ _ c1 x)))))
theorem zipT_pyNext {z TI TO i1 i2 l1 l2 : Addr} {k1 k2 : Nat} {xs ys : Array Value} {x y a b : Value} {Q : Option Value → Shared → Prop} (D : ZipApart z TI TO i1 i2 l1 l2)
    (hz : IsZipT s.heap z TI TO .none) (hTI : IsPair s.heap TI (.ref i1) (.ref i2)) (hTO : IsPair s.heap TO a b)
    (h1 : s.heap.IsListIter i1 l1 k1) (h2 : s.heap.IsListIter i2 l2 k2) (hl1 : s.heap.IsList l1 xs) (hl2 : s.heap.IsList l2 ys) (hx : xs[k1]? = some x) (hy : ys[k2]? = some y)
    (hQ : ∀ h', IsZipT h' z TI TO (rawInt s.heap.objs.size) → IsPair h' TO x y → h'.IsListIter i1 l1 (k1 + 1) → h'.IsListIter i2 l2 (k2 + 1) → IsPair h' s.heap.objs.size x y → h'.objs.size = s.heap.objs.size + 1 →
      (∀ c o, c ≠ z → c ≠ TO → c ≠ i1 → c ≠ i2 → s.heap.get? c = some o → h'.get? c = some o) → Q (some (.ref s.heap.objs.size)) { s with heap := h' }) :
    wpAny (model prog w) A (pyNext (.ref z)) Q E s := by
  have hT : s.TypeIs (.ref z) "zip" := ⟨_, hz, rfl⟩
  unfold pyNext
  refine wpAny_bind (wpAny_attempt (wpAny_callSpecial?_slot (name := Str.ofString "__next__") hT F.slot_zip_next (wpAny_call_entry F.slot_zip_next hT F.entry_zip_next ?_ (F.args_zip_next_1 _))))
  exact zipT_item D hz hTI hTO h1 h2 hl1 hl2 hx hy fun h' a1 a2 a3 a4 a5 a6 a7 => wpAny_pure (hQ h' a1 a2 a3 a4 a5 a6 a7)
theorem zipT_pyNext_end {z TI TO i1 i2 l1 l2 : Addr} {k1 k2 : Nat} {xs ys : Array Value} {a b : Value} {Q : Option Value → Shared → Prop} (hh : A.handled = none) (D : ZipApart z TI TO i1 i2 l1 l2)
    (hz : IsZipT s.heap z TI TO .none) (hTI : IsPair s.heap TI (.ref i1) (.ref i2)) (hTO : IsPair s.heap TO a b)
    (h1 : s.heap.IsListIter i1 l1 k1) (h2 : s.heap.IsListIter i2 l2 k2) (hl1 : s.heap.IsList l1 xs) (hl2 : s.heap.IsList l2 ys) (hx : xs[k1]? = none) (hy : ys[k2]? = none)
    (hQ : ∀ h', (∀ c o, c ≠ z → c ≠ TO → c ≠ i1 → c ≠ i2 → s.heap.get? c = some o → h'.get? c = some o) → Q none { s with heap := h' }) : wpAny (model prog w) A (pyNext (.ref z)) Q E s := by
  have hT : s.TypeIs (.ref z) "zip" := ⟨_, hz, rfl⟩
  unfold pyNext
  refine wpAny_bind (wpAny_attempt (wpAny_callSpecial?_slot (name := Str.ofString "__next__") hT F.slot_zip_next (wpAny_call_entry F.slot_zip_next hT F.entry_zip_next
    (zipT_end hh D hz hTI hTO h1 h2 hl1 hl2 hx hy fun h' e hk he => ?_) (F.args_zip_next_1 _))))
  obtain ⟨o, ho, hc⟩ := he
  refine wpAny_bind (wpAny_isInstance (T := "StopIteration") (b := true) ⟨o, ho, hc⟩ isSubtype_stop ?_)
  exact wpAny_pure (hQ _ hk)
theorem zipT_go {elts : List Expr} {x1} {pos : Pos} {z TI TO T : Addr} {Q : Unit → Shared → Prop} (hz : IsZipT s.heap z TI TO (rawInt T))
    (hQ : ∀ h', IsZipT h' z TI TO .none → Heap.SameBut z s.heap h' → Q () { s with heap := h' }) :
    wpAny (model prog w) A (letOwnedTupleGo (.Tuple elts x1 pos) (.ref z) (.ref T)) Q E s := by
  unfold letOwnedTupleGo
  refine wpAny_bind (wpAny_load hz ?_)
  show wpAny _ _ (if (["enumerate", "zip", "dict_itemiterator", "dict_reverseitemiterator", "odict_iterator", "itertools.zip_longest", "itertools.pairwise"].contains "zip" && (#[rawInt T, .bool false, .bool true, .ref TI, .ref TO] : Array Value)[0]? == some (rawInt T)) = true then _ else _) Q E s
  rw [if_pos (by simp)]
  refine wpAny_bind (wpAny_rule ?_)
  show wpAny _ _ (setField (.ref z) 0 .none) Q E s
  exact wpAny_setField_rec hz (by simp) fun h' a b => hQ h' a b
theorem zipT_iter {z TI TO : Addr} {f0 : Value} {Q : Value → Shared → Prop} (hz : IsZipT s.heap z TI TO f0) (h : Q (.ref z) s) : wpAny (model prog w) A (pyIter (.ref z)) Q E s := by
  have hT : s.TypeIs (.ref z) "zip" := ⟨_, hz, rfl⟩
  refine wpAny_pyIter_slot hT F.slot_zip_iter (wpAny_call_entry F.slot_zip_iter hT F.entry_zip_iter ?_ (F.args_zip_iter_1 _))
  show wpAny _ _ (ret (.ref z)) _ _ s
  exact wpAny_pure ⟨_, rfl, "zip", _, hT, F.slot_zip_next.lookup, h⟩
end
end TB
namespace TB
open PySem L2
/-- zip of two lists of one length, checked -/
def ItzS (K : Fg) (a b : Addr) : It :=
  ⟨fun i H => ∃ (xs ys : List V) (x y : V), SqL K H a xs ∧ SqL K H b ys ∧ xs[i]? = some x ∧ ys[i]? = some y,
    fun i H v H' => ∃ T x y, v = .ref T ∧ H T = none ∧ H' = upd H T (.tup [x, y]) ∧ (∀ xs, SqL K H a xs → xs[i]? = some x) ∧ ∀ ys, SqL K H b ys → ys[i]? = some y,
    fun i H => ∃ xs ys : List V, SqL K H a xs ∧ SqL K H b ys ∧ xs.length ≤ i ∧ ys.length ≤ i⟩
theorem mem5 {c z TI TO i1 i2 : Addr} (h : c ∈ [z, TI, TO, i1, i2]) : c = z ∨ c = TI ∨ c = TO ∨ c = i1 ∨ c = i2 := by simpa using h
theorem turn_zipS {P : Program} {w : World} {K : Fg} {elts : List Expr} {kk : Nat} {tpos : Pos} {a b z TI TO i1 i2 : Addr} (D : ZipApart z TI TO i1 i2 a b) :
    Turn P w K (.Tuple elts kk tpos) (ItzS K a b) [z, TI, TO, i1, i2] z (fun i h => IsZipT h z TI TO .none ∧ IsPair h TI (.ref i1) (.ref i2) ∧ (∃ x y, IsPair h TO x y) ∧ h.IsListIter i1 a i ∧ h.IsListIter i2 b i) where
  mem := by simp
  obj := fun i h st c hc => by
    obtain ⟨hz, hTI, ⟨x, y, hTO⟩, ⟨o1, e1, _, d1⟩, ⟨o2, e2, _, d2⟩⟩ := st
    rcases mem5 hc with q | q | q | q | q
    · rw [q]; exact ⟨_, hz, fun v q => nomatch q⟩
    · rw [q]; exact ⟨_, hTI, fun v q => nomatch q⟩
    · rw [q]; exact ⟨_, hTO, fun v q => nomatch q⟩
    · rw [q]; exact ⟨o1, e1, fun v q => by rw [d1] at q; cases q⟩
    · rw [q]; exact ⟨o2, e2, fun v q => by rw [d2] at q; cases q⟩
  keep := fun i h h' st k => by
    obtain ⟨hz, hTI, ⟨x, y, hTO⟩, h1, h2⟩ := st
    refine ⟨k z (by simp) _ hz, k TI (by simp) _ hTI, ⟨x, y, k TO (by simp) _ hTO⟩, ?_, ?_⟩
    · exact h1.at fun o q => k i1 (by simp) o q
    · exact h2.at fun o q => k i2 (by simp) o q
  item := by
    intro X hP hw hK hc i pins s σ H E I hf st hg
    subst hP hw hK
    obtain ⟨hz, hTI, ⟨x0, y0, hTO⟩, h1, h2⟩ := st
    obtain ⟨xs, ys, x, y, hqx, hqy, hx, hy⟩ := hg
    obtain ⟨its, rv, p, _⟩ := I.list hqx
    obtain ⟨its2, rv2, p2, _⟩ := I.list hqy
    obtain ⟨u, hu, ru⟩ := rv.get hx
    obtain ⟨u2, hu2, ru2⟩ := rv2.get hy
    have zl : z < s.heap.objs.size := Heap.lt_size hz
    refine zipT_pyNext D hz hTI hTO h1 h2 p.isList p2.isList (x := u) (y := u2) (by simpa using hu) (by simpa using hu2) fun h' z' TO' h1' h2' hT hsz hk => ?_
    refine ⟨_, rfl, zipT_go (s := { s with heap := h' }) z' fun h'' z'' sb => ?_⟩
    have T2 : h''.get? s.heap.objs.size = some { cls := .type "tuple", data := .seq #[u, u2] } := (sb.2 _ (Nat.ne_of_gt zl)).trans hT
    have new : ObjOk X.prog X.w (upd H s.heap.objs.size (.tup [x, y])) h'' s.heap.objs.size (.tup [x, y]) := ⟨by show 2 ≤ sizeLine; decide, [u, u2], .cons ru (.cons ru2 .nil), ⟨_, T2, rfl, _, rfl⟩⟩
    have I1 : Inv X pins σ (upd H s.heap.objs.size (.tup [x, y])) { s with heap := h'' } :=
      I.turnedNew (t' := s.toks) (ch := [z, TI, TO, i1, i2]) (fun c o hb q => (sb.2 c fun q' => hb (by simp [q'])).trans (hk c o (fun q' => hb (by simp [q'])) (fun q' => hb (by simp [q'])) (fun q' => hb (by simp [q'])) (fun q' => hb (by simp [q'])) q)) hf (Nat.le_refl _) new
    refine ⟨.ref s.heap.objs.size, _, I1, rfl, ⟨_, x, y, rfl, I.hok.fresh (Nat.le_refl _), rfl, fun l hl => by rw [I.list_inj hl hqx]; exact hx, fun l hl => by rw [I.list_inj hl hqy]; exact hy⟩, ⟨z'', ?_, ⟨u, u2, ?_⟩, ?_, ?_⟩, fun c hcm => ?_⟩
    · exact (sb.2 _ D.TIz).trans (hk _ _ D.TIz D.TITO D.TIi1 D.TIi2 hTI)
    · exact (sb.2 _ D.TOz).trans TO'
    · exact h1'.at fun o q => (sb.2 _ D.i1z).trans q
    · exact h2'.at fun o q => (sb.2 _ D.i2z).trans q
    · have hlt : c < s.heap.objs.size := by
        rcases mem5 hcm with q | q | q | q | q
        · rw [q]; exact zl
        · rw [q]; exact Heap.lt_size hTI
        · rw [q]; exact Heap.lt_size hTO
        · rw [q]; obtain ⟨_, e1, _⟩ := h1; exact Heap.lt_size e1
        · rw [q]; obtain ⟨_, e2, _⟩ := h2; exact Heap.lt_size e2
      rw [upd_ne (Nat.ne_of_lt hlt)]
      exact (hf c hcm).1
  done := by
    intro X hP hw hK hc i pins s σ H E I hf st hg
    subst hP hw hK
    obtain ⟨hz, hTI, ⟨x0, y0, hTO⟩, h1, h2⟩ := st
    obtain ⟨xs, ys, hqx, hqy, e1, e2⟩ := hg
    obtain ⟨its, rv, p, _⟩ := I.list hqx
    obtain ⟨its2, rv2, p2, _⟩ := I.list hqy
    have l1 := rv.length
    have l2 := rv2.length
    have n1 : its.toArray[i]? = none := by simp; omega
    have n2 : its2.toArray[i]? = none := by simp; omega
    refine zipT_pyNext_end (I.ok.hd hc) D hz hTI hTO h1 h2 p.isList p2.isList n1 n2 fun h' hk => ⟨rfl, I.turnedL (t' := s.toks) (ch := [z, TI, TO, i1, i2]) (fun c o hb q => ?_) hf⟩
    exact hk c o (fun q' => hb (by simp [q'])) (fun q' => hb (by simp [q'])) (fun q' => hb (by simp [q'])) (fun q' => hb (by simp [q'])) q
  self := fun A i s Q E st h => zipT_iter st.1 h
def iZipS (K : Fg) (ta : TA) : TI := fun σ H R => ta σ H fun vs H1 => ∃ a b xs ys, vs = [.ref a, .ref b] ∧ SqL K H1 a xs ∧ SqL K H1 b ys ∧ R (ItzS K a b) H1
theorem callWith_typeKw {M : Model} {A : Around} {E : Value → Shared → Prop} {s : Shared} {env : PySem.Env} {pos : Pos} {T : String} {e : Expr} {rest : List Expr} {kws : List Keyword} {Q : Value → Shared → Prop}
    (h : wpAny M A (spliced (backTo pos (starEach (e :: rest) env))) (fun vs s₁ => wpAny M A (evalAll ((backToKw pos (keywordEach kws env)).map (·.2)))
      (fun kvs s₂ => wpAny M A (call (.type T) vs (((backToKw pos (keywordEach kws env)).filterMap (·.1)).zip kvs)) Q E s₂) E s₁) E s)
    (he : backTo pos (starEach (e :: rest) env) = (false, eval e env) :: backTo pos (starEach rest env))
    (hplain : (backTo pos (starEach (e :: rest) env)).any (·.1) = false) (hall : (backToKw pos (keywordEach kws env)).all (·.1.isSome) = true)
    (hkw : (backToKw pos (keywordEach kws env)).any (·.1.isNone) = false) :
    wpAny M A (callWith pos (.type T) [] (backTo pos (starEach (e :: rest) env)) (backToKw pos (keywordEach kws env))) Q E s := by
  have h2 : wpAny M A (evalArgs (.type T) true (backTo pos (starEach (e :: rest) env)) (backToKw pos (keywordEach kws env))) (fun a s₁ => wpAny M A (call (.type T) ([] ++ a.pos) a.kw) Q E s₁) E s := by
    rw [he] at h ⊢
    exact PyProof.Rows.evalArgs_kwB hall h
  unfold callWith
  refine wpAny_bind (wpAny_holding (wpAny_mono h2 (fun a s₁ q => wpAny_bind (wpAny_standAt ?_)) fun _ _ x => x))
  simp only [hplain, hkw, Bool.or_false]
  refine wpAny_bind (wpAny_pure ?_)
  exact wpAny_bind (wpAny_mono q (fun r s₂ hr => wpAny_bind (wpAny_holding (wpAny_point (wpAny_pure hr)))) fun _ _ x => x)
section
variable {X : Cx} {e e2 : Expr} {ta : TA} {p pos tpos cpos kpos : Pos} {elts : List Expr} {kk j : Nat}
theorem fresh5 {pins : List (Addr × Obj)} {σ : L2.St} {H : Hp} {s : Shared} (I : Inv X pins σ H s) : ∀ c, c ∈ [s.heap.objs.size + 4, s.heap.objs.size + 2, s.heap.objs.size + 3, s.heap.objs.size, s.heap.objs.size + 1] → FpOk X pins H c := fun c hcm => by
  have hle : s.heap.objs.size ≤ c := by
    rcases mem5 hcm with z | z | z | z | z <;> rw [z] <;> simp
  exact I.fpOk hle (I.hok.fresh hle)
theorem pi_zipS (hg : Gl X "zip") (hm : X.mg "zip" = none) (ha : PA X [e, e2] ta)
    (he : backTo pos (starEach [e, e2] X.env) = (false, eval e X.env) :: backTo pos (starEach [e2] X.env)) (hplain : (backTo pos (starEach [e, e2] X.env)).any (·.1) = false) :
    PI X (.Tuple elts kk tpos) (.Call (.Name "zip" p) [e, e2] [⟨some "strict", .Constant (.bool true) j cpos, kpos⟩] pos) (iZipS X.K ta) := by
  refine ⟨fun pins s σ H R I h => ?_⟩
  refine wpAny_Call_Name_kw (ld_blt I hg hm PyProof.Rows.boot_zip (callWith_typeKw (thn (ha.run pos pins s σ H _ I h) fun us s1 ⟨vs, H1, I1, r1, q1⟩ => ?_) he hplain rfl rfl))
  refine thn ((pk_cons (X := X) (pe_bl (b := true)) pk_nil).run pos pins s1 σ H1 (fun zs H2 => zs = [.bl true] ∧ H2 = H1) I1 ⟨rfl, rfl⟩) fun ws s2 ⟨zs, H2, I2, r2, q2⟩ => ?_
  obtain ⟨rfl, rfl⟩ := q2
  obtain ⟨a, b, xs, ys, ex, hqx, hqy, q⟩ := q1
  subst ex
  cases r1 with
  | cons r rr =>
    cases rr with
    | cons r' rr =>
      cases rr
      cases r
      cases r'
      cases r2 with
      | cons r2 rr2 =>
        cases rr2
        cases (show _ = Value.bool true from r2)
        obtain ⟨its, rv, p1, _⟩ := I2.list hqx
        obtain ⟨its2, rv2, p2, _⟩ := I2.list hqy
        refine call_zipS (b := true) p1.isList p2.isList fun h' hz hTI hTO h1 h2 hsz hk => zipT_iter hz ?_
        have I3 : Inv X pins σ H2 { s2 with heap := h' } := I2.kept (t' := s2.toks) hk
        exact ⟨s2.heap.objs.size + 4, [s2.heap.objs.size + 4, s2.heap.objs.size + 2, s2.heap.objs.size + 3, s2.heap.objs.size, s2.heap.objs.size + 1], _, _, H2, rfl, I3, turn_zipS (PySem.W.ktu_apart s2.heap.objs.size a b p1.lt p2.lt), ⟨hz, hTI, ⟨_, _, hTO⟩, h1, h2⟩, fresh5 I2, q⟩
theorem pi_zipN (hg : Gl X "zip") (hm : X.mg "zip" = none) (ha : PA X [e, e2] ta)
    (he : backTo pos (starEach [e, e2] X.env) = (false, eval e X.env) :: backTo pos (starEach [e2] X.env)) (hplain : (backTo pos (starEach [e, e2] X.env)).any (·.1) = false) :
    PI X (.Tuple elts kk tpos) (.Call (.Name "zip" p) [e, e2] [⟨some "strict", .Constant (.bool false) j cpos, kpos⟩] pos) (iZip X.K ta) := by
  refine ⟨fun pins s σ H R I h => ?_⟩
  refine wpAny_Call_Name_kw (ld_blt I hg hm PyProof.Rows.boot_zip (callWith_typeKw (thn (ha.run pos pins s σ H _ I h) fun us s1 ⟨vs, H1, I1, r1, q1⟩ => ?_) he hplain rfl rfl))
  refine thn ((pk_cons (X := X) (pe_bl (b := false)) pk_nil).run pos pins s1 σ H1 (fun zs H2 => zs = [.bl false] ∧ H2 = H1) I1 ⟨rfl, rfl⟩) fun ws s2 ⟨zs, H2, I2, r2, q2⟩ => ?_
  obtain ⟨rfl, rfl⟩ := q2
  obtain ⟨a, b, xs, ys, ex, hqx, hqy, q⟩ := q1
  subst ex
  cases r1 with
  | cons r rr =>
    cases rr with
    | cons r' rr =>
      cases rr
      cases r
      cases r'
      cases r2 with
      | cons r2 rr2 =>
        cases rr2
        cases (show _ = Value.bool false from r2)
        obtain ⟨its, rv, p1, _⟩ := I2.list hqx
        obtain ⟨its2, rv2, p2, _⟩ := I2.list hqy
        refine call_zipS (b := false) p1.isList p2.isList fun h' hz hTI hTO h1 h2 hsz hk => wpAny_pyIter_zip hz ?_
        have I3 : Inv X pins σ H2 { s2 with heap := h' } := I2.kept (t' := s2.toks) hk
        exact ⟨s2.heap.objs.size + 4, [s2.heap.objs.size + 4, s2.heap.objs.size + 2, s2.heap.objs.size + 3, s2.heap.objs.size, s2.heap.objs.size + 1], _, _, H2, rfl, I3, turn_zip (PySem.W.ktu_apart s2.heap.objs.size a b p1.lt p2.lt), ⟨hz, hTI, ⟨_, _, hTO⟩, h1, h2⟩, fresh5 I2, q⟩
end
/-! on data -/
def pairsD (xs ys : List D) : List D := (xs.zip ys).map fun p => PyData.tuple [p.1, p.2]
def gZipS (ga : GA) : GA := fun ρ => (ga ρ).bind fun p => match p.1 with
  | [.list xs, .list ys] => if xs.length = ys.length then some (pairsD xs ys, p.2) else none
  | _ => none
def gZipN (ga : GA) : GA := fun ρ => (ga ρ).bind fun p => match p.1 with
  | [.list xs, .list ys] => some (pairsD xs ys, p.2)
  | _ => none
section
variable {K : Fg}
theorem pairsD_len (xs ys : List D) : (pairsD xs ys).length = min xs.length ys.length := by simp [pairsD]
theorem pairsD_get {xs ys : List D} {i : Nat} {d : D} (h : (pairsD xs ys)[i]? = some d) : ∃ x y, xs[i]? = some x ∧ ys[i]? = some y ∧ d = .tuple [x, y] := by
  unfold pairsD at h
  rw [List.getElem?_map] at h
  obtain ⟨⟨x, y⟩, hp, e⟩ := Option.map_eq_some_iff.mp h
  rw [List.getElem?_zip_eq_some] at hp
  exact ⟨x, y, hp.1, hp.2, e.symm⟩
theorem yld_pair {a b : Addr} {vs ws : List V} {xs ys : List D} {Hb : Hp} (ha : SqL K Hb a vs) (hb : SqL K Hb b ws) (rx : RpA K Hb vs xs) (ry : RpA K Hb ws ys) {i : Nat} {H : Hp} {M : Addr → Prop} {x : V} {H' : Hp} (s : Same Hb (wo H M)) (tr : Trk M H)
    (y : ∃ T u v, x = .ref T ∧ H T = none ∧ H' = upd H T (.tup [u, v]) ∧ (∀ xs, SqL K H a xs → xs[i]? = some u) ∧ ∀ ys, SqL K H b ys → ys[i]? = some v) : Same H H' ∧ ∀ d, (pairsD xs ys)[i]? = some d → Rp K (wo H' M) x d := by
  obtain ⟨T, u, v, rfl, nT, rfl, fx, fy⟩ := y
  refine ⟨same_upd nT, fun d hd => ?_⟩
  obtain ⟨dx, dy, e1, e2, rfl⟩ := pairsD_get hd
  have s' : Same Hb H := fun a o h => wo_same _ _ (s a o h)
  have u1 := fx vs (sqL_same s' ha)
  have v1 := fy ws (sqL_same s' hb)
  obtain ⟨u2, e3, r1⟩ := rx.get e1
  obtain ⟨v2, e4, r2⟩ := ry.get e2
  rw [u1] at e3; cases e3
  rw [v1] at e4; cases e4
  exact lay_tup tr nT (.cons (r1.mono s) (.cons (r2.mono s) .nil))
theorem two_lists {H : Hp} {vs : List V} {xs ys : List D} (r : RpA K H vs [.list xs, .list ys]) : ∃ a b us ws, vs = [.ref a, .ref b] ∧ H a = some (.lst us) ∧ RpA K H us xs ∧ H b = some (.lst ws) ∧ RpA K H ws ys := by
  cases r with
  | cons r r' =>
    cases r' with
    | cons r' r2 =>
      cases r2
      obtain ⟨a, us, rfl, h1, h2⟩ := r.lst_get
      obtain ⟨b, ws, rfl, h3, h4⟩ := r'.lst_get
      exact ⟨a, b, us, ws, rfl, h1, h2, h3, h4⟩
theorem sem_zipS {ta : TA} {ga : GA} (ha : SemA K ta ga) : SemI K (iZipS K ta) (gZipS ga) := ⟨fun {M0 B W ρ ρ' ds σ H R} e E q => by
  unfold gZipS at e
  obtain ⟨⟨zs, ρ1⟩, e1, e⟩ := Option.bind_eq_some_iff.mp e
  refine ha.run e1 E fun vs H' s E' r => ?_
  split at e
  · rename_i xs ys hx
    have hx : zs = [.list xs, .list ys] := hx
    subst hx
    split at e
    · rename_i hl
      cases e
      obtain ⟨a, b, us, ws, rfl, h1, r1, h2, r2⟩ := two_lists r
      refine ⟨a, b, us, ws, rfl, SqL.of (wo_get h1).1, SqL.of (wo_get h2).1, q _ _ s E' ⟨fun H s => ?_, fun i H s hi => ?_, fun i H M x H' s tr y => ?_⟩⟩
      · exact ⟨us, ws, SqL.of (s _ _ h1), SqL.of (s _ _ h2), by rw [pairsD_len, r1.length]; omega, by rw [pairsD_len, r2.length]; omega⟩
      · rw [pairsD_len] at hi
        have i1 : i < us.length := by rw [r1.length]; omega
        have i2 : i < ws.length := by rw [r2.length]; omega
        exact ⟨us, ws, us[i], ws[i], SqL.of (s _ _ h1), SqL.of (s _ _ h2), by simp [i1], by simp [i2]⟩
      · exact yld_pair (SqL.of h1) (SqL.of h2) r1 r2 s tr y
    · cases e
  · cases e⟩
theorem sem_zipN {ta : TA} {ga : GA} (ha : SemA K ta ga) : SemI K (iZip K ta) (gZipN ga) := ⟨fun {M0 B W ρ ρ' ds σ H R} e E q => by
  unfold gZipN at e
  obtain ⟨⟨zs, ρ1⟩, e1, e⟩ := Option.bind_eq_some_iff.mp e
  refine ha.run e1 E fun vs H' s E' r => ?_
  split at e
  · rename_i xs ys hx
    have hx : zs = [.list xs, .list ys] := hx
    subst hx
    cases e
    obtain ⟨a, b, us, ws, rfl, h1, r1, h2, r2⟩ := two_lists r
    refine ⟨a, b, us, ws, rfl, SqL.of (wo_get h1).1, SqL.of (wo_get h2).1, q _ _ s E' ⟨fun H s => ?_, fun i H s hi => ?_, fun i H M x H' s tr y => ?_⟩⟩
    · refine ⟨us, ws, SqL.of (s _ _ h1), SqL.of (s _ _ h2), ?_⟩
      rw [pairsD_len, r1.length, r2.length]
      omega
    · rw [pairsD_len] at hi
      have i1 : i < us.length := by rw [r1.length]; omega
      have i2 : i < ws.length := by rw [r2.length]; omega
      exact ⟨us, ws, us[i], ws[i], SqL.of (s _ _ h1), SqL.of (s _ _ h2), by simp [i1], by simp [i2]⟩
    · exact yld_pair (SqL.of h1) (SqL.of h2) r1 r2 s tr y
  · cases e⟩
variable {X : Cx} {e e2 : Expr} {ta : TA} {ga : GA} {p pos tpos cpos kpos : Pos} {elts : List Expr} {kk j : Nat}
theorem i_zipS (hm : X.mg "zip" = none) (ha : DA K X [e, e2] ta ga) (hg : Gl X "zip" := by rfl) (hK : X.K = K := by rfl)
    (he : backTo pos (starEach [e, e2] X.env) = (false, eval e X.env) :: backTo pos (starEach [e2] X.env) := by rfl) (hplain : (backTo pos (starEach [e, e2] X.env)).any (·.1) = false := by rfl) :
    DI K X (.Tuple elts kk tpos) (.Call (.Name "zip" p) [e, e2] [⟨some "strict", .Constant (.bool true) j cpos, kpos⟩] pos) (iZipS K ta) (gZipS ga) := ⟨by subst hK; exact pi_zipS hg hm ha.pa he hplain, sem_zipS ha.sem⟩
theorem i_zipN (hm : X.mg "zip" = none) (ha : DA K X [e, e2] ta ga) (hg : Gl X "zip" := by rfl) (hK : X.K = K := by rfl)
    (he : backTo pos (starEach [e, e2] X.env) = (false, eval e X.env) :: backTo pos (starEach [e2] X.env) := by rfl) (hplain : (backTo pos (starEach [e, e2] X.env)).any (·.1) = false := by rfl) :
    DI K X (.Tuple elts kk tpos) (.Call (.Name "zip" p) [e, e2] [⟨some "strict", .Constant (.bool false) j cpos, kpos⟩] pos) (iZip K ta) (gZipN ga) := ⟨by subst hK; exact pi_zipN hg hm ha.pa he hplain, sem_zipN ha.sem⟩
def gNever : GS := fun _ => none
theorem s_never {body : List Stmt} : DSs K X body tNever gNever := ⟨pss_never, ⟨fun e _ _ => by cases e⟩⟩
end
end TB
/-! slices, in, chains, enumerate. -/
namespace TB
open PySem L2
abbrev GO := DEnv → Option (Option Int × DEnv)
def oNo : GO := fun ρ => some (none, ρ)
def oSome (g : GE) : GO := fun ρ => (g ρ).bind fun p => match p.1 with
  | .int i => some (some i, p.2)
  | _ => none
def cutD (xs : List D) (lo hi : Option Int) : List D := (xs.drop (HT.sIx xs.length 0 lo)).take (HT.sIx xs.length xs.length hi - HT.sIx xs.length 0 lo)
def dCut (x : D) (lo hi : Option Int) : Option D := match x with
  | .list xs => some (.list (cutD xs lo hi))
  | .dict [(.none, .list xs)] => some (.list (cutD xs lo hi))
  | .tuple xs => some (.tuple (cutD xs lo hi))
  | _ => none
def gCut (ge : GE) (gl gh : GO) : GE := fun ρ => (ge ρ).bind fun p => (gl p.2).bind fun q => (gh q.2).bind fun r => (dCut p.1 q.1 r.1).map fun z => (z, r.2)
section
variable {K : Fg}
structure SemO (K : Fg) (t : TO) (g : GO) : Prop where
  run : ∀ {M0 : Addr → Prop} {B : Option Addr} {W : Addr → Prop} {ρ ρ' : DEnv} {d : Option Int} {σ : L2.St} {H : Hp} {Q : Option Int → Hp → Prop}, g ρ = some (d, ρ') → EnvR K M0 B W ρ σ H →
    (∀ H', Stp W H H' → EnvR K M0 B W ρ' σ H' → Q d H') → t σ H Q
structure DO (K : Fg) (X : Cx) (e : Option Expr) (t : TO) (g : GO) : Prop where
  po : PO X e t
  sem : SemO K t g
theorem sem_oNo : SemO K tNoPart oNo := ⟨fun h E q => by
  cases h
  exact q _ .refl E⟩
theorem sem_oSome {te : TE} {ge : GE} (he : SemE K te ge) : SemO K (tPart te) (oSome ge) := ⟨fun {M0 B W ρ ρ' d σ H Q} e E q => by
  unfold oSome at e
  obtain ⟨⟨x, ρ1⟩, e1, e⟩ := Option.bind_eq_some_iff.mp e
  refine he.run e1 E fun v H1 s1 E1 r1 => ?_
  split at e
  · rename_i i hx
    have hx : x = .int i := hx
    subst hx
    cases e
    cases r1
    exact ⟨i, rfl, q _ s1 E1⟩
  · cases e⟩
theorem o_no {X : Cx} : DO K X none tNoPart oNo := ⟨po_none, sem_oNo⟩
theorem o_some {X : Cx} {e : Expr} {te : TE} {ge : GE} (h : DE K X e te ge) : DO K X (some e) (tPart te) (oSome ge) := ⟨po_some h.pe, sem_oSome h.sem⟩
theorem RpA.cut {H : Hp} {vs : List V} {ds : List D} {lo hi : Option Int} (r : RpA K H vs ds) : RpA K H (cutV vs lo hi) (cutD ds lo hi) := by
  unfold cutV cutD
  rw [r.length]
  exact (r.drop _).take _
abbrev rSlAny (K : Fg) : V → Option Int → Option Int → Hp → VK → Prop := fun x lo hi H Q => rSlL K x lo hi H Q ∨ rSlA K x lo hi H Q
theorem sl_any {X : Cx} : L2.SlR X (rSlAny X.K) := L2.SlR.or sl_list sl_tupA
theorem sem_cut {te : TE} {tl th : TO} {ge : GE} {gl gh : GO} (he : SemE K te ge) (hl : SemO K tl gl) (hh : SemO K th gh) : SemE K (L2.tSl (rSlAny K) te tl th) (gCut ge gl gh) := ⟨fun {M0 B W ρ ρ' d σ H Q} e E q => by
  unfold gCut at e
  obtain ⟨⟨x, ρ1⟩, e1, e⟩ := Option.bind_eq_some_iff.mp e
  obtain ⟨⟨l, ρ2⟩, e2, e⟩ := Option.bind_eq_some_iff.mp e
  obtain ⟨⟨h, ρ3⟩, e3, e⟩ := Option.bind_eq_some_iff.mp e
  obtain ⟨z, e4, e⟩ := Option.map_eq_some_iff.mp e
  cases e
  refine he.run e1 E fun v H1 s1 E1 r1 => hl.run e2 E1 fun H2 s2 E2 => hh.run e3 E2 fun H3 s3 E3 => ?_
  have r3 := (r1.mono s2.wo).mono s3.wo
  have st := (s1.trans s2).trans s3
  unfold dCut at e4
  split at e4
  · rename_i xs hx
    have hx : x = .list xs := hx
    subst hx
    cases e4
    obtain ⟨a, vs, rfl, h1, r⟩ := r3.lst_get
    refine .inl ⟨a, vs, rfl, SqL.of (wo_get h1).1, fun p np => ?_⟩
    exact q _ _ (st.trans (.same (same_upd np))) (E3.same (same_upd np)) (lay_any E3.trk np r.cut)
  · rename_i xs hx
    have hx : x = .dict [(.none, .list xs)] := hx
    subst hx
    cases e4
    obtain ⟨a, vs, rfl, h1, r⟩ := r3.ro_get
    refine .inl ⟨a, vs, rfl, sqL_same wo_same h1, fun p np => ?_⟩
    exact q _ _ (st.trans (.same (same_upd np))) (E3.same (same_upd np)) (lay_any E3.trk np r.cut)
  · rename_i xs hx
    have hx : x = .tuple xs := hx
    subst hx
    cases e4
    obtain ⟨a, vs, rfl, h1, r⟩ := r3.tup_get
    refine .inr ⟨a, vs, rfl, sqT_same wo_same h1, fun z => ?_, fun z p np => ?_⟩
    · have : cutD xs l h = xs := by
        rw [r.length] at z
        unfold cutD
        rw [z.1, z.2]
        simp
      rw [this] at q
      exact q _ _ st E3 r3
    · exact q _ _ (st.trans (.same (same_upd np))) (E3.same (same_upd np)) (lay_tup E3.trk np r.cut)
  · cases e4⟩
variable {X : Cx} {a b c e : Expr} {ta tb tc te : TE} {ga gb gc ge : GE} {pos p2 : Pos}
theorem d_cut {lo hi : Option Expr} {tl th : TO} {gl gh : GO} (he : DE K X e te ge) (hl : DO K X lo tl gl) (hh : DO K X hi th gh) (hK : X.K = K := by rfl) : DE K X (.Subscript e (.Slice lo hi none p2) pos) (L2.tSl (rSlAny K) te tl th) (gCut ge gl gh) :=
  ⟨by subst hK; exact pe_slice sl_any he.pe hl.po hh.po, sem_cut he.sem hl.sem hh.sem⟩
/-! in -/
def dIn (x y : D) : Option D := match y with
  | .list ds => if SeqAt.shaped x = true ∧ SeqAt.shaped (.list ds) = true then some (.bool (ds.any fun z => PyData.eqv z x)) else none
  | _ => none
def dNotIn (x y : D) : Option D := match y with
  | .list ds => if SeqAt.shaped x = true ∧ SeqAt.shaped (.list ds) = true then some (.bool (!ds.any fun z => PyData.eqv z x)) else none
  | _ => none
theorem rok_in : ROk K (rInD K) dIn := fun {H M x y dx dy dz Q} _ rx ry e q => by
  unfold dIn at e
  split at e
  · split at e
    · rename_i c
      cases e
      exact ⟨_, _, (rx.mono wo_same).dp (SeqAt.canLay_of_shaped c.1), (ry.mono wo_same).dp (SeqAt.canLay_of_shaped c.2), c.1, c.2, q _ _ (.refl _) (.bl _)⟩
    · cases e
  · cases e
theorem rok_notIn : ROk K (rNotInD K) dNotIn := fun {H M x y dx dy dz Q} _ rx ry e q => by
  unfold dNotIn at e
  split at e
  · split at e
    · rename_i c
      cases e
      exact ⟨_, _, (rx.mono wo_same).dp (SeqAt.canLay_of_shaped c.1), (ry.mono wo_same).dp (SeqAt.canLay_of_shaped c.2), c.1, c.2, q _ _ (.refl _) (.bl _)⟩
    · cases e
  · cases e
theorem d_in (hu : X.A.units + 65 < cLine) (ha : DE K X a ta ga) (hb : DE K X b tb gb) (hK : X.K = K := by rfl) (hm : behindInMarks .In b = false := by rfl) : DE K X (.Compare a [.In] [b] pos) (tOp (rInD K) ta tb) (gBin dIn ga gb) := ⟨by subst hK; exact pe_cmpR (op_inD hu) ha.pe hb.pe hm, sem_op rok_in ha.sem hb.sem⟩
theorem d_notIn (hu : X.A.units + 65 < cLine) (ha : DE K X a ta ga) (hb : DE K X b tb gb) (hK : X.K = K := by rfl) (hm : behindInMarks .NotIn b = false := by rfl) : DE K X (.Compare a [.NotIn] [b] pos) (tOp (rNotInD K) ta tb) (gBin dNotIn ga gb) := ⟨by subst hK; exact pe_cmpR (op_notInD hu) ha.pe hb.pe hm, sem_op rok_notIn ha.sem hb.sem⟩
theorem t_in (hu : X.A.units + 65 < cLine) (ha : DE K X a ta ga) (hb : DE K X b tb gb) (hK : X.K = K := by rfl) (hm : behindInMarks .In b = false := by rfl) : DT K X (.Compare a [.In] [b] pos) (tB (tOp (rInD K) ta tb)) (gB (gBin dIn ga gb)) := ⟨by subst hK; exact pt_cmpR (op_inD hu) ha.pe hb.pe hm, sem_B (sem_op rok_in ha.sem hb.sem)⟩
theorem t_notIn (hu : X.A.units + 65 < cLine) (ha : DE K X a ta ga) (hb : DE K X b tb gb) (hK : X.K = K := by rfl) (hm : behindInMarks .NotIn b = false := by rfl) : DT K X (.Compare a [.NotIn] [b] pos) (tB (tOp (rNotInD K) ta tb)) (gB (gBin dNotIn ga gb)) := ⟨by subst hK; exact pt_cmpR (op_notInD hu) ha.pe hb.pe hm, sem_B (sem_op rok_notIn ha.sem hb.sem)⟩
theorem u65 {k : Nat} {A : Around} (r : Room k A) : A.units + 65 < cLine := by have := r.un; omega
/-! own lists read as a whole for a moment -/
def gOwn (i : Nat) : GE := fun ρ => (cellOf ρ[i]?).map fun xs => (.list xs, ρ)
/-! chains -/
def gChain (op op' : D → D → Option D) (ga gb gc : GE) : GE := fun ρ => (ga ρ).bind fun p => (gb p.2).bind fun q => (op p.1 q.1).bind fun z => match z with
  | .bool true => (gc q.2).bind fun r => (op' q.1 r.1).map fun w => (w, r.2)
  | .bool false => some (.bool false, q.2)
  | _ => none
theorem sem_chain {r r' : R2} {op op' : D → D → Option D} (hr : ROk K r op) (hr' : ROk K r' op') (ha : SemE K ta ga) (hb : SemE K tb gb) (hc : SemE K tc gc) : SemE K (tChain r r' ta tb tc) (gChain op op' ga gb gc) := ⟨fun {M0 B W ρ ρ' d σ H Q} h E q => by
  unfold gChain at h
  obtain ⟨⟨x, ρ1⟩, h1, h⟩ := Option.bind_eq_some_iff.mp h
  obtain ⟨⟨y, ρ2⟩, h2, h⟩ := Option.bind_eq_some_iff.mp h
  obtain ⟨z, h3, h⟩ := Option.bind_eq_some_iff.mp h
  refine ha.run h1 E fun v1 H1 s1 E1 r1 => ?_
  refine hb.run h2 E1 fun v2 H2 s2 E2 r2 => ?_
  refine hr E2.trk (r1.mono s2.wo) r2 h3 fun v H' s rv => ?_
  split at h
  · cases rv
    obtain ⟨⟨y3, ρ3⟩, h4, h⟩ := Option.bind_eq_some_iff.mp h
    obtain ⟨w, h5, h⟩ := Option.map_eq_some_iff.mp h
    cases h
    refine ⟨true, rfl, ?_⟩
    rw [if_pos rfl]
    refine hc.run h4 (E2.same s) fun v3 H3 s3 E3 r3 => ?_
    refine hr' E3.trk ((r2.mono (wo_mono s)).mono s3.wo) r3 h5 fun v' H4 s4 rw' => ?_
    exact q v' H4 ((((s1.trans s2).trans (.same s)).trans s3).trans (.same s4)) (E3.same s4) rw'
  · cases rv
    cases h
    refine ⟨false, rfl, ?_⟩
    rw [if_neg (by decide)]
    exact q _ _ ((s1.trans s2).trans (.same s)) (E2.same s) (.bl _)
  · cases h⟩
theorem d_chain {o o' : CmpOp} {r r' : R2} {op op' : D → D → Option D} (ho : OpR X (compareOp o) r) (ho' : OpR X (compareOp o') r') (hr : ROk K r op) (hr' : ROk K r' op') (ha : DE K X a ta ga) (hb : DE K X b tb gb) (hc : DE K X c tc gc)
    (hm : lastMarks [o, o'] [b, c] = false := by with_unfolding_all rfl) : DE K X (.Compare a [o, o'] [b, c] pos) (tChain r r' ta tb tc) (gChain op op' ga gb gc) := ⟨pe_chain ho ho' ha.pe hb.pe hc.pe hm, sem_chain hr hr' ha.sem hb.sem hc.sem⟩
theorem t_chain {o o' : CmpOp} {r r' : R2} {op op' : D → D → Option D} (ho : OpR X (compareOp o) r) (ho' : OpR X (compareOp o') r') (hr : ROk K r op) (hr' : ROk K r' op') (ha : DE K X a ta ga) (hb : DE K X b tb gb) (hc : DE K X c tc gc)
    (hm : lastMarks [o, o'] [b, c] = false := by with_unfolding_all rfl) : DT K X (.Compare a [o, o'] [b, c] pos) (tB (tChain r r' ta tb tc)) (gB (gChain op op' ga gb gc)) := ⟨pt_chain ho ho' ha.pe hb.pe hc.pe hm, sem_B (sem_chain hr hr' ha.sem hb.sem hc.sem)⟩
/-! enumerate -/
def numD (xs : List D) : List D := xs.mapIdx fun i x => PyData.tuple [.int (i : Int), x]
def gEnum (ga : GA) : GA := fun ρ => (ga ρ).bind fun p => match p.1 with
  | [.list xs] => some (numD xs, p.2)
  | [.dict [(.none, .list xs)]] => some (numD xs, p.2)
  | _ => none
theorem ite_ok {a : Addr} {vs : List V} {ds : List D} {Hb : Hp} (h : SqL K Hb a vs) (r : RpA K Hb vs ds) : ItOk K (Ite K a) (numD ds) Hb where
  stop := fun H s => ⟨vs, sqL_same s h, by rw [r.length]; unfold numD; simp⟩
  go := fun i H s hi => by
    unfold numD at hi
    rw [List.length_mapIdx] at hi
    exact ⟨vs, vs[i]'(by rw [r.length]; exact hi), sqL_same s h, by simp [r.length, hi]⟩
  yld := fun i H M x H' s tr y => by
    obtain ⟨T, x, rfl, hT, rfl, y⟩ := y
    have e1 := y vs (sqL_same (fun a o h => wo_same _ _ (s a o h)) h)
    refine ⟨same_upd hT, fun d hd => ?_⟩
    unfold numD at hd
    rw [List.getElem?_mapIdx] at hd
    obtain ⟨d', hd', rfl⟩ := Option.map_eq_some_iff.mp hd
    obtain ⟨v, e2, rv⟩ := r.get hd'
    rw [e1] at e2; cases e2
    exact lay_tup tr hT (.cons (.int _) (.cons (rv.mono s) .nil))
theorem one_list {H : Hp} {vs : List V} {xs : List D} (r : RpA K H vs [.list xs]) : ∃ a us, vs = [.ref a] ∧ H a = some (.lst us) ∧ RpA K H us xs := by
  cases r with
  | cons h r =>
    cases r
    obtain ⟨a, us, rfl, h1, r1⟩ := h.lst_get
    exact ⟨a, us, rfl, h1, r1⟩
theorem one_ro {H : Hp} {vs : List V} {xs : List D} (r : RpA K H vs [.dict [(.none, .list xs)]]) : ∃ a us, vs = [.ref a] ∧ SqL K H a us ∧ RpA K H us xs := by
  cases r with
  | cons h r =>
    cases r
    obtain ⟨a, us, rfl, h1, r1⟩ := h.ro_get
    exact ⟨a, us, rfl, h1, r1⟩
theorem sem_enum {t : TA} {g : GA} (ha : SemA K t g) : SemI K (iEnum K t) (gEnum g) := ⟨fun {M0 B W ρ ρ' ds σ H R} e E q => by
  unfold gEnum at e
  obtain ⟨⟨zs, ρ1⟩, e1, e⟩ := Option.bind_eq_some_iff.mp e
  refine ha.run e1 E fun vs H' s E' r => ?_
  split at e
  · rename_i xs hx
    have hx : zs = [.list xs] := hx
    subst hx
    cases e
    obtain ⟨a, us, rfl, h1, r1⟩ := one_list r
    exact ⟨a, us, rfl, SqL.of (wo_get h1).1, q _ _ s E' (ite_ok (SqL.of h1) r1)⟩
  · rename_i xs hx
    have hx : zs = [.dict [(.none, .list xs)]] := hx
    subst hx
    cases e
    obtain ⟨a, us, rfl, h1, r1⟩ := one_ro r
    exact ⟨a, us, rfl, sqL_same wo_same h1, q _ _ s E' (ite_ok h1 r1)⟩
  · cases e⟩
theorem i_enum {tpos p : Pos} {elts : List Expr} {kk : Nat} {t : TA} {g : GA} (hm : X.mg "enumerate" = none) (ha : DA K X [e] t g) (hg : Gl X "enumerate" := by rfl) (hK : X.K = K := by rfl) (hs : starEach [e] X.env = [(false, eval e X.env)] := by rfl) :
    DI K X (.Tuple elts kk tpos) (.Call (.Name "enumerate" p) [e] [] pos) (iEnum K t) (gEnum g) := ⟨by subst hK; exact pi_enum hg hm ha.pa hs, sem_enum ha.sem⟩
/-! y = [.. for ..] -/
variable {tg iter : Expr} {ifs : List Expr} {scope : Scope} {wi : TI} {gi : GA} {tgt : TG} {gg : GG} {ts : List Nat} {tt : TT} {gt : GT}
theorem s_setLc (i : Nat) {y : Str} {py spos : Pos} (own : List (Str × Nat)) (hi : DI K X tg iter wi gi) (ok : BlkOk X.N X.env.scope scope own)
    (hg : ∀ (s : Shared) (H : Hp) (C : Addr) (cl : List (Str × Addr)) (fp : List Addr), DG K (X.blk s H scope (compEnvC scope cl C X.env) fp) tg tgt gg ts) (ht : ∀ (s : Shared) (H : Hp) (C : Addr) (cl : List (Str × Addr)) (fp : List Addr), DTs K (X.blk s H scope (compEnvC scope cl C X.env) fp) ifs tt gt)
    (he : ∀ (s : Shared) (H : Hp) (C : Addr) (cl : List (Str × Addr)) (fp : List Addr), DE K (X.blk s H scope (compEnvC scope cl C X.env) fp) e te ge) (hN : X.N.Nodup) (any : Shared × Hp) (hv : ∀ j ∈ ts, j ∈ own.map (·.2) := by decide) (hc : X.calm = true := by rfl) (hs : ∀ x, foldedSetIterable iter X.env x = pure x := by intro _; rfl)
    (hy : X.N[i]? = some y := by rfl) (hyl : X.env.scope.names.lookup y = some .local := by rfl) (hsw : swapsWith (.ListComp e [⟨tg, iter, ifs, 0⟩] scope pos) (some (.Name y py)) spos.line X.env = pure true := by exact sw_true rfl rfl rfl (by decide +kernel)) :
    DS K X (.Assign [.Name y py] (.ListComp e [⟨tg, iter, ifs, 0⟩] scope pos) spos) (tAsg (tLc wi tgt tt te (own.map (·.2))) (gName i)) (gSet i (gOfF (gLc gi gg gt ge (own.map (·.2))))) :=
  ⟨ps_setLc hc hN hy hyl hsw hi.pi ok (fun s H C cl fp => (hg s H C cl fp).pg) (fun s H C cl fp => (ht s H C cl fp).pts) (fun s H C cl fp => (he s H C cl fp).pe) hs,
    sem_set (sem_ofF (sem_lc hi.sem (hg any.1 any.2 0 [] []).sem (ht any.1 any.2 0 [] []).sem (he any.1 any.2 0 [] []).sem hv))⟩
theorem s_setLcF (i : Nat) {y : Str} {py spos : Pos} (own : List (Str × Nat)) (hi : DI K X tg iter wi gi) (ok : BlkOk X.N X.env.scope scope own)
    (hg : ∀ (s : Shared) (H : Hp) (C : Addr) (cl : List (Str × Addr)) (fp : List Addr), DG K (X.blk s H scope (compEnvC scope cl C X.env) fp) tg tgt gg ts) (ht : ∀ (s : Shared) (H : Hp) (C : Addr) (cl : List (Str × Addr)) (fp : List Addr), DTs K (X.blk s H scope (compEnvC scope cl C X.env) fp) ifs tt gt)
    (he : ∀ (s : Shared) (H : Hp) (C : Addr) (cl : List (Str × Addr)) (fp : List Addr), DE K (X.blk s H scope (compEnvC scope cl C X.env) fp) e te ge) (hN : X.N.Nodup) (any : Shared × Hp) (hv : ∀ j ∈ ts, j ∈ own.map (·.2) := by decide) (hc : X.calm = true := by rfl) (hs : ∀ x, foldedSetIterable iter X.env x = pure x := by intro _; rfl)
    (hy : X.N[i]? = some y := by rfl) (hyl : X.env.scope.names.lookup y = some .local := by rfl) (hsw : swapsWith (.ListComp e [⟨tg, iter, ifs, 0⟩] scope pos) (some (.Name y py)) spos.line X.env = pure true := by exact sw_true rfl rfl rfl (by decide +kernel)) :
    DS K X (.Assign [.Name y py] (.ListComp e [⟨tg, iter, ifs, 0⟩] scope pos) spos) (tAsg (tLc wi tgt tt te (own.map (·.2))) (gName i)) (gSetF i (gLc gi gg gt ge (own.map (·.2)))) :=
  ⟨ps_setLc hc hN hy hyl hsw hi.pi ok (fun s H C cl fp => (hg s H C cl fp).pg) (fun s H C cl fp => (ht s H C cl fp).pts) (fun s H C cl fp => (he s H C cl fp).pe) hs,
    sem_setF (sem_lc hi.sem (hg any.1 any.2 0 [] []).sem (ht any.1 any.2 0 [] []).sem (he any.1 any.2 0 [] []).sem hv)⟩
end
end TB
namespace TB
open PySem L2
def topS (i : Nat) : Stmt := PySem.Challenge.pw_trusswork_k39_whole_three_forces_meet.main.body.getD i (.Pass ⟨0, 0, 0, 0⟩)
abbrev s_frac : Stmt := topS 3
abbrev s_plus : Stmt := topS 4
abbrev s_minus : Stmt := topS 5
abbrev s_times : Stmt := topS 6
abbrev s_over : Stmt := topS 7
abbrev s_sum_of : Stmt := topS 8
abbrev s_turn_of : Stmt := topS 10
abbrev s_sums_of : Stmt := topS 11
abbrev s_whole_of : Stmt := topS 12
abbrev s_is_on : Stmt := topS 13
abbrev s_line_of : Stmt := topS 14
abbrev s_meeting : Stmt := topS 15
abbrev s_same_point : Stmt := topS 16
abbrev s_about : Stmt := topS 17
abbrev s_law_mixed : Stmt := topS 19
abbrev s_law_rest : Stmt := topS 20
abbrev s_law_pool : Stmt := topS 21
abbrev s_law_next : Stmt := topS 22
abbrev s_law_draw : Stmt := topS 23
abbrev s_law_pick : Stmt := topS 24
abbrev s_law_same : Stmt := topS 25
abbrev s_law_gcd : Stmt := topS 26
abbrev s_law_frac : Stmt := topS 27
abbrev s_law_add : Stmt := topS 28
abbrev s_law_sub : Stmt := topS 29
abbrev s_law_mul : Stmt := topS 30
abbrev s_law_div : Stmt := topS 31
abbrev s_law_some : Stmt := topS 32
abbrev s_law_point : Stmt := topS 33
abbrev s_law_turn : Stmt := topS 34
abbrev s_law_line : Stmt := topS 35
abbrev s_law_on : Stmt := topS 36
abbrev s_law_back : Stmt := topS 37
abbrev s_law : Stmt := topS 38
/-! data -/
def g_frac : GS := (gSeq (gIf (gB (gBin dLt (gVar 1) (gC (.int 0)))) (gPar 0 1 (aCons (gUn dNeg (gVar 0)) (aCons (gUn dNeg (gVar 1)) aNil))) gSkip)
    (gSeq (gSet 2 (gFun fGcd (aCons (gVar 0) (aCons (gVar 1) aNil))))
    (gRet (gTpl (aCons (gBin dFdiv (gVar 0) (gVar 2)) (aCons (gBin dFdiv (gVar 1) (gVar 2)) aNil))))))
def f_frac : List D → Option D := runD 3 2 g_frac
def g_law_mixed : GS := (gSeq (gSet 2 (gBin dMod (gFun fInt (aCons (gBin dAdd (gBin dAdd (gBin dMul (gVar 0) (gC (.int 410338673998125441398711))) (gBin dMul (gVar 1) (gC (.int 736418259301774563982039)))) (gC (.int 295075153872261839517363))) aNil)) (gC (.int 618970019642690137449562111))))
    (gSeq (gSet 3 (gBin dMod (gFun fInt (aCons (gBin dAdd (gBin dAdd (gBin dMul (gVar 2) (gVar 2)) (gBin dMul (gC (.int 7)) (gVar 2))) (gVar 1)) aNil)) (gC (.int 162259276829213363391578010288127))))
    (gSeq (gSet 4 (gBin dMod (gFun fInt (aCons (gBin dAdd (gBin dMul (gVar 3) (gVar 3)) (gVar 2)) aNil)) (gC (.int 618970019642690137449562111))))
    (gRet (gBin dAdd (gBin dMul (gVar 3) (gC (.int 618970019642690137449562111))) (gVar 4))))))
def f_law_mixed : List D → Option D := runD 5 2 g_law_mixed
def g_law_gcd : GS := (gSeq (gFor (gRange1 (aCons (gC (.int 3000)) aNil)) (gN 2) (gSeq (gIf (gB (gBin dEq (gVar 1) (gC (.int 0)))) gBrk gSkip)
    (gPar 0 1 (aCons (gVar 1) (aCons (gBin dMod (gFun fInt (aCons (gVar 0) aNil)) (gFun fInt (aCons (gVar 1) aNil))) aNil)))))
    (gRet (gVar 0)))
def f_law_gcd : List D → Option D := runD 3 2 g_law_gcd
def g_plus : GS := (gRet (gFun f_frac (aCons (gBin dAdd (gBin dMul (gBin dIx (gVar 0) (gC (.int 0))) (gBin dIx (gVar 1) (gC (.int 1)))) (gBin dMul (gBin dIx (gVar 1) (gC (.int 0))) (gBin dIx (gVar 0) (gC (.int 1))))) (aCons (gBin dMul (gBin dIx (gVar 0) (gC (.int 1))) (gBin dIx (gVar 1) (gC (.int 1)))) aNil))))
def f_plus : List D → Option D := runD 2 2 g_plus
def g_minus : GS := (gRet (gFun f_frac (aCons (gBin dSub (gBin dMul (gBin dIx (gVar 0) (gC (.int 0))) (gBin dIx (gVar 1) (gC (.int 1)))) (gBin dMul (gBin dIx (gVar 1) (gC (.int 0))) (gBin dIx (gVar 0) (gC (.int 1))))) (aCons (gBin dMul (gBin dIx (gVar 0) (gC (.int 1))) (gBin dIx (gVar 1) (gC (.int 1)))) aNil))))
def f_minus : List D → Option D := runD 2 2 g_minus
def g_times : GS := (gRet (gFun f_frac (aCons (gBin dMul (gBin dIx (gVar 0) (gC (.int 0))) (gBin dIx (gVar 1) (gC (.int 0)))) (aCons (gBin dMul (gBin dIx (gVar 0) (gC (.int 1))) (gBin dIx (gVar 1) (gC (.int 1)))) aNil))))
def f_times : List D → Option D := runD 2 2 g_times
def g_over : GS := (gRet (gFun f_frac (aCons (gBin dMul (gBin dIx (gVar 0) (gC (.int 0))) (gBin dIx (gVar 1) (gC (.int 1)))) (aCons (gBin dMul (gBin dIx (gVar 0) (gC (.int 1))) (gBin dIx (gVar 1) (gC (.int 0)))) aNil))))
def f_over : List D → Option D := runD 2 2 g_over
def g_law_rest : GS := (gSeq (gSet 3 (gC (.int 0)))
    (gSeq (gIf (gB (gBin dGt (gFun fLen (aCons (gVar 0) aNil)) (gC (.int 0)))) (gSet 3 (gFun fInt (aCons (gBin dIx (gVar 0) (gBin dMod (gFun fInt (aCons (gVar 1) aNil)) (gFun fLen (aCons (gVar 0) aNil)))) aNil))) gSkip)
    (gSeq (gIf (gB (gBin dLt (gVar 3) (gC (.int 0)))) (gSet 3 (gBin dSub (gC (.int 1)) (gBin dMul (gC (.int 2)) (gVar 3)))) gSkip)
    (gSeq (gIf (gAnd (gB (gBin dEq (gVar 2) (gC (.int 0)))) (gAnd (gB (gBin dLt (gVar 1) (gFun fLen (aCons (gVar 0) aNil)))) (gB (gBin dGe (gVar 3) (gBin dPow (gC (.int 10)) (gC (.int 18))))))) (gRet (gBin dSub (gVar 3) (gBin dPow (gC (.int 10)) (gC (.int 18))))) gSkip)
    (gRet (gFun f_law_mixed (aCons (gBin dAdd (gVar 3) (gBin dMul (gVar 2) (gC (.int 1000003)))) (aCons (gVar 1) aNil))))))))
def f_law_rest : List D → Option D := runD 4 3 g_law_rest
def g_law_frac : GS := (gSeq (gIf (gB (gBin dLt (gVar 1) (gC (.int 0)))) (gPar 0 1 (aCons (gBin dSub (gC (.int 0)) (gVar 0)) (aCons (gBin dSub (gC (.int 0)) (gVar 1)) aNil))) gSkip)
    (gSeq (gSet 2 (gFun f_law_gcd (aCons (gIfE (gB (gBin dGe (gVar 0) (gC (.int 0)))) (gVar 0) (gBin dSub (gC (.int 0)) (gVar 0))) (aCons (gVar 1) aNil))))
    (gRet (gTpl (aCons (gBin dFdiv (gVar 0) (gVar 2)) (aCons (gBin dFdiv (gVar 1) (gVar 2)) aNil))))))
def f_law_frac : List D → Option D := runD 3 2 g_law_frac
def g_sum_of : GS := (gSeq (gSet 1 (gC (.tuple ([0, 1].map PyData.int))))
    (gSeq (gFor (gItems (gVar 0)) (gN 2) (gSet 1 (gFun f_plus (aCons (gVar 1) (aCons (gVar 2) aNil)))))
    (gRet (gVar 1))))
def f_sum_of : List D → Option D := runD 3 1 g_sum_of
def g_turn_of : GS := (gRet (gFun f_minus (aCons (gFun f_times (aCons (gBin dIx (gVar 0) (gC (.int 0))) (aCons (gBin dIx (gVar 1) (gC (.int 1))) aNil))) (aCons (gFun f_times (aCons (gBin dIx (gVar 0) (gC (.int 1))) (aCons (gBin dIx (gVar 1) (gC (.int 0))) aNil))) aNil))))
def f_turn_of : List D → Option D := runD 2 2 g_turn_of
def g_is_on : GS := (gRet (gBin dEq (gFun f_plus (aCons (gFun f_times (aCons (gBin dIx (gVar 0) (gC (.int 0))) (aCons (gBin dIx (gVar 1) (gC (.int 0))) aNil))) (aCons (gFun f_times (aCons (gBin dIx (gVar 0) (gC (.int 1))) (aCons (gBin dIx (gVar 1) (gC (.int 1))) aNil))) aNil))) (gBin dIx (gVar 0) (gC (.int 2)))))
def f_is_on : List D → Option D := runD 2 2 g_is_on
def g_meeting : GS := (gSeq (gSet 2 (gFun f_minus (aCons (gFun f_times (aCons (gBin dIx (gVar 0) (gC (.int 0))) (aCons (gBin dIx (gVar 1) (gC (.int 1))) aNil))) (aCons (gFun f_times (aCons (gBin dIx (gVar 0) (gC (.int 1))) (aCons (gBin dIx (gVar 1) (gC (.int 0))) aNil))) aNil))))
    (gSeq (gIf (gB (gBin dEq (gVar 2) (gC (.tuple ([0, 1].map PyData.int))))) (gRet (gC .none)) gSkip)
    (gSeq (gSet 3 (gFun f_minus (aCons (gFun f_times (aCons (gBin dIx (gVar 0) (gC (.int 2))) (aCons (gBin dIx (gVar 1) (gC (.int 1))) aNil))) (aCons (gFun f_times (aCons (gBin dIx (gVar 0) (gC (.int 1))) (aCons (gBin dIx (gVar 1) (gC (.int 2))) aNil))) aNil))))
    (gSeq (gSet 4 (gFun f_minus (aCons (gFun f_times (aCons (gBin dIx (gVar 0) (gC (.int 0))) (aCons (gBin dIx (gVar 1) (gC (.int 2))) aNil))) (aCons (gFun f_times (aCons (gBin dIx (gVar 0) (gC (.int 2))) (aCons (gBin dIx (gVar 1) (gC (.int 0))) aNil))) aNil))))
    (gRet (gTpl (aCons (gFun f_over (aCons (gVar 3) (aCons (gVar 2) aNil))) (aCons (gFun f_over (aCons (gVar 4) (aCons (gVar 2) aNil))) aNil))))))))
def f_meeting : List D → Option D := runD 5 2 g_meeting
def g_law_pool : GS := (gRetFF (gLst (aCons (gVar 0) (aCons (gC (.int 0)) (aCons (gFun f_law_rest (aCons (gVar 0) (aCons (gC (.int 0)) (aCons (gC (.int 0)) aNil)))) (aCons (gC (.int 0)) aNil))))))
def f_law_pool : List D → Option (List D) := runF 1 1 g_law_pool
def g_law_next : GS := (gSeq (gPut 0 (gBin dAdd (gIxM 0 (gC (.int 1))) (gC (.int 1))) (gC (.int 1)))
    (gSeq (gPut 0 (gFun f_law_rest (aCons (gIxM 0 (gC (.int 0))) (aCons (gIxM 0 (gC (.int 1))) (aCons (gC (.int 0)) aNil)))) (gC (.int 2)))
    (gPut 0 (gC (.int 0)) (gC (.int 3)))))
def f_law_next : List D → List D → Option (D × List D) := runP 1 1 g_law_next
def g_law_draw : GS := (gSeq (gIf (gB (gBin dLe (gIxM 0 (gC (.int 2))) (gC (.int 1)))) (gSeq (gPut 0 (gBin dAdd (gIxM 0 (gC (.int 3))) (gC (.int 1))) (gC (.int 3)))
    (gPut 0 (gFun f_law_rest (aCons (gIxM 0 (gC (.int 0))) (aCons (gIxM 0 (gC (.int 1))) (aCons (gIxM 0 (gC (.int 3))) aNil)))) (gC (.int 2)))) gSkip)
    (gSeq (gSet 2 (gBin dMod (gFun fInt (aCons (gIxM 0 (gC (.int 2))) aNil)) (gVar 1)))
    (gSeq (gPut 0 (gBin dFdiv (gFun fInt (aCons (gIxM 0 (gC (.int 2))) aNil)) (gVar 1)) (gC (.int 2)))
    (gRet (gVar 2)))))
def f_law_draw : List D → List D → Option (D × List D) := runP 3 2 g_law_draw
def g_law_add : GS := (gRet (gFun f_law_frac (aCons (gBin dAdd (gBin dMul (gBin dIx (gVar 0) (gC (.int 0))) (gBin dIx (gVar 1) (gC (.int 1)))) (gBin dMul (gBin dIx (gVar 1) (gC (.int 0))) (gBin dIx (gVar 0) (gC (.int 1))))) (aCons (gBin dMul (gBin dIx (gVar 0) (gC (.int 1))) (gBin dIx (gVar 1) (gC (.int 1)))) aNil))))
def f_law_add : List D → Option D := runD 2 2 g_law_add
def g_law_sub : GS := (gRet (gFun f_law_frac (aCons (gBin dSub (gBin dMul (gBin dIx (gVar 0) (gC (.int 0))) (gBin dIx (gVar 1) (gC (.int 1)))) (gBin dMul (gBin dIx (gVar 1) (gC (.int 0))) (gBin dIx (gVar 0) (gC (.int 1))))) (aCons (gBin dMul (gBin dIx (gVar 0) (gC (.int 1))) (gBin dIx (gVar 1) (gC (.int 1)))) aNil))))
def f_law_sub : List D → Option D := runD 2 2 g_law_sub
def g_law_mul : GS := (gRet (gFun f_law_frac (aCons (gBin dMul (gBin dIx (gVar 0) (gC (.int 0))) (gBin dIx (gVar 1) (gC (.int 0)))) (aCons (gBin dMul (gBin dIx (gVar 0) (gC (.int 1))) (gBin dIx (gVar 1) (gC (.int 1)))) aNil))))
def f_law_mul : List D → Option D := runD 2 2 g_law_mul
def g_law_div : GS := (gRet (gFun f_law_frac (aCons (gBin dMul (gBin dIx (gVar 0) (gC (.int 0))) (gBin dIx (gVar 1) (gC (.int 1)))) (aCons (gBin dMul (gBin dIx (gVar 0) (gC (.int 1))) (gBin dIx (gVar 1) (gC (.int 0)))) aNil))))
def f_law_div : List D → Option D := runD 2 2 g_law_div
def g_sums_of : GS := (gSeq (gSet 1 (gFun f_sum_of (aCons (gOfF (gLc (gItems (gVar 0)) (gTupG 2 (gConsG (gN 3) (gConsG (gN 4) gNoG))) gYes (gBin dIx (gVar 4) (gC (.int 0))) [3, 4])) aNil)))
    (gSeq (gSet 2 (gFun f_sum_of (aCons (gOfF (gLc (gItems (gVar 0)) (gTupG 2 (gConsG (gN 3) (gConsG (gN 4) gNoG))) gYes (gBin dIx (gVar 4) (gC (.int 1))) [3, 4])) aNil)))
    (gRet (gTpl (aCons (gVar 1) (aCons (gVar 2) (aCons (gFun f_sum_of (aCons (gOfF (gLc (gItems (gVar 0)) (gTupG 2 (gConsG (gN 5) (gConsG (gN 4) gNoG))) gYes (gFun f_turn_of (aCons (gVar 5) (aCons (gVar 4) aNil))) [5, 4])) aNil)) aNil)))))))
def f_sums_of : List D → Option D := runD 6 1 g_sums_of
def g_line_of : GS := (gRet (gTpl (aCons (gBin dIx (gVar 1) (gC (.int 1))) (aCons (gFun f_minus (aCons (gC (.tuple ([0, 1].map PyData.int))) (aCons (gBin dIx (gVar 1) (gC (.int 0))) aNil))) (aCons (gFun f_turn_of (aCons (gVar 0) (aCons (gVar 1) aNil))) aNil)))))
def f_line_of : List D → Option D := runD 2 2 g_line_of
def g_same_point : GS := (gSeq (gFor (gEnum (aCons (gVar 0) aNil)) (gTupG 2 (gConsG (gN 1) (gConsG (gN 2) gNoG))) (gFor (gItems (gCut (gVar 0) (oSome (gBin dAdd (gVar 1) (gC (.int 1)))) oNo)) (gN 3) (gSeq (gSet 4 (gFun f_meeting (aCons (gVar 2) (aCons (gVar 3) aNil))))
    (gIf (gB (gBin dIsNot (gVar 4) (gC .none))) (gRet (gFun fAll (aCons (gOfF (gLc (gItems (gVar 0)) (gN 5) gYes (gFun f_is_on (aCons (gVar 5) (aCons (gVar 4) aNil))) [5])) aNil))) gSkip))))
    (gRet (gC (.bool true))))
def f_same_point : List D → Option D := runD 6 1 g_same_point
def g_law_pick : GS := (gRet (gBin dIx (gVar 1) (gFunP 0 f_law_draw (aCons (gFun fLen (aCons (gVar 1) aNil)) aNil))))
def f_law_pick : List D → List D → Option (D × List D) := runP 2 2 g_law_pick
def g_law_turn : GS := (gRet (gFun f_law_sub (aCons (gFun f_law_mul (aCons (gBin dIx (gVar 0) (gC (.int 0))) (aCons (gBin dIx (gVar 1) (gC (.int 1))) aNil))) (aCons (gFun f_law_mul (aCons (gBin dIx (gVar 0) (gC (.int 1))) (aCons (gBin dIx (gVar 1) (gC (.int 0))) aNil))) aNil))))
def f_law_turn : List D → Option D := runD 2 2 g_law_turn
def g_law_on : GS := (gRet (gBin dEq (gFun f_law_add (aCons (gFun f_law_mul (aCons (gBin dIx (gVar 0) (gC (.int 0))) (aCons (gBin dIx (gVar 1) (gC (.int 0))) aNil))) (aCons (gFun f_law_mul (aCons (gBin dIx (gVar 0) (gC (.int 1))) (aCons (gBin dIx (gVar 1) (gC (.int 1))) aNil))) aNil))) (gBin dIx (gVar 0) (gC (.int 2)))))
def f_law_on : List D → Option D := runD 2 2 g_law_on
def g_law_back : GS := (gRet (gTpl (aCons (gFun f_law_sub (aCons (gTpl (aCons (gC (.int 0)) (aCons (gC (.int 1)) aNil))) (aCons (gBin dIx (gVar 0) (gC (.int 0))) aNil))) (aCons (gFun f_law_sub (aCons (gTpl (aCons (gC (.int 0)) (aCons (gC (.int 1)) aNil))) (aCons (gBin dIx (gVar 0) (gC (.int 1))) aNil))) aNil))))
def f_law_back : List D → Option D := runD 1 1 g_law_back
def g_whole_of : GS := (gSeq (gAsg (gFun f_sums_of (aCons (gVar 0) aNil)) (gTupG 3 (gConsG (gN 1) (gConsG (gN 2) (gConsG (gN 3) gNoG)))))
    (gSeq (gIf (gAnd (gB (gBin dEq (gVar 1) (gC (.tuple ([0, 1].map PyData.int))))) (gB (gBin dEq (gVar 2) (gC (.tuple ([0, 1].map PyData.int)))))) (gRet (gIfE (gB (gBin dEq (gVar 3) (gC (.tuple ([0, 1].map PyData.int))))) (gTpl (aCons (gC (.str "nothing")) aNil)) (gTpl (aCons (gC (.str "turn")) (aCons (gVar 3) aNil))))) gSkip)
    (gRet (gTpl (aCons (gC (.str "force")) (aCons (gTpl (aCons (gVar 2) (aCons (gFun f_minus (aCons (gC (.tuple ([0, 1].map PyData.int))) (aCons (gVar 1) aNil))) (aCons (gVar 3) aNil)))) (aCons (gTpl (aCons (gVar 1) (aCons (gVar 2) aNil))) aNil)))))))
def f_whole_of : List D → Option D := runD 4 1 g_whole_of
def g_about : GS := (gSeq (gAsg (gFun f_sums_of (aCons (gVar 1) aNil)) (gTupG 3 (gConsG (gN 2) (gConsG (gN 3) (gConsG (gN 4) gNoG)))))
    (gRet (gFun f_minus (aCons (gVar 4) (aCons (gFun f_turn_of (aCons (gVar 0) (aCons (gTpl (aCons (gVar 2) (aCons (gVar 3) aNil))) aNil))) aNil)))))
def f_about : List D → Option D := runD 5 2 g_about
def g_law_some : GS := (gRet (gFun f_law_frac (aCons (gBin dAdd (gVar 1) (gFunP 0 f_law_draw (aCons (gBin dAdd (gBin dSub (gVar 2) (gVar 1)) (gC (.int 1))) aNil))) (aCons (gFunP 0 f_law_pick (aCons (gOfF (gLst (aCons (gC (.int 1)) (aCons (gC (.int 1)) (aCons (gC (.int 2)) (aCons (gC (.int 3)) aNil)))))) aNil)) aNil))))
def f_law_some : List D → List D → Option (D × List D) := runP 3 3 g_law_some
def g_law_line : GS := (gRet (gTpl (aCons (gBin dIx (gVar 1) (gC (.int 1))) (aCons (gFun f_law_sub (aCons (gTpl (aCons (gC (.int 0)) (aCons (gC (.int 1)) aNil))) (aCons (gBin dIx (gVar 1) (gC (.int 0))) aNil))) (aCons (gFun f_law_turn (aCons (gVar 0) (aCons (gVar 1) aNil))) aNil)))))
def f_law_line : List D → Option D := runD 2 2 g_law_line
def g_law_point : GS := (gRet (gTpl (aCons (gFunP 0 f_law_some (aCons (gBin dSub (gC (.int 0)) (gVar 1)) (aCons (gVar 1) aNil))) (aCons (gFunP 0 f_law_some (aCons (gBin dSub (gC (.int 0)) (gVar 1)) (aCons (gVar 1) aNil))) aNil))))
def f_law_point : List D → List D → Option (D × List D) := runP 2 2 g_law_point
def g_law_same (f_rec : List D → Option D) : GS := (gSeq (gIf (gB (gUn (dIsi "dict") (gVar 1))) gNever gSkip)
    (gSeq (gIf (gOr (gB (gUn (dIsi "list") (gVar 1))) (gB (gUn (dIsi "tuple") (gVar 1)))) (gSeq (gIf (gOr (gB (gBin dNe (gUn (dIsi "list") (gVar 1)) (gUn (dIsi "list") (gVar 0)))) (gB (gBin dNe (gUn (dIsi "tuple") (gVar 1)) (gUn (dIsi "tuple") (gVar 0))))) (gRet (gC (.bool false))) gSkip)
    (gRet (gAndV (gBin dEq (gFun fLen (aCons (gVar 0) aNil)) (gFun fLen (aCons (gVar 1) aNil))) (gFun fAll (aCons (gOfF (gLc (gRange1 (aCons (gFun fLen (aCons (gVar 1) aNil)) aNil)) (gN 3) gYes (gFun f_rec (aCons (gBin dIx (gVar 0) (gVar 3)) (aCons (gBin dIx (gVar 1) (gVar 3)) aNil))) [3])) aNil))))) gSkip)
    (gSeq (gIf (gB (gUn (dIsi "str") (gVar 1))) (gRet (gAndV (gUn (dIsi "str") (gVar 0)) (gBin dEq (gVar 0) (gVar 1)))) gSkip)
    (gSeq (gIf (gOr (gB (gBin dIs (gVar 1) (gC .none))) (gOr (gB (gBin dIs (gVar 1) (gC (.bool true)))) (gB (gBin dIs (gVar 1) (gC (.bool false)))))) (gRet (gOrV (gAndV (gBin dIs (gVar 1) (gC .none)) (gBin dIs (gVar 0) (gC .none))) (gOrV (gAndV (gBin dIs (gVar 1) (gC (.bool true))) (gBin dIs (gVar 0) (gC (.bool true)))) (gAndV (gBin dIs (gVar 1) (gC (.bool false))) (gBin dIs (gVar 0) (gC (.bool false))))))) gSkip)
    (gRet (gAndV (gUn (dIsi "int") (gVar 0)) (gAndV (gNotV (gUn (dIsi "bool") (gVar 0))) (gBin dEq (gVar 0) (gVar 1)))))))))
def f_law_same : Nat → List D → Option D
  | 0 => fun _ => none
  | n + 1 => runD 4 2 (g_law_same (f_law_same n))
/-- line 131 -/
def g_law_s0 : GS := (gSetF 1 (gFunF f_law_pool (aCons (gVar 0) aNil)))
/-- line 132 -/
def g_law_s1 : GS := (gPar 2 3 (aCons (gTpl (aCons (gFunP 1 f_law_point (aCons (gC (.int 4)) aNil)) (aCons (gFunP 1 f_law_point (aCons (gC (.int 3)) aNil)) aNil))) (aCons (gTpl (aCons (gFunP 1 f_law_point (aCons (gC (.int 4)) aNil)) (aCons (gFunP 1 f_law_point (aCons (gC (.int 3)) aNil)) aNil))) aNil)))
/-- line 133 -/
def g_law_s2 : GS := (gSet 4 (gTpl (aCons (gTpl (aCons (gC (.int 0)) (aCons (gC (.int 1)) aNil))) (aCons (gTpl (aCons (gC (.int 0)) (aCons (gC (.int 1)) aNil))) aNil))))
/-- line 134 -/
def g_law_s3 : GS := (gIf (gOr (gB (gBin dEq (gBin dIx (gVar 2) (gC (.int 1))) (gVar 4))) (gB (gBin dEq (gBin dIx (gVar 3) (gC (.int 1))) (gVar 4)))) (gRet (gFun (f_law_same 6) (aCons (gFun f_whole_of (aCons (gOfF (gLst (aCons (gTpl (aCons (gBin dIx (gVar 2) (gC (.int 0))) (aCons (gVar 4) aNil))) (aCons (gTpl (aCons (gBin dIx (gVar 3) (gC (.int 0))) (aCons (gVar 4) aNil))) aNil)))) aNil)) (aCons (gTpl (aCons (gC (.str "nothing")) aNil)) aNil)))) gSkip)
/-- line 136 -/
def g_law_s4 : GS := (gDrop (gFunP 1 f_law_next aNil))
/-- line 137 -/
def g_law_s5 : GS := (gPar 5 6 (aCons (gFun f_line_of (aCons (gBin dIx (gVar 2) (gC (.int 0))) (aCons (gBin dIx (gVar 2) (gC (.int 1))) aNil))) (aCons (gFun f_line_of (aCons (gBin dIx (gVar 3) (gC (.int 0))) (aCons (gBin dIx (gVar 3) (gC (.int 1))) aNil))) aNil)))
/-- line 138 -/
def g_law_s6 : GS := (gIf (gNot (gB (gFun (f_law_same 6) (aCons (gOfF (gLst (aCons (gVar 5) (aCons (gVar 6) aNil)))) (aCons (gOfF (gLst (aCons (gFun f_law_line (aCons (gBin dIx (gVar 2) (gC (.int 0))) (aCons (gBin dIx (gVar 2) (gC (.int 1))) aNil))) (aCons (gFun f_law_line (aCons (gBin dIx (gVar 3) (gC (.int 0))) (aCons (gBin dIx (gVar 3) (gC (.int 1))) aNil))) aNil)))) aNil))))) (gRet (gC (.bool false))) gSkip)
/-- line 140 -/
def g_law_s7 : GS := (gSet 7 (gFun f_meeting (aCons (gVar 5) (aCons (gVar 6) aNil))))
/-- line 141 -/
def g_law_s8 : GS := (gSet 8 (gBin dEq (gFun f_law_sub (aCons (gFun f_law_mul (aCons (gBin dIx (gBin dIx (gVar 2) (gC (.int 1))) (gC (.int 0))) (aCons (gBin dIx (gBin dIx (gVar 3) (gC (.int 1))) (gC (.int 1))) aNil))) (aCons (gFun f_law_mul (aCons (gBin dIx (gBin dIx (gVar 2) (gC (.int 1))) (gC (.int 1))) (aCons (gBin dIx (gBin dIx (gVar 3) (gC (.int 1))) (gC (.int 0))) aNil))) aNil))) (gTpl (aCons (gC (.int 0)) (aCons (gC (.int 1)) aNil)))))
/-- line 142 -/
def g_law_s9 : GS := (gIf (gOr (gB (gBin dNe (gBin dIs (gVar 7) (gC .none)) (gVar 8))) (gAnd (gB (gBin dIsNot (gVar 7) (gC .none))) (gNot (gAnd (gB (gFun f_law_on (aCons (gVar 5) (aCons (gVar 7) aNil)))) (gAnd (gB (gFun f_law_on (aCons (gVar 6) (aCons (gVar 7) aNil)))) (gAnd (gB (gFun f_is_on (aCons (gVar 5) (aCons (gVar 7) aNil)))) (gB (gFun f_is_on (aCons (gVar 6) (aCons (gVar 7) aNil)))))))))) (gRet (gC (.bool false))) gSkip)
/-- line 144 -/
def g_law_s10 : GS := (gSet 9 (gTpl (aCons (gFun f_law_add (aCons (gBin dIx (gBin dIx (gVar 2) (gC (.int 1))) (gC (.int 0))) (aCons (gBin dIx (gBin dIx (gVar 3) (gC (.int 1))) (gC (.int 0))) aNil))) (aCons (gFun f_law_add (aCons (gBin dIx (gBin dIx (gVar 2) (gC (.int 1))) (gC (.int 1))) (aCons (gBin dIx (gBin dIx (gVar 3) (gC (.int 1))) (gC (.int 1))) aNil))) aNil))))
/-- line 145 -/
def g_law_s11 : GS := (gSet 10 (gFun f_whole_of (aCons (gOfF (gLst (aCons (gVar 2) (aCons (gVar 3) aNil)))) aNil)))
/-- line 146 -/
def g_law_s12 : GS := (gIf (gB (gBin dEq (gBin dIx (gVar 10) (gC (.int 0))) (gC (.str "force")))) (gSeq (gPar 11 12 (aCons (gBin dIx (gVar 10) (gC (.int 1))) (aCons (gBin dIx (gVar 10) (gC (.int 2))) aNil)))
    (gSeq (gIf (gOr (gB (gBin dNe (gVar 12) (gVar 9))) (gAnd (gB (gBin dIsNot (gVar 7) (gC .none))) (gB (gBin dIsNot (gFun f_is_on (aCons (gVar 11) (aCons (gVar 7) aNil))) (gC (.bool true)))))) (gRet (gC (.bool false))) gSkip)
    (gSeq (gSet 13 (gIfE (gB (gBin dNe (gBin dIx (gVar 11) (gC (.int 1))) (gTpl (aCons (gC (.int 0)) (aCons (gC (.int 1)) aNil))))) (gTpl (aCons (gTpl (aCons (gC (.int 0)) (aCons (gC (.int 1)) aNil))) (aCons (gFun f_law_div (aCons (gBin dIx (gVar 11) (gC (.int 2))) (aCons (gBin dIx (gVar 11) (gC (.int 1))) aNil))) aNil))) (gTpl (aCons (gFun f_law_div (aCons (gBin dIx (gVar 11) (gC (.int 2))) (aCons (gBin dIx (gVar 11) (gC (.int 0))) aNil))) (aCons (gTpl (aCons (gC (.int 0)) (aCons (gC (.int 1)) aNil))) aNil)))))
    (gSeq (gSet 14 (gTpl (aCons (gVar 13) (aCons (gFun f_law_back (aCons (gVar 12) aNil)) aNil))))
    (gSeq (gIf (gNot (gB (gFun (f_law_same 6) (aCons (gOfF (gLst (aCons (gFun f_whole_of (aCons (gOfF (gLst (aCons (gVar 2) (aCons (gVar 3) (aCons (gVar 14) aNil))))) aNil)) (aCons (gFun f_same_point (aCons (gOfF (gLst (aCons (gVar 5) (aCons (gVar 6) (aCons (gFun f_line_of (aCons (gVar 13) (aCons (gFun f_law_back (aCons (gVar 12) aNil)) aNil))) aNil))))) aNil)) aNil)))) (aCons (gOfF (gLst (aCons (gTpl (aCons (gC (.str "nothing")) aNil)) (aCons (gC (.bool true)) aNil)))) aNil))))) (gRet (gC (.bool false))) gSkip)
    (gSeq (gSet 15 (gTpl (aCons (gTpl (aCons (gFun f_law_add (aCons (gBin dIx (gVar 13) (gC (.int 0))) (aCons (gFun f_law_sub (aCons (gTpl (aCons (gC (.int 0)) (aCons (gC (.int 1)) aNil))) (aCons (gBin dIx (gVar 12) (gC (.int 1))) aNil))) aNil))) (aCons (gFun f_law_add (aCons (gBin dIx (gVar 13) (gC (.int 1))) (aCons (gBin dIx (gVar 12) (gC (.int 0))) aNil))) aNil))) (aCons (gFun f_law_back (aCons (gVar 12) aNil)) aNil))))
    (gSeq (gIf (gB (gBin dNe (gBin dIx (gFun f_whole_of (aCons (gOfF (gLst (aCons (gVar 2) (aCons (gVar 3) (aCons (gVar 15) aNil))))) aNil)) (gC (.int 0))) (gC (.str "turn")))) (gRet (gC (.bool false))) gSkip)
    (gIf (gAnd (gB (gBin dIsNot (gVar 7) (gC .none))) (gB (gBin dNe (gFun f_same_point (aCons (gOfF (gLst (aCons (gVar 5) (aCons (gVar 6) (aCons (gFun f_line_of (aCons (gBin dIx (gVar 15) (gC (.int 0))) (aCons (gBin dIx (gVar 15) (gC (.int 1))) aNil))) aNil))))) aNil)) (gFun f_is_on (aCons (gFun f_line_of (aCons (gBin dIx (gVar 15) (gC (.int 0))) (aCons (gBin dIx (gVar 15) (gC (.int 1))) aNil))) (aCons (gVar 7) aNil)))))) (gRet (gC (.bool false))) gSkip)))))))) gSkip)
/-- line 159 -/
def g_law_s13 : GS := (gSet 16 (gOfF (gLc (gRange1 (aCons (gBin dAdd (gC (.int 1)) (gFunP 1 f_law_draw (aCons (gC (.int 4)) aNil))) aNil)) (gN 30) gYes (gTpl (aCons (gFunP 1 f_law_point (aCons (gC (.int 4)) aNil)) (aCons (gFunP 1 f_law_point (aCons (gC (.int 3)) aNil)) aNil))) [30])))
/-- line 160 -/
def g_law_s14 : GS := (gSet 17 (gFun f_whole_of (aCons (gVar 16) aNil)))
/-- line 161 -/
def g_law_s15 : GS := (gAsg (gFun f_sums_of (aCons (gVar 16) aNil)) (gTupG 3 (gConsG (gN 18) (gConsG (gN 19) (gConsG (gN 20) gNoG)))))
/-- line 162 -/
def g_law_s16 : GS := (gIf (gB (gBin dEq (gBin dIx (gVar 17) (gC (.int 0))) (gC (.str "force")))) (gSeq (gAsg (gBin dIx (gVar 17) (gC (.int 1))) (gTupG 3 (gConsG (gN 21) (gConsG (gN 22) (gConsG (gN 23) gNoG)))))
    (gSeq (gSet 13 (gIfE (gB (gBin dNe (gVar 22) (gTpl (aCons (gC (.int 0)) (aCons (gC (.int 1)) aNil))))) (gTpl (aCons (gTpl (aCons (gC (.int 0)) (aCons (gC (.int 1)) aNil))) (aCons (gFun f_law_div (aCons (gVar 23) (aCons (gVar 22) aNil))) aNil))) (gTpl (aCons (gFun f_law_div (aCons (gVar 23) (aCons (gVar 21) aNil))) (aCons (gTpl (aCons (gC (.int 0)) (aCons (gC (.int 1)) aNil))) aNil)))))
    (gIf (gNot (gB (gFun (f_law_same 6) (aCons (gOfF (gLst (aCons (gFun f_whole_of (aCons (gBin dAdd (gVar 16) (gOfF (gLst (aCons (gTpl (aCons (gVar 13) (aCons (gFun f_law_back (aCons (gBin dIx (gVar 17) (gC (.int 2))) aNil)) aNil))) aNil)))) aNil)) (aCons (gFun f_about (aCons (gVar 13) (aCons (gVar 16) aNil))) aNil)))) (aCons (gOfF (gLst (aCons (gTpl (aCons (gC (.str "nothing")) aNil)) (aCons (gTpl (aCons (gC (.int 0)) (aCons (gC (.int 1)) aNil))) aNil)))) aNil))))) (gRet (gC (.bool false))) gSkip))) (gIf (gB (gBin dEq (gBin dIx (gVar 17) (gC (.int 0))) (gC (.str "turn")))) (gSeq (gSet 24 (gOfF (gLst (aCons (gTpl (aCons (gTpl (aCons (gTpl (aCons (gC (.int 0)) (aCons (gC (.int 1)) aNil))) (aCons (gTpl (aCons (gC (.int 0)) (aCons (gC (.int 1)) aNil))) aNil))) (aCons (gTpl (aCons (gTpl (aCons (gC (.int 0)) (aCons (gC (.int 1)) aNil))) (aCons (gTpl (aCons (gUn dNeg (gC (.int 1))) (aCons (gC (.int 1)) aNil))) aNil))) aNil))) (aCons (gTpl (aCons (gTpl (aCons (gFun f_law_sub (aCons (gTpl (aCons (gC (.int 0)) (aCons (gC (.int 1)) aNil))) (aCons (gVar 20) aNil))) (aCons (gTpl (aCons (gC (.int 0)) (aCons (gC (.int 1)) aNil))) aNil))) (aCons (gTpl (aCons (gTpl (aCons (gC (.int 0)) (aCons (gC (.int 1)) aNil))) (aCons (gTpl (aCons (gC (.int 1)) (aCons (gC (.int 1)) aNil))) aNil))) aNil))) aNil)))))
    (gIf (gNot (gB (gFun (f_law_same 6) (aCons (gOfF (gLst (aCons (gFun f_whole_of (aCons (gBin dAdd (gVar 16) (gVar 24)) aNil)) (aCons (gFun f_about (aCons (gFunP 1 f_law_point (aCons (gC (.int 3)) aNil)) (aCons (gVar 16) aNil))) aNil)))) (aCons (gOfF (gLst (aCons (gTpl (aCons (gC (.str "nothing")) aNil)) (aCons (gVar 20) aNil)))) aNil))))) (gRet (gC (.bool false))) gSkip)) (gIf (gB (gBin dNe (gTpl (aCons (gVar 18) (aCons (gVar 19) (aCons (gVar 20) aNil)))) (gTpl (aCons (gTpl (aCons (gC (.int 0)) (aCons (gC (.int 1)) aNil))) (aCons (gTpl (aCons (gC (.int 0)) (aCons (gC (.int 1)) aNil))) (aCons (gTpl (aCons (gC (.int 0)) (aCons (gC (.int 1)) aNil))) aNil)))))) (gRet (gC (.bool false))) gSkip)))
/-- line 173 -/
def g_law_s17 : GS := (gPar 25 26 (aCons (gFunP 1 f_law_some (aCons (gC (.int 1)) (aCons (gC (.int 5)) aNil))) (aCons (gFunP 1 f_law_some (aCons (gC (.int 1)) (aCons (gC (.int 5)) aNil))) aNil)))
/-- line 174 -/
def g_law_s18 : GS := (gSet 27 (gOfF (gLst (aCons (gFunP 1 f_law_point (aCons (gC (.int 4)) aNil)) (aCons (gFunP 1 f_law_point (aCons (gC (.int 4)) aNil)) aNil)))))
/-- line 175 -/
def g_law_s19 : GS := (gSet 24 (gOfF (gLst (aCons (gTpl (aCons (gBin dIx (gVar 27) (gC (.int 0))) (aCons (gTpl (aCons (gTpl (aCons (gC (.int 0)) (aCons (gC (.int 1)) aNil))) (aCons (gVar 25) aNil))) aNil))) (aCons (gTpl (aCons (gBin dIx (gVar 27) (gC (.int 1))) (aCons (gTpl (aCons (gTpl (aCons (gC (.int 0)) (aCons (gC (.int 1)) aNil))) (aCons (gVar 26) aNil))) aNil))) aNil)))))
/-- line 176 -/
def g_law_s20 : GS := (gSet 28 (gFun f_law_div (aCons (gFun f_law_add (aCons (gFun f_law_mul (aCons (gBin dIx (gBin dIx (gVar 27) (gC (.int 0))) (gC (.int 0))) (aCons (gVar 25) aNil))) (aCons (gFun f_law_mul (aCons (gBin dIx (gBin dIx (gVar 27) (gC (.int 1))) (gC (.int 0))) (aCons (gVar 26) aNil))) aNil))) (aCons (gFun f_law_add (aCons (gVar 25) (aCons (gVar 26) aNil))) aNil))))
/-- line 177 -/
def g_law_s21 : GS := (gSet 29 (gFun f_whole_of (aCons (gVar 24) aNil)))
/-- line 178 -/
def g_law_s22 : GS := (gIf (gOr (gB (gBin dNe (gBin dIx (gVar 29) (gC (.int 0))) (gC (.str "force")))) (gB (gBin dIsNot (gFun f_is_on (aCons (gBin dIx (gVar 29) (gC (.int 1))) (aCons (gTpl (aCons (gVar 28) (aCons (gTpl (aCons (gC (.int 7)) (aCons (gC (.int 1)) aNil))) aNil))) aNil))) (gC (.bool true))))) (gRet (gC (.bool false))) gSkip)
/-- line 180 -/
def g_law_s23 : GS := (gRet (gFun f_same_point (aCons (gOfF (gLst (aCons (gFun f_line_of (aCons (gBin dIx (gVar 27) (gC (.int 0))) (aCons (gBin dIx (gBin dIx (gVar 24) (gC (.int 0))) (gC (.int 1))) aNil))) (aCons (gFun f_line_of (aCons (gBin dIx (gVar 27) (gC (.int 1))) (aCons (gBin dIx (gBin dIx (gVar 24) (gC (.int 1))) (gC (.int 1))) aNil))) (aCons (gBin dIx (gVar 29) (gC (.int 1))) aNil))))) aNil)))
def g_law_t23 : GS := g_law_s23
def g_law_t22 : GS := gSeq g_law_s22 g_law_t23
def g_law_t21 : GS := gSeq g_law_s21 g_law_t22
def g_law_t20 : GS := gSeq g_law_s20 g_law_t21
def g_law_t19 : GS := gSeq g_law_s19 g_law_t20
def g_law_t18 : GS := gSeq g_law_s18 g_law_t19
def g_law_t17 : GS := gSeq g_law_s17 g_law_t18
def g_law_t16 : GS := gSeq g_law_s16 g_law_t17
def g_law_t15 : GS := gSeq g_law_s15 g_law_t16
def g_law_t14 : GS := gSeq g_law_s14 g_law_t15
def g_law_t13 : GS := gSeq g_law_s13 g_law_t14
def g_law_t12 : GS := gSeq g_law_s12 g_law_t13
def g_law_t11 : GS := gSeq g_law_s11 g_law_t12
def g_law_t10 : GS := gSeq g_law_s10 g_law_t11
def g_law_t9 : GS := gSeq g_law_s9 g_law_t10
def g_law_t8 : GS := gSeq g_law_s8 g_law_t9
def g_law_t7 : GS := gSeq g_law_s7 g_law_t8
def g_law_t6 : GS := gSeq g_law_s6 g_law_t7
def g_law_t5 : GS := gSeq g_law_s5 g_law_t6
def g_law_t4 : GS := gSeq g_law_s4 g_law_t5
def g_law_t3 : GS := gSeq g_law_s3 g_law_t4
def g_law_t2 : GS := gSeq g_law_s2 g_law_t3
def g_law_t1 : GS := gSeq g_law_s1 g_law_t2
def g_law_t0 : GS := gSeq g_law_s0 g_law_t1
def g_law : GS := g_law_t0
def f_law : List D → Option D := runD 31 1 g_law
end TB
namespace TB
open PySem L2
section
variable {P : Program} {w : World} {K : Fg} {mg : Str → Option Value} {base : Heap}
theorem sc_frac : FnScope ["p", "q", "shared"] ["p", "q"] (defScope s_frac) := ⟨rfl, rfl, rfl, by decide +kernel, rfl, by decide +kernel, by decide +kernel⟩
theorem ok_frac {f : Addr} {fd : FuncData} (F : Fun K "frac" "frac" s_frac f fd) (c_gcd : mg "gcd" = some (.builtin "math.gcd")) : FnOk P w K mg base CX0 1 f fd ["p", "q"] (spD K f_frac) := by
  exact fn_d (k := 0) F sc_frac (by decide) fun cdv A outer s H E hr => ⟨_, by
    unfold g_frac
    exact (s_cons (s_if (t_lt (d_var 1) d_int) (s_one (s_par 0 1 (d_cons (d_neg (d_var 0)) (d_cons (d_neg (d_var 1)) d_nil)) sc_frac.nd)) s_nil)
      (s_cons (s_set 2 (d_callM cr_gcd cok_gcd c_gcd (d_cons (d_var 0) (d_cons (d_var 1) d_nil))) sc_frac.nd)
      (s_one (s_ret (d_tup (d_cons (d_fdiv (d_var 0) (d_var 2)) (d_cons (d_fdiv (d_var 1) (d_var 2)) d_nil)))))))⟩
theorem sc_law_mixed : FnScope ["number", "place", "first", "second", "third"] ["number", "place"] (defScope s_law_mixed) := ⟨rfl, rfl, rfl, by decide +kernel, rfl, by decide +kernel, by decide +kernel⟩
theorem ok_law_mixed {f : Addr} {fd : FuncData} (F : Fun K "_law_mixed" "_law_mixed" s_law_mixed f fd) (b_int : mg "int" = none) : FnOk P w K mg base CX0 1 f fd ["number", "place"] (spD K f_law_mixed) := by
  exact fn_d (k := 0) F sc_law_mixed (by decide) fun cdv A outer s H E hr => ⟨_, by
    unfold g_law_mixed
    exact (s_cons (s_set 2 (d_mod (d_callTy call_int1 cok_int b_int (by decide +kernel) (d_cons (d_add (d_add (d_mul (d_var 0) d_int) (d_mul (d_var 1) d_int)) d_int) d_nil)) d_int) sc_law_mixed.nd)
      (s_cons (s_set 3 (d_mod (d_callTy call_int1 cok_int b_int (by decide +kernel) (d_cons (d_add (d_add (d_mul (d_var 2) (d_var 2)) (d_mul d_int (d_var 2))) (d_var 1)) d_nil)) d_int) sc_law_mixed.nd)
      (s_cons (s_set 4 (d_mod (d_callTy call_int1 cok_int b_int (by decide +kernel) (d_cons (d_add (d_mul (d_var 3) (d_var 3)) (d_var 2)) d_nil)) d_int) sc_law_mixed.nd)
      (s_one (s_ret (d_add (d_mul (d_var 3) d_int) (d_var 4)))))))⟩
theorem sc_law_gcd : FnScope ["a", "b", "turn"] ["a", "b"] (defScope s_law_gcd) := ⟨rfl, rfl, rfl, by decide +kernel, rfl, by decide +kernel, by decide +kernel⟩
theorem ok_law_gcd {f : Addr} {fd : FuncData} (F : Fun K "_law_gcd" "_law_gcd" s_law_gcd f fd) (b_int : mg "int" = none) (b_range : mg "range" = none) : FnOk P w K mg base CX0 1 f fd ["a", "b"] (spD K f_law_gcd) := by
  exact fn_d (k := 0) F sc_law_gcd (by decide) fun cdv A outer s H E hr => ⟨_, by
    unfold g_law_gcd
    exact (s_cons (s_for (i_range1 b_range (d_cons d_int d_nil)) (g_name 2 sc_law_gcd.nd) (s_cons (s_if (t_eq hr.units (d_var 1) d_int) (s_one s_break) s_nil)
      (s_one (s_par 0 1 (d_cons (d_var 1) (d_cons (d_mod (d_callTy call_int1 cok_int b_int (by decide +kernel) (d_cons (d_var 0) d_nil)) (d_callTy call_int1 cok_int b_int (by decide +kernel) (d_cons (d_var 1) d_nil))) d_nil)) sc_law_gcd.nd))) PassesOwn.never)
      (s_one (s_ret (d_var 0))))⟩
theorem sc_plus : FnScope ["a", "b"] ["a", "b"] (defScope s_plus) := ⟨rfl, rfl, rfl, by decide +kernel, rfl, by decide +kernel, by decide +kernel⟩
theorem ok_plus {f : Addr} {fd : FuncData} (F : Fun K "plus" "plus" s_plus f fd) (F_frac : FD P w K mg base 1 "frac" ["p", "q"] (spD K f_frac)) : FnOk P w K mg base CX0 2 f fd ["a", "b"] (spD K f_plus) := by
  exact fn_d (k := 1) F sc_plus (by decide) fun cdv A outer s H E hr => ⟨_, by
    unfold g_plus
    exact (s_one (s_ret (d_call F_frac (hr.mono (by decide)) (d_cons (d_add (d_mul (d_ix (d_var 0) d_int) (d_ix (d_var 1) d_int)) (d_mul (d_ix (d_var 1) d_int) (d_ix (d_var 0) d_int))) (d_cons (d_mul (d_ix (d_var 0) d_int) (d_ix (d_var 1) d_int)) d_nil)))))⟩
theorem sc_minus : FnScope ["a", "b"] ["a", "b"] (defScope s_minus) := ⟨rfl, rfl, rfl, by decide +kernel, rfl, by decide +kernel, by decide +kernel⟩
theorem ok_minus {f : Addr} {fd : FuncData} (F : Fun K "minus" "minus" s_minus f fd) (F_frac : FD P w K mg base 1 "frac" ["p", "q"] (spD K f_frac)) : FnOk P w K mg base CX0 2 f fd ["a", "b"] (spD K f_minus) := by
  exact fn_d (k := 1) F sc_minus (by decide) fun cdv A outer s H E hr => ⟨_, by
    unfold g_minus
    exact (s_one (s_ret (d_call F_frac (hr.mono (by decide)) (d_cons (d_sub (d_mul (d_ix (d_var 0) d_int) (d_ix (d_var 1) d_int)) (d_mul (d_ix (d_var 1) d_int) (d_ix (d_var 0) d_int))) (d_cons (d_mul (d_ix (d_var 0) d_int) (d_ix (d_var 1) d_int)) d_nil)))))⟩
theorem sc_times : FnScope ["a", "b"] ["a", "b"] (defScope s_times) := ⟨rfl, rfl, rfl, by decide +kernel, rfl, by decide +kernel, by decide +kernel⟩
theorem ok_times {f : Addr} {fd : FuncData} (F : Fun K "times" "times" s_times f fd) (F_frac : FD P w K mg base 1 "frac" ["p", "q"] (spD K f_frac)) : FnOk P w K mg base CX0 2 f fd ["a", "b"] (spD K f_times) := by
  exact fn_d (k := 1) F sc_times (by decide) fun cdv A outer s H E hr => ⟨_, by
    unfold g_times
    exact (s_one (s_ret (d_call F_frac (hr.mono (by decide)) (d_cons (d_mul (d_ix (d_var 0) d_int) (d_ix (d_var 1) d_int)) (d_cons (d_mul (d_ix (d_var 0) d_int) (d_ix (d_var 1) d_int)) d_nil)))))⟩
theorem sc_over : FnScope ["a", "b"] ["a", "b"] (defScope s_over) := ⟨rfl, rfl, rfl, by decide +kernel, rfl, by decide +kernel, by decide +kernel⟩
theorem ok_over {f : Addr} {fd : FuncData} (F : Fun K "over" "over" s_over f fd) (F_frac : FD P w K mg base 1 "frac" ["p", "q"] (spD K f_frac)) : FnOk P w K mg base CX0 2 f fd ["a", "b"] (spD K f_over) := by
  exact fn_d (k := 1) F sc_over (by decide) fun cdv A outer s H E hr => ⟨_, by
    unfold g_over
    exact (s_one (s_ret (d_call F_frac (hr.mono (by decide)) (d_cons (d_mul (d_ix (d_var 0) d_int) (d_ix (d_var 1) d_int)) (d_cons (d_mul (d_ix (d_var 0) d_int) (d_ix (d_var 1) d_int)) d_nil)))))⟩
theorem sc_law_rest : FnScope ["script", "place", "fills", "number"] ["script", "place", "fills"] (defScope s_law_rest) := ⟨rfl, rfl, rfl, by decide +kernel, rfl, by decide +kernel, by decide +kernel⟩
theorem ok_law_rest {f : Addr} {fd : FuncData} (F : Fun K "_law_rest" "_law_rest" s_law_rest f fd) (b_int : mg "int" = none) (b_len : mg "len" = none) (F_law_mixed : FD P w K mg base 1 "_law_mixed" ["number", "place"] (spD K f_law_mixed)) : FnOk P w K mg base CX0 2 f fd ["script", "place", "fills"] (spD K f_law_rest) := by
  exact fn_d (k := 1) F sc_law_rest (by decide) fun cdv A outer s H E hr => ⟨_, by
    unfold g_law_rest
    exact (s_cons (s_set 3 d_int sc_law_rest.nd)
      (s_cons (s_if (t_gt (d_len b_len (d_cons (d_var 0) d_nil)) d_int) (s_one (s_set 3 (d_callTy call_int1 cok_int b_int (by decide +kernel) (d_cons (d_ix (d_var 0) (d_mod (d_callTy call_int1 cok_int b_int (by decide +kernel) (d_cons (d_var 1) d_nil)) (d_len b_len (d_cons (d_var 0) d_nil)))) d_nil)) sc_law_rest.nd)) s_nil)
      (s_cons (s_if (t_lt (d_var 3) d_int) (s_one (s_set 3 (d_sub d_int (d_mul d_int (d_var 3))) sc_law_rest.nd)) s_nil)
      (s_cons (s_if (t_w (w_and (t_eq hr.units (d_var 2) d_int) (w_and (t_lt (d_var 1) (d_len b_len (d_cons (d_var 0) d_nil))) (w_and1 (t_ge (d_var 3) (d_pow d_int d_int)))))) (s_one (s_ret (d_sub (d_var 3) (d_pow d_int d_int)))) s_nil)
      (s_one (s_ret (d_call F_law_mixed (hr.mono (by decide)) (d_cons (d_add (d_var 3) (d_mul (d_var 2) d_int)) (d_cons (d_var 1) d_nil)))))))))⟩
theorem sc_law_frac : FnScope ["p", "q", "both"] ["p", "q"] (defScope s_law_frac) := ⟨rfl, rfl, rfl, by decide +kernel, rfl, by decide +kernel, by decide +kernel⟩
theorem ok_law_frac {f : Addr} {fd : FuncData} (F : Fun K "_law_frac" "_law_frac" s_law_frac f fd) (F_law_gcd : FD P w K mg base 1 "_law_gcd" ["a", "b"] (spD K f_law_gcd)) : FnOk P w K mg base CX0 2 f fd ["p", "q"] (spD K f_law_frac) := by
  exact fn_d (k := 1) F sc_law_frac (by decide) fun cdv A outer s H E hr => ⟨_, by
    unfold g_law_frac
    exact (s_cons (s_if (t_lt (d_var 1) d_int) (s_one (s_par 0 1 (d_cons (d_sub d_int (d_var 0)) (d_cons (d_sub d_int (d_var 1)) d_nil)) sc_law_frac.nd)) s_nil)
      (s_cons (s_set 2 (d_call F_law_gcd (hr.mono (by decide)) (d_cons (d_ifE (t_ge (d_var 0) d_int) (d_var 0) (d_sub d_int (d_var 0))) (d_cons (d_var 1) d_nil))) sc_law_frac.nd)
      (s_one (s_ret (d_tup (d_cons (d_fdiv (d_var 0) (d_var 2)) (d_cons (d_fdiv (d_var 1) (d_var 2)) d_nil)))))))⟩
theorem sc_sum_of : FnScope ["numbers", "found", "number"] ["numbers"] (defScope s_sum_of) := ⟨rfl, rfl, rfl, by decide +kernel, rfl, by decide +kernel, by decide +kernel⟩
theorem ok_sum_of {f : Addr} {fd : FuncData} (F : Fun K "sum_of" "sum_of" s_sum_of f fd) (c_NOUGHT : ∃ a, mg "NOUGHT" = some (.ref a) ∧ KTup K a [0, 1]) (F_plus : FD P w K mg base 2 "plus" ["a", "b"] (spD K f_plus)) : FnOk P w K mg base CX0 3 f fd ["numbers"] (spD K f_sum_of) := by
  obtain ⟨a_NOUGHT, c_NOUGHT⟩ := c_NOUGHT
  exact fn_d (k := 2) F sc_sum_of (by decide) fun cdv A outer s H E hr => ⟨_, by
    unfold g_sum_of
    exact (s_cons (s_set 1 (d_gtup (by rfl) c_NOUGHT.1 c_NOUGHT.2) sc_sum_of.nd)
      (s_cons (s_for (i_list (d_var 0)) (g_name 2 sc_sum_of.nd) (s_one (s_set 1 (d_call F_plus (hr.mono (by decide)) (d_cons (d_var 1) (d_cons (d_var 2) d_nil))) sc_sum_of.nd)) PassesOwn.never)
      (s_one (s_ret (d_var 1)))))⟩
theorem sc_turn_of : FnScope ["point", "force"] ["point", "force"] (defScope s_turn_of) := ⟨rfl, rfl, rfl, by decide +kernel, rfl, by decide +kernel, by decide +kernel⟩
theorem ok_turn_of {f : Addr} {fd : FuncData} (F : Fun K "turn_of" "turn_of" s_turn_of f fd) (F_minus : FD P w K mg base 2 "minus" ["a", "b"] (spD K f_minus)) (F_times : FD P w K mg base 2 "times" ["a", "b"] (spD K f_times)) : FnOk P w K mg base CX0 3 f fd ["point", "force"] (spD K f_turn_of) := by
  exact fn_d (k := 2) F sc_turn_of (by decide) fun cdv A outer s H E hr => ⟨_, by
    unfold g_turn_of
    exact (s_one (s_ret (d_call F_minus (hr.mono (by decide)) (d_cons (d_call F_times (hr.mono (by decide)) (d_cons (d_ix (d_var 0) d_int) (d_cons (d_ix (d_var 1) d_int) d_nil))) (d_cons (d_call F_times (hr.mono (by decide)) (d_cons (d_ix (d_var 0) d_int) (d_cons (d_ix (d_var 1) d_int) d_nil))) d_nil)))))⟩
theorem sc_is_on : FnScope ["line", "point"] ["line", "point"] (defScope s_is_on) := ⟨rfl, rfl, rfl, by decide +kernel, rfl, by decide +kernel, by decide +kernel⟩
theorem ok_is_on {f : Addr} {fd : FuncData} (F : Fun K "is_on" "is_on" s_is_on f fd) (F_plus : FD P w K mg base 2 "plus" ["a", "b"] (spD K f_plus)) (F_times : FD P w K mg base 2 "times" ["a", "b"] (spD K f_times)) : FnOk P w K mg base CX0 3 f fd ["line", "point"] (spD K f_is_on) := by
  exact fn_d (k := 2) F sc_is_on (by decide) fun cdv A outer s H E hr => ⟨_, by
    unfold g_is_on
    exact (s_one (s_ret (d_eq hr.units (d_call F_plus (hr.mono (by decide)) (d_cons (d_call F_times (hr.mono (by decide)) (d_cons (d_ix (d_var 0) d_int) (d_cons (d_ix (d_var 1) d_int) d_nil))) (d_cons (d_call F_times (hr.mono (by decide)) (d_cons (d_ix (d_var 0) d_int) (d_cons (d_ix (d_var 1) d_int) d_nil))) d_nil))) (d_ix (d_var 0) d_int))))⟩
theorem sc_meeting : FnScope ["one", "other", "low", "across", "up"] ["one", "other"] (defScope s_meeting) := ⟨rfl, rfl, rfl, by decide +kernel, rfl, by decide +kernel, by decide +kernel⟩
theorem ok_meeting {f : Addr} {fd : FuncData} (F : Fun K "meeting" "meeting" s_meeting f fd) (c_NOUGHT : ∃ a, mg "NOUGHT" = some (.ref a) ∧ KTup K a [0, 1]) (F_minus : FD P w K mg base 2 "minus" ["a", "b"] (spD K f_minus)) (F_over : FD P w K mg base 2 "over" ["a", "b"] (spD K f_over)) (F_times : FD P w K mg base 2 "times" ["a", "b"] (spD K f_times)) : FnOk P w K mg base CX0 3 f fd ["one", "other"] (spD K f_meeting) := by
  obtain ⟨a_NOUGHT, c_NOUGHT⟩ := c_NOUGHT
  exact fn_d (k := 2) F sc_meeting (by decide) fun cdv A outer s H E hr => ⟨_, by
    unfold g_meeting
    exact (s_cons (s_set 2 (d_call F_minus (hr.mono (by decide)) (d_cons (d_call F_times (hr.mono (by decide)) (d_cons (d_ix (d_var 0) d_int) (d_cons (d_ix (d_var 1) d_int) d_nil))) (d_cons (d_call F_times (hr.mono (by decide)) (d_cons (d_ix (d_var 0) d_int) (d_cons (d_ix (d_var 1) d_int) d_nil))) d_nil))) sc_meeting.nd)
      (s_cons (s_if (t_eq hr.units (d_var 2) (d_gtup (by rfl) c_NOUGHT.1 c_NOUGHT.2)) (s_one (s_ret d_non)) s_nil)
      (s_cons (s_set 3 (d_call F_minus (hr.mono (by decide)) (d_cons (d_call F_times (hr.mono (by decide)) (d_cons (d_ix (d_var 0) d_int) (d_cons (d_ix (d_var 1) d_int) d_nil))) (d_cons (d_call F_times (hr.mono (by decide)) (d_cons (d_ix (d_var 0) d_int) (d_cons (d_ix (d_var 1) d_int) d_nil))) d_nil))) sc_meeting.nd)
      (s_cons (s_set 4 (d_call F_minus (hr.mono (by decide)) (d_cons (d_call F_times (hr.mono (by decide)) (d_cons (d_ix (d_var 0) d_int) (d_cons (d_ix (d_var 1) d_int) d_nil))) (d_cons (d_call F_times (hr.mono (by decide)) (d_cons (d_ix (d_var 0) d_int) (d_cons (d_ix (d_var 1) d_int) d_nil))) d_nil))) sc_meeting.nd)
      (s_one (s_ret (d_tup (d_cons (d_call F_over (hr.mono (by decide)) (d_cons (d_var 3) (d_cons (d_var 2) d_nil))) (d_cons (d_call F_over (hr.mono (by decide)) (d_cons (d_var 4) (d_cons (d_var 2) d_nil))) d_nil)))))))))⟩
theorem sc_law_pool : FnScope ["script"] ["script"] (defScope s_law_pool) := ⟨rfl, rfl, rfl, by decide +kernel, rfl, by decide +kernel, by decide +kernel⟩
theorem ok_law_pool {f : Addr} {fd : FuncData} (F : Fun K "_law_pool" "_law_pool" s_law_pool f fd) (F_law_rest : FD P w K mg base 2 "_law_rest" ["script", "place", "fills"] (spD K f_law_rest)) : FnOk P w K mg base CX0 3 f fd ["script"] (spF K f_law_pool) := by
  exact fn_f (k := 2) F sc_law_pool (by decide) fun cdv A outer s H E hr => ⟨_, by
    unfold g_law_pool
    exact (s_one (s_retF (d_lst (d_cons (d_var 0) (d_cons d_int (d_cons (d_call F_law_rest (hr.mono (by decide)) (d_cons (d_var 0) (d_cons d_int (d_cons d_int d_nil)))) (d_cons d_int d_nil)))))))⟩
theorem sc_law_next : FnScope ["pool"] ["pool"] (defScope s_law_next) := ⟨rfl, rfl, rfl, by decide +kernel, rfl, by decide +kernel, by decide +kernel⟩
theorem ok_law_next {f : Addr} {fd : FuncData} (F : Fun K "_law_next" "_law_next" s_law_next f fd) (F_law_rest : FD P w K mg base 2 "_law_rest" ["script", "place", "fills"] (spD K f_law_rest)) : FnOk P w K mg base CX0 3 f fd ["pool"] (spP K f_law_next) := by
  exact fn_p (k := 2) F sc_law_next (by decide) fun cdv A outer s H E hr => ⟨_, by
    unfold g_law_next
    exact (s_cons (s_put 0 (d_add (d_ixM 0 d_int) d_int) d_int)
      (s_cons (s_put 0 (d_call F_law_rest (hr.mono (by decide)) (d_cons (d_ixM 0 d_int) (d_cons (d_ixM 0 d_int) (d_cons d_int d_nil)))) d_int)
      (s_one (s_put 0 d_int d_int))))⟩
theorem sc_law_draw : FnScope ["pool", "limit", "value"] ["pool", "limit"] (defScope s_law_draw) := ⟨rfl, rfl, rfl, by decide +kernel, rfl, by decide +kernel, by decide +kernel⟩
theorem ok_law_draw {f : Addr} {fd : FuncData} (F : Fun K "_law_draw" "_law_draw" s_law_draw f fd) (b_int : mg "int" = none) (F_law_rest : FD P w K mg base 2 "_law_rest" ["script", "place", "fills"] (spD K f_law_rest)) : FnOk P w K mg base CX0 3 f fd ["pool", "limit"] (spP K f_law_draw) := by
  exact fn_p (k := 2) F sc_law_draw (by decide) fun cdv A outer s H E hr => ⟨_, by
    unfold g_law_draw
    exact (s_cons (s_if (t_le (d_ixM 0 d_int) d_int) (s_cons (s_put 0 (d_add (d_ixM 0 d_int) d_int) d_int)
      (s_one (s_put 0 (d_call F_law_rest (hr.mono (by decide)) (d_cons (d_ixM 0 d_int) (d_cons (d_ixM 0 d_int) (d_cons (d_ixM 0 d_int) d_nil)))) d_int))) s_nil)
      (s_cons (s_set 2 (d_mod (d_callTy call_int1 cok_int b_int (by decide +kernel) (d_cons (d_ixM 0 d_int) d_nil)) (d_var 1)) sc_law_draw.nd)
      (s_cons (s_put 0 (d_fdiv (d_callTy call_int1 cok_int b_int (by decide +kernel) (d_cons (d_ixM 0 d_int) d_nil)) (d_var 1)) d_int)
      (s_one (s_ret (d_var 2))))))⟩
theorem sc_law_add : FnScope ["one", "other"] ["one", "other"] (defScope s_law_add) := ⟨rfl, rfl, rfl, by decide +kernel, rfl, by decide +kernel, by decide +kernel⟩
theorem ok_law_add {f : Addr} {fd : FuncData} (F : Fun K "_law_add" "_law_add" s_law_add f fd) (F_law_frac : FD P w K mg base 2 "_law_frac" ["p", "q"] (spD K f_law_frac)) : FnOk P w K mg base CX0 3 f fd ["one", "other"] (spD K f_law_add) := by
  exact fn_d (k := 2) F sc_law_add (by decide) fun cdv A outer s H E hr => ⟨_, by
    unfold g_law_add
    exact (s_one (s_ret (d_call F_law_frac (hr.mono (by decide)) (d_cons (d_add (d_mul (d_ix (d_var 0) d_int) (d_ix (d_var 1) d_int)) (d_mul (d_ix (d_var 1) d_int) (d_ix (d_var 0) d_int))) (d_cons (d_mul (d_ix (d_var 0) d_int) (d_ix (d_var 1) d_int)) d_nil)))))⟩
theorem sc_law_sub : FnScope ["one", "other"] ["one", "other"] (defScope s_law_sub) := ⟨rfl, rfl, rfl, by decide +kernel, rfl, by decide +kernel, by decide +kernel⟩
theorem ok_law_sub {f : Addr} {fd : FuncData} (F : Fun K "_law_sub" "_law_sub" s_law_sub f fd) (F_law_frac : FD P w K mg base 2 "_law_frac" ["p", "q"] (spD K f_law_frac)) : FnOk P w K mg base CX0 3 f fd ["one", "other"] (spD K f_law_sub) := by
  exact fn_d (k := 2) F sc_law_sub (by decide) fun cdv A outer s H E hr => ⟨_, by
    unfold g_law_sub
    exact (s_one (s_ret (d_call F_law_frac (hr.mono (by decide)) (d_cons (d_sub (d_mul (d_ix (d_var 0) d_int) (d_ix (d_var 1) d_int)) (d_mul (d_ix (d_var 1) d_int) (d_ix (d_var 0) d_int))) (d_cons (d_mul (d_ix (d_var 0) d_int) (d_ix (d_var 1) d_int)) d_nil)))))⟩
theorem sc_law_mul : FnScope ["one", "other"] ["one", "other"] (defScope s_law_mul) := ⟨rfl, rfl, rfl, by decide +kernel, rfl, by decide +kernel, by decide +kernel⟩
theorem ok_law_mul {f : Addr} {fd : FuncData} (F : Fun K "_law_mul" "_law_mul" s_law_mul f fd) (F_law_frac : FD P w K mg base 2 "_law_frac" ["p", "q"] (spD K f_law_frac)) : FnOk P w K mg base CX0 3 f fd ["one", "other"] (spD K f_law_mul) := by
  exact fn_d (k := 2) F sc_law_mul (by decide) fun cdv A outer s H E hr => ⟨_, by
    unfold g_law_mul
    exact (s_one (s_ret (d_call F_law_frac (hr.mono (by decide)) (d_cons (d_mul (d_ix (d_var 0) d_int) (d_ix (d_var 1) d_int)) (d_cons (d_mul (d_ix (d_var 0) d_int) (d_ix (d_var 1) d_int)) d_nil)))))⟩
theorem sc_law_div : FnScope ["one", "other"] ["one", "other"] (defScope s_law_div) := ⟨rfl, rfl, rfl, by decide +kernel, rfl, by decide +kernel, by decide +kernel⟩
theorem ok_law_div {f : Addr} {fd : FuncData} (F : Fun K "_law_div" "_law_div" s_law_div f fd) (F_law_frac : FD P w K mg base 2 "_law_frac" ["p", "q"] (spD K f_law_frac)) : FnOk P w K mg base CX0 3 f fd ["one", "other"] (spD K f_law_div) := by
  exact fn_d (k := 2) F sc_law_div (by decide) fun cdv A outer s H E hr => ⟨_, by
    unfold g_law_div
    exact (s_one (s_ret (d_call F_law_frac (hr.mono (by decide)) (d_cons (d_mul (d_ix (d_var 0) d_int) (d_ix (d_var 1) d_int)) (d_cons (d_mul (d_ix (d_var 0) d_int) (d_ix (d_var 1) d_int)) d_nil)))))⟩
theorem sc_sums_of : FnScope ["forces", "across", "up", "_", "force", "point"] ["forces"] (defScope s_sums_of) := ⟨rfl, rfl, rfl, by decide +kernel, rfl, by decide +kernel, by decide +kernel⟩
theorem ok_sums_of {f : Addr} {fd : FuncData} (F : Fun K "sums_of" "sums_of" s_sums_of f fd) (F_sum_of : FD P w K mg base 3 "sum_of" ["numbers"] (spD K f_sum_of)) (F_turn_of : FD P w K mg base 3 "turn_of" ["point", "force"] (spD K f_turn_of)) : FnOk P w K mg base CX0 4 f fd ["forces"] (spD K f_sums_of) := by
  exact fn_d (k := 3) F sc_sums_of (by decide) fun cdv A outer s H E hr => ⟨_, by
    unfold g_sums_of
    exact (s_cons (s_set 1 (d_call F_sum_of (hr.mono (by decide)) (d_cons (d_ofF (d_lc [("_", 3), ("force", 4)] (i_list (d_var 0)) (blkOk_by (own := [("_", 3), ("force", 4)]) (N := ["forces", "across", "up", "_", "force", "point"]) (sc := defScope s_sums_of) (by decide +kernel)) (fun _ _ _ _ _ => (g_tup (g_cons (g_name 3 sc_sums_of.nd) (g_cons (g_name 4 sc_sums_of.nd) g_nil)))) (fun _ _ _ _ _ => c_nil) (fun _ _ _ _ _ => (d_ix (d_var 4) d_int)) sc_sums_of.nd (s, H))) d_nil)) sc_sums_of.nd)
      (s_cons (s_set 2 (d_call F_sum_of (hr.mono (by decide)) (d_cons (d_ofF (d_lc [("_", 3), ("force", 4)] (i_list (d_var 0)) (blkOk_by (own := [("_", 3), ("force", 4)]) (N := ["forces", "across", "up", "_", "force", "point"]) (sc := defScope s_sums_of) (by decide +kernel)) (fun _ _ _ _ _ => (g_tup (g_cons (g_name 3 sc_sums_of.nd) (g_cons (g_name 4 sc_sums_of.nd) g_nil)))) (fun _ _ _ _ _ => c_nil) (fun _ _ _ _ _ => (d_ix (d_var 4) d_int)) sc_sums_of.nd (s, H))) d_nil)) sc_sums_of.nd)
      (s_one (s_ret (d_tup (d_cons (d_var 1) (d_cons (d_var 2) (d_cons (d_call F_sum_of (hr.mono (by decide)) (d_cons (d_ofF (d_lc [("point", 5), ("force", 4)] (i_list (d_var 0)) (blkOk_by (own := [("point", 5), ("force", 4)]) (N := ["forces", "across", "up", "_", "force", "point"]) (sc := defScope s_sums_of) (by decide +kernel)) (fun _ _ _ _ _ => (g_tup (g_cons (g_name 5 sc_sums_of.nd) (g_cons (g_name 4 sc_sums_of.nd) g_nil)))) (fun _ _ _ _ _ => c_nil) (fun _ _ _ _ _ => (d_call F_turn_of (hr.mono (by decide)) (d_cons (d_var 5) (d_cons (d_var 4) d_nil)))) sc_sums_of.nd (s, H))) d_nil)) d_nil))))))))⟩
theorem sc_line_of : FnScope ["point", "force"] ["point", "force"] (defScope s_line_of) := ⟨rfl, rfl, rfl, by decide +kernel, rfl, by decide +kernel, by decide +kernel⟩
theorem ok_line_of {f : Addr} {fd : FuncData} (F : Fun K "line_of" "line_of" s_line_of f fd) (c_NOUGHT : ∃ a, mg "NOUGHT" = some (.ref a) ∧ KTup K a [0, 1]) (F_minus : FD P w K mg base 2 "minus" ["a", "b"] (spD K f_minus)) (F_turn_of : FD P w K mg base 3 "turn_of" ["point", "force"] (spD K f_turn_of)) : FnOk P w K mg base CX0 4 f fd ["point", "force"] (spD K f_line_of) := by
  obtain ⟨a_NOUGHT, c_NOUGHT⟩ := c_NOUGHT
  exact fn_d (k := 3) F sc_line_of (by decide) fun cdv A outer s H E hr => ⟨_, by
    unfold g_line_of
    exact (s_one (s_ret (d_tup (d_cons (d_ix (d_var 1) d_int) (d_cons (d_call F_minus (hr.mono (by decide)) (d_cons (d_gtup (by rfl) c_NOUGHT.1 c_NOUGHT.2) (d_cons (d_ix (d_var 1) d_int) d_nil))) (d_cons (d_call F_turn_of (hr.mono (by decide)) (d_cons (d_var 0) (d_cons (d_var 1) d_nil))) d_nil))))))⟩
theorem sc_same_point : FnScope ["lines", "at", "one", "other", "point", "line"] ["lines"] (defScope s_same_point) := ⟨rfl, rfl, rfl, by decide +kernel, rfl, by decide +kernel, by decide +kernel⟩
theorem ok_same_point {f : Addr} {fd : FuncData} (F : Fun K "same_point" "same_point" s_same_point f fd) (b_all : mg "all" = none) (b_enumerate : mg "enumerate" = none) (F_is_on : FD P w K mg base 3 "is_on" ["line", "point"] (spD K f_is_on)) (F_meeting : FD P w K mg base 3 "meeting" ["one", "other"] (spD K f_meeting)) : FnOk P w K mg base CX0 4 f fd ["lines"] (spD K f_same_point) := by
  exact fn_d (k := 3) F sc_same_point (by decide) fun cdv A outer s H E hr => ⟨_, by
    unfold g_same_point
    exact (s_cons (s_for (i_enum b_enumerate (d_cons (d_var 0) d_nil)) (g_tup (g_cons (g_name 1 sc_same_point.nd) (g_cons (g_name 2 sc_same_point.nd) g_nil))) (s_one (s_for (i_list (d_cut (d_var 0) (o_some (d_add (d_var 1) d_int)) o_no)) (g_name 3 sc_same_point.nd) (s_cons (s_set 4 (d_call F_meeting (hr.mono (by decide)) (d_cons (d_var 2) (d_cons (d_var 3) d_nil))) sc_same_point.nd)
      (s_one (s_if (t_isNot (d_var 4) d_non) (s_one (s_ret (d_callB (by exact cr_all rfl) cok_all b_all (by decide +kernel) (d_cons (d_ofF (d_lc [("line", 5)] (i_list (d_var 0)) (blkOk_by (own := [("line", 5)]) (N := ["lines", "at", "one", "other", "point", "line"]) (sc := defScope s_same_point) (by decide +kernel)) (fun _ _ _ _ _ => (g_name 5 sc_same_point.nd)) (fun _ _ _ _ _ => c_nil) (fun _ _ _ _ _ => (d_call F_is_on (hr.mono (by decide)) (d_cons (d_var 5) (d_cons (d_var 4) d_nil)))) sc_same_point.nd (s, H))) d_nil)))) s_nil))) PassesOwn.never)) PassesOwn.never)
      (s_one (s_ret d_bl)))⟩
theorem sc_law_pick : FnScope ["pool", "options"] ["pool", "options"] (defScope s_law_pick) := ⟨rfl, rfl, rfl, by decide +kernel, rfl, by decide +kernel, by decide +kernel⟩
theorem ok_law_pick {f : Addr} {fd : FuncData} (F : Fun K "_law_pick" "_law_pick" s_law_pick f fd) (b_len : mg "len" = none) (F_law_draw : FD P w K mg base 3 "_law_draw" ["pool", "limit"] (spP K f_law_draw)) : FnOk P w K mg base CX0 4 f fd ["pool", "options"] (spP K f_law_pick) := by
  exact fn_p (k := 3) F sc_law_pick (by decide) fun cdv A outer s H E hr => ⟨_, by
    unfold g_law_pick
    exact (s_one (s_ret (d_ix (d_var 1) (d_callP 0 F_law_draw (hr.mono (by decide)) (d_cons (d_len b_len (d_cons (d_var 1) d_nil)) d_nil)))))⟩
theorem sc_law_turn : FnScope ["point", "force"] ["point", "force"] (defScope s_law_turn) := ⟨rfl, rfl, rfl, by decide +kernel, rfl, by decide +kernel, by decide +kernel⟩
theorem ok_law_turn {f : Addr} {fd : FuncData} (F : Fun K "_law_turn" "_law_turn" s_law_turn f fd) (F_law_mul : FD P w K mg base 3 "_law_mul" ["one", "other"] (spD K f_law_mul)) (F_law_sub : FD P w K mg base 3 "_law_sub" ["one", "other"] (spD K f_law_sub)) : FnOk P w K mg base CX0 4 f fd ["point", "force"] (spD K f_law_turn) := by
  exact fn_d (k := 3) F sc_law_turn (by decide) fun cdv A outer s H E hr => ⟨_, by
    unfold g_law_turn
    exact (s_one (s_ret (d_call F_law_sub (hr.mono (by decide)) (d_cons (d_call F_law_mul (hr.mono (by decide)) (d_cons (d_ix (d_var 0) d_int) (d_cons (d_ix (d_var 1) d_int) d_nil))) (d_cons (d_call F_law_mul (hr.mono (by decide)) (d_cons (d_ix (d_var 0) d_int) (d_cons (d_ix (d_var 1) d_int) d_nil))) d_nil)))))⟩
theorem sc_law_on : FnScope ["line", "point"] ["line", "point"] (defScope s_law_on) := ⟨rfl, rfl, rfl, by decide +kernel, rfl, by decide +kernel, by decide +kernel⟩
theorem ok_law_on {f : Addr} {fd : FuncData} (F : Fun K "_law_on" "_law_on" s_law_on f fd) (F_law_add : FD P w K mg base 3 "_law_add" ["one", "other"] (spD K f_law_add)) (F_law_mul : FD P w K mg base 3 "_law_mul" ["one", "other"] (spD K f_law_mul)) : FnOk P w K mg base CX0 4 f fd ["line", "point"] (spD K f_law_on) := by
  exact fn_d (k := 3) F sc_law_on (by decide) fun cdv A outer s H E hr => ⟨_, by
    unfold g_law_on
    exact (s_one (s_ret (d_eq hr.units (d_call F_law_add (hr.mono (by decide)) (d_cons (d_call F_law_mul (hr.mono (by decide)) (d_cons (d_ix (d_var 0) d_int) (d_cons (d_ix (d_var 1) d_int) d_nil))) (d_cons (d_call F_law_mul (hr.mono (by decide)) (d_cons (d_ix (d_var 0) d_int) (d_cons (d_ix (d_var 1) d_int) d_nil))) d_nil))) (d_ix (d_var 0) d_int))))⟩
theorem sc_law_back : FnScope ["force"] ["force"] (defScope s_law_back) := ⟨rfl, rfl, rfl, by decide +kernel, rfl, by decide +kernel, by decide +kernel⟩
theorem ok_law_back {f : Addr} {fd : FuncData} (F : Fun K "_law_back" "_law_back" s_law_back f fd) (F_law_sub : FD P w K mg base 3 "_law_sub" ["one", "other"] (spD K f_law_sub)) : FnOk P w K mg base CX0 4 f fd ["force"] (spD K f_law_back) := by
  exact fn_d (k := 3) F sc_law_back (by decide) fun cdv A outer s H E hr => ⟨_, by
    unfold g_law_back
    exact (s_one (s_ret (d_tup (d_cons (d_call F_law_sub (hr.mono (by decide)) (d_cons (d_tup (d_cons d_int (d_cons d_int d_nil))) (d_cons (d_ix (d_var 0) d_int) d_nil))) (d_cons (d_call F_law_sub (hr.mono (by decide)) (d_cons (d_tup (d_cons d_int (d_cons d_int d_nil))) (d_cons (d_ix (d_var 0) d_int) d_nil))) d_nil)))))⟩
theorem sc_whole_of : FnScope ["forces", "across", "up", "turn"] ["forces"] (defScope s_whole_of) := ⟨rfl, rfl, rfl, by decide +kernel, rfl, by decide +kernel, by decide +kernel⟩
theorem ok_whole_of {f : Addr} {fd : FuncData} (F : Fun K "whole_of" "whole_of" s_whole_of f fd) (c_NOUGHT : ∃ a, mg "NOUGHT" = some (.ref a) ∧ KTup K a [0, 1]) (F_minus : FD P w K mg base 2 "minus" ["a", "b"] (spD K f_minus)) (F_sums_of : FD P w K mg base 4 "sums_of" ["forces"] (spD K f_sums_of)) : FnOk P w K mg base CX0 5 f fd ["forces"] (spD K f_whole_of) := by
  obtain ⟨a_NOUGHT, c_NOUGHT⟩ := c_NOUGHT
  exact fn_d (k := 4) F sc_whole_of (by decide) fun cdv A outer s H E hr => ⟨_, by
    unfold g_whole_of
    exact (s_cons (s_asg (d_call F_sums_of (hr.mono (by decide)) (d_cons (d_var 0) d_nil)) (g_tup (g_cons (g_name 1 sc_whole_of.nd) (g_cons (g_name 2 sc_whole_of.nd) (g_cons (g_name 3 sc_whole_of.nd) g_nil)))))
      (s_cons (s_if (t_w (w_and (t_eq hr.units (d_var 1) (d_gtup (by rfl) c_NOUGHT.1 c_NOUGHT.2)) (w_and1 (t_eq hr.units (d_var 2) (d_gtup (by rfl) c_NOUGHT.1 c_NOUGHT.2))))) (s_one (s_ret (d_ifE (t_eq hr.units (d_var 3) (d_gtup (by rfl) c_NOUGHT.1 c_NOUGHT.2)) (d_tup (d_cons d_str d_nil)) (d_tup (d_cons d_str (d_cons (d_var 3) d_nil)))))) s_nil)
      (s_one (s_ret (d_tup (d_cons d_str (d_cons (d_tup (d_cons (d_var 2) (d_cons (d_call F_minus (hr.mono (by decide)) (d_cons (d_gtup (by rfl) c_NOUGHT.1 c_NOUGHT.2) (d_cons (d_var 1) d_nil))) (d_cons (d_var 3) d_nil)))) (d_cons (d_tup (d_cons (d_var 1) (d_cons (d_var 2) d_nil))) d_nil))))))))⟩
theorem sc_about : FnScope ["point", "forces", "across", "up", "turn"] ["point", "forces"] (defScope s_about) := ⟨rfl, rfl, rfl, by decide +kernel, rfl, by decide +kernel, by decide +kernel⟩
theorem ok_about {f : Addr} {fd : FuncData} (F : Fun K "about" "about" s_about f fd) (F_minus : FD P w K mg base 2 "minus" ["a", "b"] (spD K f_minus)) (F_sums_of : FD P w K mg base 4 "sums_of" ["forces"] (spD K f_sums_of)) (F_turn_of : FD P w K mg base 3 "turn_of" ["point", "force"] (spD K f_turn_of)) : FnOk P w K mg base CX0 5 f fd ["point", "forces"] (spD K f_about) := by
  exact fn_d (k := 4) F sc_about (by decide) fun cdv A outer s H E hr => ⟨_, by
    unfold g_about
    exact (s_cons (s_asg (d_call F_sums_of (hr.mono (by decide)) (d_cons (d_var 1) d_nil)) (g_tup (g_cons (g_name 2 sc_about.nd) (g_cons (g_name 3 sc_about.nd) (g_cons (g_name 4 sc_about.nd) g_nil)))))
      (s_one (s_ret (d_call F_minus (hr.mono (by decide)) (d_cons (d_var 4) (d_cons (d_call F_turn_of (hr.mono (by decide)) (d_cons (d_var 0) (d_cons (d_tup (d_cons (d_var 2) (d_cons (d_var 3) d_nil))) d_nil))) d_nil))))))⟩
theorem sc_law_some : FnScope ["pool", "low", "high"] ["pool", "low", "high"] (defScope s_law_some) := ⟨rfl, rfl, rfl, by decide +kernel, rfl, by decide +kernel, by decide +kernel⟩
theorem ok_law_some {f : Addr} {fd : FuncData} (F : Fun K "_law_some" "_law_some" s_law_some f fd) (F_law_draw : FD P w K mg base 3 "_law_draw" ["pool", "limit"] (spP K f_law_draw)) (F_law_frac : FD P w K mg base 2 "_law_frac" ["p", "q"] (spD K f_law_frac)) (F_law_pick : FD P w K mg base 4 "_law_pick" ["pool", "options"] (spP K f_law_pick)) : FnOk P w K mg base CX0 5 f fd ["pool", "low", "high"] (spP K f_law_some) := by
  exact fn_p (k := 4) F sc_law_some (by decide) fun cdv A outer s H E hr => ⟨_, by
    unfold g_law_some
    exact (s_one (s_ret (d_call F_law_frac (hr.mono (by decide)) (d_cons (d_add (d_var 1) (d_callP 0 F_law_draw (hr.mono (by decide)) (d_cons (d_add (d_sub (d_var 2) (d_var 1)) d_int) d_nil))) (d_cons (d_callP 0 F_law_pick (hr.mono (by decide)) (d_cons (d_ofF (d_lst (d_cons d_int (d_cons d_int (d_cons d_int (d_cons d_int d_nil)))))) d_nil)) d_nil)))))⟩
theorem sc_law_line : FnScope ["point", "force"] ["point", "force"] (defScope s_law_line) := ⟨rfl, rfl, rfl, by decide +kernel, rfl, by decide +kernel, by decide +kernel⟩
theorem ok_law_line {f : Addr} {fd : FuncData} (F : Fun K "_law_line" "_law_line" s_law_line f fd) (F_law_sub : FD P w K mg base 3 "_law_sub" ["one", "other"] (spD K f_law_sub)) (F_law_turn : FD P w K mg base 4 "_law_turn" ["point", "force"] (spD K f_law_turn)) : FnOk P w K mg base CX0 5 f fd ["point", "force"] (spD K f_law_line) := by
  exact fn_d (k := 4) F sc_law_line (by decide) fun cdv A outer s H E hr => ⟨_, by
    unfold g_law_line
    exact (s_one (s_ret (d_tup (d_cons (d_ix (d_var 1) d_int) (d_cons (d_call F_law_sub (hr.mono (by decide)) (d_cons (d_tup (d_cons d_int (d_cons d_int d_nil))) (d_cons (d_ix (d_var 1) d_int) d_nil))) (d_cons (d_call F_law_turn (hr.mono (by decide)) (d_cons (d_var 0) (d_cons (d_var 1) d_nil))) d_nil))))))⟩
theorem sc_law_point : FnScope ["pool", "wide"] ["pool", "wide"] (defScope s_law_point) := ⟨rfl, rfl, rfl, by decide +kernel, rfl, by decide +kernel, by decide +kernel⟩
theorem ok_law_point {f : Addr} {fd : FuncData} (F : Fun K "_law_point" "_law_point" s_law_point f fd) (F_law_some : FD P w K mg base 5 "_law_some" ["pool", "low", "high"] (spP K f_law_some)) : FnOk P w K mg base CX0 6 f fd ["pool", "wide"] (spP K f_law_point) := by
  exact fn_p (k := 5) F sc_law_point (by decide) fun cdv A outer s H E hr => ⟨_, by
    unfold g_law_point
    exact (s_one (s_ret (d_tup (d_cons (d_callP 0 F_law_some (hr.mono (by decide)) (d_cons (d_sub d_int (d_var 1)) (d_cons (d_var 1) d_nil))) (d_cons (d_callP 0 F_law_some (hr.mono (by decide)) (d_cons (d_sub d_int (d_var 1)) (d_cons (d_var 1) d_nil))) d_nil)))))⟩
theorem sc_law_same : FnScope ["answer", "due", "key", "k"] ["answer", "due"] (defScope s_law_same) := ⟨rfl, rfl, rfl, by decide +kernel, rfl, by decide +kernel, by decide +kernel⟩
theorem ok_law_same {f : Addr} {fd : FuncData} (F : Fun K "_law_same" "_law_same" s_law_same f fd) (b_all : mg "all" = none) (b_bool : mg "bool" = none) (b_dict : mg "dict" = none) (b_int : mg "int" = none) (b_isinstance : mg "isinstance" = none) (b_len : mg "len" = none) (b_list : mg "list" = none) (b_range : mg "range" = none) (b_str : mg "str" = none) (b_tuple : mg "tuple" = none) (hm : mg "_law_same" = some (.ref f)) (hb : Binds K fd ["answer", "due"] []) : ∀ n : Nat, FnOk P w K mg base CX0 (n + 1) f fd ["answer", "due"] (spD K (f_law_same n))
  | 0 => ⟨fun vs H Q E ⟨_, _, _, _, e, _⟩ => (by cases e), fun A outer s H args us vs Q E hr _ _ _ ⟨_, _, _, _, e, _⟩ => (by cases e)⟩
  | n + 1 => by
    have F_law_same : FD P w K mg base (n + 1) "_law_same" ["answer", "due"] (spD K (f_law_same n)) := ⟨f, fd, ok_law_same F b_all b_bool b_dict b_int b_isinstance b_len b_list b_range b_str b_tuple hm hb n, hm, F.kp, hb⟩
    exact fn_d (k := n + 1) F sc_law_same (by decide) fun cdv A outer s H E hr => ⟨_, by
    unfold g_law_same
    exact (s_cons (s_if (d_tst (d_isi b_isinstance b_dict (by decide +kernel) (d_var 1))) s_never s_nil)
      (s_cons (s_if (t_w (w_or (d_tst (d_isi b_isinstance b_list (by decide +kernel) (d_var 1))) (w_or1 (d_tst (d_isi b_isinstance b_tuple (by decide +kernel) (d_var 1)))))) (s_cons (s_if (t_w (w_or (t_ne hr.units (d_isi b_isinstance b_list (by decide +kernel) (d_var 1)) (d_isi b_isinstance b_list (by decide +kernel) (d_var 0))) (w_or1 (t_ne hr.units (d_isi b_isinstance b_tuple (by decide +kernel) (d_var 1)) (d_isi b_isinstance b_tuple (by decide +kernel) (d_var 0)))))) (s_one (s_ret d_bl)) s_nil)
      (s_one (s_ret (d_and (d_eq hr.units (d_len b_len (d_cons (d_var 0) d_nil)) (d_len b_len (d_cons (d_var 1) d_nil))) (d_one (d_callB (by exact cr_all rfl) cok_all b_all (by decide +kernel) (d_cons (d_ofF (d_lc [("k", 3)] (i_range1 b_range (d_cons (d_len b_len (d_cons (d_var 1) d_nil)) d_nil)) (blkOk_by (own := [("k", 3)]) (N := ["answer", "due", "key", "k"]) (sc := defScope s_law_same) (by decide +kernel)) (fun _ _ _ _ _ => (g_name 3 sc_law_same.nd)) (fun _ _ _ _ _ => c_nil) (fun _ _ _ _ _ => (d_call F_law_same (hr.mono (by omega)) (d_cons (d_ix (d_var 0) (d_var 3)) (d_cons (d_ix (d_var 1) (d_var 3)) d_nil)))) sc_law_same.nd (s, H))) d_nil))))))) s_nil)
      (s_cons (s_if (d_tst (d_isi b_isinstance b_str (by decide +kernel) (d_var 1))) (s_one (s_ret (d_and (d_isi b_isinstance b_str (by decide +kernel) (d_var 0)) (d_one (d_eq hr.units (d_var 0) (d_var 1)))))) s_nil)
      (s_cons (s_if (t_w (w_or (t_is (d_var 1) d_non) (w_or (t_is (d_var 1) d_bl) (w_or1 (t_is (d_var 1) d_bl))))) (s_one (s_ret (d_or (d_and (d_is (d_var 1) d_non) (d_one (d_is (d_var 0) d_non))) (d_or (d_and (d_is (d_var 1) d_bl) (d_one (d_is (d_var 0) d_bl))) (d_one (d_and (d_is (d_var 1) d_bl) (d_one (d_is (d_var 0) d_bl)))))))) s_nil)
      (s_one (s_ret (d_and (d_isi b_isinstance b_int (by decide +kernel) (d_var 0)) (d_and (d_not (d_isi b_isinstance b_bool (by decide +kernel) (d_var 0))) (d_one (d_eq hr.units (d_var 0) (d_var 1)))))))))))⟩
theorem sc_law : FnScope ["script", "pool", "one", "other", "nought", "first", "second", "point", "parallel", "sums", "both", "line_told", "force", "place", "third", "bent", "rows", "told", "across", "up", "turn", "a", "b", "c", "pair", "f", "g", "spots", "middle_x", "found", "k"] ["script"] (defScope s_law) := ⟨rfl, rfl, rfl, by decide +kernel, rfl, by decide +kernel, by decide +kernel⟩
theorem ok_law {f : Addr} {fd : FuncData} (F : Fun K "law" "law" s_law f fd) (b_range : mg "range" = none) (F_law_add : FD P w K mg base 3 "_law_add" ["one", "other"] (spD K f_law_add)) (F_law_back : FD P w K mg base 4 "_law_back" ["force"] (spD K f_law_back)) (F_law_div : FD P w K mg base 3 "_law_div" ["one", "other"] (spD K f_law_div)) (F_law_draw : FD P w K mg base 3 "_law_draw" ["pool", "limit"] (spP K f_law_draw)) (F_law_line : FD P w K mg base 5 "_law_line" ["point", "force"] (spD K f_law_line)) (F_law_mul : FD P w K mg base 3 "_law_mul" ["one", "other"] (spD K f_law_mul)) (F_law_next : FD P w K mg base 3 "_law_next" ["pool"] (spP K f_law_next)) (F_law_on : FD P w K mg base 4 "_law_on" ["line", "point"] (spD K f_law_on)) (F_law_point : FD P w K mg base 6 "_law_point" ["pool", "wide"] (spP K f_law_point)) (F_law_pool : FD P w K mg base 3 "_law_pool" ["script"] (spF K f_law_pool)) (F_law_same : FD P w K mg base 7 "_law_same" ["answer", "due"] (spD K (f_law_same 6))) (F_law_some : FD P w K mg base 5 "_law_some" ["pool", "low", "high"] (spP K f_law_some)) (F_law_sub : FD P w K mg base 3 "_law_sub" ["one", "other"] (spD K f_law_sub)) (F_about : FD P w K mg base 5 "about" ["point", "forces"] (spD K f_about)) (F_is_on : FD P w K mg base 3 "is_on" ["line", "point"] (spD K f_is_on)) (F_line_of : FD P w K mg base 4 "line_of" ["point", "force"] (spD K f_line_of)) (F_meeting : FD P w K mg base 3 "meeting" ["one", "other"] (spD K f_meeting)) (F_same_point : FD P w K mg base 4 "same_point" ["lines"] (spD K f_same_point)) (F_sums_of : FD P w K mg base 4 "sums_of" ["forces"] (spD K f_sums_of)) (F_whole_of : FD P w K mg base 5 "whole_of" ["forces"] (spD K f_whole_of)) : FnOk P w K mg base CX0 8 f fd ["script"] (spD K f_law) := by
  exact fn_d (k := 7) F sc_law (by decide) fun cdv A outer s H E hr => ⟨_, by
    unfold g_law
    exact (s_cons (s_setF 1 (d_callF F_law_pool (hr.mono (by decide)) (d_cons (d_var 0) d_nil)) sc_law.nd)
      (s_cons (s_par 2 3 (d_cons (d_tup (d_cons (d_callP 1 F_law_point (hr.mono (by decide)) (d_cons d_int d_nil)) (d_cons (d_callP 1 F_law_point (hr.mono (by decide)) (d_cons d_int d_nil)) d_nil))) (d_cons (d_tup (d_cons (d_callP 1 F_law_point (hr.mono (by decide)) (d_cons d_int d_nil)) (d_cons (d_callP 1 F_law_point (hr.mono (by decide)) (d_cons d_int d_nil)) d_nil))) d_nil)) sc_law.nd)
      (s_cons (s_set 4 (d_tup (d_cons (d_tup (d_cons d_int (d_cons d_int d_nil))) (d_cons (d_tup (d_cons d_int (d_cons d_int d_nil))) d_nil))) sc_law.nd)
      (s_cons (s_if (t_w (w_or (t_eq hr.units (d_ix (d_var 2) d_int) (d_var 4)) (w_or1 (t_eq hr.units (d_ix (d_var 3) d_int) (d_var 4))))) (s_one (s_ret (d_call F_law_same (hr.mono (by decide)) (d_cons (d_call F_whole_of (hr.mono (by decide)) (d_cons (d_ofF (d_lst (d_cons (d_tup (d_cons (d_ix (d_var 2) d_int) (d_cons (d_var 4) d_nil))) (d_cons (d_tup (d_cons (d_ix (d_var 3) d_int) (d_cons (d_var 4) d_nil))) d_nil)))) d_nil)) (d_cons (d_tup (d_cons d_str d_nil)) d_nil))))) s_nil)
      (s_cons (s_expr (d_callP 1 F_law_next (hr.mono (by decide)) d_nil))
      (s_cons (s_par 5 6 (d_cons (d_call F_line_of (hr.mono (by decide)) (d_cons (d_ix (d_var 2) d_int) (d_cons (d_ix (d_var 2) d_int) d_nil))) (d_cons (d_call F_line_of (hr.mono (by decide)) (d_cons (d_ix (d_var 3) d_int) (d_cons (d_ix (d_var 3) d_int) d_nil))) d_nil)) sc_law.nd)
      (s_cons (s_if (t_not (d_tst (d_call F_law_same (hr.mono (by decide)) (d_cons (d_ofF (d_lst (d_cons (d_var 5) (d_cons (d_var 6) d_nil)))) (d_cons (d_ofF (d_lst (d_cons (d_call F_law_line (hr.mono (by decide)) (d_cons (d_ix (d_var 2) d_int) (d_cons (d_ix (d_var 2) d_int) d_nil))) (d_cons (d_call F_law_line (hr.mono (by decide)) (d_cons (d_ix (d_var 3) d_int) (d_cons (d_ix (d_var 3) d_int) d_nil))) d_nil)))) d_nil))))) (s_one (s_ret d_bl)) s_nil)
      (s_cons (s_set 7 (d_call F_meeting (hr.mono (by decide)) (d_cons (d_var 5) (d_cons (d_var 6) d_nil))) sc_law.nd)
      (s_cons (s_set 8 (d_eq hr.units (d_call F_law_sub (hr.mono (by decide)) (d_cons (d_call F_law_mul (hr.mono (by decide)) (d_cons (d_ix (d_ix (d_var 2) d_int) d_int) (d_cons (d_ix (d_ix (d_var 3) d_int) d_int) d_nil))) (d_cons (d_call F_law_mul (hr.mono (by decide)) (d_cons (d_ix (d_ix (d_var 2) d_int) d_int) (d_cons (d_ix (d_ix (d_var 3) d_int) d_int) d_nil))) d_nil))) (d_tup (d_cons d_int (d_cons d_int d_nil)))) sc_law.nd)
      (s_cons (s_if (t_w (w_or (t_ne hr.units (d_is (d_var 7) d_non) (d_var 8)) (w_or1 (t_w (w_and (t_isNot (d_var 7) d_non) (w_and1 (t_not (t_w (w_and (d_tst (d_call F_law_on (hr.mono (by decide)) (d_cons (d_var 5) (d_cons (d_var 7) d_nil)))) (w_and (d_tst (d_call F_law_on (hr.mono (by decide)) (d_cons (d_var 6) (d_cons (d_var 7) d_nil)))) (w_and (d_tst (d_call F_is_on (hr.mono (by decide)) (d_cons (d_var 5) (d_cons (d_var 7) d_nil)))) (w_and1 (d_tst (d_call F_is_on (hr.mono (by decide)) (d_cons (d_var 6) (d_cons (d_var 7) d_nil)))))))))))))))) (s_one (s_ret d_bl)) s_nil)
      (s_cons (s_set 9 (d_tup (d_cons (d_call F_law_add (hr.mono (by decide)) (d_cons (d_ix (d_ix (d_var 2) d_int) d_int) (d_cons (d_ix (d_ix (d_var 3) d_int) d_int) d_nil))) (d_cons (d_call F_law_add (hr.mono (by decide)) (d_cons (d_ix (d_ix (d_var 2) d_int) d_int) (d_cons (d_ix (d_ix (d_var 3) d_int) d_int) d_nil))) d_nil))) sc_law.nd)
      (s_cons (s_set 10 (d_call F_whole_of (hr.mono (by decide)) (d_cons (d_ofF (d_lst (d_cons (d_var 2) (d_cons (d_var 3) d_nil)))) d_nil)) sc_law.nd)
      (s_cons (s_if (t_eq hr.units (d_ix (d_var 10) d_int) d_str) (s_cons (s_par 11 12 (d_cons (d_ix (d_var 10) d_int) (d_cons (d_ix (d_var 10) d_int) d_nil)) sc_law.nd)
      (s_cons (s_if (t_w (w_or (t_ne hr.units (d_var 12) (d_var 9)) (w_or1 (t_w (w_and (t_isNot (d_var 7) d_non) (w_and1 (t_isNot (d_call F_is_on (hr.mono (by decide)) (d_cons (d_var 11) (d_cons (d_var 7) d_nil))) d_bl))))))) (s_one (s_ret d_bl)) s_nil)
      (s_cons (s_set 13 (d_ifE (t_ne hr.units (d_ix (d_var 11) d_int) (d_tup (d_cons d_int (d_cons d_int d_nil)))) (d_tup (d_cons (d_tup (d_cons d_int (d_cons d_int d_nil))) (d_cons (d_call F_law_div (hr.mono (by decide)) (d_cons (d_ix (d_var 11) d_int) (d_cons (d_ix (d_var 11) d_int) d_nil))) d_nil))) (d_tup (d_cons (d_call F_law_div (hr.mono (by decide)) (d_cons (d_ix (d_var 11) d_int) (d_cons (d_ix (d_var 11) d_int) d_nil))) (d_cons (d_tup (d_cons d_int (d_cons d_int d_nil))) d_nil)))) sc_law.nd)
      (s_cons (s_set 14 (d_tup (d_cons (d_var 13) (d_cons (d_call F_law_back (hr.mono (by decide)) (d_cons (d_var 12) d_nil)) d_nil))) sc_law.nd)
      (s_cons (s_if (t_not (d_tst (d_call F_law_same (hr.mono (by decide)) (d_cons (d_ofF (d_lst (d_cons (d_call F_whole_of (hr.mono (by decide)) (d_cons (d_ofF (d_lst (d_cons (d_var 2) (d_cons (d_var 3) (d_cons (d_var 14) d_nil))))) d_nil)) (d_cons (d_call F_same_point (hr.mono (by decide)) (d_cons (d_ofF (d_lst (d_cons (d_var 5) (d_cons (d_var 6) (d_cons (d_call F_line_of (hr.mono (by decide)) (d_cons (d_var 13) (d_cons (d_call F_law_back (hr.mono (by decide)) (d_cons (d_var 12) d_nil)) d_nil))) d_nil))))) d_nil)) d_nil)))) (d_cons (d_ofF (d_lst (d_cons (d_tup (d_cons d_str d_nil)) (d_cons d_bl d_nil)))) d_nil))))) (s_one (s_ret d_bl)) s_nil)
      (s_cons (s_set 15 (d_tup (d_cons (d_tup (d_cons (d_call F_law_add (hr.mono (by decide)) (d_cons (d_ix (d_var 13) d_int) (d_cons (d_call F_law_sub (hr.mono (by decide)) (d_cons (d_tup (d_cons d_int (d_cons d_int d_nil))) (d_cons (d_ix (d_var 12) d_int) d_nil))) d_nil))) (d_cons (d_call F_law_add (hr.mono (by decide)) (d_cons (d_ix (d_var 13) d_int) (d_cons (d_ix (d_var 12) d_int) d_nil))) d_nil))) (d_cons (d_call F_law_back (hr.mono (by decide)) (d_cons (d_var 12) d_nil)) d_nil))) sc_law.nd)
      (s_cons (s_if (t_ne hr.units (d_ix (d_call F_whole_of (hr.mono (by decide)) (d_cons (d_ofF (d_lst (d_cons (d_var 2) (d_cons (d_var 3) (d_cons (d_var 15) d_nil))))) d_nil)) d_int) d_str) (s_one (s_ret d_bl)) s_nil)
      (s_one (s_if (t_w (w_and (t_isNot (d_var 7) d_non) (w_and1 (t_ne hr.units (d_call F_same_point (hr.mono (by decide)) (d_cons (d_ofF (d_lst (d_cons (d_var 5) (d_cons (d_var 6) (d_cons (d_call F_line_of (hr.mono (by decide)) (d_cons (d_ix (d_var 15) d_int) (d_cons (d_ix (d_var 15) d_int) d_nil))) d_nil))))) d_nil)) (d_call F_is_on (hr.mono (by decide)) (d_cons (d_call F_line_of (hr.mono (by decide)) (d_cons (d_ix (d_var 15) d_int) (d_cons (d_ix (d_var 15) d_int) d_nil))) (d_cons (d_var 7) d_nil))))))) (s_one (s_ret d_bl)) s_nil))))))))) s_nil)
      (s_cons (s_setLc 16 [("k", 30)] (i_range1 b_range (d_cons (d_add d_int (d_callP 1 F_law_draw (hr.mono (by decide)) (d_cons d_int d_nil))) d_nil)) (blkOk_by (own := [("k", 30)]) (N := ["script", "pool", "one", "other", "nought", "first", "second", "point", "parallel", "sums", "both", "line_told", "force", "place", "third", "bent", "rows", "told", "across", "up", "turn", "a", "b", "c", "pair", "f", "g", "spots", "middle_x", "found", "k"]) (sc := defScope s_law) (by decide +kernel)) (fun _ _ _ _ _ => (g_name 30 sc_law.nd)) (fun _ _ _ _ _ => c_nil) (fun _ _ _ _ _ => (d_tup (d_cons (d_callP 1 F_law_point (hr.mono (by decide)) (d_cons d_int d_nil)) (d_cons (d_callP 1 F_law_point (hr.mono (by decide)) (d_cons d_int d_nil)) d_nil)))) sc_law.nd (s, H))
      (s_cons (s_set 17 (d_call F_whole_of (hr.mono (by decide)) (d_cons (d_var 16) d_nil)) sc_law.nd)
      (s_cons (s_asg (d_call F_sums_of (hr.mono (by decide)) (d_cons (d_var 16) d_nil)) (g_tup (g_cons (g_name 18 sc_law.nd) (g_cons (g_name 19 sc_law.nd) (g_cons (g_name 20 sc_law.nd) g_nil)))))
      (s_cons (s_if (t_eq hr.units (d_ix (d_var 17) d_int) d_str) (s_cons (s_asg (d_ix (d_var 17) d_int) (g_tup (g_cons (g_name 21 sc_law.nd) (g_cons (g_name 22 sc_law.nd) (g_cons (g_name 23 sc_law.nd) g_nil)))))
      (s_cons (s_set 13 (d_ifE (t_ne hr.units (d_var 22) (d_tup (d_cons d_int (d_cons d_int d_nil)))) (d_tup (d_cons (d_tup (d_cons d_int (d_cons d_int d_nil))) (d_cons (d_call F_law_div (hr.mono (by decide)) (d_cons (d_var 23) (d_cons (d_var 22) d_nil))) d_nil))) (d_tup (d_cons (d_call F_law_div (hr.mono (by decide)) (d_cons (d_var 23) (d_cons (d_var 21) d_nil))) (d_cons (d_tup (d_cons d_int (d_cons d_int d_nil))) d_nil)))) sc_law.nd)
      (s_one (s_if (t_not (d_tst (d_call F_law_same (hr.mono (by decide)) (d_cons (d_ofF (d_lst (d_cons (d_call F_whole_of (hr.mono (by decide)) (d_cons (d_add (d_var 16) (d_ofF (d_lst (d_cons (d_tup (d_cons (d_var 13) (d_cons (d_call F_law_back (hr.mono (by decide)) (d_cons (d_ix (d_var 17) d_int) d_nil)) d_nil))) d_nil)))) d_nil)) (d_cons (d_call F_about (hr.mono (by decide)) (d_cons (d_var 13) (d_cons (d_var 16) d_nil))) d_nil)))) (d_cons (d_ofF (d_lst (d_cons (d_tup (d_cons d_str d_nil)) (d_cons (d_tup (d_cons d_int (d_cons d_int d_nil))) d_nil)))) d_nil))))) (s_one (s_ret d_bl)) s_nil)))) (s_one (s_if (t_eq hr.units (d_ix (d_var 17) d_int) d_str) (s_cons (s_set 24 (d_ofF (d_lst (d_cons (d_tup (d_cons (d_tup (d_cons (d_tup (d_cons d_int (d_cons d_int d_nil))) (d_cons (d_tup (d_cons d_int (d_cons d_int d_nil))) d_nil))) (d_cons (d_tup (d_cons (d_tup (d_cons d_int (d_cons d_int d_nil))) (d_cons (d_tup (d_cons (d_neg d_int) (d_cons d_int d_nil))) d_nil))) d_nil))) (d_cons (d_tup (d_cons (d_tup (d_cons (d_call F_law_sub (hr.mono (by decide)) (d_cons (d_tup (d_cons d_int (d_cons d_int d_nil))) (d_cons (d_var 20) d_nil))) (d_cons (d_tup (d_cons d_int (d_cons d_int d_nil))) d_nil))) (d_cons (d_tup (d_cons (d_tup (d_cons d_int (d_cons d_int d_nil))) (d_cons (d_tup (d_cons d_int (d_cons d_int d_nil))) d_nil))) d_nil))) d_nil)))) sc_law.nd)
      (s_one (s_if (t_not (d_tst (d_call F_law_same (hr.mono (by decide)) (d_cons (d_ofF (d_lst (d_cons (d_call F_whole_of (hr.mono (by decide)) (d_cons (d_add (d_var 16) (d_var 24)) d_nil)) (d_cons (d_call F_about (hr.mono (by decide)) (d_cons (d_callP 1 F_law_point (hr.mono (by decide)) (d_cons d_int d_nil)) (d_cons (d_var 16) d_nil))) d_nil)))) (d_cons (d_ofF (d_lst (d_cons (d_tup (d_cons d_str d_nil)) (d_cons (d_var 20) d_nil)))) d_nil))))) (s_one (s_ret d_bl)) s_nil))) (s_one (s_if (t_ne hr.units (d_tup (d_cons (d_var 18) (d_cons (d_var 19) (d_cons (d_var 20) d_nil)))) (d_tup (d_cons (d_tup (d_cons d_int (d_cons d_int d_nil))) (d_cons (d_tup (d_cons d_int (d_cons d_int d_nil))) (d_cons (d_tup (d_cons d_int (d_cons d_int d_nil))) d_nil))))) (s_one (s_ret d_bl)) s_nil)))))
      (s_cons (s_par 25 26 (d_cons (d_callP 1 F_law_some (hr.mono (by decide)) (d_cons d_int (d_cons d_int d_nil))) (d_cons (d_callP 1 F_law_some (hr.mono (by decide)) (d_cons d_int (d_cons d_int d_nil))) d_nil)) sc_law.nd)
      (s_cons (s_set 27 (d_ofF (d_lst (d_cons (d_callP 1 F_law_point (hr.mono (by decide)) (d_cons d_int d_nil)) (d_cons (d_callP 1 F_law_point (hr.mono (by decide)) (d_cons d_int d_nil)) d_nil)))) sc_law.nd)
      (s_cons (s_set 24 (d_ofF (d_lst (d_cons (d_tup (d_cons (d_ix (d_var 27) d_int) (d_cons (d_tup (d_cons (d_tup (d_cons d_int (d_cons d_int d_nil))) (d_cons (d_var 25) d_nil))) d_nil))) (d_cons (d_tup (d_cons (d_ix (d_var 27) d_int) (d_cons (d_tup (d_cons (d_tup (d_cons d_int (d_cons d_int d_nil))) (d_cons (d_var 26) d_nil))) d_nil))) d_nil)))) sc_law.nd)
      (s_cons (s_set 28 (d_call F_law_div (hr.mono (by decide)) (d_cons (d_call F_law_add (hr.mono (by decide)) (d_cons (d_call F_law_mul (hr.mono (by decide)) (d_cons (d_ix (d_ix (d_var 27) d_int) d_int) (d_cons (d_var 25) d_nil))) (d_cons (d_call F_law_mul (hr.mono (by decide)) (d_cons (d_ix (d_ix (d_var 27) d_int) d_int) (d_cons (d_var 26) d_nil))) d_nil))) (d_cons (d_call F_law_add (hr.mono (by decide)) (d_cons (d_var 25) (d_cons (d_var 26) d_nil))) d_nil))) sc_law.nd)
      (s_cons (s_set 29 (d_call F_whole_of (hr.mono (by decide)) (d_cons (d_var 24) d_nil)) sc_law.nd)
      (s_cons (s_if (t_w (w_or (t_ne hr.units (d_ix (d_var 29) d_int) d_str) (w_or1 (t_isNot (d_call F_is_on (hr.mono (by decide)) (d_cons (d_ix (d_var 29) d_int) (d_cons (d_tup (d_cons (d_var 28) (d_cons (d_tup (d_cons d_int (d_cons d_int d_nil))) d_nil))) d_nil))) d_bl)))) (s_one (s_ret d_bl)) s_nil)
      (s_one (s_ret (d_call F_same_point (hr.mono (by decide)) (d_cons (d_ofF (d_lst (d_cons (d_call F_line_of (hr.mono (by decide)) (d_cons (d_ix (d_var 27) d_int) (d_cons (d_ix (d_ix (d_var 24) d_int) d_int) d_nil))) (d_cons (d_call F_line_of (hr.mono (by decide)) (d_cons (d_ix (d_var 27) d_int) (d_cons (d_ix (d_ix (d_var 24) d_int) d_int) d_nil))) (d_cons (d_ix (d_var 29) d_int) d_nil))))) d_nil)))))))))))))))))))))))))))⟩
end
end TB
namespace TB
open PySem L2
/-! ### the end -/
def DefAt (K : Fg) (x : Str) (st : Stmt) : Prop := ∃ (f : Addr) (od an : Option Addr) (sl : Array (Option Value)) (oc kV dc pm cd ct : Value), PySem.W.nsIn K mainGlobals x = some (some (.ref f)) ∧
  K.lookup f = some ⟨oc, od, .func (PySem.W.fnOf x x (defArgs st) (defBody st) (defScope st) .none kV dc pm an cd ct), sl⟩ ∧ PySem.W.codeIn K cd x = true ∧ PySem.W.keepIn K (.ref f) = true
theorem defAt_mk {K : Fg} {x : Str} {st : Stmt} {f : Addr} {od an : Option Addr} {sl : Array (Option Value)} {oc kV dc pm cd ct : Value} (a : PySem.W.nsIn K mainGlobals x = some (some (.ref f)))
    (l : K.lookup f = some ⟨oc, od, .func (PySem.W.fnOf x x (defArgs st) (defBody st) (defScope st) .none kV dc pm an cd ct), sl⟩) (c : PySem.W.codeIn K cd x = true) (k : PySem.W.keepIn K (.ref f) = true) : DefAt K x st :=
  ⟨f, od, an, sl, oc, kV, dc, pm, cd, ct, a, l, c, k⟩
theorem ktup_mk {K : Fg} {x : Str} {f : Addr} {ns : List Int} {o : Obj} {its : Array Value} {n : Nat} (a : PySem.W.nsIn K mainGlobals x = some (some (.ref f))) (l : K.lookup f = some o) (hc : o.cls = .type "tuple") (hd : o.data = .seq its n)
    (v : Vals (ns.map V.int) its.toList) (hz : its.size ≤ sizeLine) : ∃ a, PySem.W.nsIn K mainGlobals x = some (some (.ref a)) ∧ KTup K a ns := ⟨f, a, fun H => .inr ⟨o, its, n, l, hc, hd, hz, v⟩⟩
theorem wo_no (H : Hp) : wo H (fun _ => False) = H := by
  funext a
  unfold wo
  rw [if_neg id]
theorem law_start {K : Fg} {H : Hp} {a : Addr} {ns : List Int} {f : List D → Option D} (hS : SqL K H a (ns.map V.int)) (h : f [.dict [(.none, .list (ns.map PyData.int))]] = some (.bool true)) :
    spD K f [.ref a] H (fun v _ => v = .bl true) fun _ _ _ => False := by
  refine ⟨fun _ => False, _, _, .cons (.ro ?_ (RpA.of_ints ns)) .nil, h, fun _ m => m.elim, fun v H' s r => ?_⟩
  · rw [wo_no]; exact hS
  · exact r.bl_get
section
variable {K : Fg}
theorem bd_frac {f : Addr} {fd : FuncData} (F : Fun K "frac" "frac" s_frac f fd) : Binds K fd ["p", "q"] [] := F.binds (ps := ["p", "q"]) fun _ _ _ _ _ _ us hl => match us, hl with | [_, _], _ => rfl
theorem bd_plus {f : Addr} {fd : FuncData} (F : Fun K "plus" "plus" s_plus f fd) : Binds K fd ["a", "b"] [] := F.binds (ps := ["a", "b"]) fun _ _ _ _ _ _ us hl => match us, hl with | [_, _], _ => rfl
theorem bd_minus {f : Addr} {fd : FuncData} (F : Fun K "minus" "minus" s_minus f fd) : Binds K fd ["a", "b"] [] := F.binds (ps := ["a", "b"]) fun _ _ _ _ _ _ us hl => match us, hl with | [_, _], _ => rfl
theorem bd_times {f : Addr} {fd : FuncData} (F : Fun K "times" "times" s_times f fd) : Binds K fd ["a", "b"] [] := F.binds (ps := ["a", "b"]) fun _ _ _ _ _ _ us hl => match us, hl with | [_, _], _ => rfl
theorem bd_over {f : Addr} {fd : FuncData} (F : Fun K "over" "over" s_over f fd) : Binds K fd ["a", "b"] [] := F.binds (ps := ["a", "b"]) fun _ _ _ _ _ _ us hl => match us, hl with | [_, _], _ => rfl
theorem bd_sum_of {f : Addr} {fd : FuncData} (F : Fun K "sum_of" "sum_of" s_sum_of f fd) : Binds K fd ["numbers"] [] := F.binds (ps := ["numbers"]) fun _ _ _ _ _ _ us hl => match us, hl with | [_], _ => rfl
theorem bd_turn_of {f : Addr} {fd : FuncData} (F : Fun K "turn_of" "turn_of" s_turn_of f fd) : Binds K fd ["point", "force"] [] := F.binds (ps := ["point", "force"]) fun _ _ _ _ _ _ us hl => match us, hl with | [_, _], _ => rfl
theorem bd_sums_of {f : Addr} {fd : FuncData} (F : Fun K "sums_of" "sums_of" s_sums_of f fd) : Binds K fd ["forces"] [] := F.binds (ps := ["forces"]) fun _ _ _ _ _ _ us hl => match us, hl with | [_], _ => rfl
theorem bd_whole_of {f : Addr} {fd : FuncData} (F : Fun K "whole_of" "whole_of" s_whole_of f fd) : Binds K fd ["forces"] [] := F.binds (ps := ["forces"]) fun _ _ _ _ _ _ us hl => match us, hl with | [_], _ => rfl
theorem bd_is_on {f : Addr} {fd : FuncData} (F : Fun K "is_on" "is_on" s_is_on f fd) : Binds K fd ["line", "point"] [] := F.binds (ps := ["line", "point"]) fun _ _ _ _ _ _ us hl => match us, hl with | [_, _], _ => rfl
theorem bd_line_of {f : Addr} {fd : FuncData} (F : Fun K "line_of" "line_of" s_line_of f fd) : Binds K fd ["point", "force"] [] := F.binds (ps := ["point", "force"]) fun _ _ _ _ _ _ us hl => match us, hl with | [_, _], _ => rfl
theorem bd_meeting {f : Addr} {fd : FuncData} (F : Fun K "meeting" "meeting" s_meeting f fd) : Binds K fd ["one", "other"] [] := F.binds (ps := ["one", "other"]) fun _ _ _ _ _ _ us hl => match us, hl with | [_, _], _ => rfl
theorem bd_same_point {f : Addr} {fd : FuncData} (F : Fun K "same_point" "same_point" s_same_point f fd) : Binds K fd ["lines"] [] := F.binds (ps := ["lines"]) fun _ _ _ _ _ _ us hl => match us, hl with | [_], _ => rfl
theorem bd_about {f : Addr} {fd : FuncData} (F : Fun K "about" "about" s_about f fd) : Binds K fd ["point", "forces"] [] := F.binds (ps := ["point", "forces"]) fun _ _ _ _ _ _ us hl => match us, hl with | [_, _], _ => rfl
theorem bd_law_mixed {f : Addr} {fd : FuncData} (F : Fun K "_law_mixed" "_law_mixed" s_law_mixed f fd) : Binds K fd ["number", "place"] [] := F.binds (ps := ["number", "place"]) fun _ _ _ _ _ _ us hl => match us, hl with | [_, _], _ => rfl
theorem bd_law_rest {f : Addr} {fd : FuncData} (F : Fun K "_law_rest" "_law_rest" s_law_rest f fd) : Binds K fd ["script", "place", "fills"] [] := F.binds (ps := ["script", "place", "fills"]) fun _ _ _ _ _ _ us hl => match us, hl with | [_, _, _], _ => rfl
theorem bd_law_pool {f : Addr} {fd : FuncData} (F : Fun K "_law_pool" "_law_pool" s_law_pool f fd) : Binds K fd ["script"] [] := F.binds (ps := ["script"]) fun _ _ _ _ _ _ us hl => match us, hl with | [_], _ => rfl
theorem bd_law_next {f : Addr} {fd : FuncData} (F : Fun K "_law_next" "_law_next" s_law_next f fd) : Binds K fd ["pool"] [] := F.binds (ps := ["pool"]) fun _ _ _ _ _ _ us hl => match us, hl with | [_], _ => rfl
theorem bd_law_draw {f : Addr} {fd : FuncData} (F : Fun K "_law_draw" "_law_draw" s_law_draw f fd) : Binds K fd ["pool", "limit"] [] := F.binds (ps := ["pool", "limit"]) fun _ _ _ _ _ _ us hl => match us, hl with | [_, _], _ => rfl
theorem bd_law_pick {f : Addr} {fd : FuncData} (F : Fun K "_law_pick" "_law_pick" s_law_pick f fd) : Binds K fd ["pool", "options"] [] := F.binds (ps := ["pool", "options"]) fun _ _ _ _ _ _ us hl => match us, hl with | [_, _], _ => rfl
theorem bd_law_same {f : Addr} {fd : FuncData} (F : Fun K "_law_same" "_law_same" s_law_same f fd) : Binds K fd ["answer", "due"] [] := F.binds (ps := ["answer", "due"]) fun _ _ _ _ _ _ us hl => match us, hl with | [_, _], _ => rfl
theorem bd_law_gcd {f : Addr} {fd : FuncData} (F : Fun K "_law_gcd" "_law_gcd" s_law_gcd f fd) : Binds K fd ["a", "b"] [] := F.binds (ps := ["a", "b"]) fun _ _ _ _ _ _ us hl => match us, hl with | [_, _], _ => rfl
theorem bd_law_frac {f : Addr} {fd : FuncData} (F : Fun K "_law_frac" "_law_frac" s_law_frac f fd) : Binds K fd ["p", "q"] [] := F.binds (ps := ["p", "q"]) fun _ _ _ _ _ _ us hl => match us, hl with | [_, _], _ => rfl
theorem bd_law_add {f : Addr} {fd : FuncData} (F : Fun K "_law_add" "_law_add" s_law_add f fd) : Binds K fd ["one", "other"] [] := F.binds (ps := ["one", "other"]) fun _ _ _ _ _ _ us hl => match us, hl with | [_, _], _ => rfl
theorem bd_law_sub {f : Addr} {fd : FuncData} (F : Fun K "_law_sub" "_law_sub" s_law_sub f fd) : Binds K fd ["one", "other"] [] := F.binds (ps := ["one", "other"]) fun _ _ _ _ _ _ us hl => match us, hl with | [_, _], _ => rfl
theorem bd_law_mul {f : Addr} {fd : FuncData} (F : Fun K "_law_mul" "_law_mul" s_law_mul f fd) : Binds K fd ["one", "other"] [] := F.binds (ps := ["one", "other"]) fun _ _ _ _ _ _ us hl => match us, hl with | [_, _], _ => rfl
theorem bd_law_div {f : Addr} {fd : FuncData} (F : Fun K "_law_div" "_law_div" s_law_div f fd) : Binds K fd ["one", "other"] [] := F.binds (ps := ["one", "other"]) fun _ _ _ _ _ _ us hl => match us, hl with | [_, _], _ => rfl
theorem bd_law_some {f : Addr} {fd : FuncData} (F : Fun K "_law_some" "_law_some" s_law_some f fd) : Binds K fd ["pool", "low", "high"] [] := F.binds (ps := ["pool", "low", "high"]) fun _ _ _ _ _ _ us hl => match us, hl with | [_, _, _], _ => rfl
theorem bd_law_point {f : Addr} {fd : FuncData} (F : Fun K "_law_point" "_law_point" s_law_point f fd) : Binds K fd ["pool", "wide"] [] := F.binds (ps := ["pool", "wide"]) fun _ _ _ _ _ _ us hl => match us, hl with | [_, _], _ => rfl
theorem bd_law_turn {f : Addr} {fd : FuncData} (F : Fun K "_law_turn" "_law_turn" s_law_turn f fd) : Binds K fd ["point", "force"] [] := F.binds (ps := ["point", "force"]) fun _ _ _ _ _ _ us hl => match us, hl with | [_, _], _ => rfl
theorem bd_law_line {f : Addr} {fd : FuncData} (F : Fun K "_law_line" "_law_line" s_law_line f fd) : Binds K fd ["point", "force"] [] := F.binds (ps := ["point", "force"]) fun _ _ _ _ _ _ us hl => match us, hl with | [_, _], _ => rfl
theorem bd_law_on {f : Addr} {fd : FuncData} (F : Fun K "_law_on" "_law_on" s_law_on f fd) : Binds K fd ["line", "point"] [] := F.binds (ps := ["line", "point"]) fun _ _ _ _ _ _ us hl => match us, hl with | [_, _], _ => rfl
theorem bd_law_back {f : Addr} {fd : FuncData} (F : Fun K "_law_back" "_law_back" s_law_back f fd) : Binds K fd ["force"] [] := F.binds (ps := ["force"]) fun _ _ _ _ _ _ us hl => match us, hl with | [_], _ => rfl
theorem bd_law {f : Addr} {fd : FuncData} (F : Fun K "law" "law" s_law f fd) : Binds K fd ["script"] [] := F.binds (ps := ["script"]) fun _ _ _ _ _ _ us hl => match us, hl with | [_], _ => rfl
end
theorem all_mk {P : Program} {w : World} {K : Fg} {h : Heap} {mg : Str → Option Value} {fa : Addr} (X : K.In h) (G : h.Ns mainGlobals mg) (hfa : mg "law" = some (.ref fa)) (D_frac : DefAt K "frac" s_frac) (D_plus : DefAt K "plus" s_plus) (D_minus : DefAt K "minus" s_minus) (D_times : DefAt K "times" s_times) (D_over : DefAt K "over" s_over) (D_sum_of : DefAt K "sum_of" s_sum_of) (D_turn_of : DefAt K "turn_of" s_turn_of) (D_sums_of : DefAt K "sums_of" s_sums_of) (D_whole_of : DefAt K "whole_of" s_whole_of) (D_is_on : DefAt K "is_on" s_is_on) (D_line_of : DefAt K "line_of" s_line_of) (D_meeting : DefAt K "meeting" s_meeting) (D_same_point : DefAt K "same_point" s_same_point) (D_about : DefAt K "about" s_about) (D_law_mixed : DefAt K "_law_mixed" s_law_mixed) (D_law_rest : DefAt K "_law_rest" s_law_rest) (D_law_pool : DefAt K "_law_pool" s_law_pool) (D_law_next : DefAt K "_law_next" s_law_next) (D_law_draw : DefAt K "_law_draw" s_law_draw) (D_law_pick : DefAt K "_law_pick" s_law_pick) (D_law_same : DefAt K "_law_same" s_law_same) (D_law_gcd : DefAt K "_law_gcd" s_law_gcd) (D_law_frac : DefAt K "_law_frac" s_law_frac) (D_law_add : DefAt K "_law_add" s_law_add) (D_law_sub : DefAt K "_law_sub" s_law_sub) (D_law_mul : DefAt K "_law_mul" s_law_mul) (D_law_div : DefAt K "_law_div" s_law_div) (D_law_some : DefAt K "_law_some" s_law_some) (D_law_point : DefAt K "_law_point" s_law_point) (D_law_turn : DefAt K "_law_turn" s_law_turn) (D_law_line : DefAt K "_law_line" s_law_line) (D_law_on : DefAt K "_law_on" s_law_on) (D_law_back : DefAt K "_law_back" s_law_back) (D_law : DefAt K "law" s_law) (z_all : PySem.W.nsIn K mainGlobals "all" = some none) (z_bool : PySem.W.nsIn K mainGlobals "bool" = some none) (z_dict : PySem.W.nsIn K mainGlobals "dict" = some none) (z_enumerate : PySem.W.nsIn K mainGlobals "enumerate" = some none) (z_int : PySem.W.nsIn K mainGlobals "int" = some none) (z_isinstance : PySem.W.nsIn K mainGlobals "isinstance" = some none) (z_len : PySem.W.nsIn K mainGlobals "len" = some none) (z_list : PySem.W.nsIn K mainGlobals "list" = some none) (z_range : PySem.W.nsIn K mainGlobals "range" = some none) (z_str : PySem.W.nsIn K mainGlobals "str" = some none) (z_tuple : PySem.W.nsIn K mainGlobals "tuple" = some none) (y_NOUGHT : ∃ a, PySem.W.nsIn K mainGlobals "NOUGHT" = some (some (.ref a)) ∧ KTup K a [0, 1]) (y_gcd : PySem.W.nsIn K mainGlobals "gcd" = some (some (.builtin "math.gcd"))) :
    ∃ fd : FuncData, (∀ (s : Shared) (v : Value), BindsTo s fd ⟨[v], []⟩ [("script", v)]) ∧ ∀ base : Heap, K.In base → base.Ns mainGlobals mg → FnOk P w K mg base CX0 8 fa fd ["script"] (spD K f_law) := by
  have b_all := PySem.W.mg_none_of X G z_all
  have b_bool := PySem.W.mg_none_of X G z_bool
  have b_dict := PySem.W.mg_none_of X G z_dict
  have b_enumerate := PySem.W.mg_none_of X G z_enumerate
  have b_int := PySem.W.mg_none_of X G z_int
  have b_isinstance := PySem.W.mg_none_of X G z_isinstance
  have b_len := PySem.W.mg_none_of X G z_len
  have b_list := PySem.W.mg_none_of X G z_list
  have b_range := PySem.W.mg_none_of X G z_range
  have b_str := PySem.W.mg_none_of X G z_str
  have b_tuple := PySem.W.mg_none_of X G z_tuple
  have c_NOUGHT : ∃ a, mg "NOUGHT" = some (.ref a) ∧ KTup K a [0, 1] := by
    obtain ⟨a, h1, h2⟩ := y_NOUGHT
    exact ⟨a, PySem.W.mg_of X G h1, h2⟩
  have c_gcd := PySem.W.mg_of X G y_gcd
  obtain ⟨f, od, an, sl, oc, kV, dc, pm, cd, ct, a, l, c, k⟩ := D_law
  have e := hfa.symm.trans (PySem.W.mg_of X G a)
  cases e
  refine ⟨PySem.W.fnOf "law" "law" (defArgs s_law) (defBody s_law) (defScope s_law) .none kV dc pm an cd ct, fun s v => .of_eq rfl, fun base _ _ => ?_⟩
  have F_frac : FD P w K mg base 1 "frac" ["p", "q"] (spD K f_frac) := by
    obtain ⟨f, od, an, sl, oc, kV, dc, pm, cd, ct, a, l, c, k⟩ := D_frac
    have F := fun_mk (st := s_frac) l c k
    exact ⟨f, _, ok_frac F c_gcd, PySem.W.mg_of X G a, F.kp, bd_frac F⟩
  have F_law_mixed : FD P w K mg base 1 "_law_mixed" ["number", "place"] (spD K f_law_mixed) := by
    obtain ⟨f, od, an, sl, oc, kV, dc, pm, cd, ct, a, l, c, k⟩ := D_law_mixed
    have F := fun_mk (st := s_law_mixed) l c k
    exact ⟨f, _, ok_law_mixed F b_int, PySem.W.mg_of X G a, F.kp, bd_law_mixed F⟩
  have F_law_gcd : FD P w K mg base 1 "_law_gcd" ["a", "b"] (spD K f_law_gcd) := by
    obtain ⟨f, od, an, sl, oc, kV, dc, pm, cd, ct, a, l, c, k⟩ := D_law_gcd
    have F := fun_mk (st := s_law_gcd) l c k
    exact ⟨f, _, ok_law_gcd F b_int b_range, PySem.W.mg_of X G a, F.kp, bd_law_gcd F⟩
  have F_plus : FD P w K mg base 2 "plus" ["a", "b"] (spD K f_plus) := by
    obtain ⟨f, od, an, sl, oc, kV, dc, pm, cd, ct, a, l, c, k⟩ := D_plus
    have F := fun_mk (st := s_plus) l c k
    exact ⟨f, _, ok_plus F F_frac, PySem.W.mg_of X G a, F.kp, bd_plus F⟩
  have F_minus : FD P w K mg base 2 "minus" ["a", "b"] (spD K f_minus) := by
    obtain ⟨f, od, an, sl, oc, kV, dc, pm, cd, ct, a, l, c, k⟩ := D_minus
    have F := fun_mk (st := s_minus) l c k
    exact ⟨f, _, ok_minus F F_frac, PySem.W.mg_of X G a, F.kp, bd_minus F⟩
  have F_times : FD P w K mg base 2 "times" ["a", "b"] (spD K f_times) := by
    obtain ⟨f, od, an, sl, oc, kV, dc, pm, cd, ct, a, l, c, k⟩ := D_times
    have F := fun_mk (st := s_times) l c k
    exact ⟨f, _, ok_times F F_frac, PySem.W.mg_of X G a, F.kp, bd_times F⟩
  have F_over : FD P w K mg base 2 "over" ["a", "b"] (spD K f_over) := by
    obtain ⟨f, od, an, sl, oc, kV, dc, pm, cd, ct, a, l, c, k⟩ := D_over
    have F := fun_mk (st := s_over) l c k
    exact ⟨f, _, ok_over F F_frac, PySem.W.mg_of X G a, F.kp, bd_over F⟩
  have F_law_rest : FD P w K mg base 2 "_law_rest" ["script", "place", "fills"] (spD K f_law_rest) := by
    obtain ⟨f, od, an, sl, oc, kV, dc, pm, cd, ct, a, l, c, k⟩ := D_law_rest
    have F := fun_mk (st := s_law_rest) l c k
    exact ⟨f, _, ok_law_rest F b_int b_len F_law_mixed, PySem.W.mg_of X G a, F.kp, bd_law_rest F⟩
  have F_law_frac : FD P w K mg base 2 "_law_frac" ["p", "q"] (spD K f_law_frac) := by
    obtain ⟨f, od, an, sl, oc, kV, dc, pm, cd, ct, a, l, c, k⟩ := D_law_frac
    have F := fun_mk (st := s_law_frac) l c k
    exact ⟨f, _, ok_law_frac F F_law_gcd, PySem.W.mg_of X G a, F.kp, bd_law_frac F⟩
  have F_sum_of : FD P w K mg base 3 "sum_of" ["numbers"] (spD K f_sum_of) := by
    obtain ⟨f, od, an, sl, oc, kV, dc, pm, cd, ct, a, l, c, k⟩ := D_sum_of
    have F := fun_mk (st := s_sum_of) l c k
    exact ⟨f, _, ok_sum_of F c_NOUGHT F_plus, PySem.W.mg_of X G a, F.kp, bd_sum_of F⟩
  have F_turn_of : FD P w K mg base 3 "turn_of" ["point", "force"] (spD K f_turn_of) := by
    obtain ⟨f, od, an, sl, oc, kV, dc, pm, cd, ct, a, l, c, k⟩ := D_turn_of
    have F := fun_mk (st := s_turn_of) l c k
    exact ⟨f, _, ok_turn_of F F_minus F_times, PySem.W.mg_of X G a, F.kp, bd_turn_of F⟩
  have F_is_on : FD P w K mg base 3 "is_on" ["line", "point"] (spD K f_is_on) := by
    obtain ⟨f, od, an, sl, oc, kV, dc, pm, cd, ct, a, l, c, k⟩ := D_is_on
    have F := fun_mk (st := s_is_on) l c k
    exact ⟨f, _, ok_is_on F F_plus F_times, PySem.W.mg_of X G a, F.kp, bd_is_on F⟩
  have F_meeting : FD P w K mg base 3 "meeting" ["one", "other"] (spD K f_meeting) := by
    obtain ⟨f, od, an, sl, oc, kV, dc, pm, cd, ct, a, l, c, k⟩ := D_meeting
    have F := fun_mk (st := s_meeting) l c k
    exact ⟨f, _, ok_meeting F c_NOUGHT F_minus F_over F_times, PySem.W.mg_of X G a, F.kp, bd_meeting F⟩
  have F_law_pool : FD P w K mg base 3 "_law_pool" ["script"] (spF K f_law_pool) := by
    obtain ⟨f, od, an, sl, oc, kV, dc, pm, cd, ct, a, l, c, k⟩ := D_law_pool
    have F := fun_mk (st := s_law_pool) l c k
    exact ⟨f, _, ok_law_pool F F_law_rest, PySem.W.mg_of X G a, F.kp, bd_law_pool F⟩
  have F_law_next : FD P w K mg base 3 "_law_next" ["pool"] (spP K f_law_next) := by
    obtain ⟨f, od, an, sl, oc, kV, dc, pm, cd, ct, a, l, c, k⟩ := D_law_next
    have F := fun_mk (st := s_law_next) l c k
    exact ⟨f, _, ok_law_next F F_law_rest, PySem.W.mg_of X G a, F.kp, bd_law_next F⟩
  have F_law_draw : FD P w K mg base 3 "_law_draw" ["pool", "limit"] (spP K f_law_draw) := by
    obtain ⟨f, od, an, sl, oc, kV, dc, pm, cd, ct, a, l, c, k⟩ := D_law_draw
    have F := fun_mk (st := s_law_draw) l c k
    exact ⟨f, _, ok_law_draw F b_int F_law_rest, PySem.W.mg_of X G a, F.kp, bd_law_draw F⟩
  have F_law_add : FD P w K mg base 3 "_law_add" ["one", "other"] (spD K f_law_add) := by
    obtain ⟨f, od, an, sl, oc, kV, dc, pm, cd, ct, a, l, c, k⟩ := D_law_add
    have F := fun_mk (st := s_law_add) l c k
    exact ⟨f, _, ok_law_add F F_law_frac, PySem.W.mg_of X G a, F.kp, bd_law_add F⟩
  have F_law_sub : FD P w K mg base 3 "_law_sub" ["one", "other"] (spD K f_law_sub) := by
    obtain ⟨f, od, an, sl, oc, kV, dc, pm, cd, ct, a, l, c, k⟩ := D_law_sub
    have F := fun_mk (st := s_law_sub) l c k
    exact ⟨f, _, ok_law_sub F F_law_frac, PySem.W.mg_of X G a, F.kp, bd_law_sub F⟩
  have F_law_mul : FD P w K mg base 3 "_law_mul" ["one", "other"] (spD K f_law_mul) := by
    obtain ⟨f, od, an, sl, oc, kV, dc, pm, cd, ct, a, l, c, k⟩ := D_law_mul
    have F := fun_mk (st := s_law_mul) l c k
    exact ⟨f, _, ok_law_mul F F_law_frac, PySem.W.mg_of X G a, F.kp, bd_law_mul F⟩
  have F_law_div : FD P w K mg base 3 "_law_div" ["one", "other"] (spD K f_law_div) := by
    obtain ⟨f, od, an, sl, oc, kV, dc, pm, cd, ct, a, l, c, k⟩ := D_law_div
    have F := fun_mk (st := s_law_div) l c k
    exact ⟨f, _, ok_law_div F F_law_frac, PySem.W.mg_of X G a, F.kp, bd_law_div F⟩
  have F_sums_of : FD P w K mg base 4 "sums_of" ["forces"] (spD K f_sums_of) := by
    obtain ⟨f, od, an, sl, oc, kV, dc, pm, cd, ct, a, l, c, k⟩ := D_sums_of
    have F := fun_mk (st := s_sums_of) l c k
    exact ⟨f, _, ok_sums_of F F_sum_of F_turn_of, PySem.W.mg_of X G a, F.kp, bd_sums_of F⟩
  have F_line_of : FD P w K mg base 4 "line_of" ["point", "force"] (spD K f_line_of) := by
    obtain ⟨f, od, an, sl, oc, kV, dc, pm, cd, ct, a, l, c, k⟩ := D_line_of
    have F := fun_mk (st := s_line_of) l c k
    exact ⟨f, _, ok_line_of F c_NOUGHT F_minus F_turn_of, PySem.W.mg_of X G a, F.kp, bd_line_of F⟩
  have F_same_point : FD P w K mg base 4 "same_point" ["lines"] (spD K f_same_point) := by
    obtain ⟨f, od, an, sl, oc, kV, dc, pm, cd, ct, a, l, c, k⟩ := D_same_point
    have F := fun_mk (st := s_same_point) l c k
    exact ⟨f, _, ok_same_point F b_all b_enumerate F_is_on F_meeting, PySem.W.mg_of X G a, F.kp, bd_same_point F⟩
  have F_law_pick : FD P w K mg base 4 "_law_pick" ["pool", "options"] (spP K f_law_pick) := by
    obtain ⟨f, od, an, sl, oc, kV, dc, pm, cd, ct, a, l, c, k⟩ := D_law_pick
    have F := fun_mk (st := s_law_pick) l c k
    exact ⟨f, _, ok_law_pick F b_len F_law_draw, PySem.W.mg_of X G a, F.kp, bd_law_pick F⟩
  have F_law_turn : FD P w K mg base 4 "_law_turn" ["point", "force"] (spD K f_law_turn) := by
    obtain ⟨f, od, an, sl, oc, kV, dc, pm, cd, ct, a, l, c, k⟩ := D_law_turn
    have F := fun_mk (st := s_law_turn) l c k
    exact ⟨f, _, ok_law_turn F F_law_mul F_law_sub, PySem.W.mg_of X G a, F.kp, bd_law_turn F⟩
  have F_law_on : FD P w K mg base 4 "_law_on" ["line", "point"] (spD K f_law_on) := by
    obtain ⟨f, od, an, sl, oc, kV, dc, pm, cd, ct, a, l, c, k⟩ := D_law_on
    have F := fun_mk (st := s_law_on) l c k
    exact ⟨f, _, ok_law_on F F_law_add F_law_mul, PySem.W.mg_of X G a, F.kp, bd_law_on F⟩
  have F_law_back : FD P w K mg base 4 "_law_back" ["force"] (spD K f_law_back) := by
    obtain ⟨f, od, an, sl, oc, kV, dc, pm, cd, ct, a, l, c, k⟩ := D_law_back
    have F := fun_mk (st := s_law_back) l c k
    exact ⟨f, _, ok_law_back F F_law_sub, PySem.W.mg_of X G a, F.kp, bd_law_back F⟩
  have F_whole_of : FD P w K mg base 5 "whole_of" ["forces"] (spD K f_whole_of) := by
    obtain ⟨f, od, an, sl, oc, kV, dc, pm, cd, ct, a, l, c, k⟩ := D_whole_of
    have F := fun_mk (st := s_whole_of) l c k
    exact ⟨f, _, ok_whole_of F c_NOUGHT F_minus F_sums_of, PySem.W.mg_of X G a, F.kp, bd_whole_of F⟩
  have F_about : FD P w K mg base 5 "about" ["point", "forces"] (spD K f_about) := by
    obtain ⟨f, od, an, sl, oc, kV, dc, pm, cd, ct, a, l, c, k⟩ := D_about
    have F := fun_mk (st := s_about) l c k
    exact ⟨f, _, ok_about F F_minus F_sums_of F_turn_of, PySem.W.mg_of X G a, F.kp, bd_about F⟩
  have F_law_some : FD P w K mg base 5 "_law_some" ["pool", "low", "high"] (spP K f_law_some) := by
    obtain ⟨f, od, an, sl, oc, kV, dc, pm, cd, ct, a, l, c, k⟩ := D_law_some
    have F := fun_mk (st := s_law_some) l c k
    exact ⟨f, _, ok_law_some F F_law_draw F_law_frac F_law_pick, PySem.W.mg_of X G a, F.kp, bd_law_some F⟩
  have F_law_line : FD P w K mg base 5 "_law_line" ["point", "force"] (spD K f_law_line) := by
    obtain ⟨f, od, an, sl, oc, kV, dc, pm, cd, ct, a, l, c, k⟩ := D_law_line
    have F := fun_mk (st := s_law_line) l c k
    exact ⟨f, _, ok_law_line F F_law_sub F_law_turn, PySem.W.mg_of X G a, F.kp, bd_law_line F⟩
  have F_law_point : FD P w K mg base 6 "_law_point" ["pool", "wide"] (spP K f_law_point) := by
    obtain ⟨f, od, an, sl, oc, kV, dc, pm, cd, ct, a, l, c, k⟩ := D_law_point
    have F := fun_mk (st := s_law_point) l c k
    exact ⟨f, _, ok_law_point F F_law_some, PySem.W.mg_of X G a, F.kp, bd_law_point F⟩
  have F_law_same : FD P w K mg base 7 "_law_same" ["answer", "due"] (spD K (f_law_same 6)) := by
    obtain ⟨f, od, an, sl, oc, kV, dc, pm, cd, ct, a, l, c, k⟩ := D_law_same
    have F := fun_mk (st := s_law_same) l c k
    exact ⟨f, _, ok_law_same F b_all b_bool b_dict b_int b_isinstance b_len b_list b_range b_str b_tuple (PySem.W.mg_of X G a) (bd_law_same F) 6, PySem.W.mg_of X G a, F.kp, bd_law_same F⟩
  exact ok_law (fun_mk l c k) b_range F_law_add F_law_back F_law_div F_law_draw F_law_line F_law_mul F_law_next F_law_on F_law_point F_law_pool F_law_same F_law_some F_law_sub F_about F_is_on F_line_of F_meeting F_same_point F_sums_of F_whole_of
end TB
/-! What the data functions give, as conditions. -/
namespace TB
open PySem L2

def wE (g : GE) (ρ : DEnv) (Q : D → DEnv → Prop) : Prop := ∃ d ρ', g ρ = some (d, ρ') ∧ Q d ρ'
def wT (g : GT) (ρ : DEnv) (Q : Bool → DEnv → Prop) : Prop := ∃ d ρ', g ρ = some (d, ρ') ∧ Q d ρ'
def wA (g : GA) (ρ : DEnv) (Q : List D → DEnv → Prop) : Prop := ∃ d ρ', g ρ = some (d, ρ') ∧ Q d ρ'
def wS (g : GS) (ρ : DEnv) (Q : Out → DEnv → Prop) : Prop := ∃ d ρ', g ρ = some (d, ρ') ∧ Q d ρ'
def wO {α : Type} (x : Option α) (Q : α → Prop) : Prop := ∃ a, x = some a ∧ Q a
@[simp] theorem wO_some {α : Type} {a : α} {Q : α → Prop} : wO (some a) Q ↔ Q a := ⟨fun ⟨_, e, q⟩ => by cases e; exact q, fun q => ⟨a, rfl, q⟩⟩
@[simp] theorem wO_none {α : Type} {Q : α → Prop} : wO (none : Option α) Q ↔ False := ⟨fun ⟨_, e, _⟩ => (by cases e), False.elim⟩
theorem wO_if {α : Type} {c : Prop} [Decidable c] {x : Option α} {Q : α → Prop} (h : c) (q : wO x Q) : wO (if c then x else none) Q := by rw [if_pos h]; exact q
@[simp] theorem wO_ite {α : Type} {c : Prop} [Decidable c] {a : α} {Q : α → Prop} : wO (if c then some a else none) Q ↔ c ∧ Q a := by
  by_cases h : c <;> simp [h]
theorem wO_map {α β : Type} {x : Option α} {f : α → β} {Q : β → Prop} : wO (x.map f) Q ↔ wO x fun a => Q (f a) := by
  cases x <;> simp
theorem wO_bind {α β : Type} {x : Option α} {f : α → Option β} {Q : β → Prop} : wO (x.bind f) Q ↔ wO x fun a => wO (f a) Q := by
  cases x <;> simp
theorem wE_O {g : GE} {ρ : DEnv} {Q : D → DEnv → Prop} : wE g ρ Q ↔ wO (g ρ) fun p => Q p.1 p.2 := ⟨fun ⟨d, r, e, q⟩ => ⟨(d, r), e, q⟩, fun ⟨p, e, q⟩ => ⟨p.1, p.2, e, q⟩⟩
theorem wT_O {g : GT} {ρ : DEnv} {Q : Bool → DEnv → Prop} : wT g ρ Q ↔ wO (g ρ) fun p => Q p.1 p.2 := ⟨fun ⟨d, r, e, q⟩ => ⟨(d, r), e, q⟩, fun ⟨p, e, q⟩ => ⟨p.1, p.2, e, q⟩⟩
theorem wA_O {g : GA} {ρ : DEnv} {Q : List D → DEnv → Prop} : wA g ρ Q ↔ wO (g ρ) fun p => Q p.1 p.2 := ⟨fun ⟨d, r, e, q⟩ => ⟨(d, r), e, q⟩, fun ⟨p, e, q⟩ => ⟨p.1, p.2, e, q⟩⟩
theorem wS_O {g : GS} {ρ : DEnv} {Q : Out → DEnv → Prop} : wS g ρ Q ↔ wO (g ρ) fun p => Q p.1 p.2 := ⟨fun ⟨d, r, e, q⟩ => ⟨(d, r), e, q⟩, fun ⟨p, e, q⟩ => ⟨p.1, p.2, e, q⟩⟩
theorem wE_mono {g : GE} {ρ : DEnv} {Q Q' : D → DEnv → Prop} (h : wE g ρ Q) (f : ∀ d r, Q d r → Q' d r) : wE g ρ Q' := let ⟨d, r, e, q⟩ := h; ⟨d, r, e, f d r q⟩
theorem wS_mono {g : GS} {ρ : DEnv} {Q Q' : Out → DEnv → Prop} (h : wS g ρ Q) (f : ∀ d r, Q d r → Q' d r) : wS g ρ Q' := let ⟨d, r, e, q⟩ := h; ⟨d, r, e, f d r q⟩

/-! slots -/
def slD (s : Option Sl) (Q : D → Prop) : Prop := match s with
  | some (.d x) => Q x
  | _ => False
@[simp] theorem slD_d {x : D} {Q : D → Prop} : slD (some (.d x)) Q = Q x := rfl
def slM (s : Option Sl) (Q : List D → Prop) : Prop := match cellOf s with
  | some xs => Q xs
  | none => False
@[simp] theorem slM_m {x : List D} {Q : List D → Prop} : slM (some (.m x)) Q = Q x := rfl
@[simp] theorem slM_p {x : List D} {Q : List D → Prop} : slM (some (.p x)) Q = Q x := rfl
@[simp] theorem reCell_m {x y : List D} : reCell x (some (.m y)) = .m x := rfl
@[simp] theorem reCell_p {x y : List D} : reCell x (some (.p y)) = .p x := rfl
theorem wO_cell {s : Option Sl} {Q : List D → Prop} : wO (cellOf s) Q ↔ slM s Q := by
  unfold slM
  cases cellOf s <;> simp

section
variable {ρ : DEnv} {QE : D → DEnv → Prop} {QT : Bool → DEnv → Prop} {QA : List D → DEnv → Prop} {QS : Out → DEnv → Prop} {ga gb ge gk : GE} {gt gu : GT} {gr : GA} {gf : GF} {g h : GS}
@[simp] theorem wE_var {i : Nat} : wE (gVar i) ρ QE ↔ slD ρ[i]? fun x => QE x ρ := by
  rw [wE_O]; unfold gVar slD
  split <;> simp_all
@[simp] theorem wE_c {x : D} : wE (gC x) ρ QE ↔ QE x ρ := by rw [wE_O]; simp [gC]
@[simp] theorem wE_bin {op : D → D → Option D} : wE (gBin op ga gb) ρ QE ↔ wE ga ρ fun x ρ1 => wE gb ρ1 fun y ρ2 => wO (op x y) fun z => QE z ρ2 := by
  simp only [wE_O, gBin, wO_bind, wO_map]
@[simp] theorem wE_un {op : D → Option D} : wE (gUn op ga) ρ QE ↔ wE ga ρ fun x ρ1 => wO (op x) fun z => QE z ρ1 := by
  simp only [wE_O, gUn, wO_bind, wO_map]
@[simp] theorem wA_nil : wA aNil ρ QA ↔ QA [] ρ := by rw [wA_O]; simp [aNil]
@[simp] theorem wA_cons : wA (aCons ga gr) ρ QA ↔ wE ga ρ fun x ρ1 => wA gr ρ1 fun xs ρ2 => QA (x :: xs) ρ2 := by
  simp only [wE_O, wA_O, aCons, wO_bind, wO_map]
@[simp] theorem wE_tup : wE (gTpl gr) ρ QE ↔ wA gr ρ fun xs ρ1 => xs.length ≤ 16777216 ∧ QE (.tuple xs) ρ1 := by
  simp only [wE_O, wA_O, gTpl, wO_bind, wO_ite]
def wF (g : GF) (ρ : DEnv) (Q : List D → DEnv → Prop) : Prop := ∃ d ρ', g ρ = some (d, ρ') ∧ Q d ρ'
theorem wF_O {g : GF} {ρ : DEnv} {Q : List D → DEnv → Prop} : wF g ρ Q ↔ wO (g ρ) fun p => Q p.1 p.2 := ⟨fun ⟨d, r, e, q⟩ => ⟨(d, r), e, q⟩, fun ⟨p, e, q⟩ => ⟨p.1, p.2, e, q⟩⟩
@[simp] theorem wF_lst : wF (gLst gr) ρ QA ↔ wA gr ρ fun xs ρ1 => xs.length ≤ 16777216 ∧ QA xs ρ1 := by
  simp only [wF_O, wA_O, gLst, wO_bind, wO_ite]
@[simp] theorem wE_ofF : wE (gOfF gf) ρ QE ↔ wF gf ρ fun xs ρ1 => QE (.list xs) ρ1 := by
  simp only [wE_O, wF_O, gOfF, wO_map]
@[simp] theorem wE_fun {f : List D → Option D} : wE (gFun f gr) ρ QE ↔ wA gr ρ fun xs ρ1 => wO (f xs) fun z => QE z ρ1 := by
  simp only [wE_O, wA_O, gFun, wO_bind, wO_map]
@[simp] theorem wF_fun {f : List D → Option (List D)} : wF (gFunF f gr) ρ QA ↔ wA gr ρ fun xs ρ1 => wO (f xs) fun z => QA z ρ1 := by
  simp only [wF_O, wA_O, gFunF, wO_bind, wO_map]
@[simp] theorem wE_funP {i : Nat} {f : List D → List D → Option (D × List D)} : wE (gFunP i f gr) ρ QE ↔ slM ρ[i]? fun _ => wA gr ρ fun xs ρ1 => slM ρ1[i]? fun ps => wO (f ps xs) fun z => QE z.1 (ρ1.set i (reCell z.2 ρ1[i]?)) := by
  simp only [wE_O, wA_O, gFunP, wO_bind, wO_map, wO_cell]
@[simp] theorem wT_B : wT (gB ga) ρ QT ↔ wE ga ρ fun x ρ1 => match x with | .bool b => QT b ρ1 | _ => False := by
  simp only [wE_O, wT_O, gB, wO_bind]
  refine Iff.of_eq (congrArg _ (funext fun p => ?_))
  cases p.1 <;> simp
@[simp] theorem wT_and : wT (gAnd gt gu) ρ QT ↔ wT gt ρ fun b ρ1 => if b = true then wT gu ρ1 QT else QT false ρ1 := by
  simp only [wT_O, gAnd, wO_bind]
  refine Iff.of_eq (congrArg _ (funext fun p => ?_))
  by_cases hp : p.1 = true <;> simp [hp]
@[simp] theorem wT_or : wT (gOr gt gu) ρ QT ↔ wT gt ρ fun b ρ1 => if b = true then QT true ρ1 else wT gu ρ1 QT := by
  simp only [wT_O, gOr, wO_bind]
  refine Iff.of_eq (congrArg _ (funext fun p => ?_))
  by_cases hp : p.1 = true <;> simp [hp]
@[simp] theorem wT_not : wT (gNot gt) ρ QT ↔ wT gt ρ fun b ρ1 => QT (!b) ρ1 := by
  simp only [wT_O, gNot, wO_map]
@[simp] theorem wE_andV : wE (gAndV ga gb) ρ QE ↔ wE ga ρ fun x ρ1 => match x with | .bool b => if b = true then wE gb ρ1 QE else QE (.bool false) ρ1 | _ => False := by
  simp only [wE_O, gAndV, wO_bind]
  refine Iff.of_eq (congrArg _ (funext fun p => ?_))
  split
  · rename_i b hb
    try rw [hb]
    by_cases h : b = true <;> simp [h]
  · rename_i hb
    cases hp : p.1 with
    | bool b => exact absurd hp (hb b)
    | _ => simp
@[simp] theorem wE_orV : wE (gOrV ga gb) ρ QE ↔ wE ga ρ fun x ρ1 => match x with | .bool b => if b = true then QE (.bool true) ρ1 else wE gb ρ1 QE | _ => False := by
  simp only [wE_O, gOrV, wO_bind]
  refine Iff.of_eq (congrArg _ (funext fun p => ?_))
  split
  · rename_i b hb
    try rw [hb]
    by_cases h : b = true <;> simp [h]
  · rename_i hb
    cases hp : p.1 with
    | bool b => exact absurd hp (hb b)
    | _ => simp
@[simp] theorem wE_notV : wE (gNotV ga) ρ QE ↔ wE ga ρ fun x ρ1 => match x with | .bool b => QE (.bool (!b)) ρ1 | _ => False := by
  simp only [wE_O, gNotV, wO_bind]
  refine Iff.of_eq (congrArg _ (funext fun p => ?_))
  cases p.1 <;> simp
@[simp] theorem wE_ifE : wE (gIfE gt ga gb) ρ QE ↔ wT gt ρ fun b ρ1 => if b = true then wE ga ρ1 QE else wE gb ρ1 QE := by
  simp only [wE_O, wT_O, gIfE, wO_bind]
  refine Iff.of_eq (congrArg _ (funext fun p => ?_))
  by_cases hp : p.1 = true <;> simp [hp]
@[simp] theorem wE_ixM {i : Nat} : wE (gIxM i gk) ρ QE ↔ slM ρ[i]? fun _ => wE gk ρ fun k ρ1 => match k with | .int k => slM ρ1[i]? fun xs => wO (atI xs k) fun x => QE x ρ1 | _ => False := by
  simp only [wE_O, gIxM, wO_bind, wO_cell]
  refine Iff.of_eq (congrArg _ (funext fun _ => congrArg _ (funext fun p => ?_)))
  cases p.1 <;> simp [wO_bind, wO_map, wO_cell]
@[simp] theorem wE_lenM {i : Nat} : wE (gLenM i) ρ QE ↔ slM ρ[i]? fun xs => QE (.int xs.length) ρ := by
  simp only [wE_O, gLenM, wO_map, wO_cell]
@[simp] theorem wE_popAt {i : Nat} : wE (gPopAt i gk) ρ QE ↔ slM ρ[i]? fun _ => wE gk ρ fun k ρ1 => match k with | .int k => slM ρ1[i]? fun xs => (-(2 ^ 63) ≤ k ∧ k < 2 ^ 63) ∧ wO (ixN xs.length k) fun j => wO xs[j]? fun x => QE x (ρ1.set i (reCell (xs.eraseIdx j) ρ1[i]?)) | _ => False := by
  simp only [wE_O, gPopAt, wO_bind, wO_cell]
  refine Iff.of_eq (congrArg _ (funext fun _ => congrArg _ (funext fun p => ?_)))
  cases p.1 with
  | int k =>
    simp only [wO_bind, wO_cell]
    refine congrArg _ (funext fun xs => ?_)
    by_cases hb : -(2 ^ 63) ≤ k ∧ k < 2 ^ 63
    · rw [if_pos hb]; simp only [wO_bind, wO_map, hb, true_and, and_self]
    · rw [if_neg hb]; simp only [wO_none, hb, false_and]
  | _ => simp

@[simp] theorem wS_drop : wS (gDrop ge) ρ QS ↔ wE ge ρ fun _ ρ1 => QS .nx ρ1 := by simp only [wS_O, wE_O, gDrop, wO_map]
@[simp] theorem wS_set {i : Nat} : wS (gSet i ge) ρ QS ↔ wE ge ρ fun x ρ1 => QS .nx (ρ1.set i (.d x)) := by simp only [wS_O, wE_O, gSet, wO_map]
@[simp] theorem wS_setF {i : Nat} : wS (gSetF i gf) ρ QS ↔ wF gf ρ fun x ρ1 => QS .nx (ρ1.set i (.m x)) := by simp only [wS_O, wF_O, gSetF, wO_map]
@[simp] theorem wS_ret : wS (gRet ge) ρ QS ↔ wE ge ρ fun x ρ1 => QS (.rt x) ρ1 := by simp only [wS_O, wE_O, gRet, wO_map]
@[simp] theorem wS_retN : wS gRetN ρ QS ↔ QS (.rt .none) ρ := by rw [wS_O]; simp [gRetN]
@[simp] theorem wS_retFF : wS (gRetFF gf) ρ QS ↔ wF gf ρ fun x ρ1 => QS (.rf x) ρ1 := by simp only [wS_O, wF_O, gRetFF, wO_map]
def slMM (s : Option Sl) (Q : List D → Prop) : Prop := match s with
  | some (.m xs) => Q xs
  | _ => False
@[simp] theorem slMM_m {x : List D} {Q : List D → Prop} : slMM (some (.m x)) Q = Q x := rfl
@[simp] theorem wS_retM {i : Nat} : wS (gRetM i) ρ QS ↔ slMM ρ[i]? fun xs => QS (.rf xs) ρ := by
  rw [wS_O]; unfold gRetM slMM
  split <;> simp_all
@[simp] theorem wS_skip : wS gSkip ρ QS ↔ QS .nx ρ := by rw [wS_O]; simp [gSkip]
@[simp] theorem wS_brk : wS gBrk ρ QS ↔ QS .bk ρ := by rw [wS_O]; simp [gBrk]
@[simp] theorem wS_cnt : wS gCnt ρ QS ↔ QS .ct ρ := by rw [wS_O]; simp [gCnt]
@[simp] theorem wS_never : wS gNever ρ QS ↔ False := by rw [wS_O]; simp [gNever]
@[simp] theorem wS_seq : wS (gSeq g h) ρ QS ↔ wS g ρ fun o ρ1 => match o with | .nx => wS h ρ1 QS | o => QS o ρ1 := by
  simp only [wS_O, gSeq, wO_bind]
  refine Iff.of_eq (congrArg _ (funext fun p => ?_))
  cases p.1 <;> simp
@[simp] theorem wS_if : wS (gIf gt g h) ρ QS ↔ wT gt ρ fun b ρ1 => if b = true then wS g ρ1 QS else wS h ρ1 QS := by
  simp only [wS_O, wT_O, gIf, wO_bind]
  refine Iff.of_eq (congrArg _ (funext fun p => ?_))
  by_cases hp : p.1 = true <;> simp [hp]
@[simp] theorem wS_par {i j : Nat} : wS (gPar i j gr) ρ QS ↔ wA gr ρ fun xs ρ1 => match xs with | [x, y] => QS .nx ((ρ1.set i (.d x)).set j (.d y)) | _ => False := by
  simp only [wS_O, wA_O, gPar, wO_bind]
  refine Iff.of_eq (congrArg _ (funext fun p => ?_))
  split <;> simp_all
def frz (ρ : DEnv) (i : Nat) : DEnv := match ρ[i]? with
  | some (.m xs) => ρ.set i (.d (.list xs))
  | _ => ρ
@[simp] theorem wS_frz {i : Nat} : wS (gFrz i g) ρ QS ↔ wS g (frz ρ i) QS := by
  have e : gFrz i g ρ = g (frz ρ i) := by
    unfold gFrz frz
    cases ρ[i]? with
    | none => rfl
    | some s => cases s <;> rfl
  simp only [wS_O, e]
@[simp] theorem wS_asg {gg : GG} : wS (gAsg ge gg) ρ QS ↔ wE ge ρ fun x ρ1 => wO (gg x ρ1) fun ρ2 => QS .nx ρ2 := by
  simp only [wS_O, wE_O, gAsg, wO_bind, wO_map]
@[simp] theorem wS_app {i : Nat} : wS (gApp i ge) ρ QS ↔ slM ρ[i]? fun _ => wE ge ρ fun x ρ1 => slM ρ1[i]? fun xs => xs.length < 16777216 ∧ QS .nx (ρ1.set i (reCell (xs ++ [x]) ρ1[i]?)) := by
  simp only [wS_O, wE_O, gApp, wO_bind, wO_cell, wO_ite]
@[simp] theorem wS_put {i : Nat} : wS (gPut i ge gk) ρ QS ↔ wE ge ρ fun x ρ1 => slM ρ1[i]? fun _ => wE gk ρ1 fun k ρ2 => match k with | .int k => slM ρ2[i]? fun xs => wO (ixN xs.length k) fun j => QS .nx (ρ2.set i (reCell (xs.set j x) ρ2[i]?)) | _ => False := by
  simp only [wS_O, wE_O, gPut, wO_bind, wO_cell]
  refine Iff.of_eq (congrArg _ (funext fun p => congrArg _ (funext fun _ => congrArg _ (funext fun q => ?_))))
  cases q.1 <;> simp [wO_bind, wO_map, wO_cell]
theorem wS_for {gi : GA} {gg : GG} : wS (gFor gi gg g) ρ QS ↔ wA gi ρ fun ds ρ1 => wS (forGo gg g ds) ρ1 QS := by
  simp only [wS_O, wA_O, gFor, wO_bind]
@[simp] theorem wA_range1 : wA (gRange1 gr) ρ QA ↔ wA gr ρ fun xs ρ1 => match xs with | [.int j] => (-(2 ^ 62) ≤ j ∧ j < 2 ^ 62) ∧ QA (rangeD 0 j.toNat) ρ1 | _ => False := by
  simp only [wA_O, gRange1, wO_bind]
  refine Iff.of_eq (congrArg _ (funext fun p => ?_))
  split
  · rename_i h; (try rw [h]); simp only [wO_ite]
  · rename_i h
    refine propext ⟨fun q => (wO_none.mp q).elim, fun q => ?_⟩
    first
      | exact q.elim
      | (split at q
         · rename_i j h2; exact absurd h2 (h j)
         · exact q.elim)
@[simp] theorem wA_items : wA (gItems ge) ρ QA ↔ wE ge ρ fun x ρ1 => match x with | .list xs => QA xs ρ1 | .dict [(.none, .list xs)] => QA xs ρ1 | _ => False := by
  simp only [wA_O, wE_O, gItems, wO_bind]
  refine Iff.of_eq (congrArg _ (funext fun p => ?_))
  split <;> simp_all
theorem wF_lc {gi : GA} {gg : GG} {vs : List Nat} : wF (gLc gi gg gt ge vs) ρ QA ↔ wA gi ρ fun ds ρ1 => (ds.length ≤ 16777216 ∧ vs.all (dataAt ρ1) = true) ∧ wO (lcGo gg gt ge vs ds (wipeD ρ1 vs)) fun z => QA z.1 (back ρ1 z.2 vs) := by
  simp only [wF_O, wA_O, gLc, wO_bind]
  refine Iff.of_eq (congrArg _ (funext fun p => ?_))
  split
  · rename_i h; simp only [wO_map, h, and_self, true_and]
  · rename_i h; simp only [wO_none, h, false_and]
@[simp] theorem wT_yes : wT gYes ρ QT ↔ QT true ρ := by rw [wT_O]; simp [gYes]
@[simp] theorem wO_gN {i : Nat} {x : D} {Q : DEnv → Prop} : wO (gN i x ρ) Q ↔ Q (ρ.set i (.d x)) := by simp [gN]
end

/-! loops -/
theorem forGo_inv {gg : GG} {gb : GS} (P : Nat → DEnv → Prop) : ∀ (ds : List D) (i : Nat) (ρ : DEnv), P i ρ →
    (∀ (j : Nat) (d : D) (ρ : DEnv), ds[j]? = some d → P (i + j) ρ → wO (gg d ρ) fun ρ1 => wS gb ρ1 fun o ρ2 => (o = .nx ∨ o = .ct) ∧ P (i + j + 1) ρ2) → ∃ ρ', forGo gg gb ds ρ = some (.nx, ρ') ∧ P (i + ds.length) ρ'
  | [], i, ρ, h, _ => ⟨ρ, rfl, h⟩
  | d :: r, i, ρ, h, st => by
    obtain ⟨ρ1, e1, o, ρ2, e2, ho, h2⟩ := st 0 d ρ rfl h
    obtain ⟨ρ', e3, h3⟩ := forGo_inv P r (i + 1) ρ2 h2 fun j d' ρ3 hj hp => by
      have := st (j + 1) d' ρ3 (by simpa using hj) (by rw [show i + (j + 1) = i + 1 + j by omega]; exact hp)
      rw [show i + (j + 1) + 1 = i + 1 + j + 1 by omega] at this
      exact this
    refine ⟨ρ', ?_, by rw [List.length_cons, show i + (r.length + 1) = i + 1 + r.length by omega]; exact h3⟩
    unfold forGo
    rw [e1, Option.bind_some, e2, Option.bind_some]
    rcases ho with rfl | rfl <;> exact e3
/-- a loop whose turns all go on -/
theorem wS_for_inv {gi : GA} {gg : GG} {gb : GS} {ρ : DEnv} {Q : Out → DEnv → Prop} (P : List D → Nat → DEnv → Prop)
    (h : wA gi ρ fun ds ρ1 => P ds 0 ρ1 ∧ (∀ (j : Nat) (d : D) (ρ : DEnv), ds[j]? = some d → P ds j ρ → wO (gg d ρ) fun ρ1 => wS gb ρ1 fun o ρ2 => (o = .nx ∨ o = .ct) ∧ P ds (j + 1) ρ2) ∧ ∀ ρ2, P ds ds.length ρ2 → Q .nx ρ2) : wS (gFor gi gg gb) ρ Q := by
  rw [wS_for]
  obtain ⟨ds, ρ1, e, h0, st, q⟩ := h
  obtain ⟨ρ', e2, h2⟩ := forGo_inv (P ds) ds 0 ρ1 h0 fun j d ρ hj hp => by
    rw [Nat.zero_add] at hp ⊢
    exact st j d ρ hj hp
  rw [Nat.zero_add] at h2
  exact ⟨ds, ρ1, e, .nx, ρ', e2, q ρ' h2⟩
/-- a comprehension: each element by itself -/
theorem lcGo_map {gg : GG} {gt : GT} {ge : GE} {vs : List Nat} (f : Nat → D → D) (ρ0 : DEnv) : ∀ (ds : List D) (i : Nat),
    (∀ (j : Nat) (d : D), ds[j]? = some d → wO (gg d ρ0) fun ρ1 => wT gt ρ1 fun b ρ2 => b = true ∧ wE ge ρ2 fun y ρ3 => y = f (i + j) d ∧ wipeD ρ3 vs = ρ0) → lcGo gg gt ge vs ds ρ0 = some (ds.mapIdx fun j d => f (i + j) d, ρ0)
  | [], i, _ => rfl
  | d :: r, i, st => by
    obtain ⟨ρ1, e1, b, ρ2, e2, rfl, y, ρ3, e3, rfl, hw⟩ := st 0 d rfl
    have ih := lcGo_map f ρ0 r (i + 1) fun j d' hj => by
      have := st (j + 1) d' (by simpa using hj)
      rw [show i + (j + 1) = i + 1 + j by omega] at this
      exact this
    unfold lcGo
    rw [e1, Option.bind_some, e2, Option.bind_some, if_pos rfl, e3, Option.bind_some]
    show Option.map _ (lcGo gg gt ge vs r (wipeD ρ3 vs)) = _
    rw [hw, ih]
    simp only [Option.map_some, List.mapIdx_cons, Nat.add_zero]
    congr 4
    funext j d
    rw [show i + 1 + j = i + (j + 1) by omega]
end TB
namespace TB
open PySem L2

theorem wO_runD {nN np : Nat} {g : GS} {ds : List D} {Q : D → Prop} : wO (runD nN np g ds) Q ↔ ds.length = np ∧ wS g (ds.map Sl.d ++ List.replicate (nN - np) .no) fun o _ => match o with | .rt x => Q x | .rf xs => Q (.list xs) | .nx => Q .none | _ => False := by
  unfold runD
  by_cases h : ds.length = np
  · rw [if_pos h, wO_bind, wS_O]
    simp only [h, true_and]
    refine Iff.of_eq (congrArg _ (funext fun p => ?_))
    cases p.1 <;> simp
  · rw [if_neg h]; simp [h]
theorem wO_runF {nN np : Nat} {g : GS} {ds : List D} {Q : List D → Prop} : wO (runF nN np g ds) Q ↔ ds.length = np ∧ wS g (ds.map Sl.d ++ List.replicate (nN - np) .no) fun o _ => match o with | .rf xs => Q xs | _ => False := by
  unfold runF
  by_cases h : ds.length = np
  · rw [if_pos h, wO_bind, wS_O]
    simp only [h, true_and]
    refine Iff.of_eq (congrArg _ (funext fun p => ?_))
    cases p.1 <;> simp
  · rw [if_neg h]; simp [h]
def slP (s : Option Sl) (Q : List D → Prop) : Prop := match s with
  | some (.p xs) => Q xs
  | _ => False
@[simp] theorem slP_p {x : List D} {Q : List D → Prop} : slP (some (.p x)) Q = Q x := rfl
theorem wO_runP {nN np : Nat} {g : GS} {ps ds : List D} {Q : D × List D → Prop} : wO (runP nN np g ps ds) Q ↔ ds.length + 1 = np ∧ wS g (.p ps :: (ds.map Sl.d ++ List.replicate (nN - np) .no)) fun o ρ => slP ρ[0]? fun ps' => match o with | .rt x => Q (x, ps') | .rf xs => Q (.list xs, ps') | .nx => Q (.none, ps') | _ => False := by
  unfold runP
  by_cases h : ds.length + 1 = np
  · rw [if_pos h, wO_bind, wS_O]
    simp only [h, true_and]
    refine Iff.of_eq (congrArg _ (funext fun p => ?_))
    unfold slP
    split
    · rename_i e
      try rw [e]
      cases p.1 <;> simp
    · rename_i e
      refine propext ⟨fun q => (wO_none.mp q).elim, fun q => ?_⟩
      first
        | exact q.elim
        | (split at q
           · rename_i xs e2; exact absurd e2 (e xs)
           · exact q.elim)
  · rw [if_neg h]; simp [h]
theorem of_wO {α : Type} {x : Option α} {a : α} (h : wO x fun b => b = a) : x = some a := by
  obtain ⟨b, e, rfl⟩ := h
  exact e

/-! sizes -/
@[irreducible] def Bd (a : Nat) (z : Int) : Prop := z.natAbs < 2 ^ a
theorem Bd.mono {a b : Nat} {z : Int} (h : Bd a z) (hab : a ≤ b) : Bd b z := by unfold Bd at *; exact Nat.lt_of_lt_of_le h (Nat.pow_le_pow_right (by decide) hab)
theorem Bd.lit {a : Nat} {x : Int} (h : decide (x.natAbs < 2 ^ a) = true) : Bd a x := by unfold Bd; exact of_decide_eq_true h
theorem Bd.one {a : Nat} (h : 0 < a) : Bd a 1 := (Bd.lit (a := 1) (by decide)).mono h
theorem Bd.zero {a : Nat} : Bd a 0 := (Bd.lit (a := 0) (by decide)).mono (Nat.zero_le a)
theorem Bd.add {a : Nat} {x y : Int} (hx : Bd a x) (hy : Bd a y) : Bd (a + 1) (x + y) := by
  unfold Bd at *
  have := Int.natAbs_add_le x y
  rw [Nat.pow_succ]
  omega
theorem Bd.neg {a : Nat} {x : Int} (hx : Bd a x) : Bd a (-x) := by unfold Bd at *; rw [Int.natAbs_neg]; exact hx
theorem Bd.sub {a : Nat} {x y : Int} (hx : Bd a x) (hy : Bd a y) : Bd (a + 1) (x - y) := by rw [Int.sub_eq_add_neg]; exact hx.add hy.neg
theorem Bd.mul {a b : Nat} {x y : Int} (hx : Bd a x) (hy : Bd b y) : Bd (a + b) (x * y) := by
  unfold Bd at *
  rw [Int.natAbs_mul, Nat.pow_add]
  exact Nat.mul_lt_mul'' hx hy
theorem Bd.of_le {a : Nat} {x y : Int} (hy : Bd a y) (h0 : 0 ≤ x) (h : x ≤ y) : Bd a x := by
  unfold Bd at *
  have : x.natAbs ≤ y.natAbs := by omega
  omega
theorem Bd.of_natAbs {a : Nat} {x y : Int} (hy : Bd a y) (h : x.natAbs ≤ y.natAbs) : Bd a x := by unfold Bd at *; exact Nat.lt_of_le_of_lt h hy
theorem Bd.log2 {a : Nat} {x : Int} (h : Bd a x) (h0 : 0 < a) : x.natAbs.log2 < a := by
  unfold Bd at h
  by_cases z : x.natAbs = 0
  · rw [z]; exact h0
  · exact (Nat.log2_lt z).mpr h
theorem mulOk_of {a b : Nat} {x y : Int} (hx : Bd a x) (hy : Bd b y) (h : a + b ≤ 134000000) : mulOk x y = true := by
  have h1 := (hx.mono (Nat.le_add_right a 1)).log2 (Nat.succ_pos a)
  have h2 : y.natAbs.log2 < b + 1 := (hy.mono (Nat.le_add_right b 1)).log2 (Nat.succ_pos b)
  unfold mulOk
  refine decide_eq_true ?_
  by_cases h3 : 0 < a
  · have := hx.log2 h3; omega
  · by_cases h4 : 0 < b
    · have := hy.log2 h4; omega
    · have : a = 0 := by omega
      have : b = 0 := by omega
      omega
theorem Bd.of_bits {z : Int} {n : Nat} (h : Builtin.Int.intBits z ≤ n) : Bd n z := by
  unfold Builtin.Int.intBits at h
  unfold Bd
  by_cases e : z.natAbs = 0
  · rw [e]; exact Nat.pow_pos (by decide)
  · refine (Nat.log2_lt e).mp ?_
    split at h
    · rename_i h0; simp at h0; omega
    · omega
@[simp] theorem dMul_int {i j : Int} {Q : D → Prop} : wO (dMul (.int i) (.int j)) Q ↔ mulOk i j = true ∧ Q (.int (i * j)) := by simp [dMul]
@[simp] theorem dFdiv_int {i j : Int} {Q : D → Prop} : wO (dFdiv (.int i) (.int j)) Q ↔ (j ≠ 0 ∧ j.natAbs.log2 < 9000) ∧ Q (.int (i.fdiv j)) := by simp [dFdiv]
@[simp] theorem dMod_int {i j : Int} {Q : D → Prop} : wO (dMod (.int i) (.int j)) Q ↔ j ≠ 0 ∧ Q (.int (i.fmod j)) := by simp only [dMod, wO_ite]
@[simp] theorem dAdd_int {i j : Int} {Q : D → Prop} : wO (dAdd (.int i) (.int j)) Q ↔ Q (.int (i + j)) := by simp [dAdd]
@[simp] theorem dSub_int {i j : Int} {Q : D → Prop} : wO (dSub (.int i) (.int j)) Q ↔ Q (.int (i - j)) := by simp [dSub]
@[simp] theorem dNeg_int {i : Int} {Q : D → Prop} : wO (dNeg (.int i)) Q ↔ Q (.int (-i)) := by simp [dNeg]
@[simp] theorem dLt_int {i j : Int} {Q : D → Prop} : wO (dLt (.int i) (.int j)) Q ↔ Q (.bool (decide (i < j))) := by simp [dLt]
@[simp] theorem dLe_int {i j : Int} {Q : D → Prop} : wO (dLe (.int i) (.int j)) Q ↔ Q (.bool (decide (i ≤ j))) := by simp [dLe]
@[simp] theorem dGt_int {i j : Int} {Q : D → Prop} : wO (dGt (.int i) (.int j)) Q ↔ Q (.bool (decide (j < i))) := by simp [dGt]
@[simp] theorem dGe_int {i j : Int} {Q : D → Prop} : wO (dGe (.int i) (.int j)) Q ↔ Q (.bool (decide (j ≤ i))) := by simp [dGe]
@[simp] theorem dPow_int {i j : Int} {Q : D → Prop} : wO (dPow (.int i) (.int j)) Q ↔ (0 ≤ j ∧ j ≤ 1000000 ∧ i.natAbs < 2 ^ 64) ∧ Q (.int (i ^ j.toNat)) := by simp [dPow]
@[simp] theorem dEq_int {i j : Int} {Q : D → Prop} : wO (dEq (.int i) (.int j)) Q ↔ Q (.bool (i == j)) := by
  have h : ∀ k : Int, SeqAt.shaped (.int k) = true := fun k => rfl
  simp [dEq, h, PyData.eqv]
@[simp] theorem fInt_int {i : Int} {Q : D → Prop} : wO (fInt [.int i]) Q ↔ Q (.int i) := by simp [fInt]
@[simp] theorem dIx_ro {xs : List D} {i : Int} {Q : D → Prop} : wO (dIx (.dict [(.none, .list xs)]) (.int i)) Q ↔ wO (atI xs i) Q := by simp [dIx]
@[simp] theorem dIx_lst {xs : List D} {i : Int} {Q : D → Prop} : wO (dIx (.list xs) (.int i)) Q ↔ wO (atI xs i) Q := by simp [dIx]
@[simp] theorem dIx_tup {xs : List D} {i : Int} {Q : D → Prop} : wO (dIx (.tuple xs) (.int i)) Q ↔ wO (atI xs i) Q := by simp [dIx]
@[simp] theorem fLen_ro {xs : List D} {Q : D → Prop} : wO (fLen [.dict [(.none, .list xs)]]) Q ↔ Q (.int xs.length) := by simp [fLen]
@[simp] theorem fLen_lst {xs : List D} {Q : D → Prop} : wO (fLen [.list xs]) Q ↔ Q (.int xs.length) := by simp [fLen]
@[simp] theorem fLen_tup {xs : List D} {Q : D → Prop} : wO (fLen [.tuple xs]) Q ↔ Q (.int xs.length) := by simp [fLen]
theorem atI_nn {α : Type} {xs : List α} {i : Int} {Q : α → Prop} (h0 : 0 ≤ i) (h1 : i < xs.length) (h : ∀ a, xs[i.toNat]? = some a → Q a) : wO (atI xs i) Q := by
  have hl : i.toNat < xs.length := by omega
  have hi : i = ((i.toNat : Nat) : Int) := by omega
  have e : atI xs i = some xs[i.toNat] := by
    have e2 : atI xs ((i.toNat : Nat) : Int) = some xs[i.toNat] := atI_nat (List.getElem?_eq_getElem hl)
    rwa [← hi] at e2
  rw [e]
  exact ⟨_, rfl, h _ (List.getElem?_eq_getElem hl)⟩
@[simp] theorem atI_0 {α : Type} {a : α} {r : List α} : atI (a :: r) 0 = some a := atI_nat (j := 0) rfl
@[simp] theorem atI_1 {α : Type} {a b : α} {r : List α} : atI (a :: b :: r) 1 = some b := atI_nat (j := 1) rfl
@[simp] theorem atI_2 {α : Type} {a b c : α} {r : List α} : atI (a :: b :: c :: r) 2 = some c := atI_nat (j := 2) rfl
@[simp] theorem atI_3 {α : Type} {a b c d : α} {r : List α} : atI (a :: b :: c :: d :: r) 3 = some d := atI_nat (j := 3) rfl
abbrev scr (ns : List Int) : D := .dict [(.none, .list (ns.map PyData.int))]
end TB
namespace TB
open PySem L2
/-! ### drawing -/
theorem fmod_pos {x m : Int} (h : 0 < m) : x.fmod m = x % m := Int.fmod_eq_emod_of_nonneg x (by omega)
theorem fdiv_pos {x m : Int} (h : 0 < m) : x.fdiv m = x / m := Int.fdiv_eq_ediv_of_nonneg x (by omega)
theorem Bd.mod {x m : Int} {a : Nat} (hm : 0 < m) (h : Bd a m) : Bd a (x % m) := h.of_le (Int.emod_nonneg x (by omega)) (Int.le_of_lt (Int.emod_lt_of_pos x hm))
theorem mixed_ok {a : Nat} {n p : Int} (hn : Bd a n) (hp : Bd 100 p) (h0 : 0 ≤ n) (h1 : 0 ≤ p) (ha : a ≤ 100000000) : ∃ r, f_law_mixed [.int n, .int p] = some (.int r) ∧ 0 ≤ r ∧ Bd 250 r := by
  have k1 : Bd 79 410338673998125441398711 := Bd.lit (by decide)
  have k2 : Bd 80 736418259301774563982039 := Bd.lit (by decide)
  have m1 : mulOk n 410338673998125441398711 = true := mulOk_of hn k1 (by omega)
  have m2 : mulOk p 736418259301774563982039 = true := mulOk_of hp k2 (by omega)
  generalize hx : (n * 410338673998125441398711 + p * 736418259301774563982039 + 295075153872261839517363) % 618970019642690137449562111 = x
  have bx : Bd 90 x := by rw [← hx]; exact Bd.mod (by decide) (Bd.lit (by decide))
  have x0 : 0 ≤ x := by rw [← hx]; exact Int.emod_nonneg _ (by decide)
  have m3 : mulOk x x = true := mulOk_of bx bx (by omega)
  have m4 : mulOk 7 x = true := mulOk_of (Bd.lit (a := 3) (by decide)) bx (by omega)
  generalize hy : (x * x + 7 * x + p) % 162259276829213363391578010288127 = y
  have bY : Bd 108 y := by rw [← hy]; exact Bd.mod (by decide) (Bd.lit (by decide))
  have y0 : 0 ≤ y := by rw [← hy]; exact Int.emod_nonneg _ (by decide)
  have m5 : mulOk y y = true := mulOk_of bY bY (by omega)
  have k3 : Bd 90 618970019642690137449562111 := Bd.lit (by decide)
  have m6 : mulOk y 618970019642690137449562111 = true := mulOk_of bY k3 (by omega)
  generalize hz : (y * y + x) % 618970019642690137449562111 = z
  have bz : Bd 90 z := by rw [← hz]; exact Bd.mod (by decide) k3
  have z0 : 0 ≤ z := by rw [← hz]; exact Int.emod_nonneg _ (by decide)
  refine ⟨y * 618970019642690137449562111 + z, of_wO ?_, by omega, ?_⟩
  · rw [f_law_mixed, wO_runD]
    refine ⟨rfl, ?_⟩
    have e1 := fmod_pos (x := n * 410338673998125441398711 + p * 736418259301774563982039 + 295075153872261839517363) (m := 618970019642690137449562111) (by decide)
    have e2 := fmod_pos (x := x * x + 7 * x + p) (m := 162259276829213363391578010288127) (by decide)
    have e3 := fmod_pos (x := y * y + x) (m := 618970019642690137449562111) (by decide)
    rw [hx] at e1; rw [hy] at e2; rw [hz] at e3
    simp [g_law_mixed, m1, m2, m3, m4, m5, m6, e1, e2, e3]
  · exact ((bY.mul k3).mono (by omega : 108 + 90 ≤ 249)).add (bz.mono (by omega))
def Sc (ns : List Int) : Prop := ns.length ≤ 63 ∧ ∀ z ∈ ns, Bd 1048576 z
theorem rest_ok {ns : List Int} (hs : Sc ns) {p f : Int} (hp : Bd 64 p) (hf : Bd 64 f) (p0 : 0 ≤ p) (f0 : 0 ≤ f) : ∃ r, f_law_rest [scr ns, .int p, .int f] = some (.int r) ∧ 0 ≤ r ∧ Bd 1048700 r := by
  -- the number that is read
  obtain ⟨n, hn, hnb⟩ : ∃ n : Int, (∀ (Q : Int → Prop), Q n → (0 < ns.length → ∀ QD : D → Prop, QD (.int n) → wO (atI (ns.map PyData.int) (p.fmod ns.length)) QD) ∧ (¬ 0 < ns.length → n = 0)) ∧ Bd 1048576 n := by
    by_cases h : 0 < ns.length
    · have e := fmod_pos (x := p) (m := (ns.length : Int)) (by omega)
      have l0 : 0 ≤ p % (ns.length : Int) := Int.emod_nonneg _ (by omega)
      have l1 : p % (ns.length : Int) < (ns.length : Int) := Int.emod_lt_of_pos _ (by omega)
      have hl : (p % (ns.length : Int)).toNat < ns.length := by omega
      refine ⟨ns[(p % (ns.length : Int)).toNat], fun Q q => ⟨fun _ QD qd => ?_, fun c => absurd h c⟩, hs.2 _ (List.getElem_mem _)⟩
      rw [e]
      refine atI_nn l0 (by rw [List.length_map]; exact l1) fun a ha => ?_
      rw [List.getElem?_map, List.getElem?_eq_getElem hl] at ha
      cases ha
      exact qd
    · exact ⟨0, fun Q q => ⟨fun c => absurd c h, fun _ => rfl⟩, Bd.zero⟩
  obtain ⟨hn1, hn2⟩ := hn (fun _ => True) trivial
  generalize hm : (if n < 0 then 1 - 2 * n else n) = m
  have m0 : 0 ≤ m := by rw [← hm]; split <;> omega
  have b2 : Bd 2 2 := Bd.lit (by decide)
  have mb : Bd 1048580 m := by
    rw [← hm]
    split
    · exact ((Bd.one (by omega : 0 < 1048579)).sub ((b2.mul hnb).mono (by omega)))
    · exact hnb.mono (by omega)
  have k7 : Bd 20 1000003 := Bd.lit (by decide)
  have hf7 : mulOk f 1000003 = true := mulOk_of hf k7 (by omega)
  have h2n : mulOk 2 n = true := mulOk_of b2 hnb (by omega)
  have b7 : Bd 1048581 (m + f * 1000003) := mb.add ((hf.mul k7).mono (by omega))
  obtain ⟨r, hr, r0, rb⟩ := mixed_ok b7 (hp.mono (by omega)) (Int.add_nonneg m0 (Int.mul_nonneg f0 (by decide))) p0 (by omega)
  have hl0 : ∀ h : 0 < ns.length, ns ≠ [] := fun h e => by rw [e] at h; cases h
  by_cases hc : f = 0 ∧ p < (ns.length : Int) ∧ 1000000000000000000 ≤ m
  · refine ⟨m - 1000000000000000000, of_wO ?_, by omega, mb.of_le (by omega) (by omega) |>.mono (by omega)⟩
    obtain ⟨rfl, hp1, hm1⟩ := hc
    have hl : 0 < ns.length := by omega
    rw [f_law_rest, wO_runD]
    refine ⟨rfl, ?_⟩
    simp [g_law_rest]
    rw [if_pos hl]
    refine ⟨hl0 hl, hn1 hl _ ?_⟩
    by_cases hn0 : n < 0
    · rw [if_pos hn0] at hm
      subst hm
      simp [hn0, h2n, hp1, hm1]
    · rw [if_neg hn0] at hm
      subst hm
      simp [hn0, hp1, hm1]
  · refine ⟨r, of_wO ?_, r0, rb.mono (by omega)⟩
    rw [f_law_rest, wO_runD]
    refine ⟨rfl, ?_⟩
    have fin : wO (f_law_mixed [.int (m + f * 1000003), .int p]) fun x => x = .int r := ⟨_, hr, rfl⟩
    by_cases hl : 0 < ns.length
    · simp [g_law_rest]
      rw [if_pos hl]
      refine ⟨hl0 hl, hn1 hl _ ?_⟩
      by_cases hn0 : n < 0
      · rw [if_pos hn0] at hm
        subst hm
        by_cases hf0 : f = 0
        · subst hf0
          by_cases hp1 : p < (ns.length : Int)
          · have hm1 : ¬ 1000000000000000000 ≤ 1 - 2 * n := fun h => hc ⟨rfl, hp1, h⟩
            simp [hn0, h2n, hp1, hm1, hf7]
            simpa using fin
          · simp [hn0, h2n, hp1, hf7]
            simpa using fin
        · simp [hn0, h2n, hf0, hf7]
          exact fin
      · rw [if_neg hn0] at hm
        subst hm
        by_cases hf0 : f = 0
        · subst hf0
          by_cases hp1 : p < (ns.length : Int)
          · have hm1 : ¬ 1000000000000000000 ≤ n := fun h => hc ⟨rfl, hp1, h⟩
            simp [hn0, hp1, hm1, hf7]
            simpa using fin
          · simp [hn0, hp1, hf7]
            simpa using fin
        · simp [hn0, hf0, hf7]
          exact fin
    · have hn3 := hn2 hl
      subst hn3
      have hm0 : m = 0 := by rw [← hm]; rfl
      subst hm0
      have hp1 : ¬ p < (ns.length : Int) := by omega
      by_cases hf0 : f = 0
      · subst hf0
        simp [g_law_rest, hl, hp1, hf7]
        simpa using fin
      · simp [g_law_rest, hl, hf0, hf7]
        simpa using fin
end TB
namespace TB
open PySem L2
@[simp] theorem ix4_1 : ixN 4 1 = some 1 := rfl
@[simp] theorem ix4_2 : ixN 4 2 = some 2 := rfl
@[simp] theorem ix4_3 : ixN 4 3 = some 3 := rfl
structure PoolOk (ns : List Int) (c : Nat) (ps : List D) : Prop where
  is : ∃ i n f : Int, ps = [scr ns, .int i, .int n, .int f] ∧ 0 ≤ i ∧ i ≤ c ∧ 0 ≤ n ∧ Bd 1048700 n ∧ 0 ≤ f ∧ f ≤ c
theorem PoolOk.mono {ns : List Int} {c d : Nat} {ps : List D} (h : PoolOk ns c ps) (hcd : c ≤ d) : PoolOk ns d ps := by
  obtain ⟨i, n, f, e, a, b, c1, d1, e1, g⟩ := h.is
  exact ⟨i, n, f, e, a, by omega, c1, d1, e1, by omega⟩
def cMax : Nat := 1000000000000000000
theorem bd64 {x : Int} (h0 : 0 ≤ x) (h : x ≤ (cMax : Int) + 1) : Bd 64 x := by
  have h2 : Bd 64 ((cMax : Int) + 1) := Bd.lit (by decide)
  exact h2.of_le h0 h
theorem pool_step {ns : List Int} (hs : Sc ns) {Q : List D → Prop} (q : ∀ ps, PoolOk ns 0 ps → Q ps) : wO (f_law_pool [scr ns]) Q := by
  obtain ⟨r, hr, r0, rb⟩ := rest_ok hs (p := 0) (f := 0) Bd.zero Bd.zero (Int.le_refl 0) (Int.le_refl 0)
  rw [f_law_pool, wO_runF]
  refine ⟨rfl, ?_⟩
  simp [g_law_pool, hr]
  exact q _ ⟨0, r, 0, rfl, by omega, by omega, r0, rb, by omega, by omega⟩
theorem next_step {ns : List Int} (hs : Sc ns) {c : Nat} {ps : List D} (hp : PoolOk ns c ps) (hc : c ≤ cMax) {Q : D × List D → Prop} (q : ∀ ps', PoolOk ns (c + 1) ps' → Q (.none, ps')) : wO (f_law_next ps []) Q := by
  obtain ⟨i, n, f, rfl, i0, i1, n0, nb, f0, f1⟩ := hp.is
  obtain ⟨r, hr, r0, rb⟩ := rest_ok hs (p := i + 1) (f := 0) (bd64 (by omega) (by omega)) Bd.zero (by omega) (Int.le_refl 0)
  rw [f_law_next, wO_runP]
  refine ⟨rfl, ?_⟩
  simp [g_law_next, hr]
  exact q _ ⟨i + 1, r, 0, rfl, by omega, by omega, r0, rb, by omega, by omega⟩
theorem draw_step {ns : List Int} (hs : Sc ns) {c : Nat} {ps : List D} {L : Int} (hp : PoolOk ns c ps) (hc : c ≤ cMax) (hL : 0 < L) (hL2 : L < 1073741824) {Q : D × List D → Prop}
    (q : ∀ v ps', 0 ≤ v → v < L → PoolOk ns (c + 1) ps' → Q (.int v, ps')) : wO (f_law_draw ps [.int L]) Q := by
  obtain ⟨i, n, f, rfl, i0, i1, n0, nb, f0, f1⟩ := hp.is
  have hlog : L.natAbs.log2 < 9000 := by
    have : Bd 30 L := by
      have h2 : Bd 30 1073741823 := Bd.lit (by decide)
      exact h2.of_le (by omega) (by omega)
    have := this.log2 (by decide)
    omega
  have hL0 : L ≠ 0 := by omega
  have last : ∀ m : Int, 0 ≤ m → Bd 1048700 m → ∀ f' : Int, 0 ≤ f' → f' ≤ c + 1 → Q (.int (m.fmod L), [scr ns, .int i, .int (m.fdiv L), .int f']) := fun m m0 mb f' g0 g1 => by
    rw [fmod_pos hL, fdiv_pos hL]
    refine q _ _ (Int.emod_nonneg _ hL0) (Int.emod_lt_of_pos _ hL) ⟨i, m / L, f', rfl, i0, by omega, Int.ediv_nonneg m0 (by omega), mb.of_le (Int.ediv_nonneg m0 (by omega)) (Int.ediv_le_self L m0), g0, by omega⟩
  rw [f_law_draw, wO_runP]
  refine ⟨rfl, ?_⟩
  by_cases h1 : n ≤ 1
  · obtain ⟨r, hr, r0, rb⟩ := rest_ok hs (p := i) (f := f + 1) (bd64 i0 (by omega)) (bd64 (by omega) (by omega)) i0 (by omega)
    simp [g_law_draw, h1, hr, hL0, hlog]
    exact last r r0 rb _ (by omega) (by omega)
  · simp [g_law_draw, h1, hL0, hlog]
    exact last n n0 nb _ f0 (by omega)
theorem pick_step {ns : List Int} (hs : Sc ns) {c : Nat} {ps xs : List D} (hp : PoolOk ns c ps) (hc : c ≤ cMax) (h0 : 0 < xs.length) (h1 : xs.length < 1000000) {Q : D × List D → Prop}
    (q : ∀ x ps', x ∈ xs → PoolOk ns (c + 1) ps' → Q (x, ps')) : wO (f_law_pick ps [.list xs]) Q := by
  rw [f_law_pick, wO_runP]
  refine ⟨rfl, ?_⟩
  simp [g_law_pick]
  refine draw_step hs hp hc (by omega) (by omega) fun v ps' v0 v1 hp' => ?_
  simp
  refine atI_nn v0 v1 fun a ha => ?_
  simpa using q a ps' (List.mem_of_getElem? ha) hp'
end TB
namespace TB
open PySem L2
/-! ### fractions -/
@[irreducible] def enc (r : Rat) : D := .tuple [.int r.num, .int r.den]
theorem enc_def (r : Rat) : enc r = .tuple [.int r.num, .int r.den] := by unfold enc; rfl
theorem den_pos (r : Rat) : (0 : Int) < (r.den : Int) := by have := r.den_nz; omega
@[simp] theorem den_ne (r : Rat) : (r.den : Int) ≠ 0 := by have := r.den_nz; omega
theorem rat_eq (r : Rat) : r = (r.num : Rat) / ((r.den : Int) : Rat) := by
  rw [← Rat.divInt_eq_div]; exact (Rat.num_divInt_den r).symm
@[simp] theorem cden_ne (r : Rat) : (((r.den : Int) : Rat)) ≠ 0 := by
  intro h
  exact r.den_nz (by have := Rat.intCast_eq_zero_iff.mp h; omega)
@[simp] theorem dIx_enc0 {r : Rat} {Q : D → Prop} : wO (dIx (enc r) (.int 0)) Q ↔ Q (.int r.num) := by rw [enc_def]; simp
@[simp] theorem dIx_enc1 {r : Rat} {Q : D → Prop} : wO (dIx (enc r) (.int 1)) Q ↔ Q (.int r.den) := by rw [enc_def]; simp
theorem enc_inj {x y : Rat} : enc x = enc y ↔ x = y := by
  constructor
  · intro h
    rw [enc_def, enc_def] at h
    injection h with h
    injection h with h1 h2
    injection h2 with h2 _
    injection h1 with h1
    injection h2 with h2
    exact Rat.ext h1 (by omega)
  · intro h; rw [h]
theorem sh_enc (r : Rat) : SeqAt.shaped (enc r) = true := by rw [enc_def]; rfl
theorem eqv_enc (x y : Rat) : PyData.eqv (enc x) (enc y) = decide (x = y) := by
  have e : PyData.eqv (enc x) (enc y) = (decide (x.num = y.num) && decide ((x.den : Int) = (y.den : Int))) := by
    rw [enc_def, enc_def]
    simp [PyData.eqv, PyData.eqvAll]
    first | done | rfl | (by_cases h : x.num = y.num <;> simp [h])
  rw [e]
  by_cases h : x = y
  · rw [h]; simp
  · simp only [h, decide_false]
    by_cases h1 : x.num = y.num
    · have h2 : ¬ (x.den : Int) = (y.den : Int) := fun h2 => h (Rat.ext h1 (by omega))
      simp [h1]
      omega
    · simp [h1]
@[simp] theorem dEq_enc {x y : Rat} {Q : D → Prop} : wO (dEq (enc x) (enc y)) Q ↔ Q (.bool (decide (x = y))) := by simp [dEq, sh_enc, eqv_enc]
@[simp] theorem dNe_enc {x y : Rat} {Q : D → Prop} : wO (dNe (enc x) (enc y)) Q ↔ Q (.bool (!decide (x = y))) := by simp [dNe, sh_enc, eqv_enc]
@[simp] theorem enc_0 : (PyData.tuple [.int 0, .int 1]) = enc 0 := by rw [enc_def]; rfl
@[simp] theorem enc_1 : (PyData.tuple [.int 1, .int 1]) = enc 1 := by rw [enc_def]; rfl
@[simp] theorem enc_z (k : Int) : (PyData.tuple [.int k, .int 1]) = enc (k : Rat) := by rw [enc_def]; rfl

/-! heights -/
class Ht (x : Rat) (a : outParam Nat) : Prop where
  num : Bd a x.num
  den : Bd a x.den
theorem Ht.pos {x : Rat} {a : Nat} (h : Ht x a) : 0 < a := by
  have h1 := h.den
  unfold Bd at h1
  have := x.den_nz
  by_cases e : a = 0
  · rw [e] at h1; simp at h1; omega
  · omega
theorem Ht.of {p q : Int} {a : Nat} (hp : Bd a p) (hq : Bd a q) (h0 : q ≠ 0) : Ht ((p : Rat) / (q : Rat)) a := by
  have hg : 0 < q.gcd p := Int.gcd_pos_of_ne_zero_left _ h0
  rw [← Rat.divInt_eq_div]
  constructor
  · refine hp.of_natAbs ?_
    rw [Rat.num_divInt]
    refine Nat.le_trans (Int.natAbs_ediv_le_natAbs _ _) ?_
    rw [Int.natAbs_mul, Int.natAbs_sign_of_ne_zero h0, Nat.one_mul]
    exact Nat.le_refl _
  · refine hq.of_natAbs ?_
    rw [Rat.den_divInt, if_neg h0]
    exact Nat.div_le_self _ _
theorem Ht.mono {x : Rat} {a b : Nat} (h : Ht x a) (hab : a ≤ b) : Ht x b := ⟨h.num.mono hab, h.den.mono hab⟩
theorem f_add {p q r s : Rat} (hq : q ≠ 0) (hs : s ≠ 0) : p / q + r / s = (p * s + r * q) / (q * s) := by grind
theorem f_sub {p q r s : Rat} (hq : q ≠ 0) (hs : s ≠ 0) : p / q - r / s = (p * s - r * q) / (q * s) := by grind
theorem f_mul {p q r s : Rat} (hq : q ≠ 0) (hs : s ≠ 0) : (p / q) * (r / s) = (p * r) / (q * s) := by grind
theorem f_div {p q r s : Rat} (hq : q ≠ 0) (hs : s ≠ 0) (hr : r ≠ 0) : (p / q) / (r / s) = (p * s) / (q * r) := by grind
theorem add_eq (x y : Rat) : x + y = ((x.num * y.den + y.num * x.den : Int) : Rat) / ((x.den * y.den : Int) : Rat) := by
  conv => lhs; rw [rat_eq x, rat_eq y]
  rw [f_add (cden_ne x) (cden_ne y), Rat.intCast_add, Rat.intCast_mul, Rat.intCast_mul, Rat.intCast_mul]
theorem sub_eq (x y : Rat) : x - y = ((x.num * y.den - y.num * x.den : Int) : Rat) / ((x.den * y.den : Int) : Rat) := by
  conv => lhs; rw [rat_eq x, rat_eq y]
  rw [f_sub (cden_ne x) (cden_ne y), Rat.intCast_sub, Rat.intCast_mul, Rat.intCast_mul, Rat.intCast_mul]
theorem mul_eq (x y : Rat) : x * y = ((x.num * y.num : Int) : Rat) / ((x.den * y.den : Int) : Rat) := by
  conv => lhs; rw [rat_eq x, rat_eq y]
  rw [f_mul (cden_ne x) (cden_ne y), Rat.intCast_mul, Rat.intCast_mul]
theorem num_ne {y : Rat} (h : y ≠ 0) : y.num ≠ 0 := fun e => h (Rat.num_eq_zero.mp e)
theorem div_eq (x y : Rat) (h : y ≠ 0) : x / y = ((x.num * y.den : Int) : Rat) / ((x.den * y.num : Int) : Rat) := by
  have h3 : ((y.num : Int) : Rat) ≠ 0 := fun e => num_ne h (Rat.intCast_eq_zero_iff.mp e)
  conv => lhs; rw [rat_eq x, rat_eq y]
  rw [f_div (cden_ne x) (cden_ne y) h3, Rat.intCast_mul, Rat.intCast_mul]
theorem mden_ne (x y : Rat) : ((x.den : Int) * (y.den : Int)) ≠ 0 := Int.mul_ne_zero (den_ne x) (den_ne y)
instance Ht.add {x y : Rat} {a b : Nat} [hx : Ht x a] [hy : Ht y b] : Ht (x + y) (a + b + 1) := by
  rw [add_eq]
  exact Ht.of ((hx.num.mul hy.den).add ((hy.num.mul hx.den).mono (by omega))) ((hx.den.mul hy.den).mono (by omega)) (mden_ne x y)
instance Ht.sub {x y : Rat} {a b : Nat} [hx : Ht x a] [hy : Ht y b] : Ht (x - y) (a + b + 1) := by
  rw [sub_eq]
  exact Ht.of ((hx.num.mul hy.den).sub ((hy.num.mul hx.den).mono (by omega))) ((hx.den.mul hy.den).mono (by omega)) (mden_ne x y)
instance Ht.mul {x y : Rat} {a b : Nat} [hx : Ht x a] [hy : Ht y b] : Ht (x * y) (a + b) := by
  rw [mul_eq]
  exact Ht.of (hx.num.mul hy.num) (hx.den.mul hy.den) (mden_ne x y)
theorem Ht.zero : Ht 0 1 := ⟨Bd.zero, Bd.one (by omega)⟩
instance Ht.zeroI : Ht 0 1 := Ht.zero
instance Ht.oneI : Ht 1 1 := ⟨Bd.one (by omega), Bd.one (by omega)⟩
instance Ht.div {x y : Rat} {a b : Nat} [hx : Ht x a] [hy : Ht y b] : Ht (x / y) (a + b) := by
  by_cases h : y = 0
  · subst h
    have e : x / 0 = 0 := by rw [Rat.div_def]; simp
    rw [e]
    exact Ht.zero.mono (by have := hx.pos; omega)
  · rw [div_eq x y h]
    exact Ht.of (hx.num.mul hy.den) (hx.den.mul hy.num) (Int.mul_ne_zero (den_ne x) (num_ne h))
instance Ht.neg {x : Rat} {a : Nat} [hx : Ht x a] : Ht (-x) a := ⟨by rw [Rat.neg_num]; exact hx.num.neg, by rw [Rat.neg_den]; exact hx.den⟩
theorem Ht.int {k : Int} {a : Nat} (h : Bd a k) (h0 : 0 < a) : Ht (k : Rat) a := ⟨h, Bd.one h0⟩

/-! ### the reckoning of fractions -/
theorem forGo_brk {gg : GG} {gb : GS} (P : Nat → DEnv → Prop) (B : DEnv → Prop) : ∀ (ds : List D) (i : Nat) (ρ : DEnv), P i ρ →
    (∀ (j : Nat) (d : D) (ρ : DEnv), ds[j]? = some d → P (i + j) ρ → wO (gg d ρ) fun ρ1 => wS gb ρ1 fun o ρ2 => match o with | .nx => P (i + j + 1) ρ2 | .ct => P (i + j + 1) ρ2 | .bk => B ρ2 | _ => False) → ∃ ρ', forGo gg gb ds ρ = some (.nx, ρ') ∧ (P (i + ds.length) ρ' ∨ B ρ')
  | [], i, ρ, h, _ => ⟨ρ, rfl, .inl h⟩
  | d :: r, i, ρ, h, st => by
    obtain ⟨ρ1, e1, o, ρ2, e2, h2⟩ := st 0 d ρ rfl h
    have st' : ∀ (j : Nat) (d' : D) (ρ : DEnv), r[j]? = some d' → P (i + 1 + j) ρ → wO (gg d' ρ) fun ρ1 => wS gb ρ1 fun o ρ2 => match o with | .nx => P (i + 1 + j + 1) ρ2 | .ct => P (i + 1 + j + 1) ρ2 | .bk => B ρ2 | _ => False := fun j d' ρ3 hj hp => by
      have := st (j + 1) d' ρ3 (by simpa using hj) (by rw [show i + (j + 1) = i + 1 + j by omega]; exact hp)
      rw [show i + (j + 1) + 1 = i + 1 + j + 1 by omega] at this
      exact this
    have go : P (i + 1) ρ2 → (o = .nx ∨ o = .ct) → ∃ ρ', forGo gg gb (d :: r) ρ = some (.nx, ρ') ∧ (P (i + (d :: r).length) ρ' ∨ B ρ') := fun h2 ho => by
      obtain ⟨ρ', e3, h3⟩ := forGo_brk P B r (i + 1) ρ2 h2 st'
      refine ⟨ρ', ?_, by rw [List.length_cons, show i + (r.length + 1) = i + 1 + r.length by omega]; exact h3⟩
      unfold forGo
      rw [e1, Option.bind_some, e2, Option.bind_some]
      rcases ho with rfl | rfl <;> exact e3
    cases o with
    | nx => exact go h2 (.inl rfl)
    | ct => exact go h2 (.inr rfl)
    | bk =>
      refine ⟨ρ2, ?_, .inr h2⟩
      unfold forGo
      rw [e1, Option.bind_some, e2, Option.bind_some]
    | _ => exact h2.elim
theorem wS_for_brk {gi : GA} {gg : GG} {gb : GS} {ρ : DEnv} {Q : Out → DEnv → Prop} (P : List D → Nat → DEnv → Prop) (B : DEnv → Prop)
    (h : wA gi ρ fun ds ρ1 => P ds 0 ρ1 ∧ (∀ (j : Nat) (d : D) (ρ : DEnv), ds[j]? = some d → P ds j ρ → wO (gg d ρ) fun ρ1 => wS gb ρ1 fun o ρ2 => match o with | .nx => P ds (j + 1) ρ2 | .ct => P ds (j + 1) ρ2 | .bk => B ρ2 | _ => False) ∧ (∀ ρ2, P ds ds.length ρ2 → Q .nx ρ2) ∧ ∀ ρ2, B ρ2 → Q .nx ρ2) : wS (gFor gi gg gb) ρ Q := by
  rw [wS_for]
  obtain ⟨ds, ρ1, e, h0, st, q, qb⟩ := h
  obtain ⟨ρ', e2, h2⟩ := forGo_brk (P ds) B ds 0 ρ1 h0 fun j d ρ hj hp => by
    rw [Nat.zero_add] at hp ⊢
    exact st j d ρ hj hp
  rw [Nat.zero_add] at h2
  exact ⟨ds, ρ1, e, .nx, ρ', e2, h2.elim (q ρ') (qb ρ')⟩
/-- Euclid -/
def GcdP (a b : Nat) (j x y : Nat) : Prop := x.gcd y = a.gcd b ∧ ((j = 0 ∧ x = a ∧ y = b) ∨ (1 ≤ j ∧ y < x ∧ x * y * 2 ^ (j - 1) ≤ a * b))
theorem GcdP.step {a b j x y : Nat} (h : GcdP a b j x y) (hy : y ≠ 0) : GcdP a b (j + 1) y (x % y) := by
  obtain ⟨g, h⟩ := h
  have l : x % y < y := Nat.mod_lt _ (by omega)
  refine ⟨by rw [← g, Nat.gcd_comm y, ← Nat.gcd_rec, Nat.gcd_comm], .inr ⟨by omega, l, ?_⟩⟩
  rcases h with ⟨rfl, rfl, rfl⟩ | ⟨h1, h2, h3⟩
  · simp only [Nat.zero_add, Nat.sub_self, Nat.pow_zero, Nat.mul_one]
    rw [Nat.mul_comm]
    exact Nat.mul_le_mul_right _ (Nat.mod_le _ _)
  · refine Nat.le_trans ?_ h3
    have e : j + 1 - 1 = (j - 1) + 1 := by omega
    rw [e, Nat.pow_succ, Nat.mul_comm (2 ^ (j - 1)) 2, ← Nat.mul_assoc]
    refine Nat.mul_le_mul_right _ ?_
    have h4 : 2 * (x % y) ≤ x := by
      have h5 := Nat.div_add_mod x y
      have h6 : 1 ≤ x / y := (Nat.one_le_div_iff (by omega)).mpr (by omega)
      have h7 : y * 1 ≤ y * (x / y) := Nat.mul_le_mul_left _ h6
      omega
    rw [Nat.mul_assoc, Nat.mul_comm (x % y) 2, Nat.mul_comm x y]
    exact Nat.mul_le_mul_left _ h4
theorem law_gcd {a b : Nat} (hab : a * b < 2 ^ 2999) : f_law_gcd [.int a, .int b] = some (.int (a.gcd b : Nat)) := by
  refine of_wO ?_
  rw [f_law_gcd, wO_runD]
  refine ⟨rfl, ?_⟩
  simp only [g_law_gcd, wS_seq]
  refine wS_for_brk (fun ds j ρ => ds.length = 3000 ∧ ∃ (x y : Nat) (s : Sl), ρ = [.d (.int x), .d (.int y), s] ∧ GcdP a b j x y)
    (fun ρ => ∃ (y s : Sl), ρ = [.d (.int (a.gcd b : Nat)), y, s]) ?_
  simp only [wA_range1, wA_cons, wA_nil, wE_c]
  refine ⟨by decide, ⟨by simp [rangeD], a, b, _, rfl, rfl, .inl ⟨rfl, rfl, rfl⟩⟩, ?_, ?_, ?_⟩
  · rintro j d ρ hj ⟨hl, x, y, s, rfl, hp⟩
    simp
    by_cases hy : y = 0
    · subst hy
      obtain ⟨g, _⟩ := hp
      rw [Nat.gcd_zero_right] at g
      simp [g]
    · simp [hy, hl]
      refine ⟨hl, y, x % y, ⟨rfl, ?_⟩, hp.step hy⟩
      rw [fmod_pos (by omega)]
      exact (Int.natCast_emod x y).symm
  · rintro ρ ⟨hl, x, y, s, rfl, g, hp⟩
    rw [hl] at hp
    rcases hp with ⟨h, _⟩ | ⟨_, h1, h2⟩
    · omega
    · have hy : y = 0 := by
        by_cases hy : y = 0
        · exact hy
        · exfalso
          have h3 : 1 ≤ x * y := Nat.mul_pos (by omega) (by omega)
          have h4 : 1 * 2 ^ 2999 ≤ x * y * 2 ^ 2999 := Nat.mul_le_mul_right _ h3
          have h5 := Nat.le_trans h4 h2
          rw [Nat.one_mul] at h5
          exact absurd hab (Nat.not_lt.mpr h5)
      subst hy
      rw [Nat.gcd_zero_right] at g
      simp [g]
  · rintro ρ ⟨y, s, rfl⟩
    simp
theorem fr_num {p q : Int} (h : 0 < q) : p.fdiv ((p.natAbs.gcd q.natAbs : Nat) : Int) = ((p : Rat) / (q : Rat)).num := by
  rw [fdiv_pos (by have := Nat.gcd_pos_of_pos_right p.natAbs (show 0 < q.natAbs by omega); omega), ← Rat.divInt_eq_div, Rat.num_divInt, Int.sign_eq_one_of_pos h, Int.one_mul, Int.gcd_comm]
  rfl
theorem fr_den {p q : Int} (h : 0 < q) : q.fdiv ((p.natAbs.gcd q.natAbs : Nat) : Int) = ((((p : Rat) / (q : Rat)).den : Nat) : Int) := by
  rw [fdiv_pos (by have := Nat.gcd_pos_of_pos_right p.natAbs (show 0 < q.natAbs by omega); omega), ← Rat.divInt_eq_div, Rat.den_divInt, if_neg (by omega), Int.gcd_comm]
  rw [Int.natCast_ediv, Int.natAbs_of_nonneg (by omega)]
  rfl
theorem neg_fr (p q : Int) : ((-p : Int) : Rat) / ((-q : Int) : Rat) = (p : Rat) / (q : Rat) := by
  rw [Rat.intCast_neg, Rat.intCast_neg]
  grind
theorem gcd_le {p q : Int} {a : Nat} (hq : Bd a q) (h0 : q ≠ 0) : Bd a ((p.natAbs.gcd q.natAbs : Nat) : Int) := by
  refine hq.of_natAbs ?_
  rw [Int.natAbs_natCast]
  exact Nat.le_of_dvd (by omega) (Nat.gcd_dvd_right _ _)
theorem frac_ok {p q : Int} {a : Nat} (hq : Bd a q) (h0 : q ≠ 0) (ha : a ≤ 8999) : f_frac [.int p, .int q] = some (enc ((p : Rat) / (q : Rat))) := by
  have gl : ((p.natAbs.gcd q.natAbs : Nat) : Int).natAbs.log2 < 9000 := by
    by_cases hz : 0 < a
    · have := (gcd_le (p := p) hq h0).log2 hz; omega
    · exfalso
      have : a = 0 := by omega
      subst this
      unfold Bd at hq
      simp at hq
      omega
  have gz : ((p.natAbs.gcd q.natAbs : Nat) : Int) ≠ 0 := by
    have := Nat.gcd_pos_of_pos_right p.natAbs (show 0 < q.natAbs by omega); omega
  refine of_wO ?_
  rw [f_frac, wO_runD]
  refine ⟨rfl, ?_⟩
  have gz' : ((p.natAbs.gcd q.natAbs : Nat) : Int) = 0 ↔ False := ⟨gz, False.elim⟩
  by_cases hn : q < 0
  · have e1 := fr_num (p := -p) (q := -q) (by omega)
    have e2 := fr_den (p := -p) (q := -q) (by omega)
    rw [neg_fr, Int.natAbs_neg, Int.natAbs_neg] at e1 e2
    simp [g_frac, hn, fGcd, gz, gl, e1, e2, enc_def, h0, h0]
    simp at gl
    exact gl
  · have e1 := fr_num (p := p) (q := q) (by omega)
    have e2 := fr_den (p := p) (q := q) (by omega)
    simp [g_frac, hn, fGcd, gz, gl, e1, e2, enc_def, h0]
    simp at gl
    exact gl
theorem lfrac_ok {p q : Int} {a b : Nat} (hp : Bd a p) (hq : Bd b q) (h0 : q ≠ 0) (ha : a + b ≤ 2999) : f_law_frac [.int p, .int q] = some (enc ((p : Rat) / (q : Rat))) := by
  have gl : ((p.natAbs.gcd q.natAbs : Nat) : Int).natAbs.log2 < 9000 := by
    by_cases hz : 0 < b
    · have := (gcd_le (p := p) hq h0).log2 hz; omega
    · exfalso
      have : b = 0 := by omega
      subst this
      unfold Bd at hq
      simp at hq
      omega
  have gz : ((p.natAbs.gcd q.natAbs : Nat) : Int) ≠ 0 := by
    have := Nat.gcd_pos_of_pos_right p.natAbs (show 0 < q.natAbs by omega); omega
  have e3 : f_law_gcd [.int p.natAbs, .int q.natAbs] = some (.int (p.natAbs.gcd q.natAbs : Nat)) := by
    refine law_gcd ?_
    unfold Bd at hp hq
    have h1 := Nat.mul_lt_mul'' hp hq
    rw [← Nat.pow_add] at h1
    exact Nat.lt_of_lt_of_le h1 (Nat.pow_le_pow_right (by decide) ha)
  refine of_wO ?_
  rw [f_law_frac, wO_runD]
  refine ⟨rfl, ?_⟩
  have ab : ∀ z : Int, (z.natAbs : Int) = if 0 ≤ z then z else -z := fun z => by split <;> omega
  rw [ab, ab] at e3
  by_cases hn : q < 0
  · have e1 := fr_num (p := -p) (q := -q) (by omega)
    have e2 := fr_den (p := -p) (q := -q) (by omega)
    rw [neg_fr, Int.natAbs_neg, Int.natAbs_neg] at e1 e2
    have hn2 : ¬ 0 ≤ q := by omega
    rw [if_neg hn2] at e3
    by_cases hm : 0 ≤ -p
    · have e4 : (if 0 ≤ p then p else -p) = -p := by split <;> omega
      rw [e4] at e3
      have hm' : p ≤ 0 := by omega
      simp [g_law_frac, hn, hm', e3, gz, gl, e1, e2, enc_def, h0]
      simp at gl
      exact gl
    · have e4 : (if 0 ≤ p then p else -p) = p := by split <;> omega
      rw [e4] at e3
      have hm' : ¬ p ≤ 0 := by omega
      simp [g_law_frac, hn, hm', e3, gz, gl, e1, e2, enc_def, h0]
      simp at gl
      exact gl
  · have e1 := fr_num (p := p) (q := q) (by omega)
    have e2 := fr_den (p := p) (q := q) (by omega)
    have hn2 : 0 ≤ q := by omega
    rw [if_pos hn2] at e3
    by_cases hm : 0 ≤ p
    · rw [if_pos hm] at e3
      simp [g_law_frac, hn, hm, e3, gz, gl, e1, e2, enc_def, h0]
      simp at gl
      exact gl
    · rw [if_neg hm] at e3
      simp [g_law_frac, hn, hm, e3, gz, gl, e1, e2, enc_def, h0]
      simp at gl
      exact gl
end TB
namespace TB
open PySem L2
section
variable {x y : Rat} {a b : Nat} [hx : Ht x a] [hy : Ht y b] {Q : D → Prop}
theorem mO {p q : Int} {a b : Nat} (hp : Bd a p) (hq : Bd b q) (h : a + b ≤ 9000) : mulOk p q = true := mulOk_of hp hq (by omega)
theorem plus_e (h : a + b ≤ 8999) : f_plus [enc x, enc y] = some (enc (x + y)) := by
  have e := frac_ok (p := x.num * y.den + y.num * x.den) (hx.den.mul hy.den) (mden_ne x y) h
  rw [← add_eq] at e
  refine of_wO ?_
  rw [f_plus, wO_runD]
  refine ⟨rfl, ?_⟩
  simp [g_plus, mO hx.num hy.den (by omega), mO hy.num hx.den (by omega), mO hx.den hy.den (by omega), e]
theorem minus_e (h : a + b ≤ 8999) : f_minus [enc x, enc y] = some (enc (x - y)) := by
  have e := frac_ok (p := x.num * y.den - y.num * x.den) (hx.den.mul hy.den) (mden_ne x y) h
  rw [← sub_eq] at e
  refine of_wO ?_
  rw [f_minus, wO_runD]
  refine ⟨rfl, ?_⟩
  simp [g_minus, mO hx.num hy.den (by omega), mO hy.num hx.den (by omega), mO hx.den hy.den (by omega), e]
theorem times_e (h : a + b ≤ 8999) : f_times [enc x, enc y] = some (enc (x * y)) := by
  have e := frac_ok (p := x.num * y.num) (hx.den.mul hy.den) (mden_ne x y) h
  rw [← mul_eq] at e
  refine of_wO ?_
  rw [f_times, wO_runD]
  refine ⟨rfl, ?_⟩
  simp [g_times, mO hx.num hy.num (by omega), mO hx.den hy.den (by omega), e]
theorem over_e (h : a + b ≤ 8999) (h0 : y ≠ 0) : f_over [enc x, enc y] = some (enc (x / y)) := by
  have e := frac_ok (p := x.num * y.den) (hx.den.mul hy.num) (Int.mul_ne_zero (den_ne x) (num_ne h0)) h
  rw [← div_eq x y h0] at e
  refine of_wO ?_
  rw [f_over, wO_runD]
  refine ⟨rfl, ?_⟩
  simp [g_over, mO hx.num hy.den (by omega), mO hx.den hy.num (by omega), e]
theorem ladd_e (h : a + b ≤ 1499) : f_law_add [enc x, enc y] = some (enc (x + y)) := by
  have e := lfrac_ok (p := x.num * y.den + y.num * x.den) ((hx.num.mul hy.den).add ((hy.num.mul hx.den).mono (by omega))) (hx.den.mul hy.den) (mden_ne x y) (by omega)
  rw [← add_eq] at e
  refine of_wO ?_
  rw [f_law_add, wO_runD]
  refine ⟨rfl, ?_⟩
  simp [g_law_add, mO hx.num hy.den (by omega), mO hy.num hx.den (by omega), mO hx.den hy.den (by omega), e]
theorem lsub_e (h : a + b ≤ 1499) : f_law_sub [enc x, enc y] = some (enc (x - y)) := by
  have e := lfrac_ok (p := x.num * y.den - y.num * x.den) ((hx.num.mul hy.den).sub ((hy.num.mul hx.den).mono (by omega))) (hx.den.mul hy.den) (mden_ne x y) (by omega)
  rw [← sub_eq] at e
  refine of_wO ?_
  rw [f_law_sub, wO_runD]
  refine ⟨rfl, ?_⟩
  simp [g_law_sub, mO hx.num hy.den (by omega), mO hy.num hx.den (by omega), mO hx.den hy.den (by omega), e]
theorem lmul_e (h : a + b ≤ 1499) : f_law_mul [enc x, enc y] = some (enc (x * y)) := by
  have e := lfrac_ok (p := x.num * y.num) (hx.num.mul hy.num) (hx.den.mul hy.den) (mden_ne x y) (by omega)
  rw [← mul_eq] at e
  refine of_wO ?_
  rw [f_law_mul, wO_runD]
  refine ⟨rfl, ?_⟩
  simp [g_law_mul, mO hx.num hy.num (by omega), mO hx.den hy.den (by omega), e]
theorem ldiv_e (h : a + b ≤ 1499) (h0 : y ≠ 0) : f_law_div [enc x, enc y] = some (enc (x / y)) := by
  have e := lfrac_ok (p := x.num * y.den) (hx.num.mul hy.den) (hx.den.mul hy.num) (Int.mul_ne_zero (den_ne x) (num_ne h0)) (by omega)
  rw [← div_eq x y h0] at e
  refine of_wO ?_
  rw [f_law_div, wO_runD]
  refine ⟨rfl, ?_⟩
  simp [g_law_div, mO hx.num hy.den (by omega), mO hx.den hy.num (by omega), e]
@[simp] theorem plus_w (h : a + b ≤ 8999) : wO (f_plus [enc x, enc y]) Q ↔ Q (enc (x + y)) := by rw [plus_e h]; simp
@[simp] theorem minus_w (h : a + b ≤ 8999) : wO (f_minus [enc x, enc y]) Q ↔ Q (enc (x - y)) := by rw [minus_e h]; simp
@[simp] theorem times_w (h : a + b ≤ 8999) : wO (f_times [enc x, enc y]) Q ↔ Q (enc (x * y)) := by rw [times_e h]; simp
@[simp] theorem over_w (h : a + b ≤ 8999) (h0 : y ≠ 0) : wO (f_over [enc x, enc y]) Q ↔ Q (enc (x / y)) := by rw [over_e h h0]; simp
@[simp] theorem ladd_w (h : a + b ≤ 1499) : wO (f_law_add [enc x, enc y]) Q ↔ Q (enc (x + y)) := by rw [ladd_e h]; simp
@[simp] theorem lsub_w (h : a + b ≤ 1499) : wO (f_law_sub [enc x, enc y]) Q ↔ Q (enc (x - y)) := by rw [lsub_e h]; simp
@[simp] theorem lmul_w (h : a + b ≤ 1499) : wO (f_law_mul [enc x, enc y]) Q ↔ Q (enc (x * y)) := by rw [lmul_e h]; simp
@[simp] theorem ldiv_w (h : a + b ≤ 1499) (h0 : y ≠ 0) : wO (f_law_div [enc x, enc y]) Q ↔ Q (enc (x / y)) := by rw [ldiv_e h h0]; simp
end

/-! ### the same -/
def Pl : Nat → D → Bool
  | 0, _ => false
  | n + 1, .list xs => decide (xs.length ≤ 16777216) && xs.all (Pl n)
  | n + 1, .tuple xs => decide (xs.length ≤ 16777216) && xs.all (Pl n)
  | _ + 1, .int _ => true
  | _ + 1, .bool _ => true
  | _ + 1, .none => true
  | _ + 1, .str s => PyData.strOk s
  | _, _ => false
theorem dEq_strS {s : Str} {Q : D → Prop} (hs : PyData.strOk s = true) : wO (dEq (.str s) (.str s)) Q ↔ Q (.bool true) := by simp [dEq, SeqAt.shaped, PyData.canLay0, PyData.depth, hs, PyData.eqv]
theorem kb_NoneType_dict : kitB "NoneType" "dict" = some false := by decide +kernel
@[simp] theorem isi_dict_none  : dIsi "dict" .none = some (.bool false) := congrArg (Option.map PyData.bool) kb_NoneType_dict
theorem kb_bool_dict : kitB "bool" "dict" = some false := by decide +kernel
@[simp] theorem isi_dict_bool {i : Bool} : dIsi "dict" (.bool i) = some (.bool false) := congrArg (Option.map PyData.bool) kb_bool_dict
theorem kb_int_dict : kitB "int" "dict" = some false := by decide +kernel
@[simp] theorem isi_dict_int {i : Int} : dIsi "dict" (.int i) = some (.bool false) := congrArg (Option.map PyData.bool) kb_int_dict
theorem kb_str_dict : kitB "str" "dict" = some false := by decide +kernel
@[simp] theorem isi_dict_str {i : Str} : dIsi "dict" (.str i) = some (.bool false) := congrArg (Option.map PyData.bool) kb_str_dict
theorem kb_list_dict : kitB "list" "dict" = some false := by decide +kernel
@[simp] theorem isi_dict_list {i : List D} : dIsi "dict" (.list i) = some (.bool false) := congrArg (Option.map PyData.bool) kb_list_dict
theorem kb_tuple_dict : kitB "tuple" "dict" = some false := by decide +kernel
@[simp] theorem isi_dict_tuple {i : List D} : dIsi "dict" (.tuple i) = some (.bool false) := congrArg (Option.map PyData.bool) kb_tuple_dict
theorem kb_NoneType_list : kitB "NoneType" "list" = some false := by decide +kernel
@[simp] theorem isi_list_none  : dIsi "list" .none = some (.bool false) := congrArg (Option.map PyData.bool) kb_NoneType_list
theorem kb_bool_list : kitB "bool" "list" = some false := by decide +kernel
@[simp] theorem isi_list_bool {i : Bool} : dIsi "list" (.bool i) = some (.bool false) := congrArg (Option.map PyData.bool) kb_bool_list
theorem kb_int_list : kitB "int" "list" = some false := by decide +kernel
@[simp] theorem isi_list_int {i : Int} : dIsi "list" (.int i) = some (.bool false) := congrArg (Option.map PyData.bool) kb_int_list
theorem kb_str_list : kitB "str" "list" = some false := by decide +kernel
@[simp] theorem isi_list_str {i : Str} : dIsi "list" (.str i) = some (.bool false) := congrArg (Option.map PyData.bool) kb_str_list
theorem kb_list_list : kitB "list" "list" = some true := by decide +kernel
@[simp] theorem isi_list_list {i : List D} : dIsi "list" (.list i) = some (.bool true) := congrArg (Option.map PyData.bool) kb_list_list
theorem kb_tuple_list : kitB "tuple" "list" = some false := by decide +kernel
@[simp] theorem isi_list_tuple {i : List D} : dIsi "list" (.tuple i) = some (.bool false) := congrArg (Option.map PyData.bool) kb_tuple_list
theorem kb_NoneType_tuple : kitB "NoneType" "tuple" = some false := by decide +kernel
@[simp] theorem isi_tuple_none  : dIsi "tuple" .none = some (.bool false) := congrArg (Option.map PyData.bool) kb_NoneType_tuple
theorem kb_bool_tuple : kitB "bool" "tuple" = some false := by decide +kernel
@[simp] theorem isi_tuple_bool {i : Bool} : dIsi "tuple" (.bool i) = some (.bool false) := congrArg (Option.map PyData.bool) kb_bool_tuple
theorem kb_int_tuple : kitB "int" "tuple" = some false := by decide +kernel
@[simp] theorem isi_tuple_int {i : Int} : dIsi "tuple" (.int i) = some (.bool false) := congrArg (Option.map PyData.bool) kb_int_tuple
theorem kb_str_tuple : kitB "str" "tuple" = some false := by decide +kernel
@[simp] theorem isi_tuple_str {i : Str} : dIsi "tuple" (.str i) = some (.bool false) := congrArg (Option.map PyData.bool) kb_str_tuple
theorem kb_list_tuple : kitB "list" "tuple" = some false := by decide +kernel
@[simp] theorem isi_tuple_list {i : List D} : dIsi "tuple" (.list i) = some (.bool false) := congrArg (Option.map PyData.bool) kb_list_tuple
theorem kb_tuple_tuple : kitB "tuple" "tuple" = some true := by decide +kernel
@[simp] theorem isi_tuple_tuple {i : List D} : dIsi "tuple" (.tuple i) = some (.bool true) := congrArg (Option.map PyData.bool) kb_tuple_tuple
theorem kb_NoneType_str : kitB "NoneType" "str" = some false := by decide +kernel
@[simp] theorem isi_str_none  : dIsi "str" .none = some (.bool false) := congrArg (Option.map PyData.bool) kb_NoneType_str
theorem kb_bool_str : kitB "bool" "str" = some false := by decide +kernel
@[simp] theorem isi_str_bool {i : Bool} : dIsi "str" (.bool i) = some (.bool false) := congrArg (Option.map PyData.bool) kb_bool_str
theorem kb_int_str : kitB "int" "str" = some false := by decide +kernel
@[simp] theorem isi_str_int {i : Int} : dIsi "str" (.int i) = some (.bool false) := congrArg (Option.map PyData.bool) kb_int_str
theorem kb_str_str : kitB "str" "str" = some true := by decide +kernel
@[simp] theorem isi_str_str {i : Str} : dIsi "str" (.str i) = some (.bool true) := congrArg (Option.map PyData.bool) kb_str_str
theorem kb_list_str : kitB "list" "str" = some false := by decide +kernel
@[simp] theorem isi_str_list {i : List D} : dIsi "str" (.list i) = some (.bool false) := congrArg (Option.map PyData.bool) kb_list_str
theorem kb_tuple_str : kitB "tuple" "str" = some false := by decide +kernel
@[simp] theorem isi_str_tuple {i : List D} : dIsi "str" (.tuple i) = some (.bool false) := congrArg (Option.map PyData.bool) kb_tuple_str
theorem kb_NoneType_int : kitB "NoneType" "int" = some false := by decide +kernel
@[simp] theorem isi_int_none  : dIsi "int" .none = some (.bool false) := congrArg (Option.map PyData.bool) kb_NoneType_int
theorem kb_bool_int : kitB "bool" "int" = some true := by decide +kernel
@[simp] theorem isi_int_bool {i : Bool} : dIsi "int" (.bool i) = some (.bool true) := congrArg (Option.map PyData.bool) kb_bool_int
theorem kb_int_int : kitB "int" "int" = some true := by decide +kernel
@[simp] theorem isi_int_int {i : Int} : dIsi "int" (.int i) = some (.bool true) := congrArg (Option.map PyData.bool) kb_int_int
theorem kb_str_int : kitB "str" "int" = some false := by decide +kernel
@[simp] theorem isi_int_str {i : Str} : dIsi "int" (.str i) = some (.bool false) := congrArg (Option.map PyData.bool) kb_str_int
theorem kb_list_int : kitB "list" "int" = some false := by decide +kernel
@[simp] theorem isi_int_list {i : List D} : dIsi "int" (.list i) = some (.bool false) := congrArg (Option.map PyData.bool) kb_list_int
theorem kb_tuple_int : kitB "tuple" "int" = some false := by decide +kernel
@[simp] theorem isi_int_tuple {i : List D} : dIsi "int" (.tuple i) = some (.bool false) := congrArg (Option.map PyData.bool) kb_tuple_int
theorem kb_NoneType_bool : kitB "NoneType" "bool" = some false := by decide +kernel
@[simp] theorem isi_bool_none  : dIsi "bool" .none = some (.bool false) := congrArg (Option.map PyData.bool) kb_NoneType_bool
theorem kb_bool_bool : kitB "bool" "bool" = some true := by decide +kernel
@[simp] theorem isi_bool_bool {i : Bool} : dIsi "bool" (.bool i) = some (.bool true) := congrArg (Option.map PyData.bool) kb_bool_bool
theorem kb_int_bool : kitB "int" "bool" = some false := by decide +kernel
@[simp] theorem isi_bool_int {i : Int} : dIsi "bool" (.int i) = some (.bool false) := congrArg (Option.map PyData.bool) kb_int_bool
theorem kb_str_bool : kitB "str" "bool" = some false := by decide +kernel
@[simp] theorem isi_bool_str {i : Str} : dIsi "bool" (.str i) = some (.bool false) := congrArg (Option.map PyData.bool) kb_str_bool
theorem kb_list_bool : kitB "list" "bool" = some false := by decide +kernel
@[simp] theorem isi_bool_list {i : List D} : dIsi "bool" (.list i) = some (.bool false) := congrArg (Option.map PyData.bool) kb_list_bool
theorem kb_tuple_bool : kitB "tuple" "bool" = some false := by decide +kernel
@[simp] theorem isi_bool_tuple {i : List D} : dIsi "bool" (.tuple i) = some (.bool false) := congrArg (Option.map PyData.bool) kb_tuple_bool
@[simp] theorem dNe_b {i j : Bool} {Q : D → Prop} : wO (dNe (.bool i) (.bool j)) Q ↔ Q (.bool (!(i == j))) := by
  cases i <;> cases j <;> exact wO_some
theorem range_get {n j : Nat} {d : D} (h : (rangeD 0 n)[j]? = some d) : j < n ∧ d = .int j := by
  unfold rangeD at h
  rw [List.getElem?_map] at h
  by_cases hj : j < n
  · rw [List.getElem?_range hj] at h
    simp at h
    exact ⟨hj, h.symm⟩
  · rw [List.getElem?_eq_none (by simp; omega)] at h
    cases h
@[simp] theorem range_len {n : Nat} {i : Int} : (rangeD i n).length = n := by simp [rangeD]
theorem boolsOf_true (n : Nat) : boolsOf (List.replicate n (.bool true)) = some (List.replicate n true) := by
  induction n with
  | zero => rfl
  | succ n ih => simp [List.replicate_succ, boolsOf, ih]
theorem mapIdx_const {α β : Type} (c : β) (xs : List α) : (xs.mapIdx fun _ _ => c) = List.replicate xs.length c := by
  induction xs with
  | nil => rfl
  | cons x r ih => simp [List.mapIdx_cons, List.replicate_succ, ih]
theorem same_refl : ∀ (n : Nat) (d : D), Pl n d = true → f_law_same n [d, d] = some (.bool true)
  | 0, d, h => by cases d <;> simp [Pl] at h
  | n + 1, d, h => by
    have seq : ∀ xs : List D, xs.length ≤ 16777216 → xs.all (Pl n) = true → ∀ s1 s2 : Sl, ∀ y : D, (y = .list xs ∨ y = .tuple xs) → ∀ Q : List D → DEnv → Prop, Q (List.replicate xs.length (.bool true)) [.d y, .d y, s1, .no] →
      wF (gLc (gRange1 (aCons (gFun fLen (aCons (gVar 1) aNil)) aNil)) (gN 3) gYes (gFun (f_law_same n) (aCons (gBin dIx (gVar 0) (gVar 3)) (aCons (gBin dIx (gVar 1) (gVar 3)) aNil))) [3]) [.d y, .d y, s1, .no] Q := by
      intro xs hl hx s1 s2 y hy Q q
      rw [wF_lc]
      have hlen : ∀ Q : D → Prop, Q (.int xs.length) → wO (fLen [y]) Q := by
        intro Q q'
        rcases hy with rfl | rfl <;> simpa using q'
      have hix : ∀ (j : Nat) (Q : D → Prop), j < xs.length → (∀ a, xs[j]? = some a → Q a) → wO (dIx y (.int j)) Q := by
        intro j Q hj q
        have : wO (atI xs (j : Int)) Q := atI_nn (by omega) (by omega) (by simpa using q)
        rcases hy with rfl | rfl <;> simpa using this
      simp only [wA_range1, wA_cons, wA_nil, wE_fun, wE_var]
      simp
      refine hlen _ ?_
      have e := lcGo_map (gg := gN 3) (gt := gYes) (ge := gFun (f_law_same n) (aCons (gBin dIx (gVar 0) (gVar 3)) (aCons (gBin dIx (gVar 1) (gVar 3)) aNil))) (vs := [3]) (fun _ _ => .bool true) [.d y, .d y, s1, .no] (rangeD 0 xs.length) 0 fun j d hj => by
        obtain ⟨hj3, rfl⟩ := range_get hj
        simp
        refine hix _ _ hj3 fun a ha => hix _ _ hj3 fun a' ha' => ?_
        rw [ha] at ha'
        cases ha'
        have hp : Pl n a = true := List.all_eq_true.mp hx a (List.mem_of_getElem? ha)
        rw [same_refl n a hp]
        simp [wipeD]
      have e0 : wipeD [.d y, .d y, s1, .no] [3] = [.d y, .d y, s1, .no] := rfl
      have hz : (Int.toNat (xs.length : Int)) = xs.length := by omega
      simp only [hz] at *
      rw [e0, e]
      simp [dataAt, back, mapIdx_const]
      exact ⟨by omega, by omega, q⟩
    refine of_wO ?_
    rw [f_law_same, wO_runD]
    refine ⟨rfl, ?_⟩
    cases d with
    | list xs =>
      simp only [Pl, Bool.and_eq_true, decide_eq_true_eq] at h
      simp [g_law_same, fAll]
      refine seq xs h.1 h.2 .no .no _ (.inl rfl) _ ?_
      simp [boolsOf_true]
    | tuple xs =>
      simp only [Pl, Bool.and_eq_true, decide_eq_true_eq] at h
      simp [g_law_same, fAll]
      refine seq xs h.1 h.2 .no .no _ (.inr rfl) _ ?_
      simp [boolsOf_true]
    | int i => simp [g_law_same, dIs, isD]
    | bool i => cases i <;> simp [g_law_same, dIs, isD]
    | none => simp [g_law_same, dIs, isD]
    | str s =>
      simp only [Pl] at h
      simp [g_law_same, dEq_strS h]
    | _ => simp [Pl] at h
@[simp] theorem Pl_int {n : Nat} {i : Int} : Pl (n + 1) (.int i) = true := rfl
@[simp] theorem Pl_bool {n : Nat} {i : Bool} : Pl (n + 1) (.bool i) = true := rfl
theorem Pl_str {n : Nat} {s : Str} (h0 : 1 ≤ n) (h : PyData.strOk s = true) : Pl n (.str s) = true := by
  obtain ⟨m, rfl⟩ : ∃ m, n = m + 1 := ⟨n - 1, by omega⟩
  exact h
@[simp] theorem Pl_none {n : Nat} : Pl (n + 1) .none = true := rfl
theorem Pl_enc {n : Nat} {r : Rat} (h : 2 ≤ n) : Pl n (enc r) = true := by
  obtain ⟨m, rfl⟩ : ∃ m, n = m + 2 := ⟨n - 2, by omega⟩
  rw [enc_def]; rfl
theorem Pl_list {n : Nat} {xs : List D} (h0 : 1 ≤ n) (hl : xs.length ≤ 16777216) (h : ∀ x ∈ xs, Pl (n - 1) x = true) : Pl n (.list xs) = true := by
  obtain ⟨m, rfl⟩ : ∃ m, n = m + 1 := ⟨n - 1, by omega⟩
  simp only [Pl, Bool.and_eq_true, decide_eq_true_eq]
  exact ⟨hl, List.all_eq_true.mpr h⟩
theorem Pl_tuple {n : Nat} {xs : List D} (h0 : 1 ≤ n) (hl : xs.length ≤ 16777216) (h : ∀ x ∈ xs, Pl (n - 1) x = true) : Pl n (.tuple xs) = true := by
  obtain ⟨m, rfl⟩ : ∃ m, n = m + 1 := ⟨n - 1, by omega⟩
  simp only [Pl, Bool.and_eq_true, decide_eq_true_eq]
  exact ⟨hl, List.all_eq_true.mpr h⟩
@[simp] theorem same_w {n : Nat} {d : D} {Q : D → Prop} (h : Pl n d = true) : wO (f_law_same n [d, d]) Q ↔ Q (.bool true) := by rw [same_refl n d h]; simp

/-! ### shuffling -/
theorem getElem_erase_perm {α : Type} : ∀ {xs : List α} {i : Nat} (h : i < xs.length), (xs[i] :: xs.eraseIdx i).Perm xs
  | x :: r, 0, _ => List.Perm.refl _
  | x :: r, i + 1, h => by
    have h' : i < r.length := by simpa using h
    have ih := getElem_erase_perm h'
    simp only [List.getElem_cons_succ, List.eraseIdx_cons_succ]
    exact (List.Perm.swap x r[i] (r.eraseIdx i)).trans (ih.cons x)

end TB
namespace TB
open PySem L2
/-! ### lists of fractions -/
def sumR (rs : List Rat) : Rat := rs.foldl (· + ·) 0
theorem foldl_add (rs : List Rat) (t : Rat) : rs.foldl (· + ·) t = t + sumR rs := by
  unfold sumR
  induction rs generalizing t with
  | nil => simp only [List.foldl_nil]; grind
  | cons r rs ih =>
    simp only [List.foldl_cons]
    rw [ih, ih (0 + r)]
    grind
theorem sumR_cons (r : Rat) (rs : List Rat) : sumR (r :: rs) = r + sumR rs := by
  show (r :: rs).foldl (· + ·) 0 = _
  rw [List.foldl_cons, foldl_add]
  grind
theorem sumR_nil : sumR [] = 0 := rfl
theorem sumR_append (a b : List Rat) : sumR (a ++ b) = sumR a + sumR b := by
  show (a ++ b).foldl (· + ·) 0 = _
  rw [List.foldl_append, foldl_add]
  rfl
theorem sumR_perm {a b : List Rat} (h : a.Perm b) : sumR a = sumR b := by
  induction h with
  | nil => rfl
  | cons x _ ih => rw [sumR_cons, sumR_cons, ih]
  | swap x y l => rw [sumR_cons, sumR_cons, sumR_cons, sumR_cons]; grind
  | trans _ _ h1 h2 => rw [h1, h2]
theorem take_succ_sum {rs : List Rat} {j : Nat} {r : Rat} (h : rs[j]? = some r) : sumR (rs.take (j + 1)) = sumR (rs.take j) + r := by
  rw [List.take_add_one, h, sumR_append]
  show _ + sumR [r] = _
  rw [sumR_cons, sumR_nil]
  grind
theorem Ht.add' {x y : Rat} {a b : Nat} (hx : Ht x a) (hy : Ht y b) : Ht (x + y) (a + b + 1) := inferInstance
theorem Ht.mul' {x y : Rat} {a b : Nat} (hx : Ht x a) (hy : Ht y b) : Ht (x * y) (a + b) := inferInstance
theorem ht_sum {rs : List Rat} {a : Nat} (h : ∀ r ∈ rs, Ht r a) : Ht (sumR rs) (1 + (a + 1) * rs.length) := by
  induction rs with
  | nil => exact Ht.zero
  | cons r rs ih =>
    rw [sumR_cons]
    refine ((h r (by simp)).add' (ih fun r' hr => h r' (by simp [hr]))).mono ?_
    simp only [List.length_cons, Nat.mul_add]
    omega
theorem ht_take {rs : List Rat} {a j : Nat} (h : ∀ r ∈ rs, Ht r a) (hj : j ≤ rs.length) : Ht (sumR (rs.take j)) (1 + (a + 1) * j) := by
  have := ht_sum (rs := rs.take j) fun r hr => h r (List.mem_of_mem_take hr)
  rwa [List.length_take, Nat.min_eq_left hj] at this
abbrev encs (rs : List Rat) : List D := rs.map enc
theorem encs_get {rs : List Rat} {j : Nat} {d : D} (h : (encs rs)[j]? = some d) : ∃ r, rs[j]? = some r ∧ d = enc r ∧ r ∈ rs ∧ j < rs.length := by
  rw [List.getElem?_map] at h
  cases e : rs[j]? with
  | none => rw [e] at h; cases h
  | some r =>
    rw [e] at h
    simp at h
    exact ⟨r, rfl, h.symm, List.mem_of_getElem? e, (List.getElem?_eq_some_iff.mp e).1⟩
theorem ix_encs {rs : List Rat} {j : Nat} {r : Rat} (h : rs[j]? = some r) : atI (encs rs) (j : Int) = some (enc r) := atI_nat (by rw [List.getElem?_map, h]; rfl)
def dec (d : D) : Rat := match d with
  | .tuple [.int p, .int q] => (p : Rat) / (q : Rat)
  | _ => 0
theorem dec_enc (r : Rat) : dec (enc r) = r := by
  rw [enc_def]
  exact (rat_eq r).symm
theorem perm_encs {ys : List D} {rs : List Rat} (h : ys.Perm (encs rs)) : ∃ os : List Rat, ys = encs os ∧ os.Perm rs := by
  refine ⟨ys.map dec, ?_, ?_⟩
  · have : ∀ y ∈ ys, enc (dec y) = y := fun y hy => by
      have := h.mem_iff.mp hy
      simp at this
      obtain ⟨r, _, rfl⟩ := this
      rw [dec_enc]
    rw [encs, List.map_map]
    conv => lhs; rw [← List.map_id ys]
    exact List.map_congr_left fun y hy => (this y hy).symm
  · have h2 := h.map dec
    rw [encs, List.map_map] at h2
    have e : (dec ∘ enc : Rat → Rat) = id := funext dec_enc
    rwa [e, List.map_id] at h2
theorem Pl_encs {n : Nat} {rs : List Rat} (h : 3 ≤ n) (hl : rs.length ≤ 16777216) : Pl n (.list (encs rs)) = true :=
  Pl_list (by omega) (by simpa using hl) fun x hx => by
    simp at hx
    obtain ⟨r, _, rfl⟩ := hx
    exact Pl_enc (by omega)

theorem sum_of_e {rs : List Rat} {a : Nat} (h : ∀ r ∈ rs, Ht r a) (hb : 1 + (a + 1) * rs.length ≤ 8000) (ha : a ≤ 998) : f_sum_of [.list (encs rs)] = some (enc (sumR rs)) := by
  refine of_wO ?_
  rw [f_sum_of, wO_runD]
  refine ⟨rfl, ?_⟩
  simp [g_sum_of]
  refine wS_for_inv (fun ds j ρ => ds = encs rs ∧ ∃ s, ρ = [.d (.list (encs rs)), .d (enc (sumR (rs.take j))), s]) ?_
  simp only [wA_items, wE_var]
  simp only [List.getElem?_cons_zero, slD_d]
  refine ⟨⟨trivial, _, rfl⟩, ?_, ?_⟩
  · rintro j d ρ hj ⟨_, s, rfl⟩
    obtain ⟨r, hr, rfl, hm, hl⟩ := encs_get hj
    haveI := ht_take h (Nat.le_of_lt hl)
    haveI := h r hm
    have hb2 : 1 + (a + 1) * j ≤ 8000 := by
      have := Nat.mul_le_mul_left (a + 1) (Nat.le_of_lt hl)
      omega
    have e := plus_e (x := sumR (rs.take j)) (y := r) (a := 1 + (a + 1) * j) (b := a) (by omega)
    simp [e, take_succ_sum hr]
  · rintro ρ ⟨_, s, rfl⟩
    simp
end TB
namespace TB
open PySem L2
/-! ### more on data -/
@[simp] theorem dEq_P2 {a b c d : Rat} {Q : D → Prop} : wO (dEq (.tuple [enc a, enc b]) (.tuple [enc c, enc d])) Q ↔ Q (.bool (decide (a = c ∧ b = d))) := by
  have h : SeqAt.shaped (.tuple [enc a, enc b]) = true ∧ SeqAt.shaped (.tuple [enc c, enc d]) = true := by
    simp only [enc_def]; exact ⟨rfl, rfl⟩
  have e : PyData.eqv (.tuple [enc a, enc b]) (.tuple [enc c, enc d]) = decide (a = c ∧ b = d) := by
    simp only [PyData.eqv, PyData.eqvAll, eqv_enc]
    by_cases h1 : a = c <;> by_cases h2 : b = d <;> simp [h1, h2]
  unfold dEq
  rw [if_pos h, e]
  simp
@[simp] theorem dNe_P2 {a b c d : Rat} {Q : D → Prop} : wO (dNe (.tuple [enc a, enc b]) (.tuple [enc c, enc d])) Q ↔ Q (.bool (!decide (a = c ∧ b = d))) := by
  have h : SeqAt.shaped (.tuple [enc a, enc b]) = true ∧ SeqAt.shaped (.tuple [enc c, enc d]) = true := by
    simp only [enc_def]; exact ⟨rfl, rfl⟩
  have e : PyData.eqv (.tuple [enc a, enc b]) (.tuple [enc c, enc d]) = decide (a = c ∧ b = d) := by
    simp only [PyData.eqv, PyData.eqvAll, eqv_enc]
    by_cases h1 : a = c <;> by_cases h2 : b = d <;> simp [h1, h2]
  unfold dNe
  rw [if_pos h, e]
  simp
@[simp] theorem dNe_P3 {a b c d e f : Rat} {Q : D → Prop} : wO (dNe (.tuple [enc a, enc b, enc e]) (.tuple [enc c, enc d, enc f])) Q ↔ Q (.bool (!decide (a = c ∧ b = d ∧ e = f))) := by
  have h : SeqAt.shaped (.tuple [enc a, enc b, enc e]) = true ∧ SeqAt.shaped (.tuple [enc c, enc d, enc f]) = true := by
    simp only [enc_def]; exact ⟨rfl, rfl⟩
  have e : PyData.eqv (.tuple [enc a, enc b, enc e]) (.tuple [enc c, enc d, enc f]) = decide (a = c ∧ b = d ∧ e = f) := by
    simp only [PyData.eqv, PyData.eqvAll, eqv_enc]
    by_cases h1 : a = c <;> by_cases h2 : b = d <;> by_cases h3 : e = f <;> simp [h1, h2, h3]
  unfold dNe
  rw [if_pos h, e]
  simp
@[simp] theorem dNe_bl {i j : Bool} {Q : D → Prop} : wO (dNe (.bool i) (.bool j)) Q ↔ Q (.bool (!(i == j))) := by
  cases i <;> cases j <;> exact wO_some
@[simp] theorem dIs_none_enc {x : Rat} {Q : D → Prop} : wO (dIs (enc x) .none) Q ↔ Q (.bool false) := by rw [enc_def]; simp [dIs, isD]
@[simp] theorem dIs_tn {xs : List D} {Q : D → Prop} : wO (dIs (.tuple xs) .none) Q ↔ Q (.bool false) := by simp [dIs, isD]
@[simp] theorem dIs_nn {Q : D → Prop} : wO (dIs .none .none) Q ↔ Q (.bool true) := by simp [dIs, isD]
@[simp] theorem dIsNot_tn {xs : List D} {Q : D → Prop} : wO (dIsNot (.tuple xs) .none) Q ↔ Q (.bool true) := by simp [dIsNot, isD]
@[simp] theorem dIsNot_nn {Q : D → Prop} : wO (dIsNot .none .none) Q ↔ Q (.bool false) := by simp [dIsNot, isD]
@[simp] theorem dIsNot_b {b c : Bool} {Q : D → Prop} : wO (dIsNot (.bool b) (.bool c)) Q ↔ Q (.bool (!(b == c))) := by simp [dIsNot, isD]
@[simp] theorem dIs_b {b c : Bool} {Q : D → Prop} : wO (dIs (.bool b) (.bool c)) Q ↔ Q (.bool (b == c)) := by simp [dIs, isD]
theorem wS_go_nil {gg : GG} {gb : GS} {ρ : DEnv} {Q : Out → DEnv → Prop} : wS (forGo gg gb []) ρ Q ↔ Q .nx ρ := by rw [wS_O]; simp [forGo]
theorem wS_go_cons {gg : GG} {gb : GS} {d : D} {r : List D} {ρ : DEnv} {Q : Out → DEnv → Prop} : wS (forGo gg gb (d :: r)) ρ Q ↔ wO (gg d ρ) fun ρ1 => wS gb ρ1 fun o ρ2 => match o with
    | .nx => wS (forGo gg gb r) ρ2 Q
    | .ct => wS (forGo gg gb r) ρ2 Q
    | .bk => Q .nx ρ2
    | o => Q o ρ2 := by
  simp only [wS_O, forGo, wO_bind]
  refine Iff.of_eq (congrArg _ (funext fun ρ1 => congrArg _ (funext fun p => ?_)))
  cases p.1 <;> simp
theorem wO_lc_nil {gg : GG} {gt : GT} {ge : GE} {vs : List Nat} {ρ : DEnv} {Q : List D × DEnv → Prop} : wO (lcGo gg gt ge vs [] ρ) Q ↔ Q ([], ρ) := by simp [lcGo]
theorem wO_lc_cons {gg : GG} {gt : GT} {ge : GE} {vs : List Nat} {d : D} {r : List D} {ρ : DEnv} {Q : List D × DEnv → Prop} : wO (lcGo gg gt ge vs (d :: r) ρ) Q ↔
    wO (gg d ρ) fun ρ1 => wT gt ρ1 fun b ρ2 => if b = true then wE ge ρ2 fun y ρ3 => wO (lcGo gg gt ge vs r (wipeD ρ3 vs)) fun z => Q (y :: z.1, z.2) else wO (lcGo gg gt ge vs r (wipeD ρ2 vs)) Q := by
  simp only [lcGo, wO_bind, wT_O, wE_O]
  refine Iff.of_eq (congrArg _ (funext fun ρ1 => congrArg _ (funext fun p => ?_)))
  by_cases h : p.1 = true <;> simp [h, wO_bind, wO_map]
@[simp] theorem wO_tg2 {g1 g2 : GG} {x y : D} {ρ : DEnv} {Q : DEnv → Prop} : wO (gTupG 2 (gConsG g1 (gConsG g2 gNoG)) (.tuple [x, y]) ρ) Q ↔ wO (g1 x ρ) fun ρ1 => wO (g2 y ρ1) Q := by
  simp only [gTupG, List.length_cons, List.length_nil, if_pos, gConsG, wO_bind]
  simp [gNoG]
@[simp] theorem wO_tg3 {g1 g2 g3 : GG} {x y z : D} {ρ : DEnv} {Q : DEnv → Prop} : wO (gTupG 3 (gConsG g1 (gConsG g2 (gConsG g3 gNoG))) (.tuple [x, y, z]) ρ) Q ↔ wO (g1 x ρ) fun ρ1 => wO (g2 y ρ1) fun ρ2 => wO (g3 z ρ2) Q := by
  simp only [gTupG, List.length_cons, List.length_nil, if_pos, gConsG, wO_bind]
  simp [gNoG]
@[simp] theorem wA_enum {ga : GA} {ρ : DEnv} {QA : List D → DEnv → Prop} : wA (gEnum ga) ρ QA ↔ wA ga ρ fun xs ρ1 => match xs with | [.list ys] => QA (numD ys) ρ1 | [.dict [(.none, .list ys)]] => QA (numD ys) ρ1 | _ => False := by
  simp only [wA_O, gEnum, wO_bind]
  refine Iff.of_eq (congrArg _ (funext fun p => ?_))
  split <;> simp_all
def wOp (g : GO) (ρ : DEnv) (Q : Option Int → DEnv → Prop) : Prop := wO (g ρ) fun p => Q p.1 p.2
@[simp] theorem wOp_no {ρ : DEnv} {Q : Option Int → DEnv → Prop} : wOp oNo ρ Q ↔ Q none ρ := by simp [wOp, oNo]
@[simp] theorem wOp_some {g : GE} {ρ : DEnv} {Q : Option Int → DEnv → Prop} : wOp (oSome g) ρ Q ↔ wE g ρ fun x ρ1 => match x with | .int i => Q (some i) ρ1 | _ => False := by
  simp only [wOp, oSome, wO_bind, wE_O]
  refine Iff.of_eq (congrArg _ (funext fun p => ?_))
  cases p.1 <;> simp
@[simp] theorem wE_cut {ge : GE} {gl gh : GO} {ρ : DEnv} {Q : D → DEnv → Prop} : wE (gCut ge gl gh) ρ Q ↔ wE ge ρ fun x ρ1 => wOp gl ρ1 fun l ρ2 => wOp gh ρ2 fun h ρ3 => wO (dCut x l h) fun z => Q z ρ3 := by
  simp only [wE_O, wOp, gCut, wO_bind, wO_map]
@[simp] theorem dCut_lst {xs : List D} {l h : Option Int} {Q : D → Prop} : wO (dCut (.list xs) l h) Q ↔ Q (.list (cutD xs l h)) := by simp [dCut]
@[simp] theorem dCut_tup {xs : List D} {l h : Option Int} {Q : D → Prop} : wO (dCut (.tuple xs) l h) Q ↔ Q (.tuple (cutD xs l h)) := by simp [dCut]
@[simp] theorem dAdd_lst {a b : List D} {Q : D → Prop} : wO (dAdd (.list a) (.list b)) Q ↔ a.length + b.length ≤ 16777216 ∧ Q (.list (a ++ b)) := by simp [dAdd]
@[simp] theorem fAll_lst {xs : List Bool} {Q : D → Prop} : wO (fAll [.list (xs.map PyData.bool)]) Q ↔ Q (.bool (xs.all id)) := by
  have e : boolsOf (xs.map PyData.bool) = some xs := by
    induction xs with
    | nil => rfl
    | cons x r ih => simp [boolsOf, ih]
  simp [fAll, e]
@[simp] theorem ok_force : PyData.strOk "force" = true := by decide +kernel
@[simp] theorem ok_turn : PyData.strOk "turn" = true := by decide +kernel
@[simp] theorem ok_nothing : PyData.strOk "nothing" = true := by decide +kernel
@[simp] theorem dEq_str {s t : Str} {Q : D → Prop} (hs : PyData.strOk s = true) (ht : PyData.strOk t = true) : wO (dEq (.str s) (.str t)) Q ↔ Q (.bool (s == t)) := by simp [dEq, SeqAt.shaped, PyData.canLay0, PyData.depth, hs, ht, PyData.eqv]
@[simp] theorem dNe_str {s t : Str} {Q : D → Prop} (hs : PyData.strOk s = true) (ht : PyData.strOk t = true) : wO (dNe (.str s) (.str t)) Q ↔ Q (.bool (!(s == t))) := by simp [dNe, SeqAt.shaped, PyData.canLay0, PyData.depth, hs, ht, PyData.eqv]
@[simp] theorem s_tf : (("turn" : Str) == ("force" : Str)) = false := by decide +kernel
@[simp] theorem s_nf : (("nothing" : Str) == ("force" : Str)) = false := by decide +kernel
@[simp] theorem s_nt : (("nothing" : Str) == ("turn" : Str)) = false := by decide +kernel
@[simp] theorem s_ft : (("force" : Str) == ("turn" : Str)) = false := by decide +kernel
/-! ### the drawn numbers -/
theorem Bd10 {p : Int} (h0 : -500 ≤ p) (h1 : p ≤ 500) : Bd 10 p := by
  have h2 : Bd 10 501 := Bd.lit (by decide)
  exact h2.of_natAbs (by omega)
theorem div_pos' {a b : Rat} (ha : 0 < a) (hb : 0 < b) : 0 < a / b := by
  rw [Rat.div_def]; exact Rat.mul_pos ha (Rat.inv_pos.mpr hb)
theorem div_nn' {a b : Rat} (ha : 0 ≤ a) (hb : 0 < b) : 0 ≤ a / b := by
  have := Rat.inv_pos.mpr hb
  rw [Rat.div_def]; exact Rat.mul_nonneg ha (by grind)
theorem some_step {ns : List Int} (hs : Sc ns) {c : Nat} {ps : List D} {lo hi : Int} (hp : PoolOk ns c ps) (hc : c + 2 ≤ cMax) (h0 : -400 ≤ lo) (h1 : lo ≤ hi) (h2 : hi ≤ 400) {Q : D × List D → Prop}
    (q : ∀ (r : Rat) ps', Ht r 10 → (0 < lo → 0 < r) → (0 ≤ lo → 0 ≤ r) → PoolOk ns (c + 2) ps' → Q (enc r, ps')) : wO (f_law_some ps [.int lo, .int hi]) Q := by
  rw [f_law_some, wO_runP]
  refine ⟨rfl, ?_⟩
  simp [g_law_some]
  refine draw_step hs hp (by omega) (by omega) (by omega) fun v ps v0 v1 hp => ?_
  simp
  refine pick_step (xs := [.int 1, .int 1, .int 2, .int 3]) hs hp (by omega) (by simp) (by simp) fun x ps hx hp => ?_
  obtain ⟨m, rfl, m0, m1⟩ : ∃ m : Int, x = .int m ∧ 0 < m ∧ m ≤ 3 := by
    simp at hx
    rcases hx with rfl | rfl | rfl <;> exact ⟨_, rfl, by decide, by decide⟩
  have bp : Bd 10 (lo + v) := Bd10 (by omega) (by omega)
  have bq : Bd 10 m := Bd10 (by omega) (by omega)
  have e := lfrac_ok bp bq (by omega) (by omega)
  have hm : (0 : Rat) < (m : Rat) := Rat.intCast_pos.mpr m0
  have hr : Ht (((lo + v : Int) : Rat) / (m : Rat)) 10 := Ht.of bp bq (by omega)
  have g1 : 0 < lo → 0 < ((lo + v : Int) : Rat) / (m : Rat) := fun h => div_pos' (Rat.intCast_pos.mpr (by omega)) hm
  have g2 : 0 ≤ lo → 0 ≤ ((lo + v : Int) : Rat) / (m : Rat) := fun h => div_nn' (Rat.intCast_nonneg.mpr (by omega)) hm
  generalize ((lo + v : Int) : Rat) / (m : Rat) = r at *
  rw [e, wO_some]
  simp
  exact q _ ps hr g1 g2 hp
theorem point_step {ns : List Int} (hs : Sc ns) {c : Nat} {ps : List D} {wd : Int} (hp : PoolOk ns c ps) (hc : c + 4 ≤ cMax) (h0 : 0 ≤ wd) (h2 : wd ≤ 400) {Q : D × List D → Prop}
    (q : ∀ (x y : Rat) ps', Ht x 10 → Ht y 10 → PoolOk ns (c + 4) ps' → Q (.tuple [enc x, enc y], ps')) : wO (f_law_point ps [.int wd]) Q := by
  rw [f_law_point, wO_runP]
  refine ⟨rfl, ?_⟩
  simp [g_law_point]
  refine some_step hs hp (by omega) (by omega) (by omega) (by omega) fun x ps hx _ _ hp => ?_
  simp
  refine some_step hs hp (by omega) (by omega) (by omega) (by omega) fun y ps hy _ _ hp => ?_
  simp
  exact q x y ps hx hy (hp.mono (by omega))
end TB
namespace TB
open PySem L2
/-! ### forces -/
structure Fo where
  (px py fx fy : Rat)
def Fo.turn (f : Fo) : Rat := f.px * f.fy - f.py * f.fx
abbrev P2 (a b : Rat) : D := .tuple [enc a, enc b]
abbrev P3 (a b c : Rat) : D := .tuple [enc a, enc b, enc c]
abbrev foD (f : Fo) : D := .tuple [P2 f.px f.py, P2 f.fx f.fy]
structure HtF (f : Fo) (a : Nat) : Prop where
  px : Ht f.px a
  py : Ht f.py a
  fx : Ht f.fx a
  fy : Ht f.fy a
theorem HtF.mono {f : Fo} {a b : Nat} (h : HtF f a) (hab : a ≤ b) : HtF f b := ⟨h.px.mono hab, h.py.mono hab, h.fx.mono hab, h.fy.mono hab⟩
theorem turn_of_e {px py fx fy : Rat} {a b c d : Nat} [h1 : Ht px a] [h2 : Ht py b] [h3 : Ht fx c] [h4 : Ht fy d] (h : a + b + c + d ≤ 4000) : f_turn_of [P2 px py, P2 fx fy] = some (enc (px * fy - py * fx)) := by
  refine of_wO ?_
  rw [f_turn_of, wO_runD]
  refine ⟨rfl, ?_⟩
  have e1 := times_e (x := px) (y := fy) (by omega)
  have e2 := times_e (x := py) (y := fx) (by omega)
  have e3 := minus_e (x := px * fy) (y := py * fx) (by omega)
  simp [g_turn_of, e1, e2, e3]
theorem comp_encs {gi : GA} {gg : GG} {gt : GT} {ge : GE} {vs : List Nat} {ρ : DEnv} {Q : List D → DEnv → Prop} {α : Type} (xs : List α) (dd : α → D) (f : α → Rat)
    (hi : gi ρ = some (xs.map dd, ρ)) (hl : xs.length ≤ 16777216) (hv : vs.all (dataAt ρ) = true) (hw : wipeD ρ vs = ρ) (hb : back ρ ρ vs = ρ)
    (st : ∀ x ∈ xs, wO (gg (dd x) ρ) fun ρ1 => wT gt ρ1 fun b ρ2 => b = true ∧ wE ge ρ2 fun y ρ3 => y = enc (f x) ∧ wipeD ρ3 vs = ρ) (q : Q (encs (xs.map f)) ρ) : wF (gLc gi gg gt ge vs) ρ Q := by
  have e : ∀ r : List α, (∀ x ∈ r, x ∈ xs) → lcGo gg gt ge vs (r.map dd) ρ = some (encs (r.map f), ρ) := by
    intro r
    induction r with
    | nil => intro _; rfl
    | cons x r ih =>
      intro h
      obtain ⟨ρ1, e1, b, ρ2, e2, rfl, y, ρ3, e3, rfl, w3⟩ := st x (h x (by simp))
      simp only [List.map_cons]
      unfold lcGo
      rw [e1, Option.bind_some, e2, Option.bind_some, if_pos rfl, e3, Option.bind_some, w3, ih fun x hx => h x (by simp [hx])]
      rfl
  rw [wF_lc]
  refine ⟨_, _, hi, ⟨by simpa using hl, hv⟩, ?_⟩
  rw [hw, e xs fun x hx => hx]
  rw [wO_some]
  simp only []
  rw [hb]
  exact q
theorem sums_of_e {fs : List Fo} (h : ∀ f ∈ fs, HtF f 240) (hl : fs.length ≤ 8) : f_sums_of [.list (fs.map foD)] = some (P3 (sumR (fs.map Fo.fx)) (sumR (fs.map Fo.fy)) (sumR (fs.map Fo.turn))) := by
  have s1 := sum_of_e (rs := fs.map Fo.fx) (a := 240) (by simp; exact fun f hf => (h f hf).fx) (by simp; omega) (by omega)
  have s2 := sum_of_e (rs := fs.map Fo.fy) (a := 240) (by simp; exact fun f hf => (h f hf).fy) (by simp; omega) (by omega)
  have ht : ∀ f ∈ fs, Ht f.turn 980 := fun f hf => by
    have hf := h f hf
    haveI := hf.px; haveI := hf.py; haveI := hf.fx; haveI := hf.fy
    exact Ht.mono (inferInstance : Ht (f.px * f.fy - f.py * f.fx) _) (by omega)
  have s3 := sum_of_e (rs := fs.map Fo.turn) (a := 980) (by simp; exact ht) (by simp; omega) (by omega)
  refine of_wO ?_
  rw [f_sums_of, wO_runD]
  refine ⟨rfl, ?_⟩
  simp only [g_sums_of, wS_seq, wS_set, wE_fun, wA_cons, wA_nil, wE_ofF, wS_ret, wE_tup, wE_var]
  refine comp_encs fs foD Fo.fx (by simp [gItems, gVar]) (by omega) rfl rfl rfl (fun f hf => ?_) ?_
  · simp [wipeD]
  rw [s1, wO_some]
  refine comp_encs fs foD Fo.fy (by simp [gItems, gVar]) (by omega) rfl rfl rfl (fun f hf => ?_) ?_
  · simp [wipeD]
  rw [s2, wO_some]
  simp
  refine comp_encs fs foD Fo.turn (by simp [gItems, gVar]) (by omega) rfl rfl rfl (fun f hf => ?_) ?_
  · have hf := h f hf
    haveI := hf.px; haveI := hf.py; haveI := hf.fx; haveI := hf.fy
    have e := turn_of_e (px := f.px) (py := f.py) (fx := f.fx) (fy := f.fy) (by omega)
    simp [wipeD, e, Fo.turn]
  rw [s3, wO_some]
theorem minus0_e {x : Rat} {a : Nat} [h : Ht x a] (ha : a ≤ 8000) : f_minus [enc 0, enc x] = some (enc (0 - x)) := minus_e (by omega)
def wholeD (X Y T : Rat) : D := if X = 0 ∧ Y = 0 then (if T = 0 then .tuple [.str "nothing"] else .tuple [.str "turn", enc T]) else .tuple [.str "force", P3 Y (0 - X) T, P2 X Y]
theorem whole_of_e {fs : List Fo} (h : ∀ f ∈ fs, HtF f 240) (hl : fs.length ≤ 8) : f_whole_of [.list (fs.map foD)] = some (wholeD (sumR (fs.map Fo.fx)) (sumR (fs.map Fo.fy)) (sumR (fs.map Fo.turn))) := by
  have e := sums_of_e h hl
  have hX : Ht (sumR (fs.map Fo.fx)) 4000 := (ht_sum (rs := fs.map Fo.fx) (a := 240) (by simp; exact fun f hf => (h f hf).fx)).mono (by simp; omega)
  have e2 := minus0_e (x := sumR (fs.map Fo.fx)) (by omega)
  refine of_wO ?_
  rw [f_whole_of, wO_runD]
  refine ⟨rfl, ?_⟩
  generalize sumR (fs.map Fo.fx) = X at *
  generalize sumR (fs.map Fo.fy) = Y at *
  generalize sumR (fs.map Fo.turn) = T at *
  simp [g_whole_of, e]
  by_cases h1 : X = 0
  · by_cases h2 : Y = 0
    · by_cases h3 : T = 0 <;> simp [h1, h2, h3, wholeD]
    · subst h1
      simp [h2, wholeD, e2]
  · simp [h1, wholeD, e2]
theorem about_e {x y : Rat} {fs : List Fo} [hx : Ht x 300] [hy : Ht y 300] (h : ∀ f ∈ fs, HtF f 10) (hl : fs.length ≤ 8) : f_about [P2 x y, .list (fs.map foD)] = some (enc (sumR (fs.map Fo.turn) - (x * sumR (fs.map Fo.fy) - y * sumR (fs.map Fo.fx)))) := by
  have e := sums_of_e (fun f hf => (h f hf).mono (by omega)) hl
  have hX : Ht (sumR (fs.map Fo.fx)) 1300 := (ht_sum (rs := fs.map Fo.fx) (a := 10) (by simp; exact fun f hf => (h f hf).fx)).mono (by simp; omega)
  have hY : Ht (sumR (fs.map Fo.fy)) 1300 := (ht_sum (rs := fs.map Fo.fy) (a := 10) (by simp; exact fun f hf => (h f hf).fy)).mono (by simp; omega)
  have ht : ∀ f ∈ fs, Ht f.turn 50 := fun f hf => by
    have hf := h f hf
    haveI := hf.px; haveI := hf.py; haveI := hf.fx; haveI := hf.fy
    exact Ht.mono (inferInstance : Ht (f.px * f.fy - f.py * f.fx) _) (by omega)
  have hT : Ht (sumR (fs.map Fo.turn)) 4500 := (ht_sum (rs := fs.map Fo.turn) (a := 50) (by simp; exact ht)).mono (b := 4500) (by simp; omega)
  have e2 := turn_of_e (px := x) (py := y) (fx := sumR (fs.map Fo.fx)) (fy := sumR (fs.map Fo.fy)) (by omega)
  have e3 := minus_e (x := sumR (fs.map Fo.turn)) (y := x * sumR (fs.map Fo.fy) - y * sumR (fs.map Fo.fx)) (by omega)
  refine of_wO ?_
  rw [f_about, wO_runD]
  refine ⟨rfl, ?_⟩
  generalize sumR (fs.map Fo.fx) = X at *
  generalize sumR (fs.map Fo.fy) = Y at *
  generalize sumR (fs.map Fo.turn) = T at *
  simp [g_about, e, e2, e3]
theorem line_of_e {f : Fo} {a : Nat} (h : HtF f a) (ha : a ≤ 300) : f_line_of [P2 f.px f.py, P2 f.fx f.fy] = some (P3 f.fy (0 - f.fx) f.turn) := by
  haveI := h.px; haveI := h.py; haveI := h.fx; haveI := h.fy
  have e := turn_of_e (px := f.px) (py := f.py) (fx := f.fx) (fy := f.fy) (by omega)
  have e2 := minus0_e (x := f.fx) (by omega)
  refine of_wO ?_
  rw [f_line_of, wO_runD]
  refine ⟨rfl, ?_⟩
  simp [g_line_of, e, e2, Fo.turn]
theorem law_line_e {f : Fo} {a : Nat} (h : HtF f a) (ha : a ≤ 300) : f_law_line [P2 f.px f.py, P2 f.fx f.fy] = some (P3 f.fy (0 - f.fx) f.turn) := by
  haveI := h.px; haveI := h.py; haveI := h.fx; haveI := h.fy
  have e : f_law_turn [P2 f.px f.py, P2 f.fx f.fy] = some (enc f.turn) := by
    refine of_wO ?_
    rw [f_law_turn, wO_runD]
    refine ⟨rfl, ?_⟩
    have e1 := lmul_e (x := f.px) (y := f.fy) (by omega)
    have e2 := lmul_e (x := f.py) (y := f.fx) (by omega)
    have e3 := lsub_e (x := f.px * f.fy) (y := f.py * f.fx) (by omega)
    simp [g_law_turn, e1, e2, e3, Fo.turn]
  have e2 := lsub_e (x := 0) (y := f.fx) (by omega)
  refine of_wO ?_
  rw [f_law_line, wO_runD]
  refine ⟨rfl, ?_⟩
  simp [g_law_line, e, e2]
theorem back_e {x y : Rat} {a : Nat} [h1 : Ht x a] [h2 : Ht y a] (ha : a ≤ 1000) : f_law_back [P2 x y] = some (P2 (0 - x) (0 - y)) := by
  have e1 := lsub_e (x := 0) (y := x) (by omega)
  have e2 := lsub_e (x := 0) (y := y) (by omega)
  refine of_wO ?_
  rw [f_law_back, wO_runD]
  refine ⟨rfl, ?_⟩
  simp [g_law_back, e1, e2]
theorem is_on_e {a b c x y : Rat} {m n : Nat} [h1 : Ht a m] [h2 : Ht b m] [h3 : Ht x n] [h4 : Ht y n] (h : m + n ≤ 4000) : f_is_on [P3 a b c, P2 x y] = some (.bool (decide (a * x + b * y = c))) := by
  have e1 := times_e (x := a) (y := x) (by omega)
  have e2 := times_e (x := b) (y := y) (by omega)
  have e3 := plus_e (x := a * x) (y := b * y) (by omega)
  refine of_wO ?_
  rw [f_is_on, wO_runD]
  refine ⟨rfl, ?_⟩
  simp [g_is_on, e1, e2, e3]
theorem law_on_e {a b c x y : Rat} {m n : Nat} [h1 : Ht a m] [h2 : Ht b m] [h3 : Ht x n] [h4 : Ht y n] (h : m + n ≤ 700) : f_law_on [P3 a b c, P2 x y] = some (.bool (decide (a * x + b * y = c))) := by
  have e1 := lmul_e (x := a) (y := x) (by omega)
  have e2 := lmul_e (x := b) (y := y) (by omega)
  have e3 := ladd_e (x := a * x) (y := b * y) (by omega)
  refine of_wO ?_
  rw [f_law_on, wO_runD]
  refine ⟨rfl, ?_⟩
  simp [g_law_on, e1, e2, e3]
structure Ln where
  (a b c : Rat)
abbrev lnD (l : Ln) : D := P3 l.a l.b l.c
structure HtL (l : Ln) (n : Nat) : Prop where
  a : Ht l.a n
  b : Ht l.b n
  c : Ht l.c n
def low (l m : Ln) : Rat := l.a * m.b - l.b * m.a
def mx (l m : Ln) : Rat := (l.c * m.b - l.b * m.c) / low l m
def my (l m : Ln) : Rat := (l.a * m.c - l.c * m.a) / low l m
theorem meeting_e {l m : Ln} {n : Nat} (h : HtL l n) (h' : HtL m n) (hn : n ≤ 900) : f_meeting [lnD l, lnD m] = some (if low l m = 0 then .none else P2 (mx l m) (my l m)) := by
  haveI := h.a; haveI := h.b; haveI := h.c; haveI := h'.a; haveI := h'.b; haveI := h'.c
  have e1 := times_e (x := l.a) (y := m.b) (by omega)
  have e2 := times_e (x := l.b) (y := m.a) (by omega)
  have e3 := minus_e (x := l.a * m.b) (y := l.b * m.a) (by omega)
  have e4 := times_e (x := l.c) (y := m.b) (by omega)
  have e5 := times_e (x := l.b) (y := m.c) (by omega)
  have e6 := minus_e (x := l.c * m.b) (y := l.b * m.c) (by omega)
  have e7 := times_e (x := l.a) (y := m.c) (by omega)
  have e8 := times_e (x := l.c) (y := m.a) (by omega)
  have e9 := minus_e (x := l.a * m.c) (y := l.c * m.a) (by omega)
  refine of_wO ?_
  rw [f_meeting, wO_runD]
  refine ⟨rfl, ?_⟩
  by_cases hz : l.a * m.b - l.b * m.a = 0
  · simp [g_meeting, e1, e2, e3, hz, low]
  · have e10 := over_e (x := l.c * m.b - l.b * m.c) (y := l.a * m.b - l.b * m.a) (by omega) hz
    have e11 := over_e (x := l.a * m.c - l.c * m.a) (y := l.a * m.b - l.b * m.a) (by omega) hz
    simp [g_meeting, e1, e2, e3, e4, e5, e6, e7, e8, e9, e10, e11, hz, low, mx, my]
def onB (l : Ln) (x y : Rat) : Bool := decide (l.a * x + l.b * y = l.c)
def allOn (l m k : Ln) (x y : Rat) : Bool := onB l x y && (onB m x y && onB k x y)
def sameB (l m k : Ln) : Bool := if low l m = 0 then (if low l k = 0 then (if low m k = 0 then true else allOn l m k (mx m k) (my m k)) else allOn l m k (mx l k) (my l k)) else allOn l m k (mx l m) (my l m)
theorem HtL.mx {l m : Ln} {n : Nat} (h : HtL l n) (h' : HtL m n) : Ht (mx l m) (8 * n + 4) := by
  haveI := h.a; haveI := h.b; haveI := h.c; haveI := h'.a; haveI := h'.b; haveI := h'.c
  exact Ht.mono (x := (l.c * m.b - l.b * m.c) / (l.a * m.b - l.b * m.a)) inferInstance (by omega)
theorem HtL.my {l m : Ln} {n : Nat} (h : HtL l n) (h' : HtL m n) : Ht (my l m) (8 * n + 4) := by
  haveI := h.a; haveI := h.b; haveI := h.c; haveI := h'.a; haveI := h'.b; haveI := h'.c
  exact Ht.mono (x := (l.a * m.c - l.c * m.a) / (l.a * m.b - l.b * m.a)) inferInstance (by omega)
theorem same_point_e {l m k : Ln} {n : Nat} (h : HtL l n) (h' : HtL m n) (h'' : HtL k n) (hn : n ≤ 440) : f_same_point [.list [lnD l, lnD m, lnD k]] = some (.bool (sameB l m k)) := by
  have m1 := meeting_e h h' (by omega)
  have m2 := meeting_e h h'' (by omega)
  have m3 := meeting_e h' h'' (by omega)
  have al : ∀ {x y : Rat}, Ht x (8 * n + 4) → Ht y (8 * n + 4) → ∀ {r : Ln}, HtL r n → f_is_on [P3 r.a r.b r.c, P2 x y] = some (.bool (onB r x y)) := fun hx hy r hr => by
    haveI := hr.a; haveI := hr.b; haveI := hr.c
    exact is_on_e (by omega)
  refine of_wO ?_
  rw [f_same_point, wO_runD]
  refine ⟨rfl, ?_⟩
  have fin : ∀ (b c d : Bool), wO (fAll [.list [.bool b, .bool c, .bool d]]) fun x => x = .bool (b && (c && d)) := fun b c d => by simp [fAll, boolsOf]
  by_cases z1 : low l m = 0
  · by_cases z2 : low l k = 0
    · by_cases z3 : low m k = 0
      · simp [g_same_point, wS_for, wS_go_cons, wS_go_nil, numD, cutD, HT.sIx, m1, m2, m3, z1, z2, z3, sameB]
      · have a1 := al (h'.mx h'') (h'.my h'') h
        have a2 := al (h'.mx h'') (h'.my h'') h'
        have a3 := al (h'.mx h'') (h'.my h'') h''
        simp [g_same_point, wS_for, wS_go_cons, wS_go_nil, numD, cutD, HT.sIx, m1, m2, m3, z1, z2, z3, sameB, wF_lc, wO_lc_cons, wO_lc_nil, wipeD, back, dataAt, a1, a2, a3, allOn]
        exact fin _ _ _
    · have a1 := al (h.mx h'') (h.my h'') h
      have a2 := al (h.mx h'') (h.my h'') h'
      have a3 := al (h.mx h'') (h.my h'') h''
      simp [g_same_point, wS_for, wS_go_cons, wS_go_nil, numD, cutD, HT.sIx, m1, m2, m3, z1, z2, sameB, wF_lc, wO_lc_cons, wO_lc_nil, wipeD, back, dataAt, a1, a2, a3, allOn]
      exact fin _ _ _
  · have a1 := al (h.mx h') (h.my h') h
    have a2 := al (h.mx h') (h.my h') h'
    have a3 := al (h.mx h') (h.my h') h''
    simp [g_same_point, wS_for, wS_go_cons, wS_go_nil, numD, cutD, HT.sIx, m1, m2, m3, z1, sameB, wF_lc, wO_lc_cons, wO_lc_nil, wipeD, back, dataAt, a1, a2, a3, allOn]
    exact fin _ _ _
end TB
namespace TB
open PySem L2
def QT : Out → DEnv → Prop := fun o _ => match o with
  | .rt x => x = .bool true
  | .rf xs => PyData.list xs = .bool true
  | .nx => PyData.none = .bool true
  | _ => False
@[simp] theorem QT_rt {x : D} {ρ : DEnv} : QT (.rt x) ρ ↔ x = .bool true := Iff.rfl
theorem wS_seq_k {g h : GS} {ρ : DEnv} {Q : Out → DEnv → Prop} (f : ∀ K : DEnv → Prop, (∀ ρ1, wS h ρ1 Q → K ρ1) → wS g ρ fun o ρ1 => match o with | .nx => K ρ1 | o => Q o ρ1) : wS (gSeq g h) ρ Q := by
  rw [wS_seq]
  exact f (fun ρ1 => wS h ρ1 Q) fun _ h => h
theorem wS_if_k {gt : GT} {g h : GS} {ρ : DEnv} {Q : Out → DEnv → Prop} (f : ∀ K : Bool → DEnv → Prop, (∀ ρ1, wS g ρ1 Q → K true ρ1) → (∀ ρ1, wS h ρ1 Q → K false ρ1) → wT gt ρ K) : wS (gIf gt g h) ρ Q := by
  rw [wS_if]
  exact f (fun b ρ1 => if b = true then wS g ρ1 Q else wS h ρ1 Q) (fun ρ1 h => by simpa using h) (fun ρ1 h => by simpa using h)
theorem lc_pool {α : Type} {gg : GG} {gt : GT} {ge : GE} {vs : List Nat} (dd : α → D) (S : α → Prop) (P : Nat → DEnv → Prop) (n : Nat) (st : ∀ (j : Nat) (d : D) (ρ : DEnv), j < n → P j ρ → wO (gg d ρ) fun ρ1 => wT gt ρ1 fun b ρ2 => b = true ∧ wE ge ρ2 fun y ρ3 => (∃ a, S a ∧ y = dd a) ∧ P (j + 1) (wipeD ρ3 vs)) : ∀ (ds : List D) (i : Nat) (ρ : DEnv), i + ds.length ≤ n → P i ρ →
    ∃ (xs : List α) (ρ' : DEnv), lcGo gg gt ge vs ds ρ = some (xs.map dd, ρ') ∧ (∀ x ∈ xs, S x) ∧ xs.length = ds.length ∧ P (i + ds.length) ρ'
  | [], i, ρ, _, h => ⟨[], ρ, rfl, by simp, rfl, h⟩
  | d :: r, i, ρ, hn, h => by
    rw [List.length_cons] at hn
    obtain ⟨ρ1, e1, b, ρ2, e2, rfl, y, ρ3, e3, ⟨a, sa, rfl⟩, h3⟩ := st i d ρ (by omega) h
    obtain ⟨xs, ρ', e4, h4, h5, h6⟩ := lc_pool dd S P n st r (i + 1) _ (by omega) h3
    refine ⟨a :: xs, ρ', ?_, by simpa using ⟨sa, h4⟩, by simp [h5], by rw [List.length_cons, show i + (r.length + 1) = i + 1 + r.length by omega]; exact h6⟩
    unfold lcGo
    rw [e1, Option.bind_some, e2, Option.bind_some, if_pos rfl, e3, Option.bind_some, e4]
    rfl
theorem sumR1 (a : Rat) : sumR [a] = a := by rw [sumR_cons, sumR_nil]; grind
theorem sumR2 (a b : Rat) : sumR [a, b] = a + b := by rw [sumR_cons, sumR1]
theorem sumR3 (a b c : Rat) : sumR [a, b, c] = a + b + c := by rw [sumR_cons, sumR2]; grind
theorem cmE : cMax = 1000000000000000000 := rfl
theorem HtF.mk' {px py fx fy : Rat} {a : Nat} (h1 : Ht px a) (h2 : Ht py a) (h3 : Ht fx a) (h4 : Ht fy a) : HtF ⟨px, py, fx, fy⟩ a := ⟨h1, h2, h3, h4⟩
def lnO (f : Fo) : Ln := ⟨f.fy, 0 - f.fx, f.turn⟩
theorem HtF.turn {f : Fo} {a : Nat} (h : HtF f a) : Ht f.turn (4 * a + 1) := by
  haveI := h.px; haveI := h.py; haveI := h.fx; haveI := h.fy
  exact Ht.mono (x := f.px * f.fy - f.py * f.fx) inferInstance (by omega)
theorem Ht.sub0 {x : Rat} {a : Nat} (h : Ht x a) : Ht (0 - x) (a + 2) := Ht.mono (inferInstance : Ht (0 - x) _) (by omega)
theorem HtF.ln {f : Fo} {a : Nat} (h : HtF f a) (ha : 1 ≤ a) : HtL (lnO f) (4 * a + 1) := ⟨h.fy.mono (by omega), h.fx.sub0.mono (by omega), h.turn⟩
theorem low_ln (f g : Fo) : low (lnO f) (lnO g) = f.fx * g.fy - f.fy * g.fx := by unfold low lnO; grind
theorem on_meet {l m : Ln} (h : low l m ≠ 0) : onB l (mx l m) (my l m) = true ∧ onB m (mx l m) (my l m) = true := by
  unfold onB mx my
  unfold low at *
  constructor <;> refine decide_eq_true ?_ <;> grind
theorem sameB_par {l m k : Ln} (h1 : low l m = 0) (h2 : low l k = 0) (h3 : low m k = 0) : sameB l m k = true := by simp [sameB, h1, h2, h3]
theorem t17_ok {ns : List Int} (hs : Sc ns) {ps : List D} (hp : PoolOk ns 300 ps) (a0 a2 a3 a4 a5 a6 a7 a8 a9 a10 a11 a12 a13 a14 a15 a16 a17 a18 a19 a20 a21 a22 a23 a24 a25 a26 a27 a28 a29 a30 : Sl) : wS g_law_t17 [a0, .m ps, a2, a3, a4, a5, a6, a7, a8, a9, a10, a11, a12, a13, a14, a15, a16, a17, a18, a19, a20, a21, a22, a23, a24, a25, a26, a27, a28, a29, a30] QT := by
  have cm := cmE
  simp only [g_law_t17, wS_seq, g_law_s17]
  simp
  refine some_step hs hp (by omega) (by omega) (by omega) (by omega) fun f ps hf f0 _ hp => ?_
  simp
  refine some_step hs hp (by omega) (by omega) (by omega) (by omega) fun g ps hg g0 _ hp => ?_
  have f0 := f0 (by decide)
  have g0 := g0 (by decide)
  simp [g_law_t18, g_law_s18]
  refine point_step hs hp (by omega) (by omega) (by omega) fun x1 y1 ps h1 h2 hp => ?_
  simp
  refine point_step hs hp (by omega) (by omega) (by omega) fun x2 y2 ps h3 h4 hp => ?_
  simp
  clear hp
  have fg : f + g ≠ 0 := by grind
  have q1 := lmul_e (x := x1) (y := f) (by omega)
  have q2 := lmul_e (x := x2) (y := g) (by omega)
  have q3 := ladd_e (x := x1 * f) (y := x2 * g) (by omega)
  have q4 := ladd_e (x := f) (y := g) (by omega)
  have q5 := ldiv_e (x := x1 * f + x2 * g) (y := f + g) (by omega) fg
  have z10 : Ht 0 10 := Ht.zero.mono (by omega)
  have F1 : HtF ⟨x1, y1, 0, f⟩ 10 := ⟨h1, h2, z10, hf⟩
  have F2 : HtF ⟨x2, y2, 0, g⟩ 10 := ⟨h3, h4, z10, hg⟩
  have w := whole_of_e (fs := [⟨x1, y1, 0, f⟩, ⟨x2, y2, 0, g⟩]) (by
    intro u hu
    simp at hu
    rcases hu with rfl | rfl
    · exact F1.mono (by omega)
    · exact F2.mono (by omega)) (by simp)
  simp only [List.map_cons, List.map_nil, sumR2, Fo.turn] at w
  have z0 : (0 : Rat) + 0 = 0 := by grind
  have z1 : (0 : Rat) - (0 + 0) = 0 := by grind
  have tE : x1 * f - y1 * 0 + (x2 * g - y2 * 0) = x1 * f + x2 * g := by grind
  rw [tE] at w
  simp only [wholeD, fg, and_false, if_false, z1] at w
  rw [z0] at w
  have w2 := line_of_e F1 (by omega)
  have w3 := line_of_e F2 (by omega)
  try dsimp only at w2 w3
  have hm : Ht ((x1 * f + x2 * g) / (f + g)) 100 := Ht.mono inferInstance (by omega)
  have h7 : Ht 7 100 := Ht.int (k := 7) (Bd.lit (by decide)) (by decide)
  have hfg : Ht (f + g) 50 := Ht.mono inferInstance (by omega)
  have h050 : Ht 0 50 := Ht.zero.mono (by omega)
  have w4 := is_on_e (a := f + g) (b := 0) (c := x1 * f + x2 * g) (x := (x1 * f + x2 * g) / (f + g)) (y := 7) (by omega)
  have hon : (f + g) * ((x1 * f + x2 * g) / (f + g)) + 0 * 7 = x1 * f + x2 * g := by grind
  simp only [hon, decide_true] at w4
  have e7 : (PyData.tuple [.int 7, .int 1]) = enc 7 := enc_z 7
  have z2 : (0 : Rat) - 0 = 0 := by grind
  have L1 : HtL ⟨f, 0, (⟨x1, y1, 0, f⟩ : Fo).turn⟩ 100 := ⟨hf.mono (by omega), Ht.zero.mono (by omega), F1.turn.mono (by omega)⟩
  have L2 : HtL ⟨g, 0, (⟨x2, y2, 0, g⟩ : Fo).turn⟩ 100 := ⟨hg.mono (by omega), Ht.zero.mono (by omega), F2.turn.mono (by omega)⟩
  have L3 : HtL ⟨f + g, 0, x1 * f + x2 * g⟩ 100 := ⟨hfg.mono (by omega), Ht.zero.mono (by omega), Ht.mono inferInstance (by omega)⟩
  have w5 := same_point_e L1 L2 L3 (by omega)
  rw [sameB_par (by unfold low; grind) (by unfold low; grind) (by unfold low; grind)] at w5
  try dsimp only at w5
  rw [z2] at w2 w3
  simp [g_law_t19, g_law_s19]
  simp [g_law_t20, g_law_s20, q1, q2, q3, q4, q5]
  simp [g_law_t21, g_law_s21, w]
  simp [g_law_t22, g_law_s22, w4, e7]
  simp [g_law_t23, g_law_s23, w2, w3, w5]
end TB
namespace TB
open PySem L2
theorem t13_ok {ns : List Int} (hs : Sc ns) {ps : List D} (hp : PoolOk ns 100 ps) (a0 a2 a3 a4 a5 a6 a7 a8 a9 a10 a11 a12 a13 a14 a15 a16 a17 a18 a19 a20 a21 a22 a23 a24 a25 a26 a27 a28 a29 : Sl) : wS g_law_t13 [a0, .m ps, a2, a3, a4, a5, a6, a7, a8, a9, a10, a11, a12, a13, a14, a15, a16, a17, a18, a19, a20, a21, a22, a23, a24, a25, a26, a27, a28, a29, .no] QT := by
  have cm := cmE
  simp only [g_law_t13, wS_seq, g_law_s13, wS_set, wE_ofF, wF_lc, wA_range1, wA_cons, wA_nil, wE_bin, wE_c, wE_funP]
  simp only [List.getElem?_cons_zero, List.getElem?_cons_succ, slM_m]
  refine draw_step hs hp (by omega) (by omega) (by omega) fun v ps v0 v1 hp => ?_
  simp only [dAdd_int, List.set_cons_zero, List.set_cons_succ, reCell_m]
  refine ⟨by omega, ⟨by rw [range_len]; omega, rfl⟩, ?_⟩
  have hlen : (rangeD 0 (1 + v).toNat).length ≤ 4 := by rw [range_len]; omega
  have hlc := lc_pool (gg := gN 30) (gt := gYes) (ge := gTpl (aCons (gFunP 1 f_law_point (aCons (gC (.int 4)) aNil)) (aCons (gFunP 1 f_law_point (aCons (gC (.int 3)) aNil)) aNil))) (vs := [30]) foD (fun f => HtF f 10)
    (fun j ρ => ∃ ps, PoolOk ns (101 + 8 * j) ps ∧ ρ = [a0, .m ps, a2, a3, a4, a5, a6, a7, a8, a9, a10, a11, a12, a13, a14, a15, a16, a17, a18, a19, a20, a21, a22, a23, a24, a25, a26, a27, a28, a29, .no]) 4 (by
      rintro j d ρ hj ⟨ps, hp, rfl⟩
      simp
      refine point_step hs hp (by omega) (by omega) (by omega) fun x y ps h1 h2 hp => ?_
      simp
      refine point_step hs hp (by omega) (by omega) (by omega) fun u w ps h3 h4 hp => ?_
      simp [wipeD]
      exact ⟨⟨⟨x, y, u, w⟩, ⟨h1, h2, h3, h4⟩, ⟨rfl, rfl⟩, rfl, rfl⟩, hp.mono (by omega)⟩) (rangeD 0 (1 + v).toNat) 0 _ (by omega) ⟨ps, hp, rfl⟩
  obtain ⟨fs, ρ', e, hf, hn, ps, hp, rfl⟩ := hlc
  simp only [wipeD, List.set_cons_zero, List.set_cons_succ]
  rw [e, wO_some]
  have hn4 : fs.length ≤ 4 := by omega
  have hp : PoolOk ns 200 ps := hp.mono (by omega)
  clear e hlen hn v0 v1
  simp only [back, List.getElem?_cons_zero, List.getElem?_cons_succ, List.set_cons_zero, List.set_cons_succ]
  have h240 : ∀ f ∈ fs, HtF f 240 := fun f h => (hf f h).mono (by omega)
  have w1 := whole_of_e h240 (by omega)
  have w2 := sums_of_e h240 (by omega)
  have hX : Ht (sumR (fs.map Fo.fx)) 45 := (ht_sum (rs := fs.map Fo.fx) (a := 10) (by simp; exact fun f h => (hf f h).fx)).mono (by simp; omega)
  have hY : Ht (sumR (fs.map Fo.fy)) 45 := (ht_sum (rs := fs.map Fo.fy) (a := 10) (by simp; exact fun f h => (hf f h).fy)).mono (by simp; omega)
  have hT : Ht (sumR (fs.map Fo.turn)) 169 := (ht_sum (rs := fs.map Fo.turn) (a := 41) (by simp; exact fun f h => (hf f h).turn)).mono (by simp; omega)
  have wh : ∀ gs : List Fo, (∀ g ∈ gs, HtF g 240) → gs.length ≤ 2 → f_whole_of [.list (fs.map foD ++ gs.map foD)] = some (wholeD (sumR (fs.map Fo.fx) + sumR (gs.map Fo.fx)) (sumR (fs.map Fo.fy) + sumR (gs.map Fo.fy)) (sumR (fs.map Fo.turn) + sumR (gs.map Fo.turn))) := fun gs h hl => by
    have e := whole_of_e (fs := fs ++ gs) (fun f hm => by
      rcases List.mem_append.mp hm with h1 | h1
      · exact h240 f h1
      · exact h f h1) (by simp; omega)
    rw [List.map_append, List.map_append, List.map_append, List.map_append, sumR_append, sumR_append, sumR_append] at e
    exact e
  have ab : ∀ (x y : Rat), Ht x 300 → Ht y 300 → f_about [P2 x y, .list (fs.map foD)] = some (enc (sumR (fs.map Fo.turn) - (x * sumR (fs.map Fo.fy) - y * sumR (fs.map Fo.fx)))) := fun x y _ _ => about_e hf (by omega)
  have hR : ∀ (x y : D), (fs.map foD).length + [x, y].length ≤ 16777216 := fun x y => by simp; omega
  generalize hXe : sumR (fs.map Fo.fx) = X at *
  generalize hYe : sumR (fs.map Fo.fy) = Y at *
  generalize hTe : sumR (fs.map Fo.turn) = T at *
  have hL : (fs.map foD).length ≤ 4 := by simpa using hn4
  generalize hRe : fs.map foD = R at *
  clear h240 hf hn4
  have pl1 : Pl 6 (.list [.tuple [.str "nothing"], enc 0]) = true := by rw [enc_def]; decide +kernel
  have z0 : ∀ x : Rat, x + (0 - x) = 0 := fun x => by grind
  simp [g_law_t14, g_law_s14, w1, g_law_t15, g_law_s15, w2]
  simp only [g_law_t16, wS_seq, g_law_s16]
  by_cases zX : X = 0
  · by_cases zY : Y = 0
    · by_cases zT : T = 0
      · simp [wholeD, zX, zY, zT]
        exact t17_ok hs (hp.mono (by omega)) _ _ _ _ _ _ _ _ _ _ _ _ _ _ _ _ _ _ _ _ _ _ _ _ _ _ _ _ _ _
      · have h240 : Ht 0 240 := Ht.zero.mono (by omega)
        have k1 : Ht (-1) 240 := Ht.mono (inferInstance : Ht (-1) _) (by omega)
        have k2 : Ht 1 240 := Ht.oneI.mono (by omega)
        have q1 := lsub_e (x := 0) (y := T) (by omega)
        have w := wh [⟨0, 0, 0, -1⟩, ⟨0 - T, 0, 0, 1⟩] (by
          intro f hf
          simp only [List.mem_cons, List.not_mem_nil, or_false] at hf
          rcases hf with rfl | rfl
          · exact ⟨h240, h240, h240, k1⟩
          · exact ⟨hT.sub0.mono (by omega), h240, h240, k2⟩) (by simp)
        simp only [List.map_cons, List.map_nil, sumR2, Fo.turn] at w
        have s1 : X + ((0 : Rat) + 0) = 0 := by grind
        have s2 : Y + ((-1 : Rat) + 1) = 0 := by grind
        have s3 : T + (0 * (-1 : Rat) - 0 * 0 + ((0 - T) * 1 - 0 * 0)) = 0 := by grind
        rw [s1, s2, s3] at w
        have n0 : wholeD 0 0 0 = .tuple [.str "nothing"] := by simp [wholeD]
        rw [n0] at w
        simp [wholeD, zX, zY, zT, q1]
        refine ⟨by omega, ?_⟩
        rw [w, wO_some]
        refine point_step hs hp (by omega) (by omega) (by omega) fun x y ps h1 h2 hp => ?_
        simp
        rw [ab x y (h1.mono (by omega)) (h2.mono (by omega)), wO_some]
        have s4 : T - (x * Y - y * X) = T := by grind
        have plT : Pl 6 (.list [.tuple [.str "nothing"], enc T]) = true := by
          refine Pl_list (by omega) (by simp) ?_
          intro z hz
          have : z = .tuple [.str "nothing"] ∨ z = enc T := by simpa using hz
          rcases this with rfl | rfl
          · decide +kernel
          · exact Pl_enc (by omega)
        rw [s4]
        simp [plT]
        exact t17_ok hs (hp.mono (by omega)) _ _ _ _ _ _ _ _ _ _ _ _ _ _ _ _ _ _ _ _ _ _ _ _ _ _ _ _ _ _
    · subst zX
      have b1 := back_e (x := 0) (y := Y) (by omega)
      have q1 := ldiv_e (x := T) (y := Y) (by omega) zY
      have hd : Ht (T / Y) 240 := Ht.mono inferInstance (by omega)
      have h240 : Ht 0 240 := Ht.zero.mono (by omega)
      have h0 : Ht 0 1 := Ht.zero
      have w := wh [⟨T / Y, 0, 0 - 0, 0 - Y⟩] (by
        intro f hf
        simp only [List.mem_cons, List.not_mem_nil, or_false] at hf
        subst hf
        exact ⟨hd, h240, h0.sub0.mono (by omega), hY.sub0.mono (by omega)⟩) (by simp)
      simp only [List.map_cons, List.map_nil, sumR1, Fo.turn] at w
      have s1 : T + (T / Y * (0 - Y) - 0 * (0 - 0)) = 0 := by grind
      rw [z0, z0, s1] at w
      have n0 : wholeD 0 0 0 = .tuple [.str "nothing"] := by simp [wholeD]
      rw [n0] at w
      have a1 := ab (T / Y) 0 (hd.mono (by omega)) (h240.mono (by omega))
      have s2 : T - (T / Y * Y - 0 * 0) = 0 := by grind
      rw [s2] at a1
      have zb : (0 : Rat) - 0 = 0 := by grind
      rw [zb] at w b1
      simp [wholeD, zY, zb, q1, b1]
      refine ⟨by omega, ?_⟩
      simp [w, a1, pl1]
      exact t17_ok hs (hp.mono (by omega)) _ _ _ _ _ _ _ _ _ _ _ _ _ _ _ _ _ _ _ _ _ _ _ _ _ _ _ _ _ _
  · have zb : ¬ (0 : Rat) - X = 0 := by grind
    have hX0 : Ht (0 - X) 47 := hX.sub0
    have b1 := back_e (x := X) (y := Y) (by omega)
    have q1 := ldiv_e (x := T) (y := 0 - X) (by omega) zb
    have hd : Ht (T / (0 - X)) 240 := Ht.mono inferInstance (by omega)
    have h240 : Ht 0 240 := Ht.zero.mono (by omega)
    have w := wh [⟨0, T / (0 - X), 0 - X, 0 - Y⟩] (by
      intro f hf
      simp only [List.mem_cons, List.not_mem_nil, or_false] at hf
      subst hf
      exact ⟨h240, hd, hX.sub0.mono (by omega), hY.sub0.mono (by omega)⟩) (by simp)
    simp only [List.map_cons, List.map_nil, sumR1, Fo.turn] at w
    have s1 : T + (0 * (0 - Y) - T / (0 - X) * (0 - X)) = 0 := by grind
    rw [z0, z0, s1] at w
    have n0 : wholeD 0 0 0 = .tuple [.str "nothing"] := by simp [wholeD]
    rw [n0] at w
    have a1 := ab 0 (T / (0 - X)) (h240.mono (by omega)) (hd.mono (by omega))
    have s2 : T - (0 * Y - T / (0 - X) * X) = 0 := by grind
    rw [s2] at a1
    simp [wholeD, zX, zb, q1, b1]
    refine ⟨by omega, ?_⟩
    simp [w, a1, pl1]
    exact t17_ok hs (hp.mono (by omega)) _ _ _ _ _ _ _ _ _ _ _ _ _ _ _ _ _ _ _ _ _ _ _ _ _ _ _ _ _ _
end TB
namespace TB
open PySem L2
theorem lin_neg {a b c d t u x y : Rat} (h1 : a * x + (0 - c) * y = t) (h2 : b * x + (0 - d) * y = u) : (0 - (a + b)) * x + (0 - (0 - (c + d))) * y = -(t + u) := by grind
theorem low_neg {l m k : Ln} (ha : k.a = - (l.a + m.a)) (hb : k.b = - (l.b + m.b)) (h : low l m = 0) : low l k = 0 ∧ low m k = 0 := by
  unfold low at *
  rw [ha, hb]
  constructor <;> grind
theorem alg1 {u v X Y T : Rat} (h : Y * u - X * v = T) : u * (0 - Y) - v * (0 - X) = -T := by grind
theorem alg2 {u v X Y T : Rat} (h : Y * u - X * v = T) : T + (u * (0 - Y) - v * (0 - X)) = 0 := by grind
theorem alg3 {u v X Y T : Rat} (h : Y * u - X * v = T) : T + ((u + (0 - Y)) * (0 - Y) - (v + X) * (0 - X)) = Y * Y + X * X := by grind
theorem sq_nn (X : Rat) : 0 ≤ X * X := by
  rcases Rat.le_total (a := 0) (b := X) with h | h
  · exact Rat.mul_nonneg h h
  · have := Rat.mul_nonneg (a := -X) (b := -X) (by grind) (by grind)
    grind
theorem sum_sq {X Y : Rat} (h : Y * Y + X * X = 0) : X = 0 ∧ Y = 0 := by
  have h1 := sq_nn X
  have h2 := sq_nn Y
  have x0 : X * X = 0 := by grind
  have y0 : Y * Y = 0 := by grind
  exact ⟨by rcases Rat.mul_eq_zero.mp x0 with h | h <;> exact h, by rcases Rat.mul_eq_zero.mp y0 with h | h <;> exact h⟩
theorem alg5 {X Y T : Rat} (h : ¬ Y = 0) : Y * (T / Y) - X * 0 = T := by grind
theorem alg6 {X Y T : Rat} (h : ¬ X = 0) : Y * 0 - X * (T / (0 - X)) = T := by grind
theorem alg7 {X : Rat} (h : ¬ X = 0) : ¬ 0 - X = 0 := by grind
theorem alg4 {u v X Y T : Rat} (h : Y * u - X * v = T) (hn : ¬ (X = 0 ∧ Y = 0)) : ¬ T + ((u + (0 - Y)) * (0 - Y) - (v + X) * (0 - X)) = 0 := by
  rw [alg3 h]
  exact fun e => hn (sum_sq e)
theorem lin_sum {a b c d t u x y : Rat} (h1 : a * x + (0 - c) * y = t) (h2 : b * x + (0 - d) * y = u) : (a + b) * x + (0 - (c + d)) * y = t + u := by grind
theorem blk {f1 f2 : Fo} (H1 : HtF f1 10) (H2 : HtF f2 10) {x y X Y T u v : Rat} (hXe : f1.fx + f2.fx = X) (hYe : f1.fy + f2.fy = Y) (hTe : f1.turn + f2.turn = T) (hx : Ht x 332) (hy : Ht y 332) (hX : Ht X 21) (hY : Ht Y 21) (hT : Ht T 83)
    (hu : Ht u 110) (hv : Ht v 110) (huv : Y * u - X * v = T) (hn : ¬ (X = 0 ∧ Y = 0)) :
      f_whole_of [.list [foD f1, foD f2, .tuple [P2 u v, P2 (0 - X) (0 - Y)]]] = some (.tuple [.str "nothing"]) ∧
      f_line_of [P2 u v, P2 (0 - X) (0 - Y)] = some (lnD (lnO ⟨u, v, 0 - X, 0 - Y⟩)) ∧
      f_same_point [.list [lnD (lnO f1), lnD (lnO f2), lnD (lnO ⟨u, v, 0 - X, 0 - Y⟩)]] = some (.bool true) ∧
      f_law_add [enc u, enc (0 - Y)] = some (enc (u + (0 - Y))) ∧ f_law_add [enc v, enc X] = some (enc (v + X)) ∧
      (∃ t : D, f_whole_of [.list [foD f1, foD f2, .tuple [P2 (u + (0 - Y)) (v + X), P2 (0 - X) (0 - Y)]]] = some (.tuple [.str "turn", t])) ∧
      (∃ L : Ln, ∃ b : Bool, f_line_of [P2 (u + (0 - Y)) (v + X), P2 (0 - X) (0 - Y)] = some (lnD L) ∧ (low (lnO f1) (lnO f2) ≠ 0 → x = mx (lnO f1) (lnO f2) → y = my (lnO f1) (lnO f2) → f_same_point [.list [lnD (lnO f1), lnD (lnO f2), lnD L]] = some (.bool b) ∧ f_is_on [lnD L, P2 x y] = some (.bool b))) := by
  have E : lnO ⟨u, v, 0 - X, 0 - Y⟩ = ⟨0 - Y, 0 - (0 - X), -T⟩ := by
    unfold lnO Fo.turn
    congr 1
    exact alg1 huv
  have F3 : HtF ⟨u, v, 0 - X, 0 - Y⟩ 110 := ⟨hu, hv, hX.sub0.mono (by omega), hY.sub0.mono (by omega)⟩
  have hu' : Ht (u + (0 - Y)) 140 := Ht.mono inferInstance (by omega)
  have hv' : Ht (v + X) 140 := Ht.mono inferInstance (by omega)
  have F4 : HtF ⟨u + (0 - Y), v + X, 0 - X, 0 - Y⟩ 140 := ⟨hu', hv', hX.sub0.mono (by omega), hY.sub0.mono (by omega)⟩
  have wf : ∀ f : Fo, HtF f 240 → f_whole_of [.list [foD f1, foD f2, foD f]] = some (wholeD (X + f.fx) (Y + f.fy) (T + f.turn)) := fun f h => by
    have e := whole_of_e (fs := [f1, f2, f]) (by
      intro g hg
      simp only [List.mem_cons, List.not_mem_nil, or_false] at hg
      rcases hg with rfl | rfl | rfl
      · exact H1.mono (by omega)
      · exact H2.mono (by omega)
      · exact h) (by simp)
    simp only [List.map_cons, List.map_nil, sumR3, hXe, hYe, hTe] at e
    exact e
  have w3 := wf _ (F3.mono (by omega))
  have w4 := wf _ (F4.mono (by omega))
  have z0 : ∀ x : Rat, x + (0 - x) = 0 := fun x => by grind
  have t3 : T + (u * (0 - Y) - v * (0 - X)) = 0 := alg2 huv
  have t4 : ¬ T + ((u + (0 - Y)) * (0 - Y) - (v + X) * (0 - X)) = 0 := alg4 huv hn
  simp only [Fo.turn, z0, t3] at w3
  simp only [Fo.turn, z0] at w4
  have hL3 : HtL (lnO ⟨u, v, 0 - X, 0 - Y⟩) 440 := ⟨hY.sub0.mono (by omega), hX.sub0.sub0.mono (by omega), Ht.mono (x := u * (0 - Y) - v * (0 - X)) inferInstance (by omega)⟩
  have hL1 := (H1.ln (by omega))
  have hL2 := (H2.ln (by omega))
  have up : ∀ {l : Ln} {n : Nat}, HtL l n → n ≤ 440 → HtL l 440 := fun h hn => ⟨h.a.mono hn, h.b.mono hn, h.c.mono hn⟩
  have sp := same_point_e (up hL1 (by omega)) (up hL2 (by omega)) (up hL3 (by omega)) (by omega)
  have sT : sameB (lnO f1) (lnO f2) (lnO ⟨u, v, 0 - X, 0 - Y⟩) = true := by
    rw [E]
    by_cases hc : low (lnO f1) (lnO f2) = 0
    · have hh := low_neg (l := lnO f1) (m := lnO f2) (k := ⟨0 - Y, 0 - (0 - X), -T⟩) (by show 0 - Y = -(f1.fy + f2.fy); rw [hYe]; grind) (by show 0 - (0 - X) = -((0 - f1.fx) + (0 - f2.fx)); rw [← hXe]; grind) hc
      exact sameB_par hc hh.1 hh.2
    · have h2 := on_meet hc
      unfold sameB allOn
      rw [if_neg hc, h2.1, h2.2]
      simp only [Bool.true_and]
      have h3 := of_decide_eq_true h2.1
      have h4 := of_decide_eq_true h2.2
      generalize mx (lnO f1) (lnO f2) = x0 at *
      generalize my (lnO f1) (lnO f2) = y0 at *
      unfold onB
      unfold lnO at h3 h4
      dsimp only at h3 h4 ⊢
      refine decide_eq_true ?_
      rw [← hXe, ← hYe, ← hTe]
      exact lin_neg h3 h4
  rw [sT] at sp
  have l3 := line_of_e F3 (by omega)
  have l4 := line_of_e F4 (by omega)
  have a1 := ladd_e (x := u) (y := 0 - Y) (by omega)
  have a2 := ladd_e (x := v) (y := X) (by omega)
  refine ⟨?_, l3, sp, a1, a2, ⟨enc (T + ((u + (0 - Y)) * (0 - Y) - (v + X) * (0 - X))), ?_⟩, ?_⟩
  · rw [w3]; simp [wholeD]
  · rw [w4]; simp [wholeD, t4]
  · refine ⟨lnO ⟨u + (0 - Y), v + X, 0 - X, 0 - Y⟩, onB (lnO ⟨u + (0 - Y), v + X, 0 - X, 0 - Y⟩) x y, l4, fun hc e1 e2 => ?_⟩
    have hL4 : HtL (lnO ⟨u + (0 - Y), v + X, 0 - X, 0 - Y⟩) 440 := ⟨hY.sub0.mono (by omega), hX.sub0.sub0.mono (by omega), Ht.mono (x := (u + (0 - Y)) * (0 - Y) - (v + X) * (0 - X)) inferInstance (by omega)⟩
    have sp4 := same_point_e (up hL1 (by omega)) (up hL2 (by omega)) (up hL4 (by omega)) (by omega)
    have sE : sameB (lnO f1) (lnO f2) (lnO ⟨u + (0 - Y), v + X, 0 - X, 0 - Y⟩) = onB (lnO ⟨u + (0 - Y), v + X, 0 - X, 0 - Y⟩) x y := by
      unfold sameB allOn
      rw [if_neg hc, (on_meet hc).1, (on_meet hc).2, e1, e2]
      simp
    rw [sE] at sp4
    haveI := hL4.a; haveI := hL4.b; haveI := hL4.c
    exact ⟨sp4, is_on_e (by omega)⟩
theorem t12_ok {ns : List Int} (hs : Sc ns) {ps : List D} (hp : PoolOk ns 60 ps) {f1 f2 : Fo} (H1 : HtF f1 10) (H2 : HtF f2 10) {x y : Rat} (hx : Ht x 332) (hy : Ht y 332) {p7 : D}
    (h7 : (low (lnO f1) (lnO f2) = 0 ∧ p7 = .none) ∨ (low (lnO f1) (lnO f2) ≠ 0 ∧ p7 = P2 x y ∧ x = mx (lnO f1) (lnO f2) ∧ y = my (lnO f1) (lnO f2))) (a0 a4 a8 a11 a12 a13 a14 a15 a16 a17 a18 a19 a20 a21 a22 a23 a24 a25 a26 a27 a28 a29 : Sl) : wS g_law_t12 [a0, .m ps, .d (foD f1), .d (foD f2), a4, .d (lnD (lnO f1)), .d (lnD (lnO f2)), .d p7, a8, .d (P2 (f1.fx + f2.fx) (f1.fy + f2.fy)), .d (wholeD (f1.fx + f2.fx) (f1.fy + f2.fy) (f1.turn + f2.turn)), a11, a12, a13, a14, a15, a16, a17, a18, a19, a20, a21, a22, a23, a24, a25, a26, a27, a28, a29, .no] QT := by
  have cm := cmE
  haveI i1 := H1.px; haveI i2 := H1.py; haveI i3 := H1.fx; haveI i4 := H1.fy
  haveI j1 := H2.px; haveI j2 := H2.py; haveI j3 := H2.fx; haveI j4 := H2.fy
  have hX : Ht (f1.fx + f2.fx) 21 := inferInstance
  have hY : Ht (f1.fy + f2.fy) 21 := inferInstance
  have hT : Ht (f1.turn + f2.turn) 83 := H1.turn.add' H2.turn
  have fin : ∀ (b11 b12 b13 b14 b15 : Sl), wS g_law_t13 [a0, .m ps, .d (foD f1), .d (foD f2), a4, .d (lnD (lnO f1)), .d (lnD (lnO f2)), .d p7, a8, .d (P2 (f1.fx + f2.fx) (f1.fy + f2.fy)), .d (wholeD (f1.fx + f2.fx) (f1.fy + f2.fy) (f1.turn + f2.turn)), b11, b12, b13, b14, b15, a16, a17, a18, a19, a20, a21, a22, a23, a24, a25, a26, a27, a28, a29, .no] QT := fun b11 b12 b13 b14 b15 => t13_ok hs (hp.mono (by omega)) _ _ _ _ _ _ _ _ _ _ _ _ _ _ _ _ _ _ _ _ _ _ _ _ _ _ _ _ _
  have oE : low (lnO f1) (lnO f2) ≠ 0 → x = mx (lnO f1) (lnO f2) → y = my (lnO f1) (lnO f2) → (f1.fy + f2.fy) * x + (0 - (f1.fx + f2.fx)) * y = f1.turn + f2.turn := fun h e1 e2 => by
    have h2 := on_meet h
    rw [← e1, ← e2] at h2
    exact lin_sum (of_decide_eq_true h2.1) (of_decide_eq_true h2.2)
  simp only [g_law_t12, wS_seq, g_law_s12]
  have b1 := back_e (x := f1.fx + f2.fx) (y := f1.fy + f2.fy) (by omega)
  have q0 := lsub_e (x := 0) (y := f1.fy + f2.fy) (by omega)
  have pls : Pl 6 (.list [.tuple [.str "nothing"], .bool true]) = true := by decide +kernel
  by_cases zX : f1.fx + f2.fx = 0
  · by_cases zY : f1.fy + f2.fy = 0
    · have h0 : ∃ xs : List D, ∃ s : Str, wholeD (f1.fx + f2.fx) (f1.fy + f2.fy) (f1.turn + f2.turn) = .tuple (.str s :: xs) ∧ PyData.strOk s = true ∧ (s == ("force" : Str)) = false := by
        unfold wholeD
        rw [if_pos ⟨zX, zY⟩]
        split
        · exact ⟨[], _, rfl, ok_nothing, s_nf⟩
        · exact ⟨[_], _, rfl, ok_turn, s_tf⟩
      obtain ⟨xs, s, hw, so, sf⟩ := h0
      have fin := fin a11 a12 a13 a14 a15
      rw [hw] at fin ⊢
      refine wS_if_k fun K hT hF => ?_
      simp [so, sf]
      refine hF _ ?_
      simp
      exact fin
    · have hT : Ht (f1.turn + f2.turn) 83 := H1.turn.add' H2.turn
      have dv := ldiv_e (x := f1.turn + f2.turn) (y := f1.fy + f2.fy) (by omega) zY
      have bl := blk H1 H2 rfl rfl rfl hx hy hX hY hT (u := (f1.turn + f2.turn) / (f1.fy + f2.fy)) (v := 0) (Ht.mono inferInstance (by omega)) (Ht.zero.mono (by omega)) (alg5 zY) (fun h => zY h.2)
      obtain ⟨k1, k2, k3, k4, k5, ⟨t, k6⟩, L, b, k7, k8⟩ := bl
      have hn : ¬ (f1.fx + f2.fx = 0 ∧ f1.fy + f2.fy = 0) := fun h => zY h.2
      have hw : wholeD (f1.fx + f2.fx) (f1.fy + f2.fy) (f1.turn + f2.turn) = .tuple [.str "force", P3 (f1.fy + f2.fy) (0 - (f1.fx + f2.fx)) (f1.turn + f2.turn), P2 (f1.fx + f2.fx) (f1.fy + f2.fy)] := by
        unfold wholeD
        rw [if_neg hn]
      rw [hw]
      clear fin
      have hX0 : Ht (0 - (f1.fx + f2.fx)) 83 := hX.sub0.mono (by omega)
      have hY1 : Ht (f1.fy + f2.fy) 83 := hY.mono (by omega)
      have oi := is_on_e (a := f1.fy + f2.fy) (b := 0 - (f1.fx + f2.fx)) (c := f1.turn + f2.turn) (x := x) (y := y) (by omega)
      have zX0 : 0 - (f1.fx + f2.fx) = 0 := by rw [zX]; grind
      generalize f1.fx + f2.fx = X at *
      generalize f1.fy + f2.fy = Y at *
      generalize f1.turn + f2.turn = T at *
      generalize lnO f1 = l1 at *
      generalize lnO f2 = l2 at *
      refine wS_if_k fun K hT hF => ?_
      simp
      refine hT _ ?_
      clear hT hF
      clear K
      refine wS_seq_k fun K hK => ?_
      simp
      refine hK _ ?_
      clear hK
      clear K
      refine wS_seq_k fun K hK => ?_
      rcases h7 with ⟨hc, rfl⟩ | ⟨hc, rfl, e1, e2⟩
      · simp
        refine hK _ ?_
        clear hK
        clear K
        refine wS_seq_k fun K hK => ?_
        simp [zX0, dv]
        refine hK _ ?_
        clear hK
        clear K
        refine wS_seq_k fun K hK => ?_
        simp [b1]
        refine hK _ ?_
        clear hK
        clear K
        refine wS_seq_k fun K hK => ?_
        simp [k1, k2, k3, b1, pls]
        refine hK _ ?_
        clear hK
        clear K
        refine wS_seq_k fun K hK => ?_
        simp [k4, k5, q0, b1]
        refine hK _ ?_
        clear hK
        clear K
        refine wS_seq_k fun K hK => ?_
        simp [k6]
        refine hK _ ?_
        clear hK
        clear K
        refine wS_if_k fun K hT hF => ?_
        simp
        refine hF _ ?_
        clear hT hF
        clear K
        simp
        exact t13_ok hs (hp.mono (by omega)) _ _ _ _ _ _ _ _ _ _ _ _ _ _ _ _ _ _ _ _ _ _ _ _ _ _ _ _ _ 
      · have oE := oE hc e1 e2
        obtain ⟨k9, k10⟩ := k8 hc e1 e2
        simp [oi, oE]
        refine hK _ ?_
        clear hK
        clear K
        refine wS_seq_k fun K hK => ?_
        simp [zX0, dv]
        refine hK _ ?_
        clear hK
        clear K
        refine wS_seq_k fun K hK => ?_
        simp [b1]
        refine hK _ ?_
        clear hK
        clear K
        refine wS_seq_k fun K hK => ?_
        simp [k1, k2, k3, b1, pls]
        refine hK _ ?_
        clear hK
        clear K
        refine wS_seq_k fun K hK => ?_
        simp [k4, k5, q0, b1]
        refine hK _ ?_
        clear hK
        clear K
        refine wS_seq_k fun K hK => ?_
        simp [k6]
        refine hK _ ?_
        clear hK
        clear K
        refine wS_if_k fun K hT hF => ?_
        simp [k7, k9, k10, dNe_bl]
        refine hF _ ?_
        clear hT hF
        clear K
        simp
        exact t13_ok hs (hp.mono (by omega)) _ _ _ _ _ _ _ _ _ _ _ _ _ _ _ _ _ _ _ _ _ _ _ _ _ _ _ _ _ 
  · have hT : Ht (f1.turn + f2.turn) 83 := H1.turn.add' H2.turn
    have hX0 : Ht (0 - (f1.fx + f2.fx)) 23 := hX.sub0
    have zb : ¬ 0 - (f1.fx + f2.fx) = 0 := alg7 zX
    have dv := ldiv_e (x := f1.turn + f2.turn) (y := 0 - (f1.fx + f2.fx)) (by omega) zb
    have hv : Ht ((f1.turn + f2.turn) / (0 - (f1.fx + f2.fx))) 110 := Ht.mono (Ht.div : Ht ((f1.turn + f2.turn) / (0 - (f1.fx + f2.fx))) (83 + 23)) (by omega)
    have bl := blk H1 H2 rfl rfl rfl hx hy hX hY hT (u := 0) (v := (f1.turn + f2.turn) / (0 - (f1.fx + f2.fx))) (Ht.zero.mono (by omega)) hv (alg6 zX) (fun h => zX h.1)
    obtain ⟨k1, k2, k3, k4, k5, ⟨t, k6⟩, L, b, k7, k8⟩ := bl
    have hn : ¬ (f1.fx + f2.fx = 0 ∧ f1.fy + f2.fy = 0) := fun h => zX h.1
    have hw : wholeD (f1.fx + f2.fx) (f1.fy + f2.fy) (f1.turn + f2.turn) = .tuple [.str "force", P3 (f1.fy + f2.fy) (0 - (f1.fx + f2.fx)) (f1.turn + f2.turn), P2 (f1.fx + f2.fx) (f1.fy + f2.fy)] := by
      unfold wholeD
      rw [if_neg hn]
    rw [hw]
    clear fin
    have hX0 : Ht (0 - (f1.fx + f2.fx)) 83 := hX.sub0.mono (by omega)
    have hY1 : Ht (f1.fy + f2.fy) 83 := hY.mono (by omega)
    have oi := is_on_e (a := f1.fy + f2.fy) (b := 0 - (f1.fx + f2.fx)) (c := f1.turn + f2.turn) (x := x) (y := y) (by omega)
    generalize f1.fx + f2.fx = X at *
    generalize f1.fy + f2.fy = Y at *
    generalize f1.turn + f2.turn = T at *
    generalize lnO f1 = l1 at *
    generalize lnO f2 = l2 at *
    refine wS_if_k fun K hT hF => ?_
    simp
    refine hT _ ?_
    clear hT hF
    clear K
    refine wS_seq_k fun K hK => ?_
    simp
    refine hK _ ?_
    clear hK
    clear K
    refine wS_seq_k fun K hK => ?_
    rcases h7 with ⟨hc, rfl⟩ | ⟨hc, rfl, e1, e2⟩
    · simp
      refine hK _ ?_
      clear hK
      clear K
      refine wS_seq_k fun K hK => ?_
      simp [zb, dv]
      refine hK _ ?_
      clear hK
      clear K
      refine wS_seq_k fun K hK => ?_
      simp [b1]
      refine hK _ ?_
      clear hK
      clear K
      refine wS_seq_k fun K hK => ?_
      simp [k1, k2, k3, b1, pls]
      refine hK _ ?_
      clear hK
      clear K
      refine wS_seq_k fun K hK => ?_
      simp [k4, k5, q0, b1]
      refine hK _ ?_
      clear hK
      clear K
      refine wS_seq_k fun K hK => ?_
      simp [k6]
      refine hK _ ?_
      clear hK
      clear K
      refine wS_if_k fun K hT hF => ?_
      simp
      refine hF _ ?_
      clear hT hF
      clear K
      simp
      exact t13_ok hs (hp.mono (by omega)) _ _ _ _ _ _ _ _ _ _ _ _ _ _ _ _ _ _ _ _ _ _ _ _ _ _ _ _ _ 
    · have oE := oE hc e1 e2
      obtain ⟨k9, k10⟩ := k8 hc e1 e2
      simp [oi, oE]
      refine hK _ ?_
      clear hK
      clear K
      refine wS_seq_k fun K hK => ?_
      simp [zb, dv]
      refine hK _ ?_
      clear hK
      clear K
      refine wS_seq_k fun K hK => ?_
      simp [b1]
      refine hK _ ?_
      clear hK
      clear K
      refine wS_seq_k fun K hK => ?_
      simp [k1, k2, k3, b1, pls]
      refine hK _ ?_
      clear hK
      clear K
      refine wS_seq_k fun K hK => ?_
      simp [k4, k5, q0, b1]
      refine hK _ ?_
      clear hK
      clear K
      refine wS_seq_k fun K hK => ?_
      simp [k6]
      refine hK _ ?_
      clear hK
      clear K
      refine wS_if_k fun K hT hF => ?_
      simp [k7, k9, k10, dNe_bl]
      refine hF _ ?_
      clear hT hF
      clear K
      simp
      exact t13_ok hs (hp.mono (by omega)) _ _ _ _ _ _ _ _ _ _ _ _ _ _ _ _ _ _ _ _ _ _ _ _ _ _ _ _ _ 
theorem t4_ok {ns : List Int} (hs : Sc ns) {ps : List D} (hp : PoolOk ns 30 ps) {f1 f2 : Fo} (H1 : HtF f1 10) (H2 : HtF f2 10) (z1 : ¬ (f1.fx = 0 ∧ f1.fy = 0)) (z2 : ¬ (f2.fx = 0 ∧ f2.fy = 0)) (a4 a5 a6 a7 a8 a9 a10 a11 a12 a13 a14 a15 a16 a17 a18 a19 a20 a21 a22 a23 a24 a25 a26 a27 a28 a29 : Sl) : wS g_law_t4 [.d (scr ns), .m ps, .d (foD f1), .d (foD f2), .d (P2 0 0), a5, a6, a7, a8, a9, a10, a11, a12, a13, a14, a15, a16, a17, a18, a19, a20, a21, a22, a23, a24, a25, a26, a27, a28, a29, .no] QT := by
  have cm := cmE
  haveI i1 := H1.px; haveI i2 := H1.py; haveI i3 := H1.fx; haveI i4 := H1.fy
  haveI j1 := H2.px; haveI j2 := H2.py; haveI j3 := H2.fx; haveI j4 := H2.fy
  simp [g_law_t4, g_law_s4]
  refine next_step hs hp (by omega) fun ps hp => ?_
  simp
  have e1 := line_of_e H1 (by omega)
  have e2 := line_of_e H2 (by omega)
  have e3 := law_line_e H1 (by omega)
  have e4 := law_line_e H2 (by omega)
  have pll : ∀ l m : Ln, Pl 6 (.list [lnD l, lnD m]) = true := fun l m => Pl_list (by omega) (by simp) (by
    intro x hx
    have : x = lnD l ∨ x = lnD m := by simpa using hx
    rcases this with rfl | rfl <;> exact Pl_tuple (by omega) (by simp) (by simp; exact ⟨Pl_enc (by omega), Pl_enc (by omega), Pl_enc (by omega)⟩))
  have pl2 := pll (lnO f1) (lnO f2)
  simp only [lnO] at pl2
  simp [g_law_t5, g_law_s5, e1, e2, g_law_t6, g_law_s6, e3, e4, pl2]
  have hL1 := H1.ln (by omega)
  have hL2 := H2.ln (by omega)
  have m1 := meeting_e hL1 hL2 (by omega)
  have mxe := hL1.mx hL2
  have mye := hL1.my hL2
  have onm : low (lnO f1) (lnO f2) ≠ 0 → _ := fun h => on_meet (l := lnO f1) (m := lnO f2) h
  obtain ⟨x, hxe⟩ : ∃ x, x = mx (lnO f1) (lnO f2) := ⟨_, rfl⟩
  obtain ⟨y, hye⟩ : ∃ y, y = my (lnO f1) (lnO f2) := ⟨_, rfl⟩
  have hx : Ht x 332 := by rw [hxe]; exact mxe.mono (by omega)
  have hy : Ht y 332 := by rw [hye]; exact mye.mono (by omega)
  rw [← hxe, ← hye] at m1
  have la : f_law_on [lnD (lnO f1), P2 x y] = some (.bool (onB (lnO f1) x y)) := by
    haveI := hL1.a; haveI := hL1.b
    exact law_on_e (by omega)
  have lb : f_law_on [lnD (lnO f2), P2 x y] = some (.bool (onB (lnO f2) x y)) := by
    haveI := hL2.a; haveI := hL2.b
    exact law_on_e (by omega)
  have lc : f_is_on [lnD (lnO f1), P2 x y] = some (.bool (onB (lnO f1) x y)) := by
    haveI := hL1.a; haveI := hL1.b
    exact is_on_e (by omega)
  have ld : f_is_on [lnD (lnO f2), P2 x y] = some (.bool (onB (lnO f2) x y)) := by
    haveI := hL2.a; haveI := hL2.b
    exact is_on_e (by omega)
  have c1 := lmul_e (x := f1.fx) (y := f2.fy) (by omega)
  have c2 := lmul_e (x := f1.fy) (y := f2.fx) (by omega)
  have c3 := lsub_e (x := f1.fx * f2.fy) (y := f1.fy * f2.fx) (by omega)
  have a1 := ladd_e (x := f1.fx) (y := f2.fx) (by omega)
  have a2 := ladd_e (x := f1.fy) (y := f2.fy) (by omega)
  have w := whole_of_e (fs := [f1, f2]) (by
    intro f hf
    simp only [List.mem_cons, List.not_mem_nil, or_false] at hf
    rcases hf with rfl | rfl
    · exact H1.mono (by omega)
    · exact H2.mono (by omega)) (by simp)
  simp only [List.map_cons, List.map_nil, sumR2] at w
  have lE := low_ln f1 f2
  by_cases hc : low (lnO f1) (lnO f2) = 0
  · rw [if_pos hc] at m1
    have fin := fun (ps : List D) (hp : PoolOk ns 60 ps) => t12_ok (x := x) (y := y) hs hp H1 H2 hx hy (.inl ⟨hc, rfl⟩)
    rw [lE] at hc
    simp only [lnO] at m1 fin
    simp [g_law_t7, g_law_s7, m1]
    simp [g_law_t8, g_law_s8, c1, c2, c3, hc]
    simp [g_law_t9, g_law_s9]
    simp [g_law_t10, g_law_s10, a1, a2]
    simp [g_law_t11, g_law_s11, w]
    exact fin _ (hp.mono (by omega)) _ _ _ _ _ _ _ _ _ _ _ _ _ _ _ _ _ _ _ _ _ _ 
  · rw [if_neg hc] at m1
    have fin := fun (ps : List D) (hp : PoolOk ns 60 ps) => t12_ok (x := x) (y := y) hs hp H1 H2 hx hy (.inr ⟨hc, rfl, hxe, hye⟩)
    have o2 := onm hc
    rw [← hxe, ← hye] at o2
    rw [o2.1] at la lc
    rw [o2.2] at lb ld
    rw [lE] at hc
    simp only [lnO] at m1 fin la lb lc ld
    simp [g_law_t7, g_law_s7, m1]
    simp [g_law_t8, g_law_s8, c1, c2, c3, hc]
    simp [g_law_t9, g_law_s9, la, lb, lc, ld]
    simp [g_law_t10, g_law_s10, a1, a2]
    simp [g_law_t11, g_law_s11, w]
    exact fin _ (hp.mono (by omega)) _ _ _ _ _ _ _ _ _ _ _ _ _ _ _ _ _ _ _ _ _ _ 
theorem law_true (ns : List Int) (hl : ns.length ≤ 63) (hb : ∀ z ∈ ns, Builtin.Int.intBits z ≤ 1048576) : f_law [.dict [(.none, .list (ns.map PyData.int))]] = some (.bool true) := by
  have hs : Sc ns := ⟨hl, fun z hz => Bd.of_bits (hb z hz)⟩
  refine of_wO ?_
  rw [f_law, wO_runD]
  refine ⟨rfl, ?_⟩
  have cm := cmE
  show wS g_law_t0 _ QT
  simp only [g_law_t0, wS_seq, g_law_s0]
  simp
  refine pool_step hs fun ps hp => ?_
  simp only [g_law_t1, wS_seq, g_law_s1]
  simp
  refine point_step hs hp (by omega) (by omega) (by omega) fun px py ps h1 h2 hp => ?_
  simp
  refine point_step hs hp (by omega) (by omega) (by omega) fun fx fy ps h3 h4 hp => ?_
  obtain ⟨f1, rfl, rfl, rfl, rfl⟩ : ∃ f : Fo, f.px = px ∧ f.py = py ∧ f.fx = fx ∧ f.fy = fy := ⟨⟨px, py, fx, fy⟩, rfl, rfl, rfl, rfl⟩
  have H1 : HtF f1 10 := ⟨h1, h2, h3, h4⟩
  clear h1 h2 h3 h4
  simp
  refine point_step hs hp (by omega) (by omega) (by omega) fun px py ps h1 h2 hp => ?_
  simp
  refine point_step hs hp (by omega) (by omega) (by omega) fun fx fy ps h3 h4 hp => ?_
  obtain ⟨f2, rfl, rfl, rfl, rfl⟩ : ∃ f : Fo, f.px = px ∧ f.py = py ∧ f.fx = fx ∧ f.fy = fy := ⟨⟨px, py, fx, fy⟩, rfl, rfl, rfl, rfl⟩
  have H2 : HtF f2 10 := ⟨h1, h2, h3, h4⟩
  simp [g_law_t2, g_law_s2]
  have z240 : Ht 0 240 := Ht.zero.mono (by omega)
  have pl1 : Pl 6 (.tuple [.str "nothing"]) = true := by decide +kernel
  have w0 : f_whole_of [.list [.tuple [P2 f1.px f1.py, P2 0 0], .tuple [P2 f2.px f2.py, P2 0 0]]] = some (.tuple [.str "nothing"]) := by
    have e := whole_of_e (fs := [⟨f1.px, f1.py, 0, 0⟩, ⟨f2.px, f2.py, 0, 0⟩]) (by
      intro f hf
      simp only [List.mem_cons, List.not_mem_nil, or_false] at hf
      rcases hf with rfl | rfl
      · exact ⟨H1.px.mono (by omega), H1.py.mono (by omega), z240, z240⟩
      · exact ⟨H2.px.mono (by omega), H2.py.mono (by omega), z240, z240⟩) (by simp)
    simp only [List.map_cons, List.map_nil, sumR2, Fo.turn] at e
    rw [e]
    have t0 : f1.px * 0 - f1.py * 0 + (f2.px * 0 - f2.py * 0) = 0 := by grind
    have x0 : (0 : Rat) + 0 = 0 := by grind
    rw [t0, x0]
    simp [wholeD]
  simp only [g_law_t3, wS_seq, g_law_s3]
  by_cases z1 : f1.fx = 0 ∧ f1.fy = 0
  · simp [z1, w0, pl1]
  by_cases z2 : f2.fx = 0 ∧ f2.fy = 0
  · simp [z1, z2, w0, pl1]
  simp [z1, z2]
  exact t4_ok hs (hp.mono (by omega)) H1 H2 z1 z2 .no _ _ _ _ _ _ _ _ _ _ _ _ _ _ _ _ _ _ _ _ _ _ _ _ _ 
end TB
namespace TB
open PySem L2
end TB
open PySem PySem.W PyProof.Rows
set_option maxRecDepth 100000 in
set_option maxHeartbeats 0 in
theorem PySem.Challenge.cw_trusswork_k39_whole_three_forces_meet_holds : PySem.Challenge.rw_trusswork_k39_whole_three_forces_meet.Holds := by
  w_on; o_law; k_head; (case hw => w_witness2)
  k_fill
  refine L2.walk_ofB (l := PySem.Challenge.rw_trusswork_k39_whole_three_forces_meet) (n := 63) (k := 8) (x := "script") (CX := fun _ => L2.CX0) (sp := fun w => TB.spD _ TB.f_law) rfl (by decide) rfl ⟨rfl, by decide, by decide⟩ (fun w h Y => PySem.W.kIn_of Y) ?F (fun w H a ns hl hb hO hS => TB.law_start hS (TB.law_true ns hl hb)) (fun _ _ _ _ _ h => h)
  case F =>
    intro w mg fa h KX G hmg
    refine' TB.all_mk KX G hmg ?D_frac ?D_plus ?D_minus ?D_times ?D_over ?D_sum_of ?D_turn_of ?D_sums_of ?D_whole_of ?D_is_on ?D_line_of ?D_meeting ?D_same_point ?D_about ?D_law_mixed ?D_law_rest ?D_law_pool ?D_law_next ?D_law_draw ?D_law_pick ?D_law_same ?D_law_gcd ?D_law_frac ?D_law_add ?D_law_sub ?D_law_mul ?D_law_div ?D_law_some ?D_law_point ?D_law_turn ?D_law_line ?D_law_on ?D_law_back ?D_law ?z_all ?z_bool ?z_dict ?z_enumerate ?z_int ?z_isinstance ?z_len ?z_list ?z_range ?z_str ?z_tuple ?y_NOUGHT ?y_gcd
    case D_frac =>
      refine' TB.defAt_mk ?a ?l ?c ?k
      (case a => k_is); (case l => k_is); (case c => k_is); (case k => k_is)
    case D_plus =>
      refine' TB.defAt_mk ?a ?l ?c ?k
      (case a => k_is); (case l => k_is); (case c => k_is); (case k => k_is)
    case D_minus =>
      refine' TB.defAt_mk ?a ?l ?c ?k
      (case a => k_is); (case l => k_is); (case c => k_is); (case k => k_is)
    case D_times =>
      refine' TB.defAt_mk ?a ?l ?c ?k
      (case a => k_is); (case l => k_is); (case c => k_is); (case k => k_is)
    case D_over =>
      refine' TB.defAt_mk ?a ?l ?c ?k
      (case a => k_is); (case l => k_is); (case c => k_is); (case k => k_is)
    case D_sum_of =>
      refine' TB.defAt_mk ?a ?l ?c ?k
      (case a => k_is); (case l => k_is); (case c => k_is); (case k => k_is)
    case D_turn_of =>
      refine' TB.defAt_mk ?a ?l ?c ?k
      (case a => k_is); (case l => k_is); (case c => k_is); (case k => k_is)
    case D_sums_of =>
      refine' TB.defAt_mk ?a ?l ?c ?k
      (case a => k_is); (case l => k_is); (case c => k_is); (case k => k_is)
    case D_whole_of =>
      refine' TB.defAt_mk ?a ?l ?c ?k
      (case a => k_is); (case l => k_is); (case c => k_is); (case k => k_is)
    case D_is_on =>
      refine' TB.defAt_mk ?a ?l ?c ?k
      (case a => k_is); (case l => k_is); (case c => k_is); (case k => k_is)
    case D_line_of =>
      refine' TB.defAt_mk ?a ?l ?c ?k
      (case a => k_is); (case l => k_is); (case c => k_is); (case k => k_is)
    case D_meeting =>
      refine' TB.defAt_mk ?a ?l ?c ?k
      (case a => k_is); (case l => k_is); (case c => k_is); (case k => k_is)
    case D_same_point =>
      refine' TB.defAt_mk ?a ?l ?c ?k
      (case a => k_is); (case l => k_is); (case c => k_is); (case k => k_is)
    case D_about =>
      refine' TB.defAt_mk ?a ?l ?c ?k
      (case a => k_is); (case l => k_is); (case c => k_is); (case k => k_is)
    case D_law_mixed =>
      refine' TB.defAt_mk ?a ?l ?c ?k
      (case a => k_is); (case l => k_is); (case c => k_is); (case k => k_is)
    case D_law_rest =>
      refine' TB.defAt_mk ?a ?l ?c ?k
      (case a => k_is); (case l => k_is); (case c => k_is); (case k => k_is)
    case D_law_pool =>
      refine' TB.defAt_mk ?a ?l ?c ?k
      (case a => k_is); (case l => k_is); (case c => k_is); (case k => k_is)
    case D_law_next =>
      refine' TB.defAt_mk ?a ?l ?c ?k
      (case a => k_is); (case l => k_is); (case c => k_is); (case k => k_is)
    case D_law_draw =>
      refine' TB.defAt_mk ?a ?l ?c ?k
      (case a => k_is); (case l => k_is); (case c => k_is); (case k => k_is)
    case D_law_pick =>
      refine' TB.defAt_mk ?a ?l ?c ?k
      (case a => k_is); (case l => k_is); (case c => k_is); (case k => k_is)
    case D_law_same =>
      refine' TB.defAt_mk ?a ?l ?c ?k
      (case a => k_is); (case l => k_is); (case c => k_is); (case k => k_is)
    case D_law_gcd =>
      refine' TB.defAt_mk ?a ?l ?c ?k
      (case a => k_is); (case l => k_is); (case c => k_is); (case k => k_is)
    case D_law_frac =>
      refine' TB.defAt_mk ?a ?l ?c ?k
      (case a => k_is); (case l => k_is); (case c => k_is); (case k => k_is)
    case D_law_add =>
      refine' TB.defAt_mk ?a ?l ?c ?k
      (case a => k_is); (case l => k_is); (case c => k_is); (case k => k_is)
    case D_law_sub =>
      refine' TB.defAt_mk ?a ?l ?c ?k
      (case a => k_is); (case l => k_is); (case c => k_is); (case k => k_is)
    case D_law_mul =>
      refine' TB.defAt_mk ?a ?l ?c ?k
      (case a => k_is); (case l => k_is); (case c => k_is); (case k => k_is)
    case D_law_div =>
      refine' TB.defAt_mk ?a ?l ?c ?k
      (case a => k_is); (case l => k_is); (case c => k_is); (case k => k_is)
    case D_law_some =>
      refine' TB.defAt_mk ?a ?l ?c ?k
      (case a => k_is); (case l => k_is); (case c => k_is); (case k => k_is)
    case D_law_point =>
      refine' TB.defAt_mk ?a ?l ?c ?k
      (case a => k_is); (case l => k_is); (case c => k_is); (case k => k_is)
    case D_law_turn =>
      refine' TB.defAt_mk ?a ?l ?c ?k
      (case a => k_is); (case l => k_is); (case c => k_is); (case k => k_is)
    case D_law_line =>
      refine' TB.defAt_mk ?a ?l ?c ?k
      (case a => k_is); (case l => k_is); (case c => k_is); (case k => k_is)
    case D_law_on =>
      refine' TB.defAt_mk ?a ?l ?c ?k
      (case a => k_is); (case l => k_is); (case c => k_is); (case k => k_is)
    case D_law_back =>
      refine' TB.defAt_mk ?a ?l ?c ?k
      (case a => k_is); (case l => k_is); (case c => k_is); (case k => k_is)
    case D_law =>
      refine' TB.defAt_mk ?a ?l ?c ?k
      (case a => k_is); (case l => k_is); (case c => k_is); (case k => k_is)
    (case z_all => k_is)
    (case z_bool => k_is)
    (case z_dict => k_is)
    (case z_enumerate => k_is)
    (case z_int => k_is)
    (case z_isinstance => k_is)
    (case z_len => k_is)
    (case z_list => k_is)
    (case z_range => k_is)
    (case z_str => k_is)
    (case z_tuple => k_is)
    case y_NOUGHT =>
      refine' TB.ktup_mk ?a ?l ?c ?d ?v ?z
      (case a => k_is); (case l => k_is); (case c => rfl); (case d => rfl); (case z => decide); (case v => (repeat first | exact .nil | refine .cons ⟨_, rfl⟩ ?_))
    (case y_gcd => k_is)
