import PyProof.Rows.All
import Wide.All
import OpenK.AllK
import Wide.FinOn
import HandS.ForExc
import HandS.Comp
import HandS.Evl
import HandS.Wide
import HandS.Gcd
import HandS.IsInst
import HandS.Deep
import HandS.TupAny
import HandS.EndBits
import HandS.Iter
import HandS.Style
import HandS.Text
import PyProof.Rows.InDataRows
import PySem.Challenge.RW_roomyway_k01_turns_and_segments
set_option Elab.async false
set_option linter.all false
set_option maxRecDepth 100000
set_option maxHeartbeats 2000000
/-! Z: mirrors. Data, environments, outcomes. -/
namespace Z
open PySem PySem.Spec PyProof.Rows L2
open Evl (Ex ex_l ex_t ex_rd)
/-! ### data -/
theorem dp_mono {K : PySem.W.Frag} {H H' : Hp} (e : Ex H H') : ∀ {v : V} {d : PyData}, Dp K H v d → Dp K H' v d := by
  intro v d h
  refine Dp.rec (motive_1 := fun v d _ => Dp K H' v d) (motive_2 := fun vs ds _ => DpAll K H' vs ds) .non .bl .int .str ?_ ?_ .nil ?_ h
  · intro a xs ds h1 _ ih
    exact .lst (ex_l e h1) ih
  · intro a xs ds h1 _ ih
    exact .tup (ex_t e h1) ih
  · intro v vs d ds _ _ h1 h2
    exact .cons h1 h2
theorem dpAll_mono {K : PySem.W.Frag} {H H' : Hp} (e : Ex H H') : ∀ {vs : List V} {ds : List PyData}, DpAll K H vs ds → DpAll K H' vs ds
  | _, _, .nil => .nil
  | _, _, .cons h t => .cons (dp_mono e h) (dpAll_mono e t)
section
variable {K : PySem.W.Frag} {H : Hp}
theorem dpAll_len : ∀ {vs : List V} {ds : List PyData}, DpAll K H vs ds → vs.length = ds.length
  | _, _, .nil => rfl
  | _, _, .cons _ t => congrArg (· + 1) (dpAll_len t)
theorem dpAll_get : ∀ {vs : List V} {ds : List PyData} {i : Nat} {d : PyData}, DpAll K H vs ds → ds[i]? = some d → ∃ v, vs[i]? = some v ∧ Dp K H v d
  | _, _, _, _, .nil, h => by simp at h
  | _, _, 0, _, .cons h t, e => by
    simp at e
    subst e
    exact ⟨_, rfl, h⟩
  | _, _, i + 1, _, .cons h t, e => by
    obtain ⟨v, h1, h2⟩ := dpAll_get (i := i) t (by simpa using e)
    exact ⟨v, by simpa using h1, h2⟩
theorem dpAll_get' : ∀ {vs : List V} {ds : List PyData} {i : Nat} {v : V}, DpAll K H vs ds → vs[i]? = some v → ∃ d, ds[i]? = some d ∧ Dp K H v d
  | _, _, _, _, .nil, h => by simp at h
  | _, _, 0, _, .cons h t, e => by
    simp at e
    subst e
    exact ⟨_, rfl, h⟩
  | _, _, i + 1, _, .cons h t, e => by
    obtain ⟨v, h1, h2⟩ := dpAll_get' (i := i) t (by simpa using e)
    exact ⟨v, by simpa using h1, h2⟩
theorem dpAll_app : ∀ {vs ws : List V} {ds es : List PyData}, DpAll K H vs ds → DpAll K H ws es → DpAll K H (vs ++ ws) (ds ++ es)
  | _, _, _, _, .nil, h => h
  | _, _, _, _, .cons h t, g => .cons h (dpAll_app t g)
theorem dpAll_drop : ∀ (n : Nat) {vs : List V} {ds : List PyData}, DpAll K H vs ds → DpAll K H (vs.drop n) (ds.drop n)
  | 0, _, _, h => h
  | n + 1, _, _, .nil => .nil
  | n + 1, _, _, .cons h t => dpAll_drop n t
theorem dpAll_take : ∀ (n : Nat) {vs : List V} {ds : List PyData}, DpAll K H vs ds → DpAll K H (vs.take n) (ds.take n)
  | 0, _, _, h => .nil
  | n + 1, _, _, .nil => .nil
  | n + 1, _, _, .cons h t => .cons h (dpAll_take n t)
theorem dpAll_set : ∀ (n : Nat) {v : V} {d : PyData} {vs : List V} {ds : List PyData}, Dp K H v d → DpAll K H vs ds → DpAll K H (vs.set n v) (ds.set n d)
  | 0, _, _, _, _, h, .nil => .nil
  | n + 1, _, _, _, _, h, .nil => .nil
  | 0, _, _, _, _, h, .cons _ t => .cons h t
  | n + 1, _, _, _, _, h, .cons g t => .cons g (dpAll_set n h t)
theorem dpAll_rev : ∀ {vs : List V} {ds : List PyData}, DpAll K H vs ds → DpAll K H vs.reverse ds.reverse
  | _, _, .nil => .nil
  | _, _, .cons h t => by
    rw [List.reverse_cons, List.reverse_cons]
    exact dpAll_app (dpAll_rev t) (.cons h .nil)
theorem dpAll_cut {vs : List V} {ds : List PyData} (h : DpAll K H vs ds) (lo hi : Option Int) : DpAll K H (cutV vs lo hi) ((ds.drop (HT.sIx ds.length 0 lo)).take (HT.sIx ds.length ds.length hi - HT.sIx ds.length 0 lo)) := by
  unfold cutV
  rw [dpAll_len h]
  exact dpAll_take _ (dpAll_drop _ h)
theorem dp_int {v : V} {i : Int} (h : Dp K H v (.int i)) : v = .int i := by cases h; rfl
theorem dp_bool {v : V} {b : Bool} (h : Dp K H v (.bool b)) : v = .bl b := by cases h; rfl
theorem dp_str {v : V} {x : Str} (h : Dp K H v (.str x)) : v = .str x := by cases h; rfl
theorem dp_none {v : V} (h : Dp K H v .none) : v = .non := by cases h; rfl
theorem dp_list {v : V} {ds : List PyData} (h : Dp K H v (.list ds)) : ∃ a xs, v = .ref a ∧ SqL K H a xs ∧ DpAll K H xs ds := by
  cases h with
  | lst h1 h2 => exact ⟨_, _, rfl, h1, h2⟩
theorem dp_tup {v : V} {ds : List PyData} (h : Dp K H v (.tuple ds)) : ∃ a xs, v = .ref a ∧ SqT K H a xs ∧ DpAll K H xs ds := by
  cases h with
  | tup h1 h2 => exact ⟨_, _, rfl, h1, h2⟩
theorem dpAll_ints : ∀ {vs : List V} {ns : List Int}, DpAll K H vs (ns.map PyData.int) → vs = ns.map V.int
  | _, [], .nil => rfl
  | _, n :: ns, .cons h t => by rw [dp_int h, dpAll_ints t]; rfl
theorem dpAll_bools : ∀ {vs : List V} {ns : List Bool}, DpAll K H vs (ns.map PyData.bool) → vs = ns.map V.bl
  | _, [], .nil => rfl
  | _, n :: ns, .cons h t => by rw [dp_bool h, dpAll_bools t]; rfl
theorem ints_dpAll : ∀ (ns : List Int), DpAll K H (ns.map V.int) (ns.map PyData.int)
  | [] => .nil
  | n :: ns => .cons (.int n) (ints_dpAll ns)
end
/-! ### slots, environments, outcomes -/
/-- what a slot holds: data (never changed any more), or a list of its own -/
inductive S where
  | dat (d : PyData)
  | lst (l : List PyData)
/-- seen as data -/
def S.d : S → PyData
  | .dat d => d
  | .lst l => .list l
abbrev En := List (Option S)
/-- an expression's outcome -/
inductive R where
  | ok (s : S) (ρ : En)
  | exc (x : Str) (ρ : En)
  | bad
/-- a statement's -/
inductive O where
  | nx (ρ : En)
  | rt (s : S) (ρ : En)
  | bk (ρ : En)
  | ct (ρ : En)
  | exc (x : Str) (ρ : En)
  | bad
/-- a call's: the parameters' contents behind it -/
inductive FR where
  | ok (s : S) (ss : List S)
  | exc (x : Str) (ss : List S)
  | bad
abbrev CE := En → R
abbrev CS := En → O
abbrev Fn := List S → FR
/-- the frame of a body: what the callers have (F), the data at the entry (B0), the slots of parameters that are handed on (io) -/
structure Fm (J : List Nat) where
  F : Hp
  B0 : Hp
  io : List V
/-- what is wanted of an exception; the slots of parameters that are handed on -/
structure Ww where
  W : WX
  J : List Nat
section
variable (K : PySem.W.Frag) {J : List Nat} (Γ : Fm J)
def SAt (B H : Hp) : S → V → Prop
  | .dat d, v => Dp K B v d
  | .lst l, v => ∃ a xs, v = .ref a ∧ B a = none ∧ Γ.F a = none ∧ H a = some (.lst xs) ∧ DpAll K B xs l
structure Rep (B : Hp) (ρ : En) (σ : L2.St) (H : Hp) : Prop where
  bh : Ex B H
  fh : Ex Γ.F H
  fb : ∀ a o, Γ.F a = some o → B a = none
  b0 : Ex Γ.B0 B
  len : ρ.length = σ.length
  at_ : ∀ (i : Nat) s, ρ[i]? = some (some s) → ∃ v, σ[i]? = some (some v) ∧ SAt K Γ B H s v
  sep : ∀ (i j : Nat) s t a, i ≠ j → ρ[i]? = some (some (.lst s)) → ρ[j]? = some (some (.lst t)) → σ[i]? = some (some (.ref a)) → σ[j]? ≠ some (some (.ref a))
  iot : ∀ (k j : Nat) v, J[k]? = some j → Γ.io[k]? = some v → σ[j]? = some (some v)
/-- a result: where it is a list of its own it is no slot's -/
def SRes (B : Hp) (ρ : En) (σ : L2.St) (H : Hp) (s : S) (v : V) : Prop :=
  SAt K Γ B H s v ∧ ∀ l, s = .lst l → ∀ (i : Nat) l', ρ[i]? = some (some (.lst l')) → σ[i]? ≠ some (some v)
end
section
variable (K : PySem.W.Frag) (xc : Str → Value) (W : Ww)
/-- what is wanted behind an expression's outcome -/
def outZ (Γ : Fm W.J) (B : Hp) (σ : L2.St) (Q : VK) : R → Prop
  | .ok s ρ' => ∀ v B' H', Ex B B' → Rep K Γ B' ρ' σ H' → SRes K Γ B' ρ' σ H' s v → Q v H'
  | .exc x ρ' => ∀ B' H', Ex B B' → Rep K Γ B' ρ' σ H' → W.W (xc x) none σ H'
  | .bad => False
/-- the reading that a mirror gives -/
def tZ (c : CE) : TE := fun σ H Q => ∃ (Γ : Fm W.J) (B : Hp) (ρ : En), Rep K Γ B ρ σ H ∧ outZ K xc W Γ B σ Q (c ρ)
/-- .. of a test -/
def outT (Γ : Fm W.J) (B : Hp) (σ : L2.St) (Q : Bool → Hp → Prop) : R → Prop
  | .ok s ρ' => ∃ b, s.d = .bool b ∧ ∀ B' H', Ex B B' → Rep K Γ B' ρ' σ H' → Q b H'
  | .exc x ρ' => ∀ B' H', Ex B B' → Rep K Γ B' ρ' σ H' → W.W (xc x) none σ H'
  | .bad => False
def tZT (c : CE) : TT := fun σ H Q => ∃ (Γ : Fm W.J) (B : Hp) (ρ : En), Rep K Γ B ρ σ H ∧ outT K xc W Γ B σ Q (c ρ)
def outS (Γ : Fm W.J) (D : Ends) : O → Prop
  | .nx ρ' => ∀ B' σ' H', Rep K Γ B' ρ' σ' H' → D.nx σ' H'
  | .rt s ρ' => ∀ v B' σ' H', Rep K Γ B' ρ' σ' H' → SRes K Γ B' ρ' σ' H' s v → D.rt v H'
  | .bk ρ' => ∀ B' σ' H', Rep K Γ B' ρ' σ' H' → D.bk σ' H'
  | .ct ρ' => ∀ B' σ' H', Rep K Γ B' ρ' σ' H' → D.ct σ' H'
  | .exc x ρ' => ∀ B' σ' H', Rep K Γ B' ρ' σ' H' → W.W (xc x) none σ' H'
  | .bad => False
def tZS (c : CS) : TS := fun D σ H => ∃ (Γ : Fm W.J) (B : Hp) (ρ : En), Rep K Γ B ρ σ H ∧ outS K xc W Γ D (c ρ)
end
section
variable {K : PySem.W.Frag} {J : List Nat} {Γ : Fm J} {B B' : Hp} {ρ : En} {σ : L2.St} {H H' : Hp} {s : S} {v : V}
/-- new data at p -/
theorem Rep.new (r : Rep K Γ B ρ σ H) {p : Addr} {o : HO} (hp : H p = none) : Rep K Γ (upd B p o) ρ σ (upd H p o) ∧ Ex B (upd B p o) ∧ Γ.F p = none ∧ B p = none := by
  have hb : B p = none := Evl.fresh_back r.bh hp
  have hf : Γ.F p = none := Evl.fresh_back r.fh hp
  have eb : Ex B (upd B p o) := Ex.new hb
  have eh : Ex H (upd H p o) := Ex.new hp
  refine ⟨⟨?_, r.fh.trans eh, ?_, r.b0.trans eb, r.len, ?_, r.sep, r.iot⟩, eb, hf, hb⟩
  · intro a u h
    by_cases e : a = p
    · subst e
      rw [upd_same] at h
      rw [upd_same]
      exact h
    · rw [upd_ne e] at h
      rw [upd_ne e]
      exact r.bh a u h
  · intro a u h
    rw [upd_ne (ne_of_none h hf)]
    exact r.fb a u h
  · intro i s hs
    obtain ⟨v, h1, h2⟩ := r.at_ i s hs
    refine ⟨v, h1, ?_⟩
    cases s with
    | dat d => exact dp_mono eb h2
    | lst l =>
      obtain ⟨a, xs, rfl, k1, k2, k3, k5⟩ := h2
      have ne : a ≠ p := ne_of_none k3 hp
      exact ⟨a, xs, rfl, by rw [upd_ne ne]; exact k1, k2, by rw [upd_ne ne]; exact k3, dpAll_mono eb k5⟩
/-- a new list, not yet anybody's -/
theorem Rep.newL (r : Rep K Γ B ρ σ H) {p : Addr} {xs : List V} {l : List PyData} (hp : H p = none) (hx : DpAll K B xs l) :
    Rep K Γ B ρ σ (upd H p (.lst xs)) ∧ SRes K Γ B ρ σ (upd H p (.lst xs)) (.lst l) (.ref p) := by
  have hb : B p = none := Evl.fresh_back r.bh hp
  have hf : Γ.F p = none := Evl.fresh_back r.fh hp
  have eh : Ex H (upd H p (.lst xs)) := Ex.new hp
  refine ⟨⟨r.bh.trans eh, r.fh.trans eh, r.fb, r.b0, r.len, ?_, r.sep, r.iot⟩, ⟨p, xs, rfl, hb, hf, upd_same, hx⟩, ?_⟩
  · intro i s hs
    obtain ⟨v, h1, h2⟩ := r.at_ i s hs
    refine ⟨v, h1, ?_⟩
    cases s with
    | dat d => exact h2
    | lst l =>
      obtain ⟨a, xs, rfl, k1, k2, k3, k5⟩ := h2
      have ne : a ≠ p := ne_of_none k3 hp
      exact ⟨a, xs, rfl, k1, k2, by rw [upd_ne ne]; exact k3, k5⟩
  · intro l' _ i l'' hi e
    obtain ⟨v, h1, h2⟩ := r.at_ i _ hi
    obtain ⟨a, ys, rfl, k1, k2, k3, k5⟩ := h2
    rw [h1] at e
    have e' : a = p := by injection e with e; injection e with e; injection e
    subst e'
    rw [hp] at k3
    cases k3
/-- an own list turns data: the world grows by it -/
theorem freeze (r : Rep K Γ B ρ σ H) {l : List PyData} (h : SRes K Γ B ρ σ H (.lst l) v) : ∃ B', Ex B B' ∧ Rep K Γ B' ρ σ H ∧ Dp K B' v (.list l) := by
  obtain ⟨⟨a, xs, rfl, k1, k2, k3, k5⟩, h2⟩ := h
  have eb : Ex B (upd B a (.lst xs)) := Ex.new k1
  refine ⟨upd B a (.lst xs), eb, ⟨?_, r.fh, ?_, r.b0.trans eb, r.len, ?_, r.sep, r.iot⟩, .lst (.inl (.inl upd_same)) (dpAll_mono eb k5)⟩
  · intro b u hb
    by_cases e : b = a
    · subst e
      rw [upd_same] at hb
      rw [k3]
      exact hb
    · rw [upd_ne e] at hb
      exact r.bh b u hb
  · intro b u hb
    rw [upd_ne (ne_of_none hb k2)]
    exact r.fb b u hb
  · intro i s hs
    obtain ⟨v, h1, h3⟩ := r.at_ i s hs
    refine ⟨v, h1, ?_⟩
    cases s with
    | dat d => exact dp_mono eb h3
    | lst l' =>
      obtain ⟨b, ys, rfl, j1, j2, j3, j5⟩ := h3
      have ne : b ≠ a := fun e => h2 l rfl i l' hs (by rw [h1, e])
      exact ⟨b, ys, rfl, by rw [upd_ne ne]; exact j1, j2, j3, dpAll_mono eb j5⟩
theorem SRes.data (r : Rep K Γ B ρ σ H) (h : SRes K Γ B ρ σ H s v) : ∃ B', Ex B B' ∧ Rep K Γ B' ρ σ H ∧ Dp K B' v s.d := by
  cases s with
  | dat d => exact ⟨B, Ex.refl B, r, h.1⟩
  | lst l => exact freeze r h
theorem sres_dat {d : PyData} (h : Dp K B v d) : SRes K Γ B ρ σ H (.dat d) v := ⟨h, fun l e => by cases e⟩
/-- slots are changed: what holds of the new ones -/
theorem Rep.slot (r : Rep K Γ B ρ σ H) (i : Nat) (hi : i ∉ J) (h : SRes K Γ B (ρ.set i none) σ H s v) : Rep K Γ B (ρ.set i (some s)) (σ.set i (some v)) H := by
  refine ⟨r.bh, r.fh, r.fb, r.b0, by rw [List.length_set, List.length_set]; exact r.len, ?_, ?_, ?_⟩
  · intro j t hj
    by_cases e : i = j
    · subst e
      have hl : i < ρ.length := by
        have := (List.getElem?_eq_some_iff.mp hj).1
        simpa using this
      rw [List.getElem?_set_self (by exact hl)] at hj
      have e2 : s = t := by injection hj with e; injection e
      subst e2
      exact ⟨v, by rw [List.getElem?_set_self (by rw [← r.len]; exact hl)], h.1⟩
    · rw [List.getElem?_set_ne e] at hj
      rw [List.getElem?_set_ne e]
      exact r.at_ j t hj
  · intro j k s1 t1 a ne hj hk ej ek
    have key : ∀ m u, i ≠ m → (ρ.set i (some s))[m]? = some (some (.lst u)) → (ρ.set i none)[m]? = some (some (.lst u)) := fun m u e hm => by
      rw [List.getElem?_set_ne e] at hm
      rw [List.getElem?_set_ne e]
      exact hm
    have own : ∀ u, (ρ.set i (some s))[i]? = some (some (.lst u)) → s = .lst u := fun u hm => by
      have hl : i < ρ.length := by
        have := (List.getElem?_eq_some_iff.mp hm).1
        simpa using this
      rw [List.getElem?_set_self (by exact hl)] at hm
      injection hm with e
      injection e
    have sv : ∀ b, (σ.set i (some v))[i]? = some (some (.ref b)) → v = .ref b := fun b hm => by
      have hl : i < σ.length := by
        have := (List.getElem?_eq_some_iff.mp hm).1
        simpa using this
      rw [List.getElem?_set_self (by exact hl)] at hm
      injection hm with e
      injection e
    by_cases e1 : i = j
    · subst e1
      have hs := own _ hj
      have hv := sv _ ej
      rw [List.getElem?_set_ne ne] at ek
      exact h.2 _ hs k t1 (key k t1 ne hk) (by rw [hv]; exact ek)
    · by_cases e2 : i = k
      · subst e2
        have hs := own _ hk
        have hv := sv _ ek
        rw [List.getElem?_set_ne e1] at ej
        exact h.2 _ hs j s1 (key j s1 e1 hj) (by rw [hv]; exact ej)
      · rw [List.getElem?_set_ne e1] at hj ej
        rw [List.getElem?_set_ne e2] at hk ek
        exact r.sep j k s1 t1 a ne hj hk ej ek
  · intro k j v hk hv
    rw [List.getElem?_set_ne (fun e => hi (by rw [e]; exact List.mem_of_getElem? hk))]
    exact r.iot k j v hk hv
/-- a slot is forgotten in the mirror -/
theorem Rep.drop (r : Rep K Γ B ρ σ H) (i : Nat) : Rep K Γ B (ρ.set i none) σ H := by
  have key : ∀ {j : Nat} {t : S}, (ρ.set i none)[j]? = some (some t) → ρ[j]? = some (some t) := fun {j t} hj => by
    by_cases e : i = j
    · subst e
      have hl : i < ρ.length := by
        have := (List.getElem?_eq_some_iff.mp hj).1
        simpa using this
      rw [List.getElem?_set_self (by exact hl)] at hj
      cases hj
    · rw [List.getElem?_set_ne e] at hj
      exact hj
  exact ⟨r.bh, r.fh, r.fb, r.b0, by rw [List.length_set]; exact r.len, fun j t hj => r.at_ j t (key hj), fun j k s1 t1 a ne hj hk => r.sep j k s1 t1 a ne (key hj) (key hk), r.iot⟩
theorem SRes.drop (h : SRes K Γ B ρ σ H s v) (i : Nat) : SRes K Γ B (ρ.set i none) σ H s v := by
  refine ⟨h.1, fun l e j l' hj => h.2 l e j l' ?_⟩
  by_cases e : i = j
  · subst e
    have hl : i < ρ.length := by
      have := (List.getElem?_eq_some_iff.mp hj).1
      simpa using this
    rw [List.getElem?_set_self (by exact hl)] at hj
    cases hj
  · rw [List.getElem?_set_ne e] at hj
    exact hj
/-- an own list of a slot, taken out -/
theorem Rep.take (r : Rep K Γ B ρ σ H) {i : Nat} {l : List PyData} (hi : ρ[i]? = some (some (.lst l))) : ∃ v, σ[i]? = some (some v) ∧ Rep K Γ B (ρ.set i none) σ H ∧ SRes K Γ B (ρ.set i none) σ H (.lst l) v := by
  obtain ⟨v, h1, h2⟩ := r.at_ i _ hi
  refine ⟨v, h1, r.drop i, h2, fun l' e j l'' hj ej => ?_⟩
  have ne : i ≠ j := fun e => by
    subst e
    have hl : i < ρ.length := by
      have := (List.getElem?_eq_some_iff.mp hj).1
      simpa using this
    rw [List.getElem?_set_self (by exact hl)] at hj
    cases hj
  rw [List.getElem?_set_ne ne] at hj
  obtain ⟨a, xs, rfl, _⟩ := h2
  exact r.sep i j l l'' a ne hi hj h1 ej
/-- .. and back as data -/
theorem Rep.put (r : Rep K Γ B ρ σ H) {i : Nat} (hv : σ[i]? = some (some v)) (h : SRes K Γ B (ρ.set i none) σ H s v) : Rep K Γ B (ρ.set i (some s)) σ H := by
  have e : σ.set i (some v) = σ := by
    apply List.ext_getElem?
    intro j
    by_cases e : i = j
    · subst e
      rw [List.getElem?_set_self (by exact (List.getElem?_eq_some_iff.mp hv).1), hv]
    · rw [List.getElem?_set_ne e]
  refine ⟨r.bh, r.fh, r.fb, r.b0, by rw [List.length_set]; exact r.len, ?_, ?_, r.iot⟩
  · intro j t hj
    by_cases e : i = j
    · subst e
      have hl : i < ρ.length := by
        have := (List.getElem?_eq_some_iff.mp hj).1
        simpa using this
      rw [List.getElem?_set_self (by exact hl)] at hj
      have e2 : s = t := by injection hj with e; injection e
      subst e2
      exact ⟨v, hv, h.1⟩
    · rw [List.getElem?_set_ne e] at hj
      exact r.at_ j t hj
  · intro j k s1 t1 a ne hj hk ej ek
    have key : ∀ m u, i ≠ m → (ρ.set i (some s))[m]? = some (some (.lst u)) → (ρ.set i none)[m]? = some (some (.lst u)) := fun m u e hm => by
      rw [List.getElem?_set_ne e] at hm
      rw [List.getElem?_set_ne e]
      exact hm
    have own : ∀ u, (ρ.set i (some s))[i]? = some (some (.lst u)) → s = .lst u := fun u hm => by
      have hl : i < ρ.length := by
        have := (List.getElem?_eq_some_iff.mp hm).1
        simpa using this
      rw [List.getElem?_set_self (by exact hl)] at hm
      injection hm with e
      injection e
    by_cases e1 : i = j
    · subst e1
      rw [hv] at ej
      have hv' : v = .ref a := by injection ej with e; injection e
      exact h.2 _ (own _ hj) k t1 (key k t1 ne hk) (by rw [hv']; exact ek)
    · by_cases e2 : i = k
      · subst e2
        rw [hv] at ek
        have hv' : v = .ref a := by injection ek with e; injection e
        exact h.2 _ (own _ hk) j s1 (key j s1 e1 hj) (by rw [hv']; exact ej)
      · rw [List.getElem?_set_ne e1] at hj
        rw [List.getElem?_set_ne e2] at hk
        exact r.sep j k s1 t1 a ne hj hk ej ek
end
end Z
set_option maxHeartbeats 2000000
/-! Z: expressions. -/
namespace Z
open PySem PySem.Spec PyProof.Rows L2
open Evl (Ex ex_l ex_t ex_rd)
/-! ### joining outcomes -/
/-- go on with the value as data -/
def R.bd : R → (PyData → En → R) → R
  | .ok s ρ, k => k s.d ρ
  | .exc x ρ, _ => .exc x ρ
  | .bad, _ => .bad
def R.lift (o : Option S) (ρ : En) : R := match o with
  | some s => .ok s ρ
  | none => .bad
inductive RA where
  | ok (ds : List PyData) (ρ : En)
  | exc (x : Str) (ρ : En)
  | bad
abbrev CA := En → RA
def RA.bd : RA → (List PyData → En → R) → R
  | .ok ds ρ, k => k ds ρ
  | .exc x ρ, _ => .exc x ρ
  | .bad, _ => .bad
def R.ba : R → (PyData → En → RA) → RA
  | .ok s ρ, k => k s.d ρ
  | .exc x ρ, _ => .exc x ρ
  | .bad, _ => .bad
def RA.ba : RA → (List PyData → En → RA) → RA
  | .ok s ρ, k => k s ρ
  | .exc x ρ, _ => .exc x ρ
  | .bad, _ => .bad
section
variable (K : PySem.W.Frag) (xc : Str → Value) (W : Ww)
def outA (Γ : Fm W.J) (B : Hp) (σ : L2.St) (Q : List V → Hp → Prop) : RA → Prop
  | .ok ds ρ' => ∀ vs B' H', Ex B B' → Rep K Γ B' ρ' σ H' → DpAll K B' vs ds → Q vs H'
  | .exc x ρ' => ∀ B' H', Ex B B' → Rep K Γ B' ρ' σ H' → W.W (xc x) none σ H'
  | .bad => False
def tZA (c : CA) : TA := fun σ H Q => ∃ (Γ : Fm W.J) (B : Hp) (ρ : En), Rep K Γ B ρ σ H ∧ outA K xc W Γ B σ Q (c ρ)
end
section
variable {K : PySem.W.Frag} {xc : Str → Value} {W : Ww} {Γ : Fm W.J} {B B' : Hp} {ρ : En} {σ : L2.St} {H : Hp} {s : S} {v : V}
theorem outZ_mono {Q : VK} (e : Ex B B') : ∀ {r : R}, outZ K xc W Γ B σ Q r → outZ K xc W Γ B' σ Q r
  | .ok s ρ', h => fun v B2 H2 e2 r2 q => h v B2 H2 (e.trans e2) r2 q
  | .exc x ρ', h => fun B2 H2 e2 r2 => h B2 H2 (e.trans e2) r2
  | .bad, h => h
theorem outT_mono {Q : Bool → Hp → Prop} (e : Ex B B') : ∀ {r : R}, outT K xc W Γ B σ Q r → outT K xc W Γ B' σ Q r
  | .ok s ρ', ⟨b, h1, h⟩ => ⟨b, h1, fun B2 H2 e2 r2 => h B2 H2 (e.trans e2) r2⟩
  | .exc x ρ', h => fun B2 H2 e2 r2 => h B2 H2 (e.trans e2) r2
  | .bad, h => h
theorem outA_mono {Q : List V → Hp → Prop} (e : Ex B B') : ∀ {r : RA}, outA K xc W Γ B σ Q r → outA K xc W Γ B' σ Q r
  | .ok s ρ', h => fun v B2 H2 e2 r2 q => h v B2 H2 (e.trans e2) r2 q
  | .exc x ρ', h => fun B2 H2 e2 r2 => h B2 H2 (e.trans e2) r2
  | .bad, h => h
/-- an expression is evaluated, its value seen as data; then the rest -/
theorem tz_bd {c : CE} {k : PyData → En → R} {Q Q' : VK} (rep : Rep K Γ B ρ σ H) (h : outZ K xc W Γ B σ Q ((c ρ).bd k))
    (next : ∀ v B' H' d ρ', Ex B B' → Rep K Γ B' ρ' σ H' → Dp K B' v d → outZ K xc W Γ B' σ Q (k d ρ') → Q' v H') : tZ K xc W c σ H Q' := by
  refine ⟨Γ, B, ρ, rep, ?_⟩
  cases hc : c ρ with
  | ok s ρ1 =>
    rw [hc] at h
    intro v B1 H1 e1 r1 q1
    obtain ⟨B2, e2, r2, q2⟩ := SRes.data r1 q1
    exact next v B2 H1 s.d ρ1 (e1.trans e2) r2 q2 (outZ_mono (e1.trans e2) h)
  | exc x ρ1 =>
    rw [hc] at h
    exact h
  | bad =>
    rw [hc] at h
    exact h
/-- .. where a test is wanted in the end -/
theorem tz_bdT {c : CE} {k : PyData → En → R} {Q : Bool → Hp → Prop} {Q' : VK} (rep : Rep K Γ B ρ σ H) (h : outT K xc W Γ B σ Q ((c ρ).bd k))
    (next : ∀ v B' H' d ρ', Ex B B' → Rep K Γ B' ρ' σ H' → Dp K B' v d → outT K xc W Γ B' σ Q (k d ρ') → Q' v H') : tZ K xc W c σ H Q' := by
  refine ⟨Γ, B, ρ, rep, ?_⟩
  cases hc : c ρ with
  | ok s ρ1 =>
    rw [hc] at h
    intro v B1 H1 e1 r1 q1
    obtain ⟨B2, e2, r2, q2⟩ := SRes.data r1 q1
    exact next v B2 H1 s.d ρ1 (e1.trans e2) r2 q2 (outT_mono (e1.trans e2) h)
  | exc x ρ1 =>
    rw [hc] at h
    exact h
  | bad =>
    rw [hc] at h
    exact h
theorem tz_ba {c : CE} {k : PyData → En → RA} {Q : List V → Hp → Prop} {Q' : VK} (rep : Rep K Γ B ρ σ H) (h : outA K xc W Γ B σ Q ((c ρ).ba k))
    (next : ∀ v B' H' d ρ', Ex B B' → Rep K Γ B' ρ' σ H' → Dp K B' v d → outA K xc W Γ B' σ Q (k d ρ') → Q' v H') : tZ K xc W c σ H Q' := by
  refine ⟨Γ, B, ρ, rep, ?_⟩
  cases hc : c ρ with
  | ok s ρ1 =>
    rw [hc] at h
    intro v B1 H1 e1 r1 q1
    obtain ⟨B2, e2, r2, q2⟩ := SRes.data r1 q1
    exact next v B2 H1 s.d ρ1 (e1.trans e2) r2 q2 (outA_mono (e1.trans e2) h)
  | exc x ρ1 =>
    rw [hc] at h
    exact h
  | bad =>
    rw [hc] at h
    exact h
theorem tza_bd {c : CA} {k : List PyData → En → R} {Q : VK} {Q' : List V → Hp → Prop} (rep : Rep K Γ B ρ σ H) (h : outZ K xc W Γ B σ Q ((c ρ).bd k))
    (next : ∀ vs B' H' ds ρ', Ex B B' → Rep K Γ B' ρ' σ H' → DpAll K B' vs ds → outZ K xc W Γ B' σ Q (k ds ρ') → Q' vs H') : tZA K xc W c σ H Q' := by
  refine ⟨Γ, B, ρ, rep, ?_⟩
  cases hc : c ρ with
  | ok s ρ1 =>
    rw [hc] at h
    intro v B1 H1 e1 r1 q1
    exact next v B1 H1 s ρ1 e1 r1 q1 (outZ_mono e1 h)
  | exc x ρ1 =>
    rw [hc] at h
    exact h
  | bad =>
    rw [hc] at h
    exact h
theorem tza_ba {c : CA} {k : List PyData → En → RA} {Q Q' : List V → Hp → Prop} (rep : Rep K Γ B ρ σ H) (h : outA K xc W Γ B σ Q ((c ρ).ba k))
    (next : ∀ vs B' H' ds ρ', Ex B B' → Rep K Γ B' ρ' σ H' → DpAll K B' vs ds → outA K xc W Γ B' σ Q (k ds ρ') → Q' vs H') : tZA K xc W c σ H Q' := by
  refine ⟨Γ, B, ρ, rep, ?_⟩
  cases hc : c ρ with
  | ok s ρ1 =>
    rw [hc] at h
    intro v B1 H1 e1 r1 q1
    exact next v B1 H1 s ρ1 e1 r1 q1 (outA_mono e1 h)
  | exc x ρ1 =>
    rw [hc] at h
    exact h
  | bad =>
    rw [hc] at h
    exact h
end
/-! ### operations on data -/
section
variable (K : PySem.W.Frag)
/-- what follows a result -/
abbrev After {J : List Nat} (Γ : Fm J) (B : Hp) (ρ : En) (σ : L2.St) (s : S) (Q : VK) : Prop := ∀ v B' H', Ex B B' → Rep K Γ B' ρ σ H' → SRes K Γ B' ρ σ H' s v → Q v H'
def Op1 (r : V → Hp → VK → Prop) (g : PyData → Option S) : Prop :=
  ∀ (J : List Nat) (Γ : Fm J) (B : Hp) (ρ : En) (σ : L2.St) (H : Hp) x d s Q, Rep K Γ B ρ σ H → Dp K B x d → g d = some s → After K Γ B ρ σ s Q → r x H Q
def Op2 (r : R2) (g : PyData → PyData → Option S) : Prop :=
  ∀ (J : List Nat) (Γ : Fm J) (B : Hp) (ρ : En) (σ : L2.St) (H : Hp) x y d e s Q, Rep K Γ B ρ σ H → Dp K B x d → Dp K B y e → g d e = some s → After K Γ B ρ σ s Q → r x y H Q
def OpN (r : List V → Hp → VK → Prop) (g : List PyData → Option S) : Prop :=
  ∀ (J : List Nat) (Γ : Fm J) (B : Hp) (ρ : En) (σ : L2.St) (H : Hp) xs ds s Q, Rep K Γ B ρ σ H → DpAll K B xs ds → g ds = some s → After K Γ B ρ σ s Q → r xs H Q
/-- read in place: data, or a list of one's own -/
def Pk (B H : Hp) (x : V) (d : PyData) : Prop := Dp K B x d ∨ ∃ a xs l, x = .ref a ∧ d = .list l ∧ SqL K H a xs ∧ DpAll K B xs l
def Op2P (r : R2) (g : PyData → PyData → Option S) : Prop :=
  ∀ (J : List Nat) (Γ : Fm J) (B : Hp) (ρ : En) (σ : L2.St) (H : Hp) x y d e s Q, Rep K Γ B ρ σ H → Pk K B H x d → Dp K B y e → g d e = some s → After K Γ B ρ σ s Q → r x y H Q
end
section
variable {K : PySem.W.Frag} {J : List Nat} {Γ : Fm J} {B : Hp} {ρ : En} {σ : L2.St} {H : Hp} {s : S} {v : V} {d : PyData} {Q : VK}
theorem After.now (r : Rep K Γ B ρ σ H) (a : After K Γ B ρ σ (.dat d) Q) (h : Dp K B v d) : Q v H := a v B H (Ex.refl B) r (sres_dat h)
theorem After.tup (r : Rep K Γ B ρ σ H) {xs : List V} {ds : List PyData} (a : After K Γ B ρ σ (.dat (.tuple ds)) Q) (h : DpAll K B xs ds) {p : Addr} (hp : H p = none) : Q (.ref p) (upd H p (.tup xs)) := by
  obtain ⟨r2, e2, _, _⟩ := r.new (o := .tup xs) hp
  exact a _ _ _ e2 r2 (sres_dat (.tup (.inl (.inl upd_same)) (dpAll_mono e2 h)))
theorem After.lst (r : Rep K Γ B ρ σ H) {xs : List V} {ds : List PyData} (a : After K Γ B ρ σ (.lst ds) Q) (h : DpAll K B xs ds) {p : Addr} (hp : H p = none) : Q (.ref p) (upd H p (.lst xs)) := by
  obtain ⟨r2, q2⟩ := r.newL hp h
  exact a _ _ _ (Ex.refl B) r2 q2
theorem Op2.or {r r' : R2} {g : PyData → PyData → Option S} (g1 g2 : PyData → PyData → Option S) (h1 : Op2 K r g1) (h2 : Op2 K r' g2) (hg : ∀ d e s, g d e = some s → g1 d e = some s ∨ g2 d e = some s) : Op2 K (fun x y H Q => r x y H Q ∨ r' x y H Q) g := by
  intro J Γ B ρ σ H x y d e s Q rep hx hy hs a
  rcases hg d e s hs with h | h
  · exact .inl (h1 J Γ B ρ σ H x y d e s Q rep hx hy h a)
  · exact .inr (h2 J Γ B ρ σ H x y d e s Q rep hx hy h a)
theorem Pk.list {a : Addr} {ds : List PyData} (rep : Rep K Γ B ρ σ H) (h : Pk K B H (.ref a) (.list ds)) : ∃ xs, SqL K H a xs ∧ DpAll K B xs ds := by
  rcases h with h | ⟨b, xs, l, e1, e2, h1, h2⟩
  · obtain ⟨b, xs, e, h1, h2⟩ := dp_list h
    cases e
    exact ⟨xs, ex_l rep.bh h1, h2⟩
  · cases e1
    cases e2
    exact ⟨xs, h1, h2⟩
theorem Pk.refL {ds : List PyData} (h : Pk K B H v (.list ds)) : ∃ a, v = .ref a := by
  rcases h with h | ⟨b, xs, l, e1, _⟩
  · obtain ⟨b, xs, e, _⟩ := dp_list h
    exact ⟨b, e⟩
  · exact ⟨b, e1⟩
theorem Pk.dp (h : Pk K B H v d) (n : ∀ l, d ≠ .list l) : Dp K B v d := by
  rcases h with h | ⟨b, xs, l, e1, e2, _⟩
  · exact h
  · exact absurd e2 (n l)
end
/-! ### judgements -/
section
variable (X : Cx) (xc : Str → Value) (W : Ww)
abbrev ZE (e : Expr) (c : CE) : Prop := PE X e (tZ X.K xc W c)
abbrev ZT (e : Expr) (c : CE) : Prop := PT X e (tZT X.K xc W c)
abbrev ZW (e : Expr) (c : CE) : Prop := PW X e (tZT X.K xc W c)
abbrev ZS (st : Stmt) (c : CS) : Prop := PS X st (tZS X.K xc W c)
abbrev ZSs (st : List Stmt) (c : CS) : Prop := PSs X st (tZS X.K xc W c)
structure ZA (es : List Expr) (c : CA) : Prop where
  run : PA X es (tZA X.K xc W c)
  len : ∀ ρ ds ρ', c ρ = .ok ds ρ' → ds.length = es.length
end
section
variable {X : Cx} {e : Expr} {st : Stmt} {sts : List Stmt} {es : List Expr}
theorem PE.imp {t t' : TE} (h : PE X e t) (m : ∀ σ H Q, t' σ H Q → t σ H Q) : PE X e t' := ⟨fun pins s σ H Q I q => h.run pins s σ H Q I (m σ H Q q)⟩
theorem PT.imp {t t' : TT} (h : PT X e t) (m : ∀ σ H Q, t' σ H Q → t σ H Q) : PT X e t' := ⟨fun pins s σ H Q I q => h.run pins s σ H Q I (m σ H Q q)⟩
theorem PW.imp {t t' : TT} (h : PW X e t) (m : ∀ σ H Q, t' σ H Q → t σ H Q) : PW X e t' := ⟨fun wh pins s σ H Q I q => h.run wh pins s σ H Q I (m σ H Q q)⟩
theorem PA.imp {t t' : TA} (h : PA X es t) (m : ∀ σ H Q, t' σ H Q → t σ H Q) : PA X es t' := ⟨fun pos pins s σ H Q I q => h.run pos pins s σ H Q I (m σ H Q q)⟩
theorem PS.imp {t t' : TS} (h : PS X st t) (m : ∀ D σ H, t' D σ H → t D σ H) : PS X st t' := ⟨fun pins s σ H D I q => h.run pins s σ H D I (m D σ H q)⟩
theorem PSs.imp {t t' : TS} (h : PSs X sts t) (m : ∀ D σ H, t' D σ H → t D σ H) : PSs X sts t' := ⟨fun pins s σ H D I q => h.run pins s σ H D I (m D σ H q)⟩
end
section
variable {X : Cx} {xc : Str → Value} {W : Ww} {a b e : Expr} {es : List Expr} {pos : Pos} {ca cb cc : CE} {cas : CA}
/-! ### constants, names -/
def cK (d : PyData) : CE := fun ρ => .ok (.dat d) ρ
theorem ze_of {t : TE} {v : V} {d : PyData} (h : PE X e t) (ht : ∀ σ H Q, Q v H → t σ H Q) (hd : ∀ B, Dp X.K B v d) : ZE X xc W e (cK d) := PE.imp h fun σ H Q ⟨Γ, B, ρ, rep, k⟩ => ht σ H Q (k v B H (Ex.refl B) rep (sres_dat (hd B)))
theorem ze_int {i : Int} {j : Nat} : ZE X xc W (.Constant (.int i) j pos) (cK (.int i)) := ze_of pe_int (fun _ _ _ q => q) fun _ => .int i
theorem ze_bool {i : Bool} {j : Nat} : ZE X xc W (.Constant (.bool i) j pos) (cK (.bool i)) := ze_of pe_bl (fun _ _ _ q => q) fun _ => .bl i
theorem ze_none {j : Nat} : ZE X xc W (.Constant .none j pos) (cK .none) := ze_of pe_non (fun _ _ _ q => q) fun _ => .non
theorem ze_str {x : Str} {j : Nat} : ZE X xc W (.Constant (.str x) j pos) (cK (.str x)) := ze_of pe_str (fun _ _ _ q => q) fun _ => .str x
/-- a name's value; a list of its own turns data -/
def cV (i : Nat) : CE := fun ρ => match ρ[i]? with
  | some (some s) => .ok (.dat s.d) (ρ.set i (some (.dat s.d)))
  | _ => .bad
theorem ze_var {i : Nat} (h : PE X e (tVar i)) : ZE X xc W e (cV i) := PE.imp h fun σ H Q ⟨Γ, B, ρ, rep, k⟩ => by
  unfold cV at k
  cases hi : ρ[i]? with
  | none => rw [hi] at k; exact k.elim
  | some o =>
    cases o with
    | none => rw [hi] at k; exact k.elim
    | some s =>
      rw [hi] at k
      have k' : outZ X.K xc W Γ B σ Q (.ok (.dat s.d) (ρ.set i (some (.dat s.d)))) := k
      cases s with
      | dat d =>
        obtain ⟨v, h1, h2⟩ := rep.at_ i _ hi
        have e : ρ.set i (some (.dat d)) = ρ := by
          apply List.ext_getElem?
          intro j
          by_cases e : i = j
          · subst e
            rw [List.getElem?_set_self (by exact (List.getElem?_eq_some_iff.mp hi).1), hi]
          · rw [List.getElem?_set_ne e]
        refine ⟨v, h1, ?_⟩
        refine k' v B H (Ex.refl B) ?_ ?_
        · show Rep X.K Γ B (ρ.set i (some (.dat d))) σ H
          rw [e]
          exact rep
        · exact sres_dat h2
      | lst l =>
        obtain ⟨v, h1, r1, q1⟩ := rep.take hi
        obtain ⟨B2, e2, r2, q2⟩ := freeze r1 q1
        refine ⟨v, h1, ?_⟩
        have r3 := Rep.put (s := .dat (.list l)) (i := i) (v := v) r2 h1 (sres_dat q2)
        rw [List.set_set] at r3
        exact k' v B2 H e2 r3 (sres_dat q2)
/-- a name's list handed on as it is (behind a return) -/
def cVm (i : Nat) : CE := fun ρ => match ρ[i]? with
  | some (some s) => .ok s (ρ.set i none)
  | _ => .bad
theorem ze_varm {i : Nat} (h : PE X e (tVar i)) : ZE X xc W e (cVm i) := PE.imp h fun σ H Q ⟨Γ, B, ρ, rep, k⟩ => by
  unfold cVm at k
  cases hi : ρ[i]? with
  | none => rw [hi] at k; exact k.elim
  | some o =>
    cases o with
    | none => rw [hi] at k; exact k.elim
    | some s =>
      rw [hi] at k
      have k' : outZ X.K xc W Γ B σ Q (.ok s (ρ.set i none)) := k
      cases s with
      | dat d =>
        obtain ⟨v, h1, h2⟩ := rep.at_ i _ hi
        exact ⟨v, h1, k' v B H (Ex.refl B) (rep.drop i) (sres_dat h2)⟩
      | lst l =>
        obtain ⟨v, h1, r1, q1⟩ := rep.take hi
        exact ⟨v, h1, k' v B H (Ex.refl B) r1 q1⟩
/-! ### operators -/
def c1 (g : PyData → Option S) (ca : CE) : CE := fun ρ => (ca ρ).bd fun d ρ => R.lift (g d) ρ
def c2 (g : PyData → PyData → Option S) (ca cb : CE) : CE := fun ρ => (ca ρ).bd fun d ρ => (cb ρ).bd fun e ρ => R.lift (g d e) ρ
def cN (g : List PyData → Option S) (cas : CA) : CE := fun ρ => (cas ρ).bd fun ds ρ => R.lift (g ds) ρ
theorem out_lift {K : PySem.W.Frag} {Γ : Fm W.J} {B : Hp} {ρ : En} {σ : L2.St} {Q : VK} {o : Option S} (h : outZ K xc W Γ B σ Q (R.lift o ρ)) : ∃ s, o = some s ∧ After K Γ B ρ σ s Q := by
  cases o with
  | none => exact h.elim
  | some s => exact ⟨s, rfl, h⟩
theorem tz_op2 {K : PySem.W.Frag} {r : R2} {g : PyData → PyData → Option S} (hr : Op2 K r g) {σ : L2.St} {H : Hp} {Q : VK} (h : tZ K xc W (c2 g ca cb) σ H Q) : tOp r (tZ K xc W ca) (tZ K xc W cb) σ H Q := by
  obtain ⟨Γ, B, ρ, rep, k⟩ := h
  refine tz_bd rep k fun x B1 H1 d ρ1 e1 r1 q1 k1 => ?_
  refine tz_bd r1 k1 fun y B2 H2 e ρ2 e2 r2 q2 k2 => ?_
  obtain ⟨s, hs, af⟩ := out_lift k2
  exact hr W.J Γ B2 ρ2 σ H2 x y d e s Q r2 (dp_mono e2 q1) q2 hs af
theorem ze_op {op : Operator} {r : R2} {g : PyData → PyData → Option S} (ho : OpR X (binaryOp op) r) (hr : Op2 X.K r g) (ha : ZE X xc W a ca) (hb : ZE X xc W b cb) : ZE X xc W (.BinOp a op b pos) (c2 g ca cb) :=
  PE.imp (pe_op ho ha hb) fun _ _ _ h => tz_op2 hr h
theorem ze_cmp {op : CmpOp} {r : R2} {g : PyData → PyData → Option S} (ho : OpR X (compareOp op) r) (hr : Op2 X.K r g) (hm : behindInMarks op b = false) (ha : ZE X xc W a ca) (hb : ZE X xc W b cb) : ZE X xc W (.Compare a [op] [b] pos) (c2 g ca cb) :=
  PE.imp (pe_cmpR ho ha hb hm) fun _ _ _ h => tz_op2 hr h
theorem ze_un {op : UnaryOp} {r : V → Hp → VK → Prop} {g : PyData → Option S} (ho : UnR X (unaryOp op) r) (hr : Op1 X.K r g) (ha : ZE X xc W a ca) : ZE X xc W (.UnaryOp op a pos) (c1 g ca) :=
  PE.imp (pe_un ho ha) fun σ H Q ⟨Γ, B, ρ, rep, k⟩ => tz_bd rep k fun x B1 H1 d ρ1 e1 r1 q1 k1 => by
    obtain ⟨s, hs, af⟩ := out_lift k1
    exact hr W.J Γ B1 ρ1 σ H1 x d s Q r1 q1 hs af
/-- a value that is a bool, from an out for tests: the value's test -/
theorem tzt_of {K : PySem.W.Frag} {σ : L2.St} {H : Hp} {Q : Bool → Hp → Prop} (h : tZT K xc W ca σ H Q) : tZ K xc W ca σ H fun x H' => ∃ k, x = .bl k ∧ Q k H' := by
  obtain ⟨Γ, B, ρ, rep, k⟩ := h
  refine ⟨Γ, B, ρ, rep, ?_⟩
  cases hc : ca ρ with
  | ok s ρ1 =>
    rw [hc] at k
    obtain ⟨b, hb, k⟩ := k
    intro v B1 H1 e1 r1 q1
    cases s with
    | dat d =>
      have hd : d = .bool b := hb
      subst hd
      exact ⟨b, dp_bool q1.1, k B1 H1 e1 r1⟩
    | lst l => cases hb
  | exc x ρ1 =>
    rw [hc] at k
    exact k
  | bad =>
    rw [hc] at k
    exact k
theorem zt_cmp {op : CmpOp} {r : R2} {g : PyData → PyData → Option S} (ho : OpR X (compareOp op) r) (hr : Op2 X.K r g) (hm : behindInMarks op b = false) (ha : ZE X xc W a ca) (hb : ZE X xc W b cb) : ZT X xc W (.Compare a [op] [b] pos) (c2 g ca cb) :=
  PT.imp (pt_cmpR ho ha hb hm) fun _ _ _ h => tz_op2 hr (tzt_of h)
/-! ### and, or, not -/
def cAnd (ca cb : CE) : CE := fun ρ => (ca ρ).bd fun d ρ => match d with
  | .bool true => cb ρ
  | .bool false => .ok (.dat (.bool false)) ρ
  | _ => .bad
def cOr (ca cb : CE) : CE := fun ρ => (ca ρ).bd fun d ρ => match d with
  | .bool true => .ok (.dat (.bool true)) ρ
  | .bool false => cb ρ
  | _ => .bad
def gNot : PyData → Option S
  | .bool b => some (.dat (.bool (!b)))
  | _ => none
def cIf (ct ca cb : CE) : CE := fun ρ => (ct ρ).bd fun d ρ => match d with
  | .bool true => ca ρ
  | .bool false => cb ρ
  | _ => .bad
theorem ze_and {rest : List Expr} (ha : ZE X xc W a ca) (hb : ZE X xc W (.BoolOp .And (b :: rest) pos) cb) : ZE X xc W (.BoolOp .And (a :: b :: rest) pos) (cAnd ca cb) :=
  PE.imp (pe_and ha hb) fun σ H Q ⟨Γ, B, ρ, rep, k⟩ => tz_bd rep k fun x B1 H1 d ρ1 e1 r1 q1 k1 => by
    cases d with
    | bool t =>
      refine ⟨t, dp_bool q1, ?_⟩
      cases t with
      | true => exact iteT ⟨Γ, B1, ρ1, r1, k1⟩
      | false => exact iteF (k1 _ B1 H1 (Ex.refl _) r1 (sres_dat (.bl false)))
    | none | int _ | str _ | list _ | tuple _ | dict _ => exact k1.elim
theorem ze_or {rest : List Expr} (ha : ZE X xc W a ca) (hb : ZE X xc W (.BoolOp .Or (b :: rest) pos) cb) : ZE X xc W (.BoolOp .Or (a :: b :: rest) pos) (cOr ca cb) :=
  PE.imp (pe_or ha hb) fun σ H Q ⟨Γ, B, ρ, rep, k⟩ => tz_bd rep k fun x B1 H1 d ρ1 e1 r1 q1 k1 => by
    cases d with
    | bool t =>
      refine ⟨t, dp_bool q1, ?_⟩
      cases t with
      | true => exact iteT (k1 _ B1 H1 (Ex.refl _) r1 (sres_dat (.bl true)))
      | false => exact iteF ⟨Γ, B1, ρ1, r1, k1⟩
    | none | int _ | str _ | list _ | tuple _ | dict _ => exact k1.elim
theorem ze_one {op : BoolOp} (h : ZE X xc W a ca) : ZE X xc W (.BoolOp op [a] pos) ca := pe_one h
theorem ze_not (ha : ZE X xc W a ca) : ZE X xc W (.UnaryOp .Not a pos) (c1 gNot ca) :=
  PE.imp (pe_not ha) fun σ H Q ⟨Γ, B, ρ, rep, k⟩ => tz_bd rep k fun x B1 H1 d ρ1 e1 r1 q1 k1 => by
    obtain ⟨s, hs, af⟩ := out_lift k1
    cases d with
    | bool t =>
      have e : S.dat (.bool (!t)) = s := Option.some.inj hs
      subst e
      exact ⟨t, dp_bool q1, af _ B1 H1 (Ex.refl _) r1 (sres_dat (.bl _))⟩
    | none | int _ | str _ | list _ | tuple _ | dict _ => cases hs
/-- a test, then one of two ways -/
theorem tzt_bd {K : PySem.W.Frag} {Γ : Fm W.J} {B : Hp} {ρ : En} {σ : L2.St} {H : Hp} {c : CE} {k : PyData → En → R} {Q : VK} {Q' : Bool → Hp → Prop} (rep : Rep K Γ B ρ σ H)
    (h : outZ K xc W Γ B σ Q ((c ρ).bd k)) (hk : ∀ d ρ', (∀ b, d ≠ .bool b) → k d ρ' = .bad)
    (next : ∀ b B' H' ρ', Ex B B' → Rep K Γ B' ρ' σ H' → outZ K xc W Γ B' σ Q (k (.bool b) ρ') → Q' b H') : tZT K xc W c σ H Q' := by
  refine ⟨Γ, B, ρ, rep, ?_⟩
  cases hc : c ρ with
  | ok s ρ1 =>
    rw [hc] at h
    have h' : outZ K xc W Γ B σ Q (k s.d ρ1) := h
    by_cases e : ∃ b, s.d = .bool b
    · obtain ⟨b, e⟩ := e
      rw [e] at h'
      exact ⟨b, e, fun B1 H1 e1 r1 => next b B1 H1 ρ1 e1 r1 (outZ_mono e1 h')⟩
    · rw [hk s.d ρ1 fun b z => e ⟨b, z⟩] at h'
      exact h'.elim
  | exc x ρ1 =>
    rw [hc] at h
    exact h
  | bad =>
    rw [hc] at h
    exact h
theorem tzt_bdT {K : PySem.W.Frag} {Γ : Fm W.J} {B : Hp} {ρ : En} {σ : L2.St} {H : Hp} {c : CE} {k : PyData → En → R} {Q Q' : Bool → Hp → Prop} (rep : Rep K Γ B ρ σ H)
    (h : outT K xc W Γ B σ Q ((c ρ).bd k)) (hk : ∀ d ρ', (∀ b, d ≠ .bool b) → k d ρ' = .bad)
    (next : ∀ b B' H' ρ', Ex B B' → Rep K Γ B' ρ' σ H' → outT K xc W Γ B' σ Q (k (.bool b) ρ') → Q' b H') : tZT K xc W c σ H Q' := by
  refine ⟨Γ, B, ρ, rep, ?_⟩
  cases hc : c ρ with
  | ok s ρ1 =>
    rw [hc] at h
    have h' : outT K xc W Γ B σ Q (k s.d ρ1) := h
    by_cases e : ∃ b, s.d = .bool b
    · obtain ⟨b, e⟩ := e
      rw [e] at h'
      exact ⟨b, e, fun B1 H1 e1 r1 => next b B1 H1 ρ1 e1 r1 (outT_mono e1 h')⟩
    · rw [hk s.d ρ1 fun b z => e ⟨b, z⟩] at h'
      exact h'.elim
  | exc x ρ1 =>
    rw [hc] at h
    exact h
  | bad =>
    rw [hc] at h
    exact h
theorem ze_if {c : Expr} {ct : CE} (hc : ZT X xc W c ct) (ha : ZE X xc W a ca) (hb : ZE X xc W b cb) : ZE X xc W (.IfExp c a b pos) (cIf ct ca cb) :=
  PE.imp (pe_ifExp hc ha hb) fun σ H Q ⟨Γ, B, ρ, rep, k⟩ => tzt_bd rep k (fun d ρ' hd => by cases d with | bool b => exact absurd rfl (hd b) | none | int _ | str _ | list _ | tuple _ | dict _ => rfl) fun b B1 H1 ρ1 e1 r1 k1 => by
    cases b with
    | true => exact iteT ⟨Γ, B1, ρ1, r1, k1⟩
    | false => exact iteF ⟨Γ, B1, ρ1, r1, k1⟩
theorem zt_not (ha : ZT X xc W a ca) : ZT X xc W (.UnaryOp .Not a pos) (c1 gNot ca) :=
  PT.imp (pt_not ha) fun σ H Q ⟨Γ, B, ρ, rep, k⟩ => tzt_bdT rep k (fun d ρ' hd => by cases d with | bool b => exact absurd rfl (hd b) | none | int _ | str _ | list _ | tuple _ | dict _ => rfl) fun b B1 H1 ρ1 e1 r1 k1 => by
    obtain ⟨b', hb, k2⟩ := k1
    have e : (!b) = b' := by injection hb
    rw [e]
    exact k2 B1 H1 (Ex.refl _) r1
theorem zw_and1 (ha : ZT X xc W a ca) : ZW X xc W (.BoolOp .And [a] pos) ca := pw_and1 ha
theorem zw_or1 (ha : ZT X xc W a ca) : ZW X xc W (.BoolOp .Or [a] pos) ca := pw_or1 ha
theorem zw_and {rest : List Expr} (ha : ZT X xc W a ca) (hb : ZW X xc W (.BoolOp .And (b :: rest) pos) cb) : ZW X xc W (.BoolOp .And (a :: b :: rest) pos) (cAnd ca cb) :=
  PW.imp (pw_and ha hb) fun σ H Q ⟨Γ, B, ρ, rep, k⟩ => tzt_bdT rep k (fun d ρ' hd => by cases d with | bool b => exact absurd rfl (hd b) | none | int _ | str _ | list _ | tuple _ | dict _ => rfl) fun b B1 H1 ρ1 e1 r1 k1 => by
    cases b with
    | true => exact iteT ⟨Γ, B1, ρ1, r1, k1⟩
    | false =>
      obtain ⟨b', hb, k2⟩ := k1
      have e : false = b' := by injection hb
      rw [← e] at k2
      exact iteF (k2 B1 H1 (Ex.refl _) r1)
theorem zw_or {rest : List Expr} (ha : ZT X xc W a ca) (hb : ZW X xc W (.BoolOp .Or (b :: rest) pos) cb) : ZW X xc W (.BoolOp .Or (a :: b :: rest) pos) (cOr ca cb) :=
  PW.imp (pw_or ha hb) fun σ H Q ⟨Γ, B, ρ, rep, k⟩ => tzt_bdT rep k (fun d ρ' hd => by cases d with | bool b => exact absurd rfl (hd b) | none | int _ | str _ | list _ | tuple _ | dict _ => rfl) fun b B1 H1 ρ1 e1 r1 k1 => by
    cases b with
    | true =>
      obtain ⟨b', hb, k2⟩ := k1
      have e : true = b' := by injection hb
      rw [← e] at k2
      exact iteT (k2 B1 H1 (Ex.refl _) r1)
    | false => exact iteF ⟨Γ, B1, ρ1, r1, k1⟩
theorem zt_w (h : ZW X xc W e ca) : ZT X xc W e ca := h.pt
/-- a value's truth -/
def gTru : PyData → Option S
  | .none => some (.dat (.bool false))
  | .bool b => some (.dat (.bool b))
  | .int i => some (.dat (.bool (i != 0)))
  | .str x => if x.length ≤ sizeLine then some (.dat (.bool ((x.length : Int) != 0))) else none
  | .list l => some (.dat (.bool (!l.isEmpty)))
  | .tuple l => some (.dat (.bool (!l.isEmpty)))
  | .dict _ => none
theorem isEmpty_len {α β : Type} {l : List α} {m : List β} (h : l.length = m.length) : l.isEmpty = m.isEmpty := by
  cases l <;> cases m <;> simp_all
theorem zt_truth (ha : ZE X xc W a ca) (he : ∀ whole, isTrue a X.env whole = (do let v ← whole; standAt a.pos; holding [v] (truthy v))) : ZT X xc W a (c1 gTru ca) :=
  PT.imp (pt_truth ha he) fun σ H Q ⟨Γ, B, ρ, rep, k⟩ => tz_bdT rep k fun x B1 H1 d ρ1 e1 r1 q1 k1 => by
    cases d with
    | none =>
      obtain ⟨b, hb, k2⟩ := k1
      have e : false = b := by injection hb
      rw [dp_none q1]
      exact ⟨b, by rw [← e]; rfl, k2 B1 H1 (Ex.refl _) r1⟩
    | bool t =>
      obtain ⟨b, hb, k2⟩ := k1
      have e : t = b := by injection hb
      rw [dp_bool q1]
      exact ⟨b, by rw [← e]; rfl, k2 B1 H1 (Ex.refl _) r1⟩
    | int t =>
      obtain ⟨b, hb, k2⟩ := k1
      have e : (t != 0) = b := by injection hb
      rw [dp_int q1]
      exact ⟨b, by rw [← e]; rfl, k2 B1 H1 (Ex.refl _) r1⟩
    | str t =>
      unfold gTru at k1
      by_cases hz : t.length ≤ sizeLine
      · simp only [if_pos hz] at k1
        obtain ⟨b, hb, k2⟩ := k1
        have e : ((t.length : Int) != 0) = b := by injection hb
        rw [dp_str q1]
        exact ⟨b, ⟨hz, by rw [← e]⟩, k2 B1 H1 (Ex.refl _) r1⟩
      · simp only [if_neg hz] at k1
        exact k1.elim
    | list l =>
      obtain ⟨b, hb, k2⟩ := k1
      have e : (!l.isEmpty) = b := by injection hb
      obtain ⟨p, xs, rfl, h1, h2⟩ := dp_list q1
      exact ⟨b, .inl ⟨xs, ex_l r1.bh h1, by rw [← e, isEmpty_len (dpAll_len h2)]⟩, k2 B1 H1 (Ex.refl _) r1⟩
    | tuple l =>
      obtain ⟨b, hb, k2⟩ := k1
      have e : (!l.isEmpty) = b := by injection hb
      obtain ⟨p, xs, rfl, h1, h2⟩ := dp_tup q1
      exact ⟨b, .inr (.inl ⟨xs, ex_t r1.bh h1, by rw [← e, isEmpty_len (dpAll_len h2)]⟩), k2 B1 H1 (Ex.refl _) r1⟩
    | dict _ => exact k1.elim
/-- a bool's test -/
theorem zt_val (h : ZE X xc W e ca) (he : ∀ whole, isTrue e X.env whole = (do let v ← whole; standAt e.pos; holding [v] (truthy v)) := by intro _; rfl) : ZT X xc W e ca := PT.imp (pt_val h he) fun _ _ _ h => tzt_of h
/-! ### argument lists, displays -/
def caNil : CA := fun ρ => .ok [] ρ
def caCons (ca : CE) (cs : CA) : CA := fun ρ => (ca ρ).ba fun d ρ => (cs ρ).ba fun ds ρ => .ok (d :: ds) ρ
theorem za_nil : ZA X xc W [] caNil := ⟨PA.imp pa_nil fun σ H Q ⟨Γ, B, ρ, rep, k⟩ => k [] B H (Ex.refl _) rep .nil, fun ρ ds ρ' h => by cases h; rfl⟩
theorem za_cons (ha : ZE X xc W e ca) (hr : ZA X xc W es cas) (hs : starEach (e :: es) X.env = (false, eval e X.env) :: starEach es X.env := by rfl) : ZA X xc W (e :: es) (caCons ca cas) := by
  refine ⟨PA.imp (pa_cons ha hr.run hs) fun σ H Q ⟨Γ, B, ρ, rep, k⟩ => ?_, fun ρ ds ρ' h => ?_⟩
  · refine tz_ba rep k fun x B1 H1 d ρ1 e1 r1 q1 k1 => ?_
    refine tza_ba r1 k1 fun xs B2 H2 ds ρ2 e2 r2 q2 k2 => ?_
    exact k2 _ B2 H2 (Ex.refl _) r2 (.cons (dp_mono e2 q1) q2)
  · unfold caCons at h
    cases h1 : ca ρ with
    | ok s ρ1 =>
      rw [h1] at h
      cases h2 : cas ρ1 with
      | ok es' ρ2 =>
        have h' : (RA.ba (cas ρ1) fun ds ρ => .ok (s.d :: ds) ρ) = .ok ds ρ' := h
        rw [h2] at h'
        have h3 : RA.ok (s.d :: es') ρ2 = .ok ds ρ' := h'
        have h4 := hr.len _ _ _ h2
        injection h3 with h5 h6
        rw [← h5, List.length_cons, List.length_cons, h4]
      | exc x ρ2 =>
        have h' : (RA.ba (cas ρ1) fun ds ρ => .ok (s.d :: ds) ρ) = .ok ds ρ' := h
        rw [h2] at h'
        cases h'
      | bad =>
        have h' : (RA.ba (cas ρ1) fun ds ρ => .ok (s.d :: ds) ρ) = .ok ds ρ' := h
        rw [h2] at h'
        cases h'
    | exc x ρ1 =>
      rw [h1] at h
      cases h
    | bad =>
      rw [h1] at h
      cases h
def cTup (cas : CA) : CE := fun ρ => (cas ρ).bd fun ds ρ => .ok (.dat (.tuple ds)) ρ
def cLst (cas : CA) : CE := fun ρ => (cas ρ).bd fun ds ρ => .ok (.lst ds) ρ
theorem small_es {n : Nat} (h : n ≤ 1000) : n ≤ sizeLine := Nat.le_of_lt (small1000 h)
/-- as tza_bd, with the length -/
theorem tza_len {K : PySem.W.Frag} {Γ : Fm W.J} {B : Hp} {ρ : En} {σ : L2.St} {H : Hp} {n : Nat} {k : List PyData → En → R} {Q : VK} {Q' : List V → Hp → Prop} (hl : ∀ ρ ds ρ', cas ρ = .ok ds ρ' → ds.length = n) (rep : Rep K Γ B ρ σ H)
    (h : outZ K xc W Γ B σ Q ((cas ρ).bd k))
    (next : ∀ vs B' H' ds ρ', Ex B B' → Rep K Γ B' ρ' σ H' → DpAll K B' vs ds → ds.length = n → outZ K xc W Γ B' σ Q (k ds ρ') → Q' vs H') : tZA K xc W cas σ H Q' := by
  refine ⟨Γ, B, ρ, rep, ?_⟩
  cases hc : cas ρ with
  | ok s ρ1 =>
    rw [hc] at h
    intro v B1 H1 e1 r1 q1
    exact next v B1 H1 s ρ1 e1 r1 q1 (hl _ _ _ hc) (outZ_mono e1 h)
  | exc x ρ1 =>
    rw [hc] at h
    exact h
  | bad =>
    rw [hc] at h
    exact h
theorem ze_tup {k1 : Nat} (h : ZA X xc W es cas) (hz : es.length ≤ 1000 := by decide) : ZE X xc W (.Tuple es k1 pos) (cTup cas) :=
  PE.imp (pe_tup h.run) fun σ H Q ⟨Γ, B, ρ, rep, k⟩ => tza_len h.len rep k fun xs B1 H1 ds ρ1 e1 r1 q1 hl k1 =>
    ⟨by rw [dpAll_len q1, hl]; exact small_es hz, fun p hp => After.tup r1 k1 q1 hp⟩
theorem ze_lst (h : ZA X xc W es cas) (hz : es.length ≤ 1000 := by decide) : ZE X xc W (.List es pos) (cLst cas) :=
  PE.imp (pe_lst h.run) fun σ H Q ⟨Γ, B, ρ, rep, k⟩ => tza_len h.len rep k fun xs B1 H1 ds ρ1 e1 r1 q1 hl k1 =>
    ⟨by rw [dpAll_len q1, hl]; exact small_es hz, fun p hp => After.lst r1 k1 q1 hp⟩
end
end Z
set_option maxHeartbeats 2000000
/-! Z: defs and their calls; statements. -/
namespace Z
open PySem PySem.Spec PyProof.Rows L2
open Evl (Ex ex_l ex_t ex_rd)
/-! ### arguments: data, or a slot that is handed on -/
inductive Ar where
  | d (d : PyData)
  | s (i : Nat)
inductive RX where
  | ok (as : List Ar) (ρ : En)
  | exc (x : Str) (ρ : En)
  | bad
abbrev CX' := En → RX
def RX.bx : RX → (List Ar → En → RX) → RX
  | .ok s ρ, k => k s ρ
  | .exc x ρ, _ => .exc x ρ
  | .bad, _ => .bad
def R.bx : R → (PyData → En → RX) → RX
  | .ok s ρ, k => k s.d ρ
  | .exc x ρ, _ => .exc x ρ
  | .bad, _ => .bad
section
variable (K : PySem.W.Frag) (xc : Str → Value) (W : Ww)
def ArAt (B : Hp) (σ : L2.St) (v : V) : Ar → Prop
  | .d d => Dp K B v d
  | .s i => σ[i]? = some (some v)
abbrev ArsAt (B : Hp) (σ : L2.St) (vs : List V) (as : List Ar) : Prop := Paired (fun v a => ArAt K B σ v a) vs as
def outX (Γ : Fm W.J) (B : Hp) (σ : L2.St) (Q : List V → Hp → Prop) : RX → Prop
  | .ok as ρ' => ∀ vs B' H', Ex B B' → Rep K Γ B' ρ' σ H' → ArsAt K B' σ vs as → Q vs H'
  | .exc x ρ' => ∀ B' H', Ex B B' → Rep K Γ B' ρ' σ H' → W.W (xc x) none σ H'
  | .bad => False
def tZX (c : CX') : TA := fun σ H Q => ∃ (Γ : Fm W.J) (B : Hp) (ρ : En), Rep K Γ B ρ σ H ∧ outX K xc W Γ B σ Q (c ρ)
end
section
variable {K : PySem.W.Frag} {xc : Str → Value} {W : Ww} {Γ : Fm W.J} {B B' : Hp} {ρ : En} {σ : L2.St} {H : Hp}
theorem ArAt.mono {v : V} {a : Ar} (e : Ex B B') (h : ArAt K B σ v a) : ArAt K B' σ v a := by
  cases a with
  | d d => exact dp_mono e h
  | s i => exact h
theorem ArsAt.mono {vs : List V} {as : List Ar} (e : Ex B B') (h : ArsAt K B σ vs as) : ArsAt K B' σ vs as := Paired.mapP h fun _ _ q => q.mono e
theorem outX_mono {Q : List V → Hp → Prop} (e : Ex B B') : ∀ {r : RX}, outX K xc W Γ B σ Q r → outX K xc W Γ B' σ Q r
  | .ok s ρ', h => fun v B2 H2 e2 r2 q => h v B2 H2 (e.trans e2) r2 q
  | .exc x ρ', h => fun B2 H2 e2 r2 => h B2 H2 (e.trans e2) r2
  | .bad, h => h
end
section
variable {X : Cx} {xc : Str → Value} {W : Ww} {a b e : Expr} {es : List Expr} {pos : Pos} {ca : CE} {cx : CX'}
abbrev ZX (X : Cx) (xc : Str → Value) (W : Ww) (es : List Expr) (c : CX') : Prop := PA X es (tZX X.K xc W c)
def cxNil : CX' := fun ρ => .ok [] ρ
def cxD (ca : CE) (cs : CX') : CX' := fun ρ => (ca ρ).bx fun d ρ => (cs ρ).bx fun as ρ => .ok (.d d :: as) ρ
def cxS (i : Nat) (cs : CX') : CX' := fun ρ => match ρ[i]? with
  | some (some _) => (cs ρ).bx fun as ρ => .ok (.s i :: as) ρ
  | _ => .bad
theorem zx_nil : ZX X xc W [] cxNil := PA.imp pa_nil fun σ H Q ⟨Γ, B, ρ, rep, k⟩ => k [] B H (Ex.refl _) rep .nil
theorem tzx_bx {K : PySem.W.Frag} {Γ : Fm W.J} {B : Hp} {ρ : En} {σ : L2.St} {H : Hp} {k : List Ar → En → RX} {Q Q' : List V → Hp → Prop} (rep : Rep K Γ B ρ σ H) (h : outX K xc W Γ B σ Q ((cx ρ).bx k))
    (next : ∀ vs B' H' ds ρ', Ex B B' → Rep K Γ B' ρ' σ H' → ArsAt K B' σ vs ds → outX K xc W Γ B' σ Q (k ds ρ') → Q' vs H') : tZX K xc W cx σ H Q' := by
  refine ⟨Γ, B, ρ, rep, ?_⟩
  cases hc : cx ρ with
  | ok s ρ1 =>
    rw [hc] at h
    intro v B1 H1 e1 r1 q1
    exact next v B1 H1 s ρ1 e1 r1 q1 (outX_mono e1 h)
  | exc x ρ1 =>
    rw [hc] at h
    exact h
  | bad =>
    rw [hc] at h
    exact h
theorem zx_d (ha : ZE X xc W e ca) (hr : ZX X xc W es cx) (hs : starEach (e :: es) X.env = (false, eval e X.env) :: starEach es X.env := by rfl) : ZX X xc W (e :: es) (cxD ca cx) :=
  PA.imp (pa_cons ha hr hs) fun σ H Q ⟨Γ, B, ρ, rep, k⟩ => by
    refine ⟨Γ, B, ρ, rep, ?_⟩
    unfold cxD at k
    cases hc : ca ρ with
    | ok s ρ1 =>
      rw [hc] at k
      intro v B1 H1 e1 r1 q1
      obtain ⟨B2, e2, r2, q2⟩ := SRes.data r1 q1
      refine tzx_bx r2 (outX_mono (e1.trans e2) k) fun vs B3 H3 as ρ3 e3 r3 q3 k3 => ?_
      exact k3 _ B3 H3 (Ex.refl _) r3 (.cons (dp_mono e3 q2) q3)
    | exc x ρ1 =>
      rw [hc] at k
      exact k
    | bad =>
      rw [hc] at k
      exact k
theorem zx_s {i : Nat} (ha : PE X e (tVar i)) (hr : ZX X xc W es cx) (hs : starEach (e :: es) X.env = (false, eval e X.env) :: starEach es X.env := by rfl) : ZX X xc W (e :: es) (cxS i cx) :=
  PA.imp (pa_cons ha hr hs) fun σ H Q ⟨Γ, B, ρ, rep, k⟩ => by
    unfold cxS at k
    cases hi : ρ[i]? with
    | none => rw [hi] at k; exact k.elim
    | some o =>
      cases o with
      | none => rw [hi] at k; exact k.elim
      | some s =>
        rw [hi] at k
        obtain ⟨v, h1, _⟩ := rep.at_ i _ hi
        exact ⟨v, h1, tzx_bx rep k fun vs B3 H3 as ρ3 e3 r3 q3 k3 => k3 _ B3 H3 (Ex.refl _) r3 (.cons h1 q3)⟩
end
/-! ### what a def promises -/
section
variable (K : PySem.W.Frag) (xc : Str → Value)
def outF (Γ : Fm []) (B : Hp) (vs : List V) (Q : VK) (E : XK) : FR → Prop
  | .ok s ss' => ∀ v B' H', Ex B B' → Rep K Γ B' (ss'.map some) (vs.map some) H' → SRes K Γ B' (ss'.map some) (vs.map some) H' s v → Q v H'
  | .exc x ss' => ∀ B' H', Ex B B' → Rep K Γ B' (ss'.map some) (vs.map some) H' → E (xc x) none H'
  | .bad => False
def spZ (n : Nat) (F : Fn) : Sp := fun vs H Q E => vs.length = n ∧ ∃ (Γ : Fm []) (B : Hp) (ss : List S), Rep K Γ B (ss.map some) (vs.map some) H ∧ outF K xc Γ B vs Q E (F ss)
end
def slotsOf : List Ar → List Nat
  | [] => []
  | .d _ :: as => slotsOf as
  | .s i :: as => i :: slotsOf as
def ssOf (ρ : En) : List Ar → Option (List S)
  | [] => some []
  | .d d :: as => match ssOf ρ as with
    | some ss => some (.dat d :: ss)
    | none => none
  | .s i :: as => match ρ[i]?, ssOf ρ as with
    | some (some s), some ss => some (s :: ss)
    | _, _ => none
def putBack (ρ : En) : List Ar → List S → En
  | .d _ :: as, _ :: ss => putBack ρ as ss
  | .s i :: as, s :: ss => (putBack ρ as ss).set i (some s)
  | _, _ => ρ
def dist : List Nat → Bool
  | [] => true
  | i :: is => !is.contains i && dist is
def cCall (F : Fn) (cx : CX') : CE := fun ρ => match cx ρ with
  | .ok as ρ1 => match ssOf ρ1 as with
    | some ss => bif dist (slotsOf as) then (match F ss with
      | .ok s ss' => .ok s (putBack ρ1 as ss')
      | .exc x ss' => .exc x (putBack ρ1 as ss')
      | .bad => .bad) else .bad
    | none => .bad
  | .exc x ρ1 => .exc x ρ1
  | .bad => .bad
theorem mem_slots : ∀ {as : List Ar} {i : Nat}, i ∈ slotsOf as → ∃ k : Nat, as[k]? = some (.s i)
  | .d _ :: as, i, h => by
    obtain ⟨k, e⟩ := mem_slots (as := as) h
    exact ⟨k + 1, by simpa using e⟩
  | .s j :: as, i, h => by
    rcases List.mem_cons.mp h with e | h
    · exact ⟨0, by simp [e]⟩
    · obtain ⟨k, e⟩ := mem_slots (as := as) h
      exact ⟨k + 1, by simpa using e⟩
theorem slots_mem : ∀ {as : List Ar} {i k : Nat}, as[k]? = some (.s i) → i ∈ slotsOf as
  | [], i, k, h => by simp at h
  | .d d :: as, i, 0, h => by simp at h
  | .d d :: as, i, k + 1, h => slots_mem (as := as) (k := k) (by simpa using h)
  | .s j :: as, i, 0, h => by
    simp at h
    subst h
    exact List.mem_cons_self
  | .s j :: as, i, k + 1, h => List.mem_cons_of_mem _ (slots_mem (as := as) (k := k) (by simpa using h))
theorem dist_inj : ∀ {as : List Ar} {i k m : Nat}, dist (slotsOf as) = true → as[k]? = some (.s i) → as[m]? = some (.s i) → k = m
  | [], i, k, m, _, h, _ => by simp at h
  | .d d :: as, i, 0, m, _, h, _ => by simp at h
  | .d d :: as, i, k + 1, 0, _, _, h => by simp at h
  | .d d :: as, i, k + 1, m + 1, hd, h1, h2 => congrArg (· + 1) (dist_inj (as := as) hd (by simpa using h1) (by simpa using h2))
  | .s j :: as, i, 0, 0, _, _, _ => rfl
  | .s j :: as, i, 0, m + 1, hd, h1, h2 => by
    simp at h1
    subst h1
    have h3 := slots_mem (as := as) (k := m) (by simpa using h2)
    have h4 := (Bool.and_eq_true_iff.mp hd).1
    rw [List.contains_iff_mem.mpr h3] at h4
    cases h4
  | .s j :: as, i, k + 1, 0, hd, h1, h2 => by
    simp at h2
    subst h2
    have h3 := slots_mem (as := as) (k := k) (by simpa using h1)
    have h4 := (Bool.and_eq_true_iff.mp hd).1
    rw [List.contains_iff_mem.mpr h3] at h4
    cases h4
  | .s j :: as, i, k + 1, m + 1, hd, h1, h2 => congrArg (· + 1) (dist_inj (as := as) (Bool.and_eq_true_iff.mp hd).2 (by simpa using h1) (by simpa using h2))
theorem ssOf_at {ρ : En} : ∀ {as : List Ar} {ss : List S}, ssOf ρ as = some ss → ss.length = as.length ∧ ∀ (k : Nat) s, ss[k]? = some s → (∃ d, as[k]? = some (.d d) ∧ s = .dat d) ∨ ∃ i, as[k]? = some (.s i) ∧ ρ[i]? = some (some s)
  | [], ss, h => by
    cases h
    exact ⟨rfl, fun k s h => by simp at h⟩
  | .d d :: as, ss, h => by
    unfold ssOf at h
    cases e : ssOf ρ as with
    | none => rw [e] at h; cases h
    | some r =>
      rw [e] at h
      cases h
      obtain ⟨h1, h2⟩ := ssOf_at e
      refine ⟨by simp [h1], fun k s hk => ?_⟩
      cases k with
      | zero =>
        simp at hk
        exact .inl ⟨d, by simp, hk.symm⟩
      | succ k => simpa using h2 k s (by simpa using hk)
  | .s i :: as, ss, h => by
    unfold ssOf at h
    cases hi : ρ[i]? with
    | none => rw [hi] at h; cases h
    | some o =>
      cases o with
      | none => rw [hi] at h; cases h
      | some t =>
        rw [hi] at h
        cases e : ssOf ρ as with
        | none => rw [e] at h; cases h
        | some r =>
          rw [e] at h
          cases h
          obtain ⟨h1, h2⟩ := ssOf_at e
          refine ⟨by simp [h1], fun k s hk => ?_⟩
          cases k with
          | zero =>
            simp at hk
            exact .inr ⟨i, by simp, by rw [hi, hk]⟩
          | succ k => simpa using h2 k s (by simpa using hk)
theorem putBack_len {ρ : En} : ∀ {as : List Ar} {ss : List S}, (putBack ρ as ss).length = ρ.length
  | [], ss => by cases ss <;> rfl
  | .d _ :: as, [] => rfl
  | .s _ :: as, [] => rfl
  | .d _ :: as, s :: ss => putBack_len (as := as)
  | .s i :: as, s :: ss => by
    show ((putBack ρ as ss).set i (some s)).length = _
    rw [List.length_set, putBack_len (as := as)]
theorem putBack_at {ρ : En} : ∀ {as : List Ar} {ss : List S}, ss.length = as.length → ∀ {j : Nat} {s : S}, (putBack ρ as ss)[j]? = some (some s) →
    (∃ k : Nat, as[k]? = some (.s j) ∧ ss[k]? = some s) ∨ ((∀ k : Nat, as[k]? ≠ some (.s j)) ∧ ρ[j]? = some (some s))
  | [], [], _, j, s, h => .inr ⟨fun k => by simp, h⟩
  | .d d :: as, t :: ss, hl, j, s, h => by
    rcases putBack_at (as := as) (ss := ss) (by simpa using hl) (show (putBack ρ as ss)[j]? = some (some s) from h) with ⟨k, h1, h2⟩ | ⟨h1, h2⟩
    · exact .inl ⟨k + 1, by simpa using h1, by simpa using h2⟩
    · refine .inr ⟨fun k => ?_, h2⟩
      cases k with
      | zero => simp
      | succ k => simpa using h1 k
  | .s i :: as, t :: ss, hl, j, s, h => by
    have h' : ((putBack ρ as ss).set i (some t))[j]? = some (some s) := h
    by_cases e : i = j
    · subst e
      have hlt : i < (putBack ρ as ss).length := by
        have := (List.getElem?_eq_some_iff.mp h').1
        simpa using this
      rw [List.getElem?_set_self hlt] at h'
      exact .inl ⟨0, by simp, by simpa using h'⟩
    · rw [List.getElem?_set_ne e] at h'
      rcases putBack_at (as := as) (ss := ss) (by simpa using hl) h' with ⟨k, h1, h2⟩ | ⟨h1, h2⟩
      · exact .inl ⟨k + 1, by simpa using h1, by simpa using h2⟩
      · refine .inr ⟨fun k => ?_, h2⟩
        cases k with
        | zero =>
          simp
          exact e
        | succ k => simpa using h1 k
theorem arsAt_get {K : PySem.W.Frag} {B : Hp} {σ : L2.St} : ∀ {vs : List V} {as : List Ar}, ArsAt K B σ vs as → vs.length = as.length ∧ ∀ (k : Nat) a, as[k]? = some a → ∃ v, vs[k]? = some v ∧ ArAt K B σ v a
  | _, _, .nil => ⟨rfl, fun k a h => by simp at h⟩
  | v :: vs, a :: as, .cons h t => by
    obtain ⟨h1, h2⟩ := arsAt_get t
    refine ⟨by simp [h1], fun k b hk => ?_⟩
    cases k with
    | zero =>
      simp at hk
      subst hk
      exact ⟨v, rfl, h⟩
    | succ k => simpa using h2 k b (by simpa using hk)
theorem map_some_at {α : Type} {l : List α} {k : Nat} {s : α} : (l.map some)[k]? = some (some s) ↔ l[k]? = some s := by
  rw [List.getElem?_map]
  cases l[k]? <;> simp
/-- the own lists that stay behind at a call -/
def Stays (ρ : En) (σ : L2.St) (as : List Ar) (a : Addr) : Prop := ∃ (i : Nat) (l : List PyData), ρ[i]? = some (some (.lst l)) ∧ σ[i]? = some (some (.ref a)) ∧ ∀ k : Nat, as[k]? ≠ some (.s i)
open Classical in
noncomputable def FmCall {J : List Nat} (Γ : Fm J) (B : Hp) (ρ : En) (σ : L2.St) (H : Hp) (as : List Ar) : Fm [] := ⟨fun a => if Stays ρ σ as a then H a else Γ.F a, B, []⟩
section
variable {K : PySem.W.Frag} {J : List Nat} {Γ : Fm J} {B : Hp} {ρ : En} {σ : L2.St} {H : Hp} {as : List Ar} {vs : List V} {ss : List S}
theorem fmCall_yes {a : Addr} (h : Stays ρ σ as a) : (FmCall Γ B ρ σ H as).F a = H a := if_pos h
theorem fmCall_no {a : Addr} (h : ¬ Stays ρ σ as a) : (FmCall Γ B ρ σ H as).F a = Γ.F a := if_neg h
theorem Stays.own (rep : Rep K Γ B ρ σ H) {a : Addr} (h : Stays ρ σ as a) : B a = none ∧ Γ.F a = none ∧ ∃ o, H a = some o := by
  obtain ⟨i, l, h1, h2, _⟩ := h
  obtain ⟨v, e, b, xs, rfl, k1, k2, k3, k5⟩ := rep.at_ i _ h1
  rw [h2] at e
  cases e
  exact ⟨k1, k2, _, k3⟩
theorem fm_none (rep : Rep K Γ B ρ σ H) {a : Addr} (h : (FmCall Γ B ρ σ H as).F a = none) : Γ.F a = none ∧ ¬ Stays ρ σ as a := by
  by_cases e : Stays ρ σ as a
  · rw [fmCall_yes e] at h
    obtain ⟨_, _, o, ho⟩ := e.own rep
    rw [ho] at h
    cases h
  · rw [fmCall_no e] at h
    exact ⟨h, e⟩
theorem Rep.enter (rep : Rep K Γ B ρ σ H) (hv : ArsAt K B σ vs as) (hs : ssOf ρ as = some ss) (hd : dist (slotsOf as) = true) : Rep K (FmCall Γ B ρ σ H as) B (ss.map some) (vs.map some) H := by
  obtain ⟨l1, a1⟩ := arsAt_get hv
  obtain ⟨l2, a2⟩ := ssOf_at hs
  refine ⟨rep.bh, fun a o h => ?_, fun a o h => ?_, Ex.refl B, by rw [List.length_map, List.length_map, l1, l2], fun k s h => ?_, fun k m s t a ne hk hm ek em => ?_, fun k j v h => by simp at h⟩
  · by_cases e : Stays ρ σ as a
    · rw [fmCall_yes e] at h
      exact h
    · rw [fmCall_no e] at h
      exact rep.fh a o h
  · by_cases e : Stays ρ σ as a
    · exact (e.own rep).1
    · rw [fmCall_no e] at h
      exact rep.fb a o h
  · rw [map_some_at] at h
    rcases a2 k s h with ⟨d, h1, rfl⟩ | ⟨i, h1, h2⟩
    · obtain ⟨v, h3, h4⟩ := a1 k _ h1
      exact ⟨v, map_some_at.mpr h3, h4⟩
    · obtain ⟨v, h3, h4⟩ := a1 k _ h1
      obtain ⟨v', h5, h6⟩ := rep.at_ i s h2
      have h4' : σ[i]? = some (some v) := h4
      have e : v = v' := by
        rw [h4'] at h5
        injection h5 with e
        injection e
      subst e
      refine ⟨v, map_some_at.mpr h3, ?_⟩
      cases s with
      | dat d => exact h6
      | lst l =>
        obtain ⟨a, xs, rfl, k1, k2, k3, k5⟩ := h6
        refine ⟨a, xs, rfl, k1, ?_, k3, k5⟩
        rw [fmCall_no]
        · exact k2
        · rintro ⟨j, l', j1, j2, j3⟩
          have ne : i ≠ j := fun e => by
            subst e
            exact j3 k h1
          exact rep.sep i j l l' a ne h2 j1 h4' j2
  · rw [map_some_at] at hk hm
    rw [map_some_at] at ek
    rw [map_some_at] at em
    rcases a2 k _ hk with ⟨d, h1, h2⟩ | ⟨i, h1, h2⟩
    · cases h2
    · rcases a2 m _ hm with ⟨d, g1, g2⟩ | ⟨j, g1, g2⟩
      · cases g2
      · obtain ⟨v, h3, h4⟩ := a1 k _ h1
        obtain ⟨u, g3, g4⟩ := a1 m _ g1
        rw [ek] at h3
        rw [em] at g3
        cases h3
        cases g3
        have nij : i ≠ j := fun e => by
          subst e
          exact ne (dist_inj hd h1 g1)
        exact rep.sep i j s t a nij h2 g2 h4 g4
theorem Rep.back (rep : Rep K Γ B ρ σ H) (hv : ArsAt K B σ vs as) (hd : dist (slotsOf as) = true) {B' : Hp} {H' : Hp} {ss' : List S} (eb : Ex B B') (r' : Rep K (FmCall Γ B ρ σ H as) B' (ss'.map some) (vs.map some) H') :
    Rep K Γ B' (putBack ρ as ss') σ H' ∧ ∀ {s : S} {v : V}, SRes K (FmCall Γ B ρ σ H as) B' (ss'.map some) (vs.map some) H' s v → SRes K Γ B' (putBack ρ as ss') σ H' s v := by
  obtain ⟨l1, a1⟩ := arsAt_get hv
  have l3 : ss'.length = as.length := by
    have := r'.len
    rw [List.length_map, List.length_map, l1] at this
    exact this
  -- where a slot's own list comes from
  have new : ∀ {j : Nat} {s : S}, (∃ k : Nat, as[k]? = some (.s j) ∧ ss'[k]? = some s) → ∃ (k : Nat) (v : V), as[k]? = some (.s j) ∧ (ss'.map some)[k]? = some (some s) ∧ (vs.map some)[k]? = some (some v) ∧ σ[j]? = some (some v) ∧ SAt K (FmCall Γ B ρ σ H as) B' H' s v := fun {j s} ⟨k, h1, h2⟩ => by
    obtain ⟨v, h3, h4⟩ := a1 k _ h1
    obtain ⟨v', h5, h6⟩ := r'.at_ k s (map_some_at.mpr h2)
    rw [map_some_at, h3] at h5
    cases h5
    exact ⟨k, v, h1, map_some_at.mpr h2, map_some_at.mpr h3, h4, h6⟩
  have old : ∀ {j : Nat} {l : List PyData}, (∀ k : Nat, as[k]? ≠ some (.s j)) → ρ[j]? = some (some (.lst l)) → ∃ a xs, σ[j]? = some (some (.ref a)) ∧ Stays ρ σ as a ∧ H a = some (.lst xs) ∧ DpAll K B xs l ∧ Γ.F a = none := fun {j l} h1 h2 => by
    obtain ⟨v, e, a, xs, rfl, k1, k2, k3, k5⟩ := rep.at_ j _ h2
    exact ⟨a, xs, e, ⟨j, l, h2, e, h1⟩, k3, k5, k2⟩
  have conv : ∀ {s : S} {v : V}, SAt K (FmCall Γ B ρ σ H as) B' H' s v → SAt K Γ B' H' s v := fun {s v} h => by
    cases s with
    | dat d => exact h
    | lst l =>
      obtain ⟨a, xs, rfl, k1, k2, k3, k5⟩ := h
      exact ⟨a, xs, rfl, k1, (fm_none rep k2).1, k3, k5⟩
  refine ⟨⟨r'.bh, fun a o h => ?_, fun a o h => ?_, rep.b0.trans eb, by rw [putBack_len]; exact rep.len, fun j s h => ?_, fun j m s t a ne hj hm ej em => ?_, rep.iot⟩, fun {s v} h => ⟨conv h.1, fun l e j l' hj ej => ?_⟩⟩
  · refine r'.fh a o ?_
    rw [fmCall_no fun st => by rw [(st.own rep).2.1] at h; cases h]
    exact h
  · refine r'.fb a o ?_
    rw [fmCall_no fun st => by rw [(st.own rep).2.1] at h; cases h]
    exact h
  · rcases putBack_at l3 h with h | ⟨h1, h2⟩
    · obtain ⟨k, v, h1, h2, h3, h4, h5⟩ := new h
      exact ⟨v, h4, conv h5⟩
    · cases s with
      | dat d =>
        obtain ⟨v, h3, h4⟩ := rep.at_ j _ h2
        exact ⟨v, h3, dp_mono eb h4⟩
      | lst l =>
        obtain ⟨a, xs, e, st, k3, k5, k2⟩ := old h1 h2
        have fa : (FmCall Γ B ρ σ H as).F a = some (.lst xs) := by rw [fmCall_yes st]; exact k3
        exact ⟨.ref a, e, a, xs, rfl, r'.fb a _ fa, k2, r'.fh a _ fa, dpAll_mono eb k5⟩
  · rcases putBack_at l3 hj with hj | ⟨hj1, hj2⟩
    · obtain ⟨k, v, h1, h2, h3, h4, h5⟩ := new hj
      rw [ej] at h4
      cases h4
      rcases putBack_at l3 hm with hm | ⟨hm1, hm2⟩
      · obtain ⟨k', v', g1, g2, g3, g4, g5⟩ := new hm
        rw [em] at g4
        cases g4
        have nk : k ≠ k' := fun e => by
          subst e
          rw [h1] at g1
          cases g1
          exact ne rfl
        exact r'.sep k k' s t a nk h2 g2 h3 g3
      · obtain ⟨b, xs, e, st, _⟩ := old hm1 hm2
        rw [em] at e
        cases e
        obtain ⟨c, ys, e2, k1, k2, _⟩ := h5
        cases e2
        exact (fm_none rep k2).2 st
    · obtain ⟨b, xs, e, st, _⟩ := old hj1 hj2
      rw [ej] at e
      cases e
      rcases putBack_at l3 hm with hm | ⟨hm1, hm2⟩
      · obtain ⟨k', v', g1, g2, g3, g4, g5⟩ := new hm
        rw [em] at g4
        cases g4
        obtain ⟨c, ys, e2, k1, k2, _⟩ := g5
        cases e2
        exact (fm_none rep k2).2 st
      · exact rep.sep j m s t a ne hj2 hm2 ej em
  · subst e
    obtain ⟨⟨a, xs, rfl, k1, k2, k3, k5⟩, fr⟩ := h
    rcases putBack_at l3 hj with hj | ⟨hj1, hj2⟩
    · obtain ⟨k, v, h1, h2, h3, h4, h5⟩ := new hj
      rw [ej] at h4
      cases h4
      exact fr l rfl k l' h2 h3
    · obtain ⟨b, ys, e, st, _⟩ := old hj1 hj2
      rw [ej] at e
      cases e
      exact (fm_none rep k2).2 st
end
section
variable {X : Cx} {xc : Str → Value} {W : Ww} {e : Expr} {es : List Expr} {pos p apos : Pos} {cx : CX'} {k n : Nat} {f : Addr} {fd : FuncData} {ps : List Str} {F : Fn} {x : Str}
theorem tz_call {K : PySem.W.Frag} {σ : L2.St} {H : Hp} {Q : VK} (hn : es.length = n) (h : tZ K xc W (cCall F cx) σ H Q) (hl : ∀ {vs : List V} {as : List Ar} {ρ ρ' : En}, cx ρ = .ok as ρ' → as.length = n) :
    tZX K xc W cx σ H fun vs H1 => spZ K xc n F vs H1 Q (WE W.W σ) := by
  obtain ⟨Γ, B, ρ, rep, h⟩ := h
  refine ⟨Γ, B, ρ, rep, ?_⟩
  unfold cCall at h
  cases hc : cx ρ with
  | exc x ρ1 =>
    rw [hc] at h
    exact h
  | bad =>
    rw [hc] at h
    exact h
  | ok as ρ1 =>
    rw [hc] at h
    intro vs B1 H1 e1 r1 q1
    have hlen := hl (vs := vs) hc
    refine ⟨by rw [(arsAt_get q1).1, hlen], ?_⟩
    cases hs : ssOf ρ1 as with
    | none =>
      simp only [hs] at h
      exact h.elim
    | some ss =>
      simp only [hs] at h
      cases hd : dist (slotsOf as) with
      | false =>
        rw [hd] at h
        exact h.elim
      | true =>
        rw [hd] at h
        refine ⟨FmCall Γ B1 ρ1 σ H1 as, B1, ss, r1.enter q1 hs hd, ?_⟩
        cases hF : F ss with
        | bad =>
          rw [hF] at h
          exact h.elim
        | ok s ss' =>
          rw [hF] at h
          intro v B2 H2 e2 r2 q2
          obtain ⟨r3, c3⟩ := r1.back q1 hd e2 r2
          exact h v B2 H2 (e1.trans e2) r3 (c3 q2)
        | exc y ss' =>
          rw [hF] at h
          intro B2 H2 e2 r2
          obtain ⟨r3, c3⟩ := r1.back q1 hd e2 r2
          exact h B2 H2 (e1.trans e2) r3
/-- how many arguments a list of them gives -/
def CX'.Len (c : CX') (n : Nat) : Prop := ∀ {as : List Ar} {ρ ρ' : En}, c ρ = .ok as ρ' → as.length = n
theorem len_nil : CX'.Len cxNil 0 := fun h => by cases h; rfl
theorem len_d {ca : CE} {m : Nat} (h : CX'.Len cx m) : CX'.Len (cxD ca cx) (m + 1) := fun {as ρ ρ'} e => by
  unfold cxD at e
  cases h1 : ca ρ with
  | ok s ρ1 =>
    have e' : ((cx ρ1).bx fun as ρ => .ok (.d s.d :: as) ρ) = .ok as ρ' := by rw [h1] at e; exact e
    cases h2 : cx ρ1 with
    | ok bs ρ2 =>
      rw [h2] at e'
      have e2 : RX.ok (.d s.d :: bs) ρ2 = .ok as ρ' := e'
      injection e2 with e3 e4
      rw [← e3, List.length_cons, h h2]
    | exc y ρ2 => rw [h2] at e'; cases e'
    | bad => rw [h2] at e'; cases e'
  | exc y ρ2 => rw [h1] at e; cases e
  | bad => rw [h1] at e; cases e
theorem len_s {i : Nat} {m : Nat} (h : CX'.Len cx m) : CX'.Len (cxS i cx) (m + 1) := fun {as ρ ρ'} e => by
  unfold cxS at e
  cases hi : ρ[i]? with
  | none => rw [hi] at e; cases e
  | some o =>
    cases o with
    | none => rw [hi] at e; cases e
    | some t =>
      have e' : ((cx ρ).bx fun as ρ => .ok (.s i :: as) ρ) = .ok as ρ' := by rw [hi] at e; exact e
      cases h2 : cx ρ with
      | ok bs ρ2 =>
        rw [h2] at e'
        have e2 : RX.ok (.s i :: bs) ρ2 = .ok as ρ' := e'
        injection e2 with e3 e4
        rw [← e3, List.length_cons, h h2]
      | exc y ρ2 => rw [h2] at e'; cases e'
      | bad => rw [h2] at e'; cases e'
/-- f(e, ..), f a def of the text -/
theorem ze_call (G : FnOk X.prog X.w X.K X.mg X.base (L2.CX X.prog X.w) k f fd ps (spZ X.K xc n F)) (hr : Room k X.A) (hm : X.mg x = some (.ref f)) (hk : PySem.W.keepIn X.K (.ref f) = true) (hb : Binds X.K fd ps []) (tk : Takes X W.W)
    (ha : ZX X xc W (e :: es) cx) (hl : CX'.Len cx n) (hn : (e :: es).length = n := by rfl) (hg : Gl X x := by rfl) (hdb : (x == ("__debug__" : Str)) = false := by decide) (he : starEach (e :: es) X.env = (false, eval e X.env) :: starEach es X.env := by rfl)
    (hpl : (backTo pos (starEach es X.env)).any (·.1) = false := by rfl) : ZE X xc W (.Call (.Name x p) (e :: es) [] pos) (cCall F cx) :=
  PE.imp (pe_callS G hr hg hm hk hb (fun σ => passAt tk σ) ha hdb he hpl) fun σ H Q h => tz_call (es := e :: es) hn h (fun {vs as ρ ρ'} q => hl q)
end
/-! ### a body -/
def outs (J : List Nat) (ρ : En) : Nat → List S → Option (List S)
  | _, [] => some []
  | k, s :: ss => match (bif J.contains k then (match ρ[k]? with
      | some (some s') => some s'
      | _ => none) else (match s with
      | .dat d => some (.dat d)
      | .lst _ => none)), outs J ρ (k + 1) ss with
    | some s', some r => some (s' :: r)
    | _, _ => none
def finish (J : List Nat) (ss : List S) : O → FR
  | .nx ρ => match outs J ρ 0 ss with
    | some r => .ok (.dat .none) r
    | none => .bad
  | .rt s ρ => match outs J ρ 0 ss with
    | some r => .ok s r
    | none => .bad
  | .exc x ρ => match outs J ρ 0 ss with
    | some r => .exc x r
    | none => .bad
  | _ => .bad
/-- n parameters, m names in all, J the slots handed on -/
def mkF (n m : Nat) (J : List Nat) (c : CS) : Fn := fun ss => bif ss.length == n then finish J ss (c (ss.map some ++ List.replicate (m - n) none)) else .bad
theorem outs_at {J : List Nat} {ρ : En} : ∀ {k : Nat} {ss r : List S}, outs J ρ k ss = some r → r.length = ss.length ∧ ∀ (i : Nat) s, r[i]? = some s → (k + i ∈ J ∧ ρ[k + i]? = some (some s)) ∨ (k + i ∉ J ∧ ∃ d, s = .dat d ∧ ss[i]? = some (.dat d))
  | k, [], r, h => by
    cases h
    exact ⟨rfl, fun i s h => by simp at h⟩
  | k, t :: ss, r, h => by
    unfold outs at h
    cases e : outs J ρ (k + 1) ss with
    | none =>
      rw [e] at h
      split at h
      · rename_i h1 h2
        cases h2
      · cases h
    | some r' =>
      rw [e] at h
      obtain ⟨h1, h2⟩ := outs_at e
      split at h
      · rename_i s' r'' g1 g2
        cases g2
        cases h
        refine ⟨by simp [h1], fun i s hi => ?_⟩
        cases i with
        | zero =>
          simp at hi
          subst hi
          cases hJ : J.contains k with
          | true =>
            rw [hJ] at g1
            refine .inl ⟨List.contains_iff_mem.mp hJ, ?_⟩
            simp only [cond_true] at g1
            split at g1
            · rename_i q hq
              cases g1
              exact hq
            · cases g1
          | false =>
            rw [hJ] at g1
            refine .inr ⟨fun hm => absurd (List.contains_iff_mem.mpr (show k ∈ J from hm)) (by rw [hJ]; exact Bool.false_ne_true), ?_⟩
            simp only [cond_false] at g1
            cases t with
            | dat d =>
              cases g1
              exact ⟨d, rfl, rfl⟩
            | lst l => cases g1
        | succ i =>
          have e2 : k + (i + 1) = k + 1 + i := by omega
          rw [e2]
          simpa using h2 i s (by simpa using hi)
      · cases h
theorem start_eq {N : List Str} {vs : List V} : start N vs = vs.map some ++ List.replicate (N.length - vs.length) none := rfl
theorem app_some {α β : Type} {l : List α} {m : Nat} {k : Nat} {s : α} : (l.map some ++ List.replicate m none)[k]? = some (some s) ↔ l[k]? = some s := by
  rw [List.getElem?_append]
  by_cases h : k < (l.map some).length
  · rw [if_pos h, map_some_at]
  · rw [if_neg h, List.getElem?_replicate]
    rw [List.length_map] at h
    have e : l[k]? = none := List.getElem?_eq_none (by omega)
    rw [e]
    split <;> simp
section
variable {P : Program} {w : World} {K : PySem.W.Frag} {mg : Str → Option Value} {base : Heap} {xc : Str → Value}
theorem zfn_read {J : List Nat} {n : Nat} {N : List Str} {c : CS} {vs : List V} {H : Hp} {Q : VK} {E : XK} (hNn : n ≤ N.length) (hJ : ∀ j ∈ J, j < n) (h : spZ K xc n (mkF n N.length J c) vs H Q E) :
    tZS K xc ⟨fun cls d _ H => E cls d H, J⟩ c { nx := fun _ H' => Q .non H', rt := Q } (start N vs) H := by
  obtain ⟨hl, Γ, B, ss, rep, h⟩ := h
  have hls : ss.length = n := by
    have := rep.len
    rw [List.length_map, List.length_map, hl] at this
    exact this
  have h0 : outF K xc Γ B vs Q E (finish J ss (c (ss.map some ++ List.replicate (N.length - n) none))) := by
    unfold mkF at h
    rw [hls, beq_self_eq_true] at h
    exact h
  have back : ∀ {B' : Hp} {ρ' : En} {σ' : L2.St} {H' : Hp} {r : List S}, Rep K (⟨Γ.F, B, J.map fun j => vs[j]?.getD .non⟩ : Fm J) B' ρ' σ' H' → outs J ρ' 0 ss = some r →
      Rep K Γ B' (r.map some) (vs.map some) H' ∧ ∀ {s : S} {v : V}, SRes K (⟨Γ.F, B, J.map fun j => vs[j]?.getD .non⟩ : Fm J) B' ρ' σ' H' s v → SRes K Γ B' (r.map some) (vs.map some) H' s v := fun {B' ρ' σ' H' r} r' ho => by
    obtain ⟨o1, o2⟩ := outs_at ho
    have at1 : ∀ (k : Nat) s, r[k]? = some s → k ∈ J → ρ'[k]? = some (some s) ∧ ∃ v, vs[k]? = some v ∧ σ'[k]? = some (some v) := fun k s hk hm => by
      rcases o2 k s hk with ⟨h1, h2⟩ | ⟨h1, _⟩
      · rw [Nat.zero_add] at h2
        refine ⟨h2, ?_⟩
        have hk' : k < vs.length := by rw [hl]; exact hJ k hm
        refine ⟨vs[k], List.getElem?_eq_getElem hk', ?_⟩
        obtain ⟨i, hi, ei⟩ := List.getElem_of_mem hm
        refine r'.iot i k _ (by rw [List.getElem?_eq_getElem hi, ei]) ?_
        show (J.map fun j => vs[j]?.getD .non)[i]? = _
        rw [List.getElem?_map, List.getElem?_eq_getElem hi, ei]
        simp [List.getElem?_eq_getElem hk']
      · rw [Nat.zero_add] at h1
        exact absurd hm h1
    refine ⟨⟨r'.bh, r'.fh, r'.fb, rep.b0.trans r'.b0, by rw [List.length_map, List.length_map, o1, hls, hl], fun k s hk => ?_, fun k m s t a ne hk hm ek em => ?_, fun k j v hk => by simp at hk⟩, fun {s v} h => ⟨?_, fun l e j l' hj ej => ?_⟩⟩
    · rw [map_some_at] at hk
      by_cases hm : k ∈ J
      · obtain ⟨h1, v, h2, h3⟩ := at1 k s hk hm
        obtain ⟨v', h4, h5⟩ := r'.at_ k s h1
        rw [h3] at h4
        cases h4
        refine ⟨v, map_some_at.mpr h2, ?_⟩
        cases s with
        | dat d => exact h5
        | lst l => exact h5
      · rcases o2 k s hk with ⟨h1, _⟩ | ⟨_, d, rfl, h2⟩
        · rw [Nat.zero_add] at h1
          exact absurd h1 hm
        · obtain ⟨v, h3, h4⟩ := rep.at_ k _ (map_some_at.mpr h2)
          exact ⟨v, h3, dp_mono r'.b0 h4⟩
    · rw [map_some_at] at hk hm
      rw [map_some_at] at ek
      rw [map_some_at] at em
      have inJ : ∀ (k : Nat) l, r[k]? = some (.lst l) → k ∈ J := fun k l hk => by
        rcases o2 k _ hk with ⟨h1, _⟩ | ⟨_, d, e, _⟩
        · rw [Nat.zero_add] at h1
          exact h1
        · cases e
      obtain ⟨h1, v, h2, h3⟩ := at1 k _ hk (inJ k _ hk)
      obtain ⟨g1, u, g2, g3⟩ := at1 m _ hm (inJ m _ hm)
      rw [ek] at h2
      cases h2
      rw [em] at g2
      cases g2
      exact r'.sep k m s t a ne h1 g1 h3 g3
    · have h1 := h.1
      cases s with
      | dat d => exact h1
      | lst l => exact h1
    · rw [map_some_at] at hj
      rw [map_some_at] at ej
      have inJ : j ∈ J := by
        rcases o2 j _ hj with ⟨h1, _⟩ | ⟨_, d, e, _⟩
        · rw [Nat.zero_add] at h1
          exact h1
        · cases e
      obtain ⟨h1, u, h2, h3⟩ := at1 j _ hj inJ
      rw [ej] at h2
      cases h2
      exact h.2 l e j l' h1 h3
  have hpad : start N vs = vs.map some ++ List.replicate (N.length - n) none := by rw [start_eq, hl]
  refine ⟨(⟨Γ.F, B, J.map fun j => vs[j]?.getD .non⟩ : Fm J), B, ss.map some ++ List.replicate (N.length - n) none, ⟨rep.bh, rep.fh, rep.fb, Ex.refl B, by rw [hpad]; simp [hls, hl], fun i s hi => ?_, fun i j s t a ne hi hj ei ej => ?_, fun k j v hk hv => ?_⟩, ?_⟩
  · rw [app_some (β := Unit)] at hi
    obtain ⟨v, h1, h2⟩ := rep.at_ i s (map_some_at.mpr hi)
    rw [map_some_at] at h1
    refine ⟨v, by rw [hpad, app_some (β := Unit)]; exact h1, ?_⟩
    cases s with
    | dat d => exact h2
    | lst l => exact h2
  · rw [app_some (β := Unit)] at hi hj
    rw [hpad, app_some (β := Unit)] at ei ej
    exact rep.sep i j s t a ne (map_some_at.mpr hi) (map_some_at.mpr hj) (map_some_at.mpr ei) (map_some_at.mpr ej)
  · have hj : j < vs.length := by rw [hl]; exact hJ j (List.mem_of_getElem? hk)
    rw [hpad, app_some (β := Unit)]
    have hv' : (J.map fun j => vs[j]?.getD .non)[k]? = some v := hv
    rw [List.getElem?_map, hk] at hv'
    simp [List.getElem?_eq_getElem hj] at hv'
    rw [List.getElem?_eq_getElem hj, hv']
  · cases hc : c (ss.map some ++ List.replicate (N.length - n) none) with
    | nx ρ' =>
      rw [hc] at h0
      unfold finish at h0
      cases ho : outs J ρ' 0 ss with
      | none => simp only [ho] at h0; exact h0.elim
      | some r =>
        simp only [ho] at h0
        intro B' σ' H' r'
        obtain ⟨r2, c2⟩ := back r' ho
        exact h0 .non B' H' r'.b0 r2 (sres_dat .non)
    | rt s ρ' =>
      rw [hc] at h0
      unfold finish at h0
      cases ho : outs J ρ' 0 ss with
      | none => simp only [ho] at h0; exact h0.elim
      | some r =>
        simp only [ho] at h0
        intro v B' σ' H' r' q'
        obtain ⟨r2, c2⟩ := back r' ho
        exact h0 v B' H' r'.b0 r2 (c2 q')
    | exc x ρ' =>
      rw [hc] at h0
      unfold finish at h0
      cases ho : outs J ρ' 0 ss with
      | none => simp only [ho] at h0; exact h0.elim
      | some r =>
        simp only [ho] at h0
        intro B' σ' H' r'
        obtain ⟨r2, c2⟩ := back r' ho
        exact h0 B' H' r'.b0 r2
    | bk ρ' => rw [hc] at h0; exact h0.elim
    | ct ρ' => rw [hc] at h0; exact h0.elim
    | bad => rw [hc] at h0; exact h0.elim
/-- THE RULE: a def keeps its mirror's promise -/
theorem zfn {x qual : Str} {st : Stmt} {f : Addr} {fd : FuncData} {N ps : List Str} {k n : Nat} {J : List Nat} {c : CS} (F : Fun K x qual st f fd) (S : FnScope N ps (defScope st)) (hn : ps.length = n) (hNn : n ≤ N.length) (hJ : ∀ j ∈ J, j < n)
    (hbody : ∀ (X : Cx) (E : XK) (cdv : Value) (A : Around) (outer : List Env) (s : Shared) (H : Hp), X = cxOf (L2.CX P w) P w K mg base N qual (defScope st) f cdv A outer s H E → Room k X.A → Takes X (fun cls d _ H => E cls d H) → PassesOwn (model X.prog X.w) X.A X.env X.xe →
      ZSs X xc ⟨fun cls d _ H => E cls d H, J⟩ (defBody st) c) : FnOk P w K mg base (L2.CX P w) (k + 1) f fd ps (spZ K xc n (mkF n N.length J c)) := by
  refine F.okX S (fun vs H Q E h => by rw [h.1, hn]) (fun cdv A outer s H vs Q E hr h => ?_)
  exact ⟨_, hbody _ E cdv A outer s H rfl hr (takes_of rfl rfl rfl rfl) (passes_of rfl), zfn_read hNn hJ h⟩
end
/-! ### defs by name -/
/-- the def of that name keeps the promise of F, at level k -/
def Has (P : Program) (w : World) (K : PySem.W.Frag) (mg : Str → Option Value) (base : Heap) (xc : Str → Value) (x : Str) (k n : Nat) (ps : List Str) (F : Fn) : Prop :=
  ∃ (f : Addr) (fd : FuncData), FnOk P w K mg base (L2.CX P w) k f fd ps (spZ K xc n F) ∧ mg x = some (.ref f) ∧ PySem.W.keepIn K (.ref f) = true ∧ Binds K fd ps []
section
variable {P : Program} {w : World} {K : PySem.W.Frag} {mg : Str → Option Value} {base : Heap} {xc : Str → Value}
theorem Has.mk {x : Str} {k n : Nat} {ps : List Str} {F : Fn} {st : Stmt} {f : Addr} {fd : FuncData} {q : Str} (U : Fun K x q st f fd) (hm : mg x = some (.ref f)) (b : Binds K fd ps []) (h : FnOk P w K mg base (L2.CX P w) k f fd ps (spZ K xc n F)) : Has P w K mg base xc x k n ps F := ⟨f, fd, h, hm, U.kp, b⟩
end
section
variable {X : Cx} {xc : Str → Value} {W : Ww} {e : Expr} {es : List Expr} {pos p : Pos} {cx : CX'} {j k n : Nat} {ps : List Str} {F : Fn} {x : Str}
theorem ze_callH (G : Has X.prog X.w X.K X.mg X.base xc x j n ps F) (hr : Room k X.A) (tk : Takes X W.W) (ha : ZX X xc W (e :: es) cx) (hl : CX'.Len cx n) (hjk : j ≤ k := by first | decide | omega) (hn : (e :: es).length = n := by rfl) (hg : Gl X x := by rfl) (hdb : (x == ("__debug__" : Str)) = false := by decide)
    (he : starEach (e :: es) X.env = (false, eval e X.env) :: starEach es X.env := by rfl) (hpl : (backTo pos (starEach es X.env)).any (·.1) = false := by rfl) : ZE X xc W (.Call (.Name x p) (e :: es) [] pos) (cCall F cx) := by
  obtain ⟨f, fd, h, hm, hk, hb⟩ := G
  exact ze_call h (hr.mono hjk) hm hk hb tk ha hl hn hg hdb he hpl
theorem zss_bad {sts : List Stmt} : ZSs X xc W sts (fun _ => .bad) := PSs.imp pss_never fun D σ H ⟨Γ, B, ρ, rep, k⟩ => k
theorem Has.mono {P : Program} {w : World} {K : PySem.W.Frag} {mg : Str → Option Value} {base : Heap} {i j : Nat} (G : Has P w K mg base xc x i n ps F) (h : i ≤ j) : Has P w K mg base xc x j n ps F := by
  obtain ⟨f, fd, h1, h2⟩ := G
  exact ⟨f, fd, h1.mono h, h2⟩
theorem hu64 {A : Around} (hr : Room k A) : A.units + 64 < cLine := hr.units
theorem hu65 {A : Around} (hr : Room k A) : A.units + 65 < cLine := Nat.lt_of_le_of_lt (Nat.add_le_add_left (by omega : 65 ≤ 16 * k + 200) _) (by have := hr.un; omega)
end
end Z
set_option maxHeartbeats 2000000
/-! Z: statements, loops, comprehensions. -/
namespace Z
open PySem PySem.Spec PyProof.Rows L2
open Evl (Ex ex_l ex_t ex_rd)
/-! ### statements -/
theorem notin {l : List Nat} {i : Nat} (h : l.contains i = false) : i ∉ l := fun m => by rw [List.contains_iff_mem.mpr m] at h; cases h
def R.bs : R → (S → En → O) → O
  | .ok s ρ, k => k s ρ
  | .exc x ρ, _ => .exc x ρ
  | .bad, _ => .bad
def RA.bs : RA → (List PyData → En → O) → O
  | .ok s ρ, k => k s ρ
  | .exc x ρ, _ => .exc x ρ
  | .bad, _ => .bad
def O.sq : O → CS → O
  | .nx ρ, c => c ρ
  | o, _ => o
def cNext : CS := fun ρ => .nx ρ
def cSeq (a b : CS) : CS := fun ρ => (a ρ).sq b
def cRet (c : CE) : CS := fun ρ => (c ρ).bs fun s ρ => .rt s ρ
def cRetN : CS := fun ρ => .rt (.dat .none) ρ
def cDrop (c : CE) : CS := fun ρ => (c ρ).bs fun _ ρ => .nx ρ
def cSet (i : Nat) (c : CE) : CS := fun ρ => (c ρ).bs fun s ρ => .nx (ρ.set i (some s))
def cIfS (ct : CE) (a b : CS) : CS := fun ρ => (ct ρ).bs fun s ρ => match s with
  | .dat (.bool true) => a ρ
  | .dat (.bool false) => b ρ
  | _ => .bad
section
variable {K : PySem.W.Frag} {xc : Str → Value} {W : Ww} {Γ : Fm W.J} {B B' : Hp} {ρ : En} {σ : L2.St} {H : Hp}
/-- the frame whose data are those of now -/
abbrev Fm.now {J : List Nat} (Γ : Fm J) (B : Hp) : Fm J := ⟨Γ.F, B, Γ.io⟩
theorem Rep.now {J : List Nat} {Γ : Fm J} (r : Rep K Γ B ρ σ H) : Rep K (Γ.now B) B ρ σ H := ⟨r.bh, r.fh, r.fb, Ex.refl B, r.len, fun i s h => by
  obtain ⟨v, h1, h2⟩ := r.at_ i s h
  refine ⟨v, h1, ?_⟩
  cases s with
  | dat d => exact h2
  | lst l => exact h2, r.sep, r.iot⟩
theorem Rep.old {J : List Nat} {Γ : Fm J} (e : Ex Γ.B0 B) (r : Rep K (Γ.now B) B' ρ σ H) : Rep K Γ B' ρ σ H ∧ Ex B B' := ⟨⟨r.bh, r.fh, r.fb, e.trans r.b0, r.len, fun i s h => by
  obtain ⟨v, h1, h2⟩ := r.at_ i s h
  refine ⟨v, h1, ?_⟩
  cases s with
  | dat d => exact h2
  | lst l => exact h2, r.sep, r.iot⟩, r.b0⟩
theorem SRes.old {J : List Nat} {Γ : Fm J} {s : S} {v : V} (r : SRes K (Γ.now B) B' ρ σ H s v) : SRes K Γ B' ρ σ H s v := by
  refine ⟨?_, r.2⟩
  have h := r.1
  cases s with
  | dat d => exact h
  | lst l => exact h
theorem outS_now {D : Ends} (e : Ex Γ.B0 B) : ∀ {o : O}, outS K xc W Γ D o → outS K xc W (Γ.now B) D o
  | .nx ρ', h => fun B' σ' H' r => h B' σ' H' (Rep.old e r).1
  | .rt s ρ', h => fun v B' σ' H' r q => h v B' σ' H' (Rep.old e r).1 q.old
  | .bk ρ', h => fun B' σ' H' r => h B' σ' H' (Rep.old e r).1
  | .ct ρ', h => fun B' σ' H' r => h B' σ' H' (Rep.old e r).1
  | .exc x ρ', h => fun B' σ' H' r => h B' σ' H' (Rep.old e r).1
  | .bad, h => h
/-- an expression within a statement -/
theorem tz_bs {c : CE} {k : S → En → O} {D : Ends} {Q' : VK} (rep : Rep K Γ B ρ σ H) (h : outS K xc W Γ D ((c ρ).bs k))
    (next : ∀ v B' H' s ρ', Ex B B' → Rep K Γ B' ρ' σ H' → SRes K Γ B' ρ' σ H' s v → outS K xc W Γ D (k s ρ') → Q' v H') : tZ K xc W c σ H Q' := by
  refine ⟨Γ, B, ρ, rep, ?_⟩
  cases hc : c ρ with
  | ok s ρ1 =>
    rw [hc] at h
    intro v B1 H1 e1 r1 q1
    exact next v B1 H1 s ρ1 e1 r1 q1 h
  | exc x ρ1 =>
    rw [hc] at h
    exact fun B' H' e r => h B' σ H' r
  | bad =>
    rw [hc] at h
    exact h
theorem tza_bs {c : CA} {k : List PyData → En → O} {D : Ends} {Q' : List V → Hp → Prop} (rep : Rep K Γ B ρ σ H) (h : outS K xc W Γ D ((c ρ).bs k))
    (next : ∀ vs B' H' ds ρ', Ex B B' → Rep K Γ B' ρ' σ H' → DpAll K B' vs ds → outS K xc W Γ D (k ds ρ') → Q' vs H') : tZA K xc W c σ H Q' := by
  refine ⟨Γ, B, ρ, rep, ?_⟩
  cases hc : c ρ with
  | ok s ρ1 =>
    rw [hc] at h
    intro v B1 H1 e1 r1 q1
    exact next v B1 H1 s ρ1 e1 r1 q1 h
  | exc x ρ1 =>
    rw [hc] at h
    exact fun B' H' e r => h B' σ H' r
  | bad =>
    rw [hc] at h
    exact h
theorem tzt_bs {c : CE} {k : S → En → O} {D : Ends} {Q' : Bool → Hp → Prop} (rep : Rep K Γ B ρ σ H) (h : outS K xc W Γ D ((c ρ).bs k)) (hk : ∀ s ρ', (∀ b, s ≠ .dat (.bool b)) → k s ρ' = .bad)
    (next : ∀ b B' H' ρ', Ex B B' → Rep K Γ B' ρ' σ H' → outS K xc W Γ D (k (.dat (.bool b)) ρ') → Q' b H') : tZT K xc W c σ H Q' := by
  refine ⟨Γ, B, ρ, rep, ?_⟩
  cases hc : c ρ with
  | ok s ρ1 =>
    rw [hc] at h
    have h' : outS K xc W Γ D (k s ρ1) := h
    by_cases e : ∃ b, s = .dat (.bool b)
    · obtain ⟨b, rfl⟩ := e
      exact ⟨b, rfl, fun B1 H1 e1 r1 => next b B1 H1 ρ1 e1 r1 h'⟩
    · rw [hk s ρ1 fun b z => e ⟨b, z⟩] at h'
      exact h'.elim
  | exc x ρ1 =>
    rw [hc] at h
    exact fun B' H' e r => h B' σ H' r
  | bad =>
    rw [hc] at h
    exact h
theorem outS_sq {D : Ends} {c : CS} {o : O} (h : outS K xc W Γ D (o.sq c)) : outS K xc W Γ { D with nx := fun σ' H' => tZS K xc W c D σ' H' } o := by
  cases o with
  | nx ρ' => exact fun B' σ' H' r => ⟨Γ, B', ρ', r, h⟩
  | rt s ρ' => exact h
  | bk ρ' => exact h
  | ct ρ' => exact h
  | exc x ρ' => exact h
  | bad => exact h
end
section
variable {X : Cx} {xc : Str → Value} {W : Ww} {e : Expr} {es : List Expr} {st : Stmt} {rest : List Stmt} {pos : Pos} {ca : CE} {c d : CS}
theorem zss_nil : ZSs X xc W [] cNext := PSs.imp pss_nil fun D σ H ⟨Γ, B, ρ, rep, k⟩ => k B σ H rep
theorem zss_cons (h1 : ZS X xc W st c) (h2 : ZSs X xc W rest d) : ZSs X xc W (st :: rest) (cSeq c d) := PSs.imp (pss_cons h1 h2) fun D σ H ⟨Γ, B, ρ, rep, k⟩ => ⟨Γ, B, ρ, rep, outS_sq k⟩
theorem zss_one (h1 : ZS X xc W st c) : ZSs X xc W [st] c := pss_one h1
theorem zs_pass : ZS X xc W (.Pass pos) cNext := PS.imp ps_pass fun D σ H ⟨Γ, B, ρ, rep, k⟩ => k B σ H rep
def cBrk : CS := fun ρ => .bk ρ
def cCnt : CS := fun ρ => .ct ρ
theorem zs_break : ZS X xc W (.Break pos) cBrk := PS.imp ps_break fun D σ H ⟨Γ, B, ρ, rep, k⟩ => k B σ H rep
theorem zs_continue : ZS X xc W (.Continue pos) cCnt := PS.imp ps_continue fun D σ H ⟨Γ, B, ρ, rep, k⟩ => k B σ H rep
theorem zs_ret (he : ZE X xc W e ca) : ZS X xc W (.Return (some e) pos) (cRet ca) := PS.imp (ps_ret he) fun D σ H ⟨Γ, B, ρ, rep, k⟩ => tz_bs rep k fun v B' H' s ρ' e1 r1 q1 k1 => k1 v B' σ H' r1 q1
theorem zs_retN : ZS X xc W (.Return none pos) cRetN := PS.imp ps_retN fun D σ H ⟨Γ, B, ρ, rep, k⟩ => k .non B σ H rep (sres_dat .non)
theorem zs_expr (he : ZE X xc W e ca) (hs : swapsWith e none pos.line X.env = pure false := by rfl) : ZS X xc W (.Expr e pos) (cDrop ca) := PS.imp (ps_expr he hs) fun D σ H ⟨Γ, B, ρ, rep, k⟩ => tz_bs rep k fun v B' H' s ρ' e1 r1 q1 k1 => k1 B' σ H' r1
theorem zs_set {i : Nat} {x : Str} {pos' : Pos} (hN : X.N.Nodup) (hi : X.N[i]? = some x) (hx : Loc X.env.scope x) (he : ZE X xc W e ca) (hJ : W.J.contains i = false := by rfl) (hs : swapsWith e (some (.Name x pos')) pos.line X.env = pure false := by rfl)
    (hf : X.fn x = true ∨ X.env.scope.names.lookup x = some .local := by first | exact .inl rfl | exact .inr rfl | assumption) : ZS X xc W (.Assign [.Name x pos'] e pos) (cSet i ca) :=
  PS.imp (ps_set hN hi hx he hs hf) fun D σ H ⟨Γ, B, ρ, rep, k⟩ => tz_bs rep k fun v B' H' s ρ' e1 r1 q1 k1 => k1 B' _ H' (r1.slot i (notin hJ) (q1.drop i))
theorem zs_if {t : Expr} {a b : List Stmt} (hc : ZT X xc W t ca) (ha : ZSs X xc W a c) (hb : ZSs X xc W b d) : ZS X xc W (.If t a b pos) (cIfS ca c d) :=
  PS.imp (ps_if hc ha hb) fun D σ H ⟨Γ, B, ρ, rep, k⟩ => tzt_bs rep k (fun s ρ' hd => by
    cases s with
    | lst l => rfl
    | dat d => cases d with
      | bool b => exact absurd rfl (hd b)
      | none | int _ | str _ | list _ | tuple _ | dict _ => rfl) fun b B1 H1 ρ1 e1 r1 k1 => by
    cases b with
    | true => exact iteT ⟨Γ, B1, ρ1, r1, k1⟩
    | false => exact iteF ⟨Γ, B1, ρ1, r1, k1⟩
/-! ### targets -/
abbrev CG := PyData → En → Option En
/-- only the slots gs have changed -/
def Diff (gs : List Nat) (σ σ' : L2.St) : Prop := σ'.length = σ.length ∧ ∀ i, i ∉ gs → σ'[i]? = σ[i]?
def gZ (K : PySem.W.Frag) (J : List Nat) (gs : List Nat) (cg : CG) : TG := fun v σ H Q => ∃ (Γ : Fm J) (B : Hp) (ρ ρ' : En) (d : PyData), Rep K Γ B ρ σ H ∧ Dp K B v d ∧ cg d ρ = some ρ' ∧ ∀ σ', Rep K Γ B ρ' σ' H → Diff gs σ σ' → Q σ' H
def gsZ (K : PySem.W.Frag) (J : List Nat) (gs : List Nat) (cg : List PyData → En → Option En) : TGs := fun vs σ H Q => ∃ (Γ : Fm J) (B : Hp) (ρ ρ' : En) (ds : List PyData), Rep K Γ B ρ σ H ∧ DpAll K B vs ds ∧ cg ds ρ = some ρ' ∧ ∀ σ', Rep K Γ B ρ' σ' H → Diff gs σ σ' → Q σ' H
abbrev ZG (X : Cx) (W : Ww) (tg : Expr) (gs : List Nat) (cg : CG) : Prop := PG X tg (gZ X.K W.J gs cg)
abbrev ZGs (X : Cx) (W : Ww) (tgs : List Expr) (gs : List Nat) (cg : List PyData → En → Option En) : Prop := PGs X tgs (gsZ X.K W.J gs cg)
theorem Diff.refl (gs : List Nat) (σ : L2.St) : Diff gs σ σ := ⟨rfl, fun _ _ => rfl⟩
theorem Diff.set {i : Nat} {v : Option V} (σ : L2.St) : Diff [i] σ (σ.set i v) := ⟨List.length_set, fun j hj => List.getElem?_set_ne (fun e => hj (by rw [e]; exact List.mem_cons_self))⟩
theorem Diff.trans {g1 g2 : List Nat} {σ σ1 σ2 : L2.St} (a : Diff g1 σ σ1) (b : Diff g2 σ1 σ2) : Diff (g1 ++ g2) σ σ2 := ⟨b.1.trans a.1, fun j hj => by
  rw [List.mem_append] at hj
  exact (b.2 j fun z => hj (.inr z)).trans (a.2 j fun z => hj (.inl z))⟩
theorem PG.imp {X : Cx} {tg : Expr} {t t' : TG} (h : PG X tg t) (m : ∀ v σ H Q, t' v σ H Q → t v σ H Q) : PG X tg t' := ⟨fun pins s σ H v u Q I r q => h.run pins s σ H v u Q I r (m v σ H Q q)⟩
theorem PGs.imp {X : Cx} {tg : List Expr} {t t' : TGs} (h : PGs X tg t) (m : ∀ v σ H Q, t' v σ H Q → t v σ H Q) : PGs X tg t' := ⟨fun pins s σ H v u Q I r q => h.run pins s σ H v u Q I r (m v σ H Q q)⟩
def cgName (i : Nat) : CG := fun d ρ => some (ρ.set i (some (.dat d)))
theorem zg_name {i : Nat} {x : Str} (hN : X.N.Nodup) (hi : X.N[i]? = some x) (hx : Loc X.env.scope x) (hJ : W.J.contains i = false := by rfl) (hf : X.fn x = true ∨ X.env.scope.names.lookup x = some .local := by first | exact .inl rfl | exact .inr rfl | assumption) : ZG X W (.Name x pos) [i] (cgName i) :=
  PG.imp (pg_name hN hi hx hf) fun v σ H Q ⟨Γ, B, ρ, ρ', d, rep, hd, h1, h⟩ => by
    have e : ρ.set i (some (.dat d)) = ρ' := Option.some.inj h1
    subst e
    exact h _ (rep.slot i (notin hJ) (sres_dat hd)) (Diff.set σ)
def cgNil : List PyData → En → Option En
  | [], ρ => some ρ
  | _, _ => none
def cgCons (a : CG) (b : List PyData → En → Option En) : List PyData → En → Option En
  | d :: ds, ρ => match a d ρ with
    | some ρ1 => b ds ρ1
    | none => none
  | _, _ => none
theorem zgs_nil : ZGs X W [] [] cgNil := PGs.imp pgs_nil fun vs σ H Q ⟨Γ, B, ρ, ρ', ds, rep, hd, h1, h⟩ => by
  cases hd with
  | nil =>
    have e : ρ = ρ' := Option.some.inj h1
    subst e
    exact ⟨rfl, h σ rep (Diff.refl _ _)⟩
  | cons _ _ => cases h1
theorem zgs_cons {g1 g2 : List Nat} {a : CG} {b : List PyData → En → Option En} (h1 : ZG X W e g1 a) (h2 : ZGs X W es g2 b) (hs : (assignEach (e :: es) X.env).map (·.2) = assign e X.env :: (assignEach es X.env).map (·.2) := by rfl) : ZGs X W (e :: es) (g1 ++ g2) (cgCons a b) :=
  PGs.imp (pgs_cons h1 h2 hs) fun vs σ H Q ⟨Γ, B, ρ, ρ', ds, rep, hd, h1, h⟩ => by
    cases hd with
    | nil => cases h1
    | @cons v vs d ds hd hds =>
      have h1' : (match a d ρ with
        | some ρ1 => b ds ρ1
        | none => none) = some ρ' := h1
      cases ha : a d ρ with
      | none => rw [ha] at h1'; cases h1'
      | some ρ1 =>
        rw [ha] at h1'
        exact ⟨v, vs, rfl, Γ, B, ρ, ρ1, d, rep, hd, ha, fun σ1 r1 d1 => ⟨Γ, B, ρ1, ρ', ds, r1, hds, h1', fun σ2 r2 d2 => h σ2 r2 (d1.trans d2)⟩⟩
def cgTup (n : Nat) (b : List PyData → En → Option En) : CG := fun d ρ => match d with
  | .tuple ds => bif ds.length == n then b ds ρ else none
  | _ => none
theorem zg_tup {gs : List Nat} {b : List PyData → En → Option En} {k n : Nat} (hc : X.calm = true) (h : ZGs X W es gs b) (hn : (assignEach es X.env).length = n := by rfl) (hst : (assignEach es X.env).findIdx? (·.1) = none := by rfl) : ZG X W (.Tuple es k pos) gs (cgTup n b) :=
  PG.imp (pg_tup hc h hn hst) fun v σ H Q ⟨Γ, B, ρ, ρ', d, rep, hd, h1, h⟩ => by
    unfold cgTup at h1
    cases d with
    | tuple ds =>
      obtain ⟨a, xs, rfl, k1, k2⟩ := dp_tup hd
      simp only at h1
      cases hl : (ds.length == n) with
      | false => rw [hl] at h1; cases h1
      | true =>
        rw [hl] at h1
        exact ⟨a, xs, rfl, ex_t rep.bh k1, by rw [dpAll_len k2]; exact eq_of_beq hl, Γ, B, ρ, ρ', ds, rep, k2, h1, h⟩
    | none | bool _ | int _ | str _ | list _ | dict _ => cases h1
def cgLst (n : Nat) (b : List PyData → En → Option En) : CG := fun d ρ => match d with
  | .list ds => bif ds.length == n then b ds ρ else none
  | _ => none
theorem zg_lst {gs : List Nat} {b : List PyData → En → Option En} {k n : Nat} (hc : X.calm = true) (h : ZGs X W es gs b) (hn : (assignEach es X.env).length = n := by rfl) (hst : (assignEach es X.env).findIdx? (·.1) = none := by rfl) : ZG X W (.Tuple es k pos) gs (cgLst n b) :=
  PG.imp (pg_lst hc h hn hst) fun v σ H Q ⟨Γ, B, ρ, ρ', d, rep, hd, h1, h⟩ => by
    unfold cgLst at h1
    cases d with
    | list ds =>
      obtain ⟨a, xs, rfl, k1, k2⟩ := dp_list hd
      simp only at h1
      cases hl : (ds.length == n) with
      | false => rw [hl] at h1; cases h1
      | true =>
        rw [hl] at h1
        exact ⟨a, xs, rfl, ex_l rep.bh k1, by rw [dpAll_len k2]; exact eq_of_beq hl, Γ, B, ρ, ρ', ds, rep, k2, h1, h⟩
    | none | bool _ | int _ | str _ | tuple _ | dict _ => cases h1
/-- targets = a value that is unpacked -/
def cAsg (g : CG) (c : CE) : CS := fun ρ => (c ρ).bs fun s ρ => match g s.d ρ with
  | some ρ' => .nx ρ'
  | none => .bad
theorem zs_asg {gs : List Nat} {tg : Expr} {g : CG} (he : ZE X xc W e ca) (hg : ZG X W tg gs g) (hs : swapsWithSole [tg] e pos.line X.env = pure false := by rfl) (hw : swappedStores [tg] e X.env = pure none := by rfl)
    (h1 : (assignEach [tg] X.env).map (·.2) = [assign tg X.env] := by rfl) : ZS X xc W (.Assign [tg] e pos) (cAsg g ca) :=
  PS.imp (ps_asg he hg hs hw h1) fun D σ H ⟨Γ, B, ρ, rep, k⟩ => tz_bs rep k fun v B1 H1 s ρ1 e1 r1 q1 k1 => by
    obtain ⟨B2, e2, r2, q2⟩ := SRes.data r1 q1
    cases hg' : g s.d ρ1 with
    | none => rw [hg'] at k1; exact k1.elim
    | some ρ2 =>
      rw [hg'] at k1
      exact ⟨Γ, B2, ρ1, ρ2, s.d, r2, q2, hg', fun σ' r3 _ => k1 B2 σ' H1 r3⟩
/-- a, b = x, y -/
def cPar (i j : Nat) (c : CA) : CS := fun ρ => (c ρ).bs fun ds ρ => match ds with
  | [a, b] => .nx ((ρ.set i (some (.dat a))).set j (some (.dat b)))
  | _ => .bad
theorem zs_par {i j : Nat} {x y : Str} {a b : Expr} {cas : CA} {px py pt pt2 : Pos} {kt k2 : Nat} (hc : X.calm = true) (hN : X.N.Nodup) (hi : X.N[i]? = some x) (hj : X.N[j]? = some y) (hij : i ≠ j)
    (hx : X.env.scope.names.lookup x = some .local) (hy : X.env.scope.names.lookup y = some .local) (ha : ZA X xc W [a, b] cas)
    (hw : swappedStores [.Tuple [.Name x px, .Name y py] kt pt] (.Tuple [a, b] k2 pt2) X.env = pure (some [x, y])) (hJi : W.J.contains i = false := by rfl) (hJj : W.J.contains j = false := by rfl)
    (hs : swapsWithSole [.Tuple [.Name x px, .Name y py] kt pt] (.Tuple [a, b] k2 pt2) pos.line X.env = pure false := by rfl) :
    ZS X xc W (.Assign [.Tuple [.Name x px, .Name y py] kt pt] (.Tuple [a, b] k2 pt2) pos) (cPar i j cas) :=
  PS.imp (ps_par hc hN hi hj hij hx hy ha.run hw hs) fun D σ H ⟨Γ, B, ρ, rep, k⟩ => tza_bs rep k fun vs B1 H1 ds ρ1 e1 r1 q1 k1 => by
    cases q1 with
    | nil => exact k1.elim
    | cons h1 t1 =>
      cases t1 with
      | nil => exact k1.elim
      | cons h2 t2 =>
        cases t2 with
        | cons _ _ => exact k1.elim
        | nil => exact ⟨_, _, rfl, k1 B1 _ H1 ((r1.slot i (notin hJi) (sres_dat h1)).slot j (notin hJj) (sres_dat h2))⟩
end
/-! ### a list of one's own is changed -/
section
variable {K : PySem.W.Frag} {J : List Nat} {Γ : Fm J} {B : Hp} {ρ : En} {σ : L2.St} {H : Hp}
theorem Rep.own (rep : Rep K Γ B ρ σ H) {i : Nat} {l : List PyData} (hi : ρ[i]? = some (some (.lst l))) : ∃ a xs, σ[i]? = some (some (.ref a)) ∧ H a = some (.lst xs) ∧ DpAll K B xs l ∧
    ∀ (ys : List V) (m : List PyData), DpAll K B ys m → Rep K Γ B (ρ.set i (some (.lst m))) σ (upd H a (.lst ys)) := by
  obtain ⟨v, h1, a, xs, rfl, k1, k2, k3, k5⟩ := rep.at_ i _ hi
  refine ⟨a, xs, h1, k3, k5, fun ys m hm => ?_⟩
  have hlt : i < ρ.length := (List.getElem?_eq_some_iff.mp hi).1
  have oth : ∀ {j : Nat} {s : S}, i ≠ j → (ρ.set i (some (.lst m)))[j]? = some (some s) → ρ[j]? = some (some s) := fun {j s} ne h => by rwa [List.getElem?_set_ne ne] at h
  have any : ∀ {j : Nat} {l : List PyData}, (ρ.set i (some (.lst m)))[j]? = some (some (.lst l)) → ∃ l', ρ[j]? = some (some (.lst l')) := fun {j l} h => by
    by_cases e : i = j
    · subst e
      exact ⟨_, hi⟩
    · exact ⟨l, oth e h⟩
  refine ⟨fun b o h => ?_, fun b o h => ?_, rep.fb, rep.b0, by rw [List.length_set]; exact rep.len, fun j s hj => ?_, fun j k s t b ne hj hk ej ek => ?_, rep.iot⟩
  · rw [upd_ne (ne_of_none h k1)]
    exact rep.bh b o h
  · rw [upd_ne (ne_of_none h k2)]
    exact rep.fh b o h
  · by_cases e : i = j
    · subst e
      rw [List.getElem?_set_self hlt] at hj
      have e2 : S.lst m = s := by injection hj with e; injection e
      subst e2
      exact ⟨.ref a, h1, a, ys, rfl, k1, k2, upd_same, hm⟩
    · have hj' := oth e hj
      obtain ⟨v, g1, g2⟩ := rep.at_ j s hj'
      refine ⟨v, g1, ?_⟩
      cases s with
      | dat d => exact g2
      | lst l' =>
        obtain ⟨b, zs, rfl, j1, j2, j3, j5⟩ := g2
        have ne : b ≠ a := fun z => by
          subst z
          exact rep.sep i j l l' b e hi hj' h1 g1
        exact ⟨b, zs, rfl, j1, j2, by rw [upd_ne ne]; exact j3, j5⟩
  · obtain ⟨s', hs'⟩ := any hj
    obtain ⟨t', ht'⟩ := any hk
    exact rep.sep j k s' t' b ne hs' ht' ej ek
end
section
variable {X : Cx} {xc : Str → Value} {W : Ww} {o e ix : Expr} {pos tpos cpos apos : Pos} {ca ci : CE}
/-- name.append(e) -/
def cApp (i : Nat) (c : CE) : CS := fun ρ => match ρ[i]? with
  | some (some (.lst _)) => (c ρ).bs fun s ρ => match ρ[i]? with
    | some (some (.lst l)) => bif decide (l.length < sizeLine) then .nx (ρ.set i (some (.lst (l ++ [s.d])))) else .bad
    | _ => .bad
  | _ => .bad
theorem zs_append {i : Nat} (ho : PE X o (tVar i)) (he : ZE X xc W e ca)
    (hbase : attributeBase o "append" X.env (eval o X.env) = eval o X.env := by rfl)
    (hfew : ((backTo cpos (starEach [e] X.env)).all (fun x => !x.1) && (backToKw cpos (keywordEach [] X.env)).all (fun x => x.1.isSome)
      && decide ([e].length + ([] : List Keyword).length + (if ([] : List Keyword).isEmpty then 0 else 1) < 30)) = true := by rfl)
    (hline : (apos.endLine == cpos.line) = true := by rfl) (hs : starEach [e] X.env = (false, eval e X.env) :: starEach [] X.env := by rfl) (hplain : (backTo cpos (starEach [] X.env)).any (·.1) = false := by rfl)
    (hsw : swapsWith (.Call (.Attribute o "append" apos) [e] [] cpos) none pos.line X.env = pure false := by rfl) :
    ZS X xc W (.Expr (.Call (.Attribute o "append" apos) [e] [] cpos) pos) (cApp i ca) :=
  PS.imp (ps_expr (pe_bm PySem.F.plainAttrs_list PySem.F.slot_list_append PySem.F.type_list_append mt_append ho (pa_cons he pa_nil hs) hbase hfew hline hs hplain) hsw) fun D σ H ⟨Γ, B, ρ, rep, k⟩ => by
    unfold cApp at k
    split at k
    · rename_i l0 hi
      obtain ⟨a, xs, h1, h2, h3, _⟩ := rep.own hi
      refine ⟨_, h1, .inl ⟨rfl, xs, .inl (.inl h2)⟩, ?_⟩
      refine tz_bs rep k fun v B1 H1 s ρ1 e1 r1 q1 k1 => ?_
      obtain ⟨B2, e2, r2, q2⟩ := SRes.data r1 q1
      split at k1
      · rename_i l hl
        cases hd : decide (l.length < sizeLine) with
        | false => rw [hd] at k1; exact k1.elim
        | true =>
          rw [hd] at k1
          obtain ⟨b, ys, g1, g2, g3, g4⟩ := r2.own hl
          rw [h1] at g1
          cases g1
          exact ⟨a, ys, v, rfl, rfl, g2, by rw [dpAll_len g3]; exact of_decide_eq_true hd, k1 B2 σ _ (g4 _ _ (dpAll_app g3 (.cons q2 .nil)))⟩
      · exact k1.elim
    · exact k.elim
/-- name[ix] = e, a list of one's own -/
def cSetIx (i : Nat) (ci c : CE) : CS := fun ρ => (c ρ).bs fun s ρ => match ρ[i]? with
  | some (some (.lst _)) => (ci ρ).bs fun t ρ => match ρ[i]?, t.d with
    | some (some (.lst l)), .int k => match ixN l.length k with
      | some j => .nx (ρ.set i (some (.lst (l.set j s.d))))
      | none => .bad
    | _, _ => .bad
  | _ => .bad
theorem zs_setIx {i : Nat} (ho : PE X o (tVar i)) (hix : ZE X xc W ix ci) (he : ZE X xc W e ca)
    (ha : ∀ v, assign (.Subscript o ix tpos) X.env v = (do
      let ov ← holding [v] (eval o X.env)
      let iv ← holding [v, ov] (eval ix X.env)
      standAt tpos
      holding [v, ov, iv] (setItem ov iv v)
      release [v, ov, iv] []) := by intro _; rfl) (hs : swapsWithSole [.Subscript o ix tpos] e pos.line X.env = pure false := by rfl) (hw : swappedStores [.Subscript o ix tpos] e X.env = pure none := by rfl)
    (h1 : (assignEach [.Subscript o ix tpos] X.env).map (·.2) = [assign (.Subscript o ix tpos) X.env] := by rfl) : ZS X xc W (.Assign [.Subscript o ix tpos] e pos) (cSetIx i ci ca) :=
  PS.imp (ps_asg he (pg_sub ho hix set_list ha) hs hw h1) fun D σ H ⟨Γ, B, ρ, rep, k⟩ => tz_bs rep k fun v B1 H1 s ρ1 e1 r1 q1 k1 => by
    obtain ⟨B2, e2, r2, q2⟩ := SRes.data r1 q1
    split at k1
    · rename_i l0 hi
      obtain ⟨a, xs, h1, h2, h3, _⟩ := r2.own hi
      refine ⟨_, h1, ?_⟩
      refine tz_bs r2 k1 fun iv B3 H3 t ρ3 e3 r3 q3 k3 => ?_
      obtain ⟨B4, e4, r4, q4⟩ := SRes.data r3 q3
      split at k3
      · rename_i l kk hl ht
        rw [ht] at q4
        rw [dp_int q4]
        obtain ⟨b, ys, g1, g2, g3, g4⟩ := r4.own hl
        rw [h1] at g1
        cases g1
        cases hj : ixN l.length kk with
        | none => rw [hj] at k3; exact k3.elim
        | some j =>
          rw [hj] at k3
          exact ⟨a, ys, kk, j, rfl, rfl, g2, by rw [dpAll_len g3]; exact hj, k3 B4 σ _ (g4 _ _ (dpAll_set j (dp_mono (e3.trans e4) q2) g3))⟩
      · exact k3.elim
    · exact k1.elim
end
/-! ### what a loop walks -/
/-- an iterator over these items -/
def ItOk (K : PySem.W.Frag) (B1 : Hp) (It : L2.It) (ds : List PyData) : Prop := ∀ {J : List Nat} {Γ : Fm J} {B : Hp} {ρ : En} {σ : L2.St} {H : Hp}, Rep K Γ B ρ σ H → Ex B1 B →
  (∀ (i : Nat) d, ds[i]? = some d → It.go i H ∧ ∀ x H', It.yld i H x H' → ∃ B', Ex B B' ∧ Rep K Γ B' ρ σ H' ∧ Dp K B' x d ∧ (∀ a o, H a = some o → H' a = some o)) ∧ It.stop ds.length H
section
variable (K : PySem.W.Frag) (xc : Str → Value) (W : Ww)
def outI (Γ : Fm W.J) (B : Hp) (σ : L2.St) (Q : L2.It → Hp → Prop) : RA → Prop
  | .ok ds ρ' => ∀ It B' H', Ex B B' → Rep K Γ B' ρ' σ H' → ItOk K B' It ds → Q It H'
  | .exc x ρ' => ∀ B' H', Ex B B' → Rep K Γ B' ρ' σ H' → W.W (xc x) none σ H'
  | .bad => False
def iZ (c : CA) : TI := fun σ H Q => ∃ (Γ : Fm W.J) (B : Hp) (ρ : En), Rep K Γ B ρ σ H ∧ outI K xc W Γ B σ Q (c ρ)
end
abbrev ZI (X : Cx) (xc : Str → Value) (W : Ww) (tg iter : Expr) (c : CA) : Prop := PI X tg iter (iZ X.K xc W c)
section
variable {X : Cx} {xc : Str → Value} {W : Ww} {tg e iter : Expr} {pos p : Pos} {ca : CE} {cas : CA}
theorem PI.imp {t t' : TI} (h : PI X tg iter t) (m : ∀ σ H Q, t' σ H Q → t σ H Q) : PI X tg iter t' := ⟨fun pins s σ H R I q => h.run pins s σ H R I (m σ H R q)⟩
/-- a list, a tuple or a text -/
theorem pi_seq {l : Expr} {tl : TE} (hl : PE X l tl) : PI X tg l (fun σ H R => tl σ H fun x H1 => (∃ z, x = .str z ∧ R (Its z) H1) ∨ ∃ a, x = .ref a ∧ (((∃ xs, SqL X.K H1 a xs) ∧ R (Itl X.K a) H1) ∨ ((∃ xs, SqT X.K H1 a xs) ∧ R (Itt X.K a) H1))) := by
  refine ⟨fun pins s σ H R I h => ?_⟩
  refine thn (hl.run pins s σ H _ I h) fun v s1 ⟨x, H1, I1, r1, q1⟩ => ?_
  rcases q1 with ⟨z, ex, q⟩ | ⟨a, e, q⟩
  · subst ex
    obtain ⟨t, rfl⟩ := r1
    cases ha : z.cps.all (· < 128)
    · exact wpAny_pyIter_wide ha (pi_one (tk := s1.toks) I1 _ (turn_str _ z t "str_iterator" (.inr rfl)) ⟨_, Heap.get?_push_size _ rfl, rfl, rfl⟩ q)
    · exact wpAny_pyIter_ascii ha (pi_one (tk := s1.toks) I1 _ (turn_str _ z t "str_ascii_iterator" (.inl rfl)) ⟨_, Heap.get?_push_size _ rfl, rfl, rfl⟩ q)
  subst e
  cases r1
  rcases q with ⟨⟨xs, hq⟩, q⟩ | ⟨⟨xs, hq⟩, q⟩
  · obtain ⟨its, rv, p, hz⟩ := I1.list hq
    refine wpAny_pyIter_list p.isList ?_
    refine ⟨s1.heap.objs.size, [s1.heap.objs.size], _, _, H1, rfl, I1.kept (t' := s1.toks) fun b o e => Heap.get?_push_of_some _ e, turn_list a _, ⟨_, Heap.get?_push_size _ rfl, rfl, rfl⟩, fun b hb => ?_, q⟩
    have e : b = s1.heap.objs.size := by simpa using hb
    subst e
    exact I1.fpOk (Nat.le_refl _) (I1.hok.fresh (Nat.le_refl _))
  · obtain ⟨its, rv, p, hz⟩ := I1.tuple hq
    refine wpAny_pyIter_tuple (show s1.heap.IsTuple a its.toArray from p) ?_
    refine ⟨s1.heap.objs.size, [s1.heap.objs.size], _, _, H1, rfl, I1.kept (t' := s1.toks) fun b o e => Heap.get?_push_of_some _ e, turn_tuple a _, ⟨_, Heap.get?_push_size _ rfl, rfl, rfl⟩, fun b hb => ?_, q⟩
    have e : b = s1.heap.objs.size := by simpa using hb
    subst e
    exact I1.fpOk (Nat.le_refl _) (I1.hok.fresh (Nat.le_refl _))
def R.bi : R → (PyData → En → RA) → RA := R.ba
/-- the signs of a text -/
def strL (z : Str) : List PyData := z.cps.toList.map fun c => .str ⟨#[c]⟩
theorem its_ok {K : PySem.W.Frag} {B : Hp} (z : Str) : ItOk K B (Its z) (strL z) := fun {J Γ B' ρ σ H} rep e => by
  refine ⟨fun i d hd => ?_, show z.cps.size ≤ (strL z).length by simp [strL]⟩
  unfold strL at hd
  rw [List.getElem?_map] at hd
  by_cases hi : i < z.cps.size
  · refine ⟨hi, fun x H' ⟨eH, c, hc, hx⟩ => ?_⟩
    subst eH
    subst hx
    rw [Array.getElem?_toList, hc] at hd
    have hd' : PyData.str ⟨#[c]⟩ = d := Option.some.inj hd
    subst hd'
    exact ⟨B', Ex.refl _, rep, .str _, fun _ _ h => h⟩
  · rw [Array.getElem?_toList, Array.getElem?_eq_none (by omega)] at hd
    cases hd
/-- the items of a list, of a tuple, of a text -/
def ciSeq (c : CE) : CA := fun ρ => (c ρ).ba fun d ρ => match d with
  | .list l => .ok l ρ
  | .tuple l => .ok l ρ
  | .str z => .ok (strL z) ρ
  | _ => .bad
theorem itl_ok {K : PySem.W.Frag} {B : Hp} {a : Addr} {xs : List V} {ds : List PyData} (h1 : SqL K B a xs) (h2 : DpAll K B xs ds) : ItOk K B (Itl K a) ds := fun {J Γ B' ρ σ H} rep e => by
  have hH := ex_l (e.trans rep.bh) h1
  refine ⟨fun i d hd => ?_, xs, hH, by rw [dpAll_len h2]; exact Nat.le_refl _⟩
  obtain ⟨v, g1, g2⟩ := dpAll_get h2 hd
  refine ⟨⟨xs, v, hH, g1⟩, fun x H' ⟨eH, hx⟩ => ?_⟩
  subst eH
  have := hx xs hH
  rw [g1] at this
  cases this
  exact ⟨B', Ex.refl _, rep, dp_mono e g2, fun _ _ h => h⟩
theorem itt_ok {K : PySem.W.Frag} {B : Hp} {a : Addr} {xs : List V} {ds : List PyData} (h1 : SqT K B a xs) (h2 : DpAll K B xs ds) : ItOk K B (Itt K a) ds := fun {J Γ B' ρ σ H} rep e => by
  have hH := ex_t (e.trans rep.bh) h1
  refine ⟨fun i d hd => ?_, xs, hH, by rw [dpAll_len h2]; exact Nat.le_refl _⟩
  obtain ⟨v, g1, g2⟩ := dpAll_get h2 hd
  refine ⟨⟨xs, v, hH, g1⟩, fun x H' ⟨eH, hx⟩ => ?_⟩
  subst eH
  have := hx xs hH
  rw [g1] at this
  cases this
  exact ⟨B', Ex.refl _, rep, dp_mono e g2, fun _ _ h => h⟩
/-- the same as tz_ba, where items are wanted -/
theorem tz_bi {K : PySem.W.Frag} {Γ : Fm W.J} {B : Hp} {ρ : En} {σ : L2.St} {H : Hp} {c : CE} {k : PyData → En → RA} {Q : L2.It → Hp → Prop} {Q' : VK} (rep : Rep K Γ B ρ σ H) (h : outI K xc W Γ B σ Q ((c ρ).ba k))
    (next : ∀ v B' H' d ρ', Ex B B' → Rep K Γ B' ρ' σ H' → Dp K B' v d → outI K xc W Γ B' σ Q (k d ρ') → Q' v H') : tZ K xc W c σ H Q' := by
  refine ⟨Γ, B, ρ, rep, ?_⟩
  have mono : ∀ {B' : Hp} {r : RA}, Ex B B' → outI K xc W Γ B σ Q r → outI K xc W Γ B' σ Q r := fun {B' r} e h => by
    cases r with
    | ok ds ρ' => exact fun It B2 H2 e2 r2 q => h It B2 H2 (e.trans e2) r2 q
    | exc x ρ' => exact fun B2 H2 e2 r2 => h B2 H2 (e.trans e2) r2
    | bad => exact h
  cases hc : c ρ with
  | ok s ρ1 =>
    rw [hc] at h
    intro v B1 H1 e1 r1 q1
    obtain ⟨B2, e2, r2, q2⟩ := SRes.data r1 q1
    exact next v B2 H1 s.d ρ1 (e1.trans e2) r2 q2 (mono (e1.trans e2) h)
  | exc x ρ1 =>
    rw [hc] at h
    exact h
  | bad =>
    rw [hc] at h
    exact h
theorem zi_seq (h : ZE X xc W iter ca) : ZI X xc W tg iter (ciSeq ca) := PI.imp (pi_seq h) fun σ H Q ⟨Γ, B, ρ, rep, k⟩ => tz_bi rep k fun v B1 H1 d ρ1 e1 r1 q1 k1 => by
  cases d with
  | list l =>
    obtain ⟨a, xs, rfl, h1, h2⟩ := dp_list q1
    exact .inr ⟨a, rfl, .inl ⟨⟨xs, ex_l r1.bh h1⟩, k1 _ B1 H1 (Ex.refl _) r1 (itl_ok h1 h2)⟩⟩
  | tuple l =>
    obtain ⟨a, xs, rfl, h1, h2⟩ := dp_tup q1
    exact .inr ⟨a, rfl, .inr ⟨⟨xs, ex_t r1.bh h1⟩, k1 _ B1 H1 (Ex.refl _) r1 (itt_ok h1 h2)⟩⟩
  | str z =>
    cases dp_str q1
    exact .inl ⟨z, rfl, k1 _ B1 H1 (Ex.refl _) r1 (its_ok z)⟩
  | none | bool _ | int _ | dict _ => exact k1.elim
def rangeL (lo : Int) (n : Nat) : List PyData := (List.range n).map fun (k : Nat) => .int (lo + k)
theorem itr_ok {K : PySem.W.Frag} {B : Hp} (lo : Int) (n : Nat) : ItOk K B (Itr lo n) (rangeL lo n) := fun {J Γ B' ρ σ H} rep e => by
  refine ⟨fun i d hd => ?_, show n ≤ (rangeL lo n).length by simp [rangeL]⟩
  unfold rangeL at hd
  rw [List.getElem?_map] at hd
  by_cases hi : i < n
  · rw [List.getElem?_range hi] at hd
    have hd' : PyData.int (lo + i) = d := Option.some.inj hd
    subst hd'
    refine ⟨hi, fun x H' ⟨eH, hx⟩ => ?_⟩
    subst eH
    subst hx
    exact ⟨B', Ex.refl _, rep, .int _, fun _ _ h => h⟩
  · rw [List.getElem?_eq_none (by rw [List.length_range]; omega)] at hd
    cases hd
def ciRange1 (c : CA) : CA := fun ρ => (c ρ).ba fun ds ρ => match ds with
  | [.int j] => bif decide (-(2 ^ 62) ≤ j ∧ j < 2 ^ 62) then .ok (rangeL 0 j.toNat) ρ else .bad
  | _ => .bad
def ciRange2 (c : CA) : CA := fun ρ => (c ρ).ba fun ds ρ => match ds with
  | [.int i, .int j] => bif decide (-(2 ^ 62) ≤ i ∧ i < 2 ^ 62 ∧ -(2 ^ 62) ≤ j ∧ j < 2 ^ 62) then .ok (rangeL i (j - i).toNat) ρ else .bad
  | _ => .bad
theorem tza_bi {K : PySem.W.Frag} {Γ : Fm W.J} {B : Hp} {ρ : En} {σ : L2.St} {H : Hp} {c : CA} {k : List PyData → En → RA} {Q : L2.It → Hp → Prop} {Q' : List V → Hp → Prop} (rep : Rep K Γ B ρ σ H) (h : outI K xc W Γ B σ Q ((c ρ).ba k))
    (next : ∀ v B' H' d ρ', Ex B B' → Rep K Γ B' ρ' σ H' → DpAll K B' v d → outI K xc W Γ B' σ Q (k d ρ') → Q' v H') : tZA K xc W c σ H Q' := by
  refine ⟨Γ, B, ρ, rep, ?_⟩
  have mono : ∀ {B' : Hp} {r : RA}, Ex B B' → outI K xc W Γ B σ Q r → outI K xc W Γ B' σ Q r := fun {B' r} e h => by
    cases r with
    | ok ds ρ' => exact fun It B2 H2 e2 r2 q => h It B2 H2 (e.trans e2) r2 q
    | exc x ρ' => exact fun B2 H2 e2 r2 => h B2 H2 (e.trans e2) r2
    | bad => exact h
  cases hc : c ρ with
  | ok s ρ1 =>
    rw [hc] at h
    intro v B1 H1 e1 r1 q1
    exact next v B1 H1 s ρ1 e1 r1 q1 (mono e1 h)
  | exc x ρ1 =>
    rw [hc] at h
    exact h
  | bad =>
    rw [hc] at h
    exact h
theorem zi_range1 {a : Expr} (hg : Gl X "range") (hm : X.mg "range" = none) (ha : ZA X xc W [a] cas) (hs : starEach [a] X.env = [(false, eval a X.env)] := by rfl) : ZI X xc W tg (.Call (.Name "range" p) [a] [] pos) (ciRange1 cas) :=
  PI.imp (pi_range1 hg hm ha.run hs) fun σ H Q ⟨Γ, B, ρ, rep, k⟩ => tza_bi rep k fun vs B1 H1 ds ρ1 e1 r1 q1 k1 => by
    split at k1
    · rename_i j
      cases q1 with
      | cons h t =>
        cases t
        rw [dp_int h]
        cases hd : decide (-(2 ^ 62) ≤ j ∧ j < 2 ^ 62) with
        | false => rw [hd] at k1; exact k1.elim
        | true =>
          rw [hd] at k1
          have hb := of_decide_eq_true hd
          exact ⟨j, rfl, hb.1, hb.2, k1 _ B1 H1 (Ex.refl _) r1 (itr_ok 0 j.toNat)⟩
    · exact k1.elim
theorem zi_range2 {a b : Expr} (hg : Gl X "range") (hm : X.mg "range" = none) (ha : ZA X xc W [a, b] cas) (hs : starEach [a, b] X.env = [(false, eval a X.env), (false, eval b X.env)] := by rfl) (hs2 : starEach [b] X.env = [(false, eval b X.env)] := by rfl) :
    ZI X xc W tg (.Call (.Name "range" p) [a, b] [] pos) (ciRange2 cas) :=
  PI.imp (pi_range2 hg hm ha.run hs hs2) fun σ H Q ⟨Γ, B, ρ, rep, k⟩ => tza_bi rep k fun vs B1 H1 ds ρ1 e1 r1 q1 k1 => by
    split at k1
    · rename_i i j
      cases q1 with
      | cons h t =>
        cases t with
        | cons h2 t2 =>
          cases t2
          rw [dp_int h, dp_int h2]
          cases hd : decide (-(2 ^ 62) ≤ i ∧ i < 2 ^ 62 ∧ -(2 ^ 62) ≤ j ∧ j < 2 ^ 62) with
          | false => rw [hd] at k1; exact k1.elim
          | true =>
            rw [hd] at k1
            have hb := of_decide_eq_true hd
            exact ⟨i, j, rfl, hb, k1 _ B1 H1 (Ex.refl _) r1 (itr_ok i (j - i).toNat)⟩
    · exact k1.elim
end
/-! ### for, while -/
def forL (g : CG) (body : CS) : List PyData → En → O
  | [], ρ => .nx ρ
  | d :: ds, ρ => match g d ρ with
    | none => .bad
    | some ρ1 => match body ρ1 with
      | .nx ρ2 => forL g body ds ρ2
      | .ct ρ2 => forL g body ds ρ2
      | .bk ρ2 => .nx ρ2
      | .rt s ρ2 => .rt s ρ2
      | .exc x ρ2 => .exc x ρ2
      | .bad => .bad
def cFor (src : CA) (g : CG) (body : CS) : CS := fun ρ => (src ρ).bs fun ds ρ => forL g body ds ρ
def whileL (t : CE) (body : CS) : Nat → En → O
  | 0, _ => .bad
  | n + 1, ρ => (t ρ).bs fun s ρ => match s with
    | .dat (.bool false) => .nx ρ
    | .dat (.bool true) => match body ρ with
      | .nx ρ2 => whileL t body n ρ2
      | .ct ρ2 => whileL t body n ρ2
      | .bk ρ2 => .nx ρ2
      | .rt s ρ2 => .rt s ρ2
      | .exc x ρ2 => .exc x ρ2
      | .bad => .bad
    | _ => .bad
section
variable {X : Cx} {xc : Str → Value} {W : Ww} {tg t iter : Expr} {body : List Stmt} {pos : Pos} {ct : CE} {cas : CA} {g : CG} {gs : List Nat} {cb : CS}
theorem zs_for (hp : PassesOwn (model X.prog X.w) X.A X.env X.xe) (hc : X.calm = true) (hi : ZI X xc W tg iter cas) (hg : ZG X W tg gs g) (hb : ZSs X xc W body cb)
    (hs : ∀ x, foldedSetIterable iter X.env x = pure x := by intro _; rfl) : ZS X xc W (.For tg iter body [] pos) (cFor cas g cb) :=
  PS.imp (ps_for hp hc hi hg hb hs) fun D σ H ⟨Γ, B, ρ, rep, k⟩ => by
    refine ⟨Γ, B, ρ, rep, ?_⟩
    unfold cFor at k
    cases hcs : cas ρ with
    | exc x ρ1 =>
      rw [hcs] at k
      exact fun B' H' e r => k B' σ H' r
    | bad => rw [hcs] at k; exact k
    | ok ds ρ1 =>
      rw [hcs] at k
      intro It B1 H1 e1 r1 hit
      refine ⟨fun i m σ H => m = ds.length - i ∧ i ≤ ds.length ∧ ∃ (B : Hp) (ρ : En), Rep X.K Γ B ρ σ H ∧ Ex B1 B ∧ outS X.K xc W Γ D (forL g cb (ds.drop i) ρ), ⟨ds.length, by simp, Nat.zero_le _, B1, ρ1, r1, Ex.refl _, k⟩, ?_⟩
      rintro i m σ H ⟨rfl, hi, B2, ρ2, r2, e2, k2⟩
      obtain ⟨h1, h2⟩ := hit r2 e2
      by_cases hlt : i < ds.length
      · obtain ⟨go, yl⟩ := h1 i ds[i] (List.getElem?_eq_getElem hlt)
        rw [List.drop_eq_getElem_cons hlt] at k2
        refine .inr ⟨go, fun σ' H' => ∃ (B : Hp) (ρ : En), Rep X.K Γ B ρ σ' H' ∧ Ex B1 B ∧ outS X.K xc W Γ D (forL g cb (ds.drop (i + 1)) ρ), fun σ' H' hN => ⟨ds.length - (i + 1), by omega, rfl, hlt, hN⟩, fun x H' hy => ?_⟩
        obtain ⟨B3, e3, r3, q3, _⟩ := yl x H' hy
        unfold forL at k2
        cases hg' : g ds[i] ρ2 with
        | none => rw [hg'] at k2; exact k2.elim
        | some ρ3 =>
          rw [hg'] at k2
          refine ⟨Γ, B3, ρ2, ρ3, _, r3, q3, hg', fun σ4 r4 _ => ?_⟩
          refine ⟨Γ.now B3, B3, ρ3, r4.now, ?_⟩
          have eb : Ex Γ.B0 B3 := r4.b0
          cases hb' : cb ρ3 with
          | nx ρ5 =>
            simp only [hb'] at k2
            intro B' σ' H' r'
            obtain ⟨r6, e6⟩ := Rep.old eb r'
            exact ⟨B', ρ5, r6, (e2.trans e3).trans e6, k2⟩
          | ct ρ5 =>
            simp only [hb'] at k2
            intro B' σ' H' r'
            obtain ⟨r6, e6⟩ := Rep.old eb r'
            exact ⟨B', ρ5, r6, (e2.trans e3).trans e6, k2⟩
          | bk ρ5 =>
            simp only [hb'] at k2
            intro B' σ' H' r'
            exact k2 B' σ' H' (Rep.old eb r').1
          | rt s ρ5 =>
            simp only [hb'] at k2
            intro v B' σ' H' r' q'
            exact k2 v B' σ' H' (Rep.old eb r').1 q'.old
          | exc x ρ5 =>
            simp only [hb'] at k2
            intro B' σ' H' r'
            exact k2 B' σ' H' (Rep.old eb r').1
          | bad => simp only [hb'] at k2; exact k2.elim
      · have e : i = ds.length := by omega
        subst e
        rw [List.drop_length] at k2
        exact .inl ⟨h2, k2 B2 σ H r2⟩
theorem zs_while {n : Nat} (hp : PassesOwn (model X.prog X.w) X.A X.env X.xe) (ht : ZT X xc W t ct) (hb : ZSs X xc W body cb) : ZS X xc W (.While t body [] pos) (whileL ct cb n) :=
  PS.imp (ps_while hp ht hb) fun D σ H ⟨Γ, B, ρ, rep, k⟩ => by
    refine ⟨fun m σ H => ∃ (B : Hp) (ρ : En), Rep X.K Γ B ρ σ H ∧ outS X.K xc W Γ D (whileL ct cb m ρ), ⟨n, B, ρ, rep, k⟩, ?_⟩
    rintro m σ H ⟨B1, ρ1, r1, k1⟩
    cases m with
    | zero => exact k1.elim
    | succ m =>
      unfold whileL at k1
      refine tzt_bs r1 k1 (fun s ρ' hd => by
        cases s with
        | lst l => rfl
        | dat d => cases d with
          | bool b => exact absurd rfl (hd b)
          | none | int _ | str _ | list _ | tuple _ | dict _ => rfl) fun b B2 H2 ρ2 e2 r2 k2 => ?_
      cases b with
      | false => exact iteF (k2 B2 σ H2 r2)
      | true =>
        refine iteT ⟨fun σ' H' => ∃ (B : Hp) (ρ : En), Rep X.K Γ B ρ σ' H' ∧ outS X.K xc W Γ D (whileL ct cb m ρ), fun σ' H' hN => ⟨m, Nat.lt_succ_self m, hN⟩, Γ, B2, ρ2, r2, ?_⟩
        cases hb' : cb ρ2 with
        | nx ρ5 =>
          simp only [hb'] at k2
          exact fun B' σ' H' r' => ⟨B', ρ5, r', k2⟩
        | ct ρ5 =>
          simp only [hb'] at k2
          exact fun B' σ' H' r' => ⟨B', ρ5, r', k2⟩
        | bk ρ5 =>
          simp only [hb'] at k2
          exact fun B' σ' H' r' => k2 B' σ' H' r'
        | rt s ρ5 =>
          simp only [hb'] at k2
          exact k2
        | exc x ρ5 =>
          simp only [hb'] at k2
          exact k2
        | bad => simp only [hb'] at k2; exact k2.elim
end
end Z
set_option maxHeartbeats 2000000
/-! Z: comprehensions, subscripts, operators, built-ins. -/
namespace Z
open PySem PySem.Spec PyProof.Rows L2
open Evl (Ex ex_l ex_t ex_rd)
/-! ### comprehensions -/
def wipeE (ρ : En) : List Nat → En
  | [] => ρ
  | v :: vs => (wipeE ρ vs).set v none
def noOwn (ρ : En) : List Nat → Bool
  | [] => true
  | v :: vs => (match ρ[v]? with
    | some (some (.lst _)) => false
    | _ => true) && noOwn ρ vs
def restoreE (ρ0 ρ : En) : List Nat → En
  | [] => ρ
  | v :: vs => match ρ0[v]? with
    | some o => (restoreE ρ0 ρ vs).set v o
    | none => restoreE ρ0 ρ vs
def lcL (vs : List Nat) (g : CG) (ct ce : CE) : List PyData → En → List PyData → RA
  | [], ρ, acc => .ok acc ρ
  | d :: ds, ρ, acc => match g d (wipeE ρ vs) with
    | none => .bad
    | some ρ1 => match ct ρ1 with
      | .ok (.dat (.bool true)) ρ2 => match ce ρ2 with
        | .ok s ρ3 => bif decide (acc.length < sizeLine) then lcL vs g ct ce ds ρ3 (acc ++ [s.d]) else .bad
        | _ => .bad
      | .ok (.dat (.bool false)) ρ2 => lcL vs g ct ce ds ρ2 acc
      | _ => .bad
def cLc (vs : List Nat) (src : CA) (g : CG) (ct ce : CE) : CE := fun ρ => match src ρ with
  | .ok ds ρ1 => bif noOwn ρ1 vs then (match lcL vs g ct ce ds ρ1 [] with
    | .ok acc ρ2 => .ok (.lst acc) (restoreE ρ1 ρ2 vs)
    | _ => .bad) else .bad
  | .exc x ρ1 => .exc x ρ1
  | .bad => .bad
theorem wipe_len' {σ : L2.St} {vs : List Nat} : (wipe σ vs).length = σ.length := wipe_length σ vs
theorem wipe_in {σ : L2.St} {i : Nat} : ∀ {vs : List Nat}, i ∈ vs → i < σ.length → (wipe σ vs)[i]? = some none
  | v :: vs, h, hl => by
    show ((wipe σ vs).set v none)[i]? = _
    by_cases e : v = i
    · subst e
      rw [List.getElem?_set_self (by rw [wipe_length]; exact hl)]
    · rw [List.getElem?_set_ne e]
      exact wipe_in ((List.mem_cons.mp h).resolve_left fun z => e z.symm) hl
theorem wipeE_out {ρ : En} {i : Nat} : ∀ {vs : List Nat}, i ∉ vs → (wipeE ρ vs)[i]? = ρ[i]?
  | [], _ => rfl
  | v :: vs, h => by
    show ((wipeE ρ vs).set v none)[i]? = _
    rw [List.getElem?_set_ne (fun e => h (by rw [e]; exact List.mem_cons_self))]
    exact wipeE_out fun z => h (List.mem_cons_of_mem _ z)
theorem wipeE_len {ρ : En} : ∀ {vs : List Nat}, (wipeE ρ vs).length = ρ.length
  | [] => rfl
  | v :: vs => by
    show ((wipeE ρ vs).set v none).length = _
    rw [List.length_set]
    exact wipeE_len
theorem wipeE_some {ρ : En} {i : Nat} {s : S} : ∀ {vs : List Nat}, (wipeE ρ vs)[i]? = some (some s) → i ∉ vs ∧ ρ[i]? = some (some s)
  | [], h => ⟨by simp, h⟩
  | v :: vs, h => by
    have h' : ((wipeE ρ vs).set v none)[i]? = some (some s) := h
    by_cases e : v = i
    · subst e
      have hl : v < (wipeE ρ vs).length := by
        have := (List.getElem?_eq_some_iff.mp h').1
        simpa using this
      rw [List.getElem?_set_self hl] at h'
      cases h'
    · rw [List.getElem?_set_ne e] at h'
      obtain ⟨h1, h2⟩ := wipeE_some h'
      exact ⟨fun z => (List.mem_cons.mp z).elim (fun q => e q.symm) h1, h2⟩
theorem wipe_diff {σ σ' : L2.St} {vs gs : List Nat} (h : ∀ i ∈ gs, i ∈ vs) (d : Diff gs (wipe σ vs) σ') : wipe σ' vs = wipe σ vs := by
  have hl : σ'.length = σ.length := by rw [d.1, wipe_length]
  apply List.ext_getElem?
  intro i
  by_cases hi : i ∈ vs
  · by_cases hlt : i < σ.length
    · rw [wipe_in hi hlt, wipe_in hi (by rw [hl]; exact hlt)]
    · rw [List.getElem?_eq_none (by rw [wipe_length, hl]; omega), List.getElem?_eq_none (by rw [wipe_length]; omega)]
  · rw [wipe_out hi, d.2 i fun z => hi (h i z)]
theorem noOwn_at {ρ : En} {i : Nat} {s : S} : ∀ {vs : List Nat}, noOwn ρ vs = true → i ∈ vs → ρ[i]? = some (some s) → ∃ d, s = .dat d
  | v :: vs, h, hi, e => by
    have h' := Bool.and_eq_true_iff.mp h
    rcases List.mem_cons.mp hi with rfl | hi
    · cases s with
      | dat d => exact ⟨d, rfl⟩
      | lst l =>
        have := h'.1
        rw [e] at this
        cases this
    · exact noOwn_at h'.2 hi e
theorem restoreE_in {ρ0 ρ : En} {i : Nat} (hl : ρ0.length = ρ.length) : ∀ {vs : List Nat}, (restoreE ρ0 ρ vs).length = ρ.length ∧ (i ∈ vs → (restoreE ρ0 ρ vs)[i]? = ρ0[i]?) ∧ (i ∉ vs → (restoreE ρ0 ρ vs)[i]? = ρ[i]?)
  | [] => ⟨rfl, fun h => by simp at h, fun _ => rfl⟩
  | v :: vs => by
    obtain ⟨h1, h2, h3⟩ := restoreE_in (vs := vs) (i := i) hl
    unfold restoreE
    cases hv : ρ0[v]? with
    | none =>
      have hge : ρ0.length ≤ v := List.getElem?_eq_none_iff.mp hv
      refine ⟨h1, fun h => ?_, fun h => h3 fun z => h (List.mem_cons_of_mem _ z)⟩
      rcases List.mem_cons.mp h with rfl | h
      · show (restoreE ρ0 ρ vs)[i]? = ρ0[i]?
        rw [List.getElem?_eq_none (by rw [h1]; omega), hv]
      · exact h2 h
    | some o =>
      have hlt : v < ρ0.length := (List.getElem?_eq_some_iff.mp hv).1
      refine ⟨by show ((restoreE ρ0 ρ vs).set v o).length = _; rw [List.length_set, h1], fun h => ?_, fun h => ?_⟩
      · show ((restoreE ρ0 ρ vs).set v o)[i]? = _
        by_cases e : v = i
        · subst e
          rw [List.getElem?_set_self (by rw [h1]; omega), hv]
        · rw [List.getElem?_set_ne e]
          exact h2 ((List.mem_cons.mp h).resolve_left fun z => e z.symm)
      · show ((restoreE ρ0 ρ vs).set v o)[i]? = _
        rw [List.getElem?_set_ne (fun e => h (by rw [e]; exact List.mem_cons_self))]
        exact h3 fun z => h (List.mem_cons_of_mem _ z)
section
variable {K : PySem.W.Frag} {J : List Nat} {Γ : Fm J} {B B1 : Hp} {ρ ρ1 : En} {σ : L2.St} {H H1 : Hp} {vs : List Nat} {D : Addr}
theorem Rep.wiped (hJ : ∀ j ∈ J, j ∉ vs) (r : Rep K Γ B ρ σ H) : Rep K Γ B (wipeE ρ vs) (wipe σ vs) H := by
  refine ⟨r.bh, r.fh, r.fb, r.b0, by rw [wipeE_len, wipe_length]; exact r.len, fun i s h => ?_, fun i j s t a ne hi hj ei ej => ?_, fun k j v hk hv => ?_⟩
  · obtain ⟨h1, h2⟩ := wipeE_some h
    rw [wipe_out h1]
    exact r.at_ i s h2
  · obtain ⟨h1, h2⟩ := wipeE_some hi
    obtain ⟨g1, g2⟩ := wipeE_some hj
    rw [wipe_out h1] at ei
    rw [wipe_out g1] at ej
    exact r.sep i j s t a ne h2 g2 ei ej
  · rw [wipe_out (hJ j (List.mem_of_getElem? hk))]
    exact r.iot k j v hk hv
/-- the frame with one more list in it -/
abbrev Fm.plus {J : List Nat} (Γ : Fm J) (D : Addr) (o : HO) : Fm J := ⟨upd Γ.F D o, Γ.B0, Γ.io⟩
theorem Rep.plus (r : Rep K Γ B ρ σ H) {o : HO} (hD : H D = none) : Rep K (Γ.plus D o) B ρ σ (upd H D o) := by
  have hb : B D = none := Evl.fresh_back r.bh hD
  have eh : Ex H (upd H D o) := Ex.new hD
  refine ⟨r.bh.trans eh, fun a u h => ?_, fun a u h => ?_, r.b0, r.len, fun i s h => ?_, r.sep, r.iot⟩
  · have h' : upd Γ.F D o a = some u := h
    by_cases e : a = D
    · subst e
      rw [upd_same] at h' ⊢
      exact h'
    · rw [upd_ne e] at h' ⊢
      exact r.fh a u h'
  · by_cases e : a = D
    · subst e
      exact hb
    · have h' : upd Γ.F D o a = some u := h
      rw [upd_ne e] at h'
      exact r.fb a u h'
  · obtain ⟨v, h1, h2⟩ := r.at_ i s h
    refine ⟨v, h1, ?_⟩
    cases s with
    | dat d => exact h2
    | lst l =>
      obtain ⟨a, xs, rfl, k1, k2, k3, k5⟩ := h2
      have ne : a ≠ D := ne_of_none k3 hD
      exact ⟨a, xs, rfl, k1, by show upd Γ.F D o a = none; rw [upd_ne ne]; exact k2, by rw [upd_ne ne]; exact k3, k5⟩
theorem Rep.bump {o o' : HO} (r : Rep K (Γ.plus D o) B ρ σ H) : Rep K (Γ.plus D o') B ρ σ (upd H D o') := by
  have hb : B D = none := r.fb D o upd_same
  refine ⟨fun a u h => ?_, fun a u h => ?_, fun a u h => ?_, r.b0, r.len, fun i s h => ?_, r.sep, r.iot⟩
  · rw [upd_ne (ne_of_none h hb)]
    exact r.bh a u h
  · have h' : upd Γ.F D o' a = some u := h
    by_cases e : a = D
    · subst e
      rw [upd_same] at h' ⊢
      exact h'
    · rw [upd_ne e] at h' ⊢
      exact r.fh a u (by show upd Γ.F D o a = some u; rw [upd_ne e]; exact h')
  · by_cases e : a = D
    · subst e
      exact hb
    · have h' : upd Γ.F D o' a = some u := h
      rw [upd_ne e] at h'
      exact r.fb a u (by show upd Γ.F D o a = some u; rw [upd_ne e]; exact h')
  · obtain ⟨v, h1, h2⟩ := r.at_ i s h
    refine ⟨v, h1, ?_⟩
    cases s with
    | dat d => exact h2
    | lst l =>
      obtain ⟨a, xs, rfl, k1, k2, k3, k5⟩ := h2
      have ne : a ≠ D := fun e => by
        subst e
        have k2' : upd Γ.F a o a = none := k2
        rw [upd_same] at k2'
        cases k2'
      have k2' : upd Γ.F D o a = none := k2
      rw [upd_ne ne] at k2'
      exact ⟨a, xs, rfl, k1, by show upd Γ.F D o' a = none; rw [upd_ne ne]; exact k2', by rw [upd_ne ne]; exact k3, k5⟩
theorem Rep.done {accV : List V} {acc : List PyData} (r1 : Rep K Γ B1 ρ1 σ H1) (hD : H1 D = none) (no : noOwn ρ1 vs = true) (e : Ex B1 B) (r : Rep K (Γ.plus D (.lst accV)) B (wipeE ρ vs) (wipe σ vs) H) (ha : DpAll K B accV acc) :
    Rep K Γ B (restoreE ρ1 ρ vs) σ H ∧ SRes K Γ B (restoreE ρ1 ρ vs) σ H (.lst acc) (.ref D) := by
  have hl : ρ1.length = ρ.length := by
    have := r.len
    rw [wipeE_len, wipe_length] at this
    rw [r1.len, this]
  have fD : Γ.F D = none := Evl.fresh_back r1.fh hD
  have own : ∀ {i : Nat} {l : List PyData}, (restoreE ρ1 ρ vs)[i]? = some (some (.lst l)) → i ∉ vs ∧ (wipeE ρ vs)[i]? = some (some (.lst l)) := fun {i l} h => by
    obtain ⟨_, h2, h3⟩ := restoreE_in (ρ0 := ρ1) (ρ := ρ) (i := i) (vs := vs) hl
    by_cases hi : i ∈ vs
    · rw [h2 hi] at h
      obtain ⟨d, hd⟩ := noOwn_at no hi h
      cases hd
    · rw [h3 hi] at h
      exact ⟨hi, by rw [wipeE_out hi]; exact h⟩
  refine ⟨⟨r.bh, fun a u h => ?_, fun a u h => ?_, r1.b0.trans e, by rw [(restoreE_in (i := 0) hl).1, ← hl]; exact r1.len, fun i s h => ?_, fun i j s t a ne hi hj ei ej => ?_, r1.iot⟩, ⟨D, accV, rfl, r.fb D _ upd_same, fD, r.fh D _ upd_same, ha⟩, fun l _ i l' hi ei => ?_⟩
  · exact r.fh a u (by show upd Γ.F D _ a = some u; rw [upd_ne (ne_of_none h fD)]; exact h)
  · exact r.fb a u (by show upd Γ.F D _ a = some u; rw [upd_ne (ne_of_none h fD)]; exact h)
  · obtain ⟨_, h2, h3⟩ := restoreE_in (ρ0 := ρ1) (ρ := ρ) (i := i) (vs := vs) hl
    by_cases hi : i ∈ vs
    · rw [h2 hi] at h
      obtain ⟨d, rfl⟩ := noOwn_at no hi h
      obtain ⟨v, g1, g2⟩ := r1.at_ i _ h
      exact ⟨v, g1, dp_mono e g2⟩
    · rw [h3 hi] at h
      obtain ⟨v, g1, g2⟩ := r.at_ i s (by rw [wipeE_out hi]; exact h)
      rw [wipe_out hi] at g1
      refine ⟨v, g1, ?_⟩
      cases s with
      | dat d => exact g2
      | lst l =>
        obtain ⟨a, xs, rfl, k1, k2, k3, k5⟩ := g2
        have k2' : upd Γ.F D (.lst accV) a = none := k2
        have ne : a ≠ D := fun e => by
          subst e
          rw [upd_same] at k2'
          cases k2'
        rw [upd_ne ne] at k2'
        exact ⟨a, xs, rfl, k1, k2', k3, k5⟩
  · obtain ⟨n1, g1⟩ := own hi
    obtain ⟨n2, g2⟩ := own hj
    refine r.sep i j s t a ne g1 g2 ?_ ?_
    · rw [wipe_out n1]; exact ei
    · rw [wipe_out n2]; exact ej
  · obtain ⟨n1, g1⟩ := own hi
    obtain ⟨v, k1, a, xs, rfl, _, k2, _⟩ := r.at_ i _ g1
    rw [wipe_out n1] at k1
    rw [k1] at ei
    have e2 : a = D := by
      injection ei with e
      injection e with e
      injection e
    subst e2
    have k2' : upd Γ.F a (.lst accV) a = none := k2
    rw [upd_same] at k2'
    cases k2'
end
section
variable {X : Cx} {xc : Str → Value} {W : Ww} {elt tg iter : Expr} {ifs : List Expr} {scope : Scope} {own : List (Str × Nat)} {pos spos : Pos} {cas : CA} {g : CG} {gs : List Nat} {ct ce : CE}
/-- inside a comprehension no exception is let out -/
abbrev W0 (W : Ww) : Ww := ⟨fun _ _ _ _ => False, W.J⟩
abbrev tcT (K : PySem.W.Frag) (xc : Str → Value) (W : Ww) (ct : CE) : TT := tZT K xc (W0 W) ct
theorem lc_read {K : PySem.W.Frag} {σ : L2.St} {H : Hp} {Q : VK} {vs : List Nat} {wi : TI} (hvs : ∀ i ∈ gs, i ∈ vs) (hJ : ∀ j ∈ W.J, j ∉ vs) (hwi : wi = iZ K xc W cas) (h : tZ K xc W (cLc vs cas g ct ce) σ H Q) :
    tLc wi (gZ K W.J gs g) (tZT K xc (W0 W) ct) (tZ K xc (W0 W) ce) vs σ H Q := by
  subst hwi
  obtain ⟨Γ, B, ρ, rep, k⟩ := h
  refine ⟨Γ, B, ρ, rep, ?_⟩
  unfold cLc at k
  cases hcs : cas ρ with
  | exc x ρ1 => rw [hcs] at k; exact k
  | bad => rw [hcs] at k; exact k
  | ok ds ρ1 =>
    rw [hcs] at k
    intro It B1 H1 e1 r1 hit D hD
    simp only at k
    cases no : noOwn ρ1 vs with
    | false => rw [no] at k; exact k.elim
    | true =>
      rw [no, cond_true] at k
      cases hl : lcL vs g ct ce ds ρ1 [] with
      | exc x ρF => rw [hl] at k; exact k.elim
      | bad => rw [hl] at k; exact k.elim
      | ok accF ρF =>
        rw [hl] at k
        refine ⟨fun i m H => m = ds.length - i ∧ i ≤ ds.length ∧ ∃ (B : Hp) (ρ : En) (acc : List PyData) (accV : List V), Rep K (Γ.plus D (.lst accV)) B (wipeE ρ vs) (wipe σ vs) H ∧ Ex B1 B ∧ DpAll K B accV acc ∧ lcL vs g ct ce (ds.drop i) ρ acc = .ok accF ρF,
          ⟨ds.length, by simp, Nat.zero_le _, B1, ρ1, [], [], (r1.wiped hJ).plus hD, Ex.refl _, .nil, hl⟩, ?_⟩
        rintro i m H ⟨rfl, hi, B2, ρ2, acc, accV, r2, e2, ha, k2⟩
        obtain ⟨h1, h2⟩ := hit r2 e2
        by_cases hlt : i < ds.length
        · obtain ⟨go, yl⟩ := h1 i ds[i] (List.getElem?_eq_getElem hlt)
          rw [List.drop_eq_getElem_cons hlt] at k2
          refine .inr ⟨go, fun H' => ∃ (B : Hp) (ρ : En) (acc : List PyData) (accV : List V), Rep K (Γ.plus D (.lst accV)) B (wipeE ρ vs) (wipe σ vs) H' ∧ Ex B1 B ∧ DpAll K B accV acc ∧ lcL vs g ct ce (ds.drop (i + 1)) ρ acc = .ok accF ρF, fun H' hN => ⟨ds.length - (i + 1), by omega, rfl, hlt, hN⟩, fun x H' hy => ?_⟩
          obtain ⟨B3, e3, r3, q3, _⟩ := yl x H' hy
          unfold lcL at k2
          cases hg' : g ds[i] (wipeE ρ2 vs) with
          | none => rw [hg'] at k2; cases k2
          | some ρ3 =>
            rw [hg'] at k2
            simp only at k2
            refine ⟨Γ.plus D (.lst accV), B3, wipeE ρ2 vs, ρ3, _, r3, q3, hg', fun σ4 r4 d4 => ?_⟩
            have ew : wipe σ4 vs = wipe σ vs := wipe_diff hvs d4
            refine ⟨ew, Γ.plus D (.lst accV), B3, ρ3, r4, ?_⟩
            cases hct : ct ρ3 with
            | exc x ρ5 => rw [hct] at k2; cases k2
            | bad => rw [hct] at k2; cases k2
            | ok s ρ5 =>
              rw [hct] at k2
              cases s with
              | lst l => cases k2
              | dat d =>
                cases d with
                | none | int _ | str _ | list _ | tuple _ | dict _ => cases k2
                | bool b =>
                  refine ⟨b, rfl, fun B6 H6 e6 r6 => ?_⟩
                  cases b with
                  | false =>
                    refine iteF ⟨B6, ρ5, acc, accV, ?_, (e2.trans e3).trans e6, dpAll_mono (e3.trans e6) ha, k2⟩
                    have := r6.wiped hJ
                    rw [ew] at this
                    exact this
                  | true =>
                    refine iteT ⟨Γ.plus D (.lst accV), B6, ρ5, r6, ?_⟩
                    simp only at k2
                    cases hce : ce ρ5 with
                    | exc x ρ7 => rw [hce] at k2; cases k2
                    | bad => rw [hce] at k2; cases k2
                    | ok s7 ρ7 =>
                      rw [hce] at k2
                      simp only at k2
                      intro y B8 H8 e8 r8 q8
                      obtain ⟨B9, e9, r9, q9⟩ := SRes.data r8 q8
                      have haz := dpAll_mono (e3.trans (e6.trans (e8.trans e9))) ha
                      cases hz : decide (acc.length < sizeLine) with
                      | false => rw [hz] at k2; cases k2
                      | true =>
                        rw [hz, cond_true] at k2
                        refine ⟨accV, r9.fh D _ upd_same, by rw [dpAll_len haz]; exact of_decide_eq_true hz, B9, ρ7, acc ++ [s7.d], accV ++ [y], ?_, (e2.trans e3).trans (e6.trans (e8.trans e9)), dpAll_app haz (.cons q9 .nil), k2⟩
                        have := (r9.wiped hJ).bump (o' := .lst (accV ++ [y]))
                        rw [ew] at this
                        exact this
        · have e : i = ds.length := by omega
          subst e
          rw [List.drop_length] at k2
          have k3 : RA.ok acc ρ2 = .ok accF ρF := k2
          cases k3
          obtain ⟨r9, q9⟩ := Rep.done r1 hD no e2 r2 ha
          exact .inl ⟨h2, k (.ref D) B2 H (e1.trans e2) r9 q9⟩
theorem all_in {l m : List Nat} (h : (l.all fun i => m.contains i) = true) : ∀ i ∈ l, i ∈ m := fun i hi => List.contains_iff_mem.mp (List.all_eq_true.mp h i hi)
theorem all_out {l m : List Nat} (h : (l.all fun j => !m.contains j) = true) : ∀ j ∈ l, j ∉ m := fun j hj hm => by
  have h1 := List.all_eq_true.mp h j hj
  rw [List.contains_iff_mem.mpr hm] at h1
  cases h1
/-- no condition -/
theorem pts_yes {X : Cx} : PTs X [] (tZT X.K xc (W0 W) (cK (.bool true))) := by
  refine ⟨fun pins s σ H Q I h => (pts_nil (X := X)).run pins s σ H Q I ?_⟩
  obtain ⟨Γ, B, ρ, rep, b, hb, k⟩ := h
  have e : true = b := by injection hb
  rw [← e] at k
  exact k B H (Ex.refl _) rep
theorem ze_lc (hc : X.calm = true) (hN : X.N.Nodup) (hi : ZI X xc W tg iter cas) (ok : BlkOk X.N X.env.scope scope own) (hvs : (gs.all fun i => (own.map (·.2)).contains i) = true) (hJ : (W.J.all fun j => !(own.map (·.2)).contains j) = true)
    (hg : ∀ (s : Shared) (H : Hp) (C : Addr) (cl : List (Str × Addr)) (fp : List Addr), PG (X.blk s H scope (compEnvC scope cl C X.env) fp) tg (gZ X.K W.J gs g))
    (ht : ∀ (s : Shared) (H : Hp) (C : Addr) (cl : List (Str × Addr)) (fp : List Addr), PTs (X.blk s H scope (compEnvC scope cl C X.env) fp) ifs (tZT X.K xc (W0 W) ct))
    (he : ∀ (s : Shared) (H : Hp) (C : Addr) (cl : List (Str × Addr)) (fp : List Addr), PE (X.blk s H scope (compEnvC scope cl C X.env) fp) elt (tZ X.K xc (W0 W) ce)) (hs : ∀ x, foldedSetIterable iter X.env x = pure x := by intro _; rfl) :
    ZE X xc W (.ListComp elt [⟨tg, iter, ifs, 0⟩] scope pos) (cLc (own.map (·.2)) cas g ct ce) := PE.imp (pe_lc hc hN hi ok hg ht he hs) fun σ H Q h => lc_read (all_in hvs) (all_out hJ) rfl h
/-- name = [..] on one line -/
theorem zs_setLc {i : Nat} {y : Str} {py : Pos} (hc : X.calm = true) (hN : X.N.Nodup) (hy : X.N[i]? = some y) (hyl : X.env.scope.names.lookup y = some .local)
    (hsw : swapsWith (.ListComp elt [⟨tg, iter, ifs, 0⟩] scope pos) (some (.Name y py)) spos.line X.env = pure true) (hi : ZI X xc W tg iter cas) (ok : BlkOk X.N X.env.scope scope own) (hvs : (gs.all fun i => (own.map (·.2)).contains i) = true) (hJ : (W.J.all fun j => !(own.map (·.2)).contains j) = true)
    (hg : ∀ (s : Shared) (H : Hp) (C : Addr) (cl : List (Str × Addr)) (fp : List Addr), PG (X.blk s H scope (compEnvC scope cl C X.env) fp) tg (gZ X.K W.J gs g))
    (ht : ∀ (s : Shared) (H : Hp) (C : Addr) (cl : List (Str × Addr)) (fp : List Addr), PTs (X.blk s H scope (compEnvC scope cl C X.env) fp) ifs (tZT X.K xc (W0 W) ct))
    (he : ∀ (s : Shared) (H : Hp) (C : Addr) (cl : List (Str × Addr)) (fp : List Addr), PE (X.blk s H scope (compEnvC scope cl C X.env) fp) elt (tZ X.K xc (W0 W) ce)) (hJi : W.J.contains i = false := by rfl) (hs : ∀ x, foldedSetIterable iter X.env x = pure x := by intro _; rfl) :
    ZS X xc W (.Assign [.Name y py] (.ListComp elt [⟨tg, iter, ifs, 0⟩] scope pos) spos) (cSet i (cLc (own.map (·.2)) cas g ct ce)) :=
  PS.imp (ps_setLc hc hN hy hyl hsw hi ok hg ht he hs) fun D σ H ⟨Γ, B, ρ, rep, k⟩ => by
    have h : tZ X.K xc W (cLc (own.map (·.2)) cas g ct ce) σ H fun x H1 => gName i x σ H1 D.nx := tz_bs rep k fun v B' H' s ρ' e1 r1 q1 k1 => k1 B' _ H' (r1.slot i (notin hJi) (q1.drop i))
    exact lc_read (all_in hvs) (all_out hJ) rfl h
end
/-! ### what is read in place -/
section
variable (K : PySem.W.Frag) (xc : Str → Value) (W : Ww)
inductive RB where
  | ok (a : Ar) (ρ : En)
  | exc (x : Str) (ρ : En)
  | bad
abbrev CB := En → RB
def outB (Γ : Fm W.J) (B : Hp) (σ : L2.St) (Q : VK) : RB → Prop
  | .ok a ρ' => ∀ v B' H', Ex B B' → Rep K Γ B' ρ' σ H' → ArAt K B' σ v a → Q v H'
  | .exc x ρ' => ∀ B' H', Ex B B' → Rep K Γ B' ρ' σ H' → W.W (xc x) none σ H'
  | .bad => False
def tZB (c : CB) : TE := fun σ H Q => ∃ (Γ : Fm W.J) (B : Hp) (ρ : En), Rep K Γ B ρ σ H ∧ outB K xc W Γ B σ Q (c ρ)
end
def resolve (ρ : En) : Ar → Option PyData
  | .d d => some d
  | .s i => match ρ[i]? with
    | some (some s) => some s.d
    | _ => none
def cbN (i : Nat) : CB := fun ρ => match ρ[i]? with
  | some (some _) => .ok (.s i) ρ
  | _ => .bad
def cbD (c : CE) : CB := fun ρ => match c ρ with
  | .ok s ρ => .ok (.d s.d) ρ
  | .exc x ρ => .exc x ρ
  | .bad => .bad
def RB.bd : RB → (Ar → En → R) → R
  | .ok a ρ, k => k a ρ
  | .exc x ρ, _ => .exc x ρ
  | .bad, _ => .bad
section
variable {X : Cx} {xc : Str → Value} {W : Ww} {a b e : Expr} {es : List Expr} {pos p2 : Pos} {ca ci : CE} {cb : CB} {cas : CA}
abbrev ZB (X : Cx) (xc : Str → Value) (W : Ww) (e : Expr) (c : CB) : Prop := PE X e (tZB X.K xc W c)
theorem zb_n {i : Nat} (h : PE X e (tVar i)) : ZB X xc W e (cbN i) := PE.imp h fun σ H Q ⟨Γ, B, ρ, rep, k⟩ => by
  unfold cbN at k
  cases hi : ρ[i]? with
  | none => rw [hi] at k; exact k.elim
  | some o =>
    cases o with
    | none => rw [hi] at k; exact k.elim
    | some s =>
      rw [hi] at k
      obtain ⟨v, h1, _⟩ := rep.at_ i _ hi
      exact ⟨v, h1, k v B H (Ex.refl _) rep h1⟩
theorem zb_d (h : ZE X xc W e ca) : ZB X xc W e (cbD ca) := PE.imp h fun σ H Q ⟨Γ, B, ρ, rep, k⟩ => by
  refine ⟨Γ, B, ρ, rep, ?_⟩
  unfold cbD at k
  cases hc : ca ρ with
  | ok s ρ1 =>
    rw [hc] at k
    intro v B1 H1 e1 r1 q1
    obtain ⟨B2, e2, r2, q2⟩ := SRes.data r1 q1
    exact k v B2 H1 (e1.trans e2) r2 q2
  | exc x ρ1 => rw [hc] at k; exact k
  | bad => rw [hc] at k; exact k
theorem resolve_pk {K : PySem.W.Frag} {J : List Nat} {Γ : Fm J} {B B1 : Hp} {ρ : En} {σ : L2.St} {H : Hp} {v : V} {ar : Ar} {d : PyData} (rep : Rep K Γ B ρ σ H) (eb : Ex B1 B) (h : ArAt K B1 σ v ar) (hr : resolve ρ ar = some d) : Pk K B H v d := by
  cases ar with
  | d d' =>
    cases hr
    exact .inl (dp_mono eb h)
  | s i =>
    unfold resolve at hr
    cases hi : ρ[i]? with
    | none => simp only [hi] at hr; cases hr
    | some o =>
      cases o with
      | none => simp only [hi] at hr; cases hr
      | some s =>
        simp only [hi] at hr
        cases hr
        obtain ⟨u, h1, h2⟩ := rep.at_ i _ hi
        have h' : σ[i]? = some (some v) := h
        rw [h'] at h1
        cases h1
        cases s with
        | dat d => exact .inl h2
        | lst l =>
          obtain ⟨c, xs, rfl, k1, k2, k3, k5⟩ := h2
          exact .inr ⟨c, xs, l, rfl, rfl, .inl (.inl k3), k5⟩
theorem tzb_bd {K : PySem.W.Frag} {Γ : Fm W.J} {B : Hp} {ρ : En} {σ : L2.St} {H : Hp} {k : Ar → En → R} {Q Q' : VK} (rep : Rep K Γ B ρ σ H) (h : outZ K xc W Γ B σ Q ((cb ρ).bd k))
    (next : ∀ v B' H' ar ρ', Ex B B' → Rep K Γ B' ρ' σ H' → ArAt K B' σ v ar → outZ K xc W Γ B' σ Q (k ar ρ') → Q' v H') : tZB K xc W cb σ H Q' := by
  refine ⟨Γ, B, ρ, rep, ?_⟩
  cases hc : cb ρ with
  | ok s ρ1 =>
    rw [hc] at h
    intro v B1 H1 e1 r1 q1
    exact next v B1 H1 s ρ1 e1 r1 q1 (outZ_mono e1 h)
  | exc x ρ1 => rw [hc] at h; exact h
  | bad => rw [hc] at h; exact h
/-- an operation on a thing read in place -/
def cB1 (g : PyData → Option S) (cb : CB) : CE := fun ρ => (cb ρ).bd fun ar ρ => match resolve ρ ar with
  | some d => R.lift (g d) ρ
  | none => .bad
def cB2 (g : PyData → PyData → Option S) (cb : CB) (ci : CE) : CE := fun ρ => (cb ρ).bd fun ar ρ => (ci ρ).bd fun e ρ => match resolve ρ ar with
  | some d => R.lift (g d e) ρ
  | none => .bad
theorem ze_ix {r : R2} {g : PyData → PyData → Option S} (hr : IxR X r) (ho : Op2P X.K r g) (ha : ZB X xc W a cb) (hb : ZE X xc W b ci) (hs : PlainIx b) : ZE X xc W (.Subscript a b pos) (cB2 g cb ci) :=
  PE.imp (pe_ix hr ha hb hs) fun σ H Q ⟨Γ, B, ρ, rep, k⟩ => tzb_bd rep k fun x B1 H1 ar ρ1 e1 r1 q1 k1 => tz_bd r1 k1 fun y B2 H2 e ρ2 e2 r2 q2 k2 => by
    cases hres : resolve ρ2 ar with
    | none => rw [hres] at k2; exact k2.elim
    | some d =>
      rw [hres] at k2
      obtain ⟨s, hs, af⟩ := out_lift k2
      exact ho W.J Γ B2 ρ2 σ H2 x y d e s Q r2 (resolve_pk r2 e2 q1 hres) q2 hs af
def gIx : PyData → PyData → Option S
  | .list l, .int k => (atI l k).map .dat
  | .tuple l, .int k => (atI l k).map .dat
  | .str z, .int k => bif decide (z.length ≤ sizeLine) then (atI z.cps.toList k).map fun c => .dat (.str ⟨#[c]⟩) else none
  | _, _ => none
theorem dpAll_atI {K : PySem.W.Frag} {B : Hp} {xs : List V} {ds : List PyData} (h : DpAll K B xs ds) {k : Int} {d : PyData} (e : atI ds k = some d) : ∃ v, atI xs k = some v ∧ Dp K B v d := by
  unfold atI at e ⊢
  rw [dpAll_len h]
  cases hj : ixN ds.length k with
  | none => rw [hj] at e; cases e
  | some j =>
    rw [hj] at e
    exact dpAll_get h e
theorem op_ix {K : PySem.W.Frag} : Op2P K (rIx K) gIx := by
  intro J Γ B ρ σ H x y d e s Q rep hx hy hs af
  unfold gIx at hs
  split at hs
  · rename_i l k
    obtain ⟨a, rfl⟩ := hx.refL
    obtain ⟨xs, h1, h2⟩ := hx.list rep
    cases hv : atI l k with
    | none => rw [hv] at hs; cases hs
    | some v =>
      rw [hv] at hs
      cases hs
      obtain ⟨u, g1, g2⟩ := dpAll_atI h2 hv
      exact .inl ⟨a, xs, k, u, rfl, dp_int hy, h1, g1, After.now rep af g2⟩
  · rename_i l k
    obtain ⟨a, xs, rfl, h1, h2⟩ := dp_tup (hx.dp fun l e => by cases e)
    cases hv : atI l k with
    | none => rw [hv] at hs; cases hs
    | some v =>
      rw [hv] at hs
      cases hs
      obtain ⟨u, g1, g2⟩ := dpAll_atI h2 hv
      exact .inr (.inl ⟨a, xs, k, u, rfl, dp_int hy, ex_t rep.bh h1, g1, After.now rep af g2⟩)
  · rename_i z k
    have hz := dp_str (hx.dp fun l e => by cases e)
    cases hd : decide (z.length ≤ sizeLine) with
    | false => rw [hd] at hs; cases hs
    | true =>
      rw [hd, cond_true] at hs
      cases hv : atI z.cps.toList k with
      | none => rw [hv] at hs; cases hs
      | some c =>
        rw [hv] at hs
        cases hs
        exact .inr (.inr ⟨z, k, c, hz, dp_int hy, of_decide_eq_true hd, hv, After.now rep af (.str _)⟩)
  · cases hs
theorem ze_item (ha : ZB X xc W a cb) (hb : ZE X xc W b ci) (hs : PlainIx b) : ZE X xc W (.Subscript a b pos) (cB2 gIx cb ci) := ze_ix ix_seq op_ix ha hb hs
/-! ### slices -/
def R.bo : R → (Int → En → R) → R
  | .ok s ρ, k => match s.d with
    | .int i => k i ρ
    | _ => .bad
  | .exc x ρ, _ => .exc x ρ
  | .bad, _ => .bad
/-- a part of a slice -/
def cOpt (c : Option CE) (k : Option Int → En → R) : CE := fun ρ => match c with
  | none => k none ρ
  | some c => (c ρ).bo fun i ρ => k (some i) ρ
def tZO (K : PySem.W.Frag) (xc : Str → Value) (W : Ww) (c : Option CE) : TO := match c with
  | none => tNoPart
  | some c => tPart (tZ K xc W c)
abbrev ZO (X : Cx) (xc : Str → Value) (W : Ww) (e : Option Expr) (c : Option CE) : Prop := PO X e (tZO X.K xc W c)
theorem zo_none : ZO X xc W none none := po_none
theorem zo_some (h : ZE X xc W e ca) : ZO X xc W (some e) (some ca) := po_some h
theorem tzo {K : PySem.W.Frag} {Γ : Fm W.J} {B : Hp} {ρ : En} {σ : L2.St} {H : Hp} {c : Option CE} {k : Option Int → En → R} {Q : VK} {Q' : Option Int → Hp → Prop} (rep : Rep K Γ B ρ σ H) (h : outZ K xc W Γ B σ Q (cOpt c k ρ))
    (next : ∀ o B' H' ρ', Ex B B' → Rep K Γ B' ρ' σ H' → outZ K xc W Γ B' σ Q (k o ρ') → Q' o H') : tZO K xc W c σ H Q' := by
  cases c with
  | none => exact next none B H ρ (Ex.refl _) rep h
  | some c =>
    refine ⟨Γ, B, ρ, rep, ?_⟩
    unfold cOpt at h
    simp only at h
    cases hc : c ρ with
    | ok s ρ1 =>
      rw [hc] at h
      intro v B1 H1 e1 r1 q1
      obtain ⟨B2, e2, r2, q2⟩ := SRes.data r1 q1
      unfold R.bo at h
      simp only at h
      split at h
      · rename_i i hi
        rw [hi] at q2
        exact ⟨i, dp_int q2, next (some i) B2 H1 ρ1 (e1.trans e2) r2 (outZ_mono (e1.trans e2) h)⟩
      · exact h.elim
    | exc x ρ1 => rw [hc] at h; exact h
    | bad => rw [hc] at h; exact h
def cutD {α : Type} (xs : List α) (lo hi : Option Int) : List α := (xs.drop (HT.sIx xs.length 0 lo)).take (HT.sIx xs.length xs.length hi - HT.sIx xs.length 0 lo)
def gSl (d : PyData) (lo hi : Option Int) : Option S := match d with
  | .list l => some (.lst (cutD l lo hi))
  | .tuple l => some (.dat (.tuple (cutD l lo hi)))
  | _ => none
def cSl (g : PyData → Option Int → Option Int → Option S) (cb : CB) (lo hi : Option CE) : CE := fun ρ => (cb ρ).bd fun ar ρ => cOpt lo (fun l ρ => cOpt hi (fun u ρ => match resolve ρ ar with
  | some d => R.lift (g d l u) ρ
  | none => .bad) ρ) ρ
theorem cutV_whole {xs : List V} {lo hi : Option Int} (h : HT.sIx xs.length 0 lo = 0 ∧ HT.sIx xs.length xs.length hi = xs.length) : cutV xs lo hi = xs := by
  unfold cutV
  rw [h.1, h.2]
  simp
theorem ze_slice {lo hi : Option Expr} {cl ch : Option CE} (ha : ZB X xc W a cb) (hl : ZO X xc W lo cl) (hh : ZO X xc W hi ch) : ZE X xc W (.Subscript a (.Slice lo hi none p2) pos) (cSl gSl cb cl ch) :=
  PE.imp (pe_slice (SlR.or sl_list sl_tupA) ha hl hh) fun σ H Q ⟨Γ, B, ρ, rep, k⟩ => tzb_bd rep k fun x B1 H1 ar ρ1 e1 r1 q1 k1 => tzo r1 k1 fun l B2 H2 ρ2 e2 r2 k2 => tzo r2 k2 fun u B3 H3 ρ3 e3 r3 k3 => by
    cases hres : resolve ρ3 ar with
    | none => rw [hres] at k3; exact k3.elim
    | some d =>
      rw [hres] at k3
      obtain ⟨s, hs, af⟩ := out_lift k3
      have pk := resolve_pk r3 (e2.trans e3) q1 hres
      unfold gSl at hs
      split at hs
      · rename_i ds
        cases hs
        obtain ⟨c, rfl⟩ := pk.refL
        obtain ⟨xs, h1, h2⟩ := pk.list r3
        exact .inl ⟨c, xs, rfl, h1, fun p hp => After.lst r3 af (dpAll_cut h2 l u) hp⟩
      · rename_i ds
        cases hs
        obtain ⟨c, xs, rfl, h1, h2⟩ := dp_tup (pk.dp fun l e => by cases e)
        refine .inr ⟨c, xs, rfl, ex_t r3.bh h1, fun hw => ?_, fun hw p hp => After.tup r3 af (dpAll_cut h2 l u) hp⟩
        have h3 := dpAll_cut h2 l u
        rw [cutV_whole hw] at h3
        exact After.now r3 af (.tup h1 h3)
      · cases hs
end
end Z
set_option maxHeartbeats 2000000
/-! Z: operators, built-ins. -/
namespace Z
open PySem PySem.Spec PyProof.Rows L2
open Evl (Ex ex_l ex_t ex_rd)
/-! ### numbers -/
def CFd (_ j : Int) : Prop := j ≠ 0 ∧ j.natAbs.log2 < 9000
instance (i j : Int) : Decidable (CFd i j) := inferInstanceAs (Decidable (_ ∧ _))
instance (i j : Int) : Decidable (CMulW i j) := inferInstanceAs (Decidable (_ < _))
instance (i j : Int) : Decidable (CPow i j) := inferInstanceAs (Decidable (_ ∧ _ ∧ _))
def gAdd : PyData → PyData → Option S
  | .int i, .int j => some (.dat (.int (i + j)))
  | .str a, .str b => bif decide (a.length + b.length ≤ sizeLine) then some (.dat (.str (a ++ b))) else none
  | .tuple a, .tuple b => bif decide (a.length + b.length ≤ sizeLine) then some (.dat (.tuple (a ++ b))) else none
  | .list a, .list b => bif decide (a.length + b.length ≤ sizeLine) then some (.lst (a ++ b)) else none
  | _, _ => none
def gSub : PyData → PyData → Option S
  | .int i, .int j => some (.dat (.int (i - j)))
  | _, _ => none
def gMul : PyData → PyData → Option S
  | .int i, .int j => bif decide (CMulW i j) then some (.dat (.int (i * j))) else none
  | _, _ => none
def gFd : PyData → PyData → Option S
  | .int i, .int j => bif decide (CFd i j) then some (.dat (.int (i.fdiv j))) else none
  | _, _ => none
def gMod : PyData → PyData → Option S
  | .int i, .int j => bif decide (0 < j) then some (.dat (.int (i % j))) else none
  | _, _ => none
def gPow : PyData → PyData → Option S
  | .int i, .int j => bif decide (CPow i j) then some (.dat (.int (i ^ j.toNat))) else none
  | _, _ => none
def gNeg : PyData → Option S
  | .int i => some (.dat (.int (-i)))
  | _ => none
def gLt : PyData → PyData → Option S
  | .int i, .int j => some (.dat (.bool (decide (i < j))))
  | _, _ => none
def gLe : PyData → PyData → Option S
  | .int i, .int j => some (.dat (.bool (decide (i ≤ j))))
  | _, _ => none
def gGt : PyData → PyData → Option S
  | .int i, .int j => some (.dat (.bool (decide (j < i))))
  | _, _ => none
def gGe : PyData → PyData → Option S
  | .int i, .int j => some (.dat (.bool (decide (j ≤ i))))
  | _, _ => none
def gEq (d e : PyData) : Option S := bif SeqAt.shaped d && SeqAt.shaped e then some (.dat (.bool (PyData.eqv d e))) else none
def gNe (d e : PyData) : Option S := bif SeqAt.shaped d && SeqAt.shaped e then some (.dat (.bool (!PyData.eqv d e))) else none
def gIn (d e : PyData) : Option S := match e with
  | .list es => bif SeqAt.shaped d && SeqAt.shaped (.list es) then some (.dat (.bool (es.any fun z => PyData.eqv z d))) else none
  | .tuple es => bif SeqAt.shaped d && SeqAt.shaped (.tuple es) then some (.dat (.bool (es.any fun z => PyData.eqv z d))) else none
  | .str z => match d with
    | .str c => bif decide (c.length = 1) then some (.dat (.bool (decide (c.cps.getD 0 0 ∈ z.cps.toList)))) else none
    | _ => none
  | _ => none
def gNotIn (d e : PyData) : Option S := match gIn d e with
  | some (.dat (.bool b)) => some (.dat (.bool (!b)))
  | _ => none
def gIs : PyData → PyData → Option S
  | .bool a, .bool b => some (.dat (.bool (decide (a = b))))
  | .none, .none => some (.dat (.bool true))
  | .int _, .none => some (.dat (.bool false))
  | .bool _, .none => some (.dat (.bool false))
  | .str _, .none => some (.dat (.bool false))
  | .list _, .none => some (.dat (.bool false))
  | .tuple _, .none => some (.dat (.bool false))
  | _, _ => none
def gIsN (d e : PyData) : Option S := match e with
  | .bool b => match d with
    | .bool a => some (.dat (.bool (!decide (a = b))))
    | _ => none
  | .none => match gIs d e with
    | some (.dat (.bool b)) => some (.dat (.bool (!b)))
    | _ => none
  | _ => none
section
variable {X : Cx}
theorem op_fdX : OpR X (binaryOp .FloorDiv) (rI CFd fun i j => .int (i.fdiv j)) := opI fun i j _ _ _ _ _ hc q => floordiv_int hc.1 q (.inl (PyProof.noPylong_of_log2 hc.2))
/-- two ints by a rule -/
theorem o2_I {K : PySem.W.Frag} {C : Int → Int → Prop} [∀ i j, Decidable (C i j)] {f : Int → Int → V} {g : PyData → PyData → Option S} {h : Int → Int → PyData} (hv : ∀ B i j, Dp K B (f i j) (h i j))
    (hg : ∀ d e s, g d e = some s → ∃ i j, d = .int i ∧ e = .int j ∧ C i j ∧ s = .dat (h i j)) : Op2 K (rI C f) g := by
  intro J Γ B ρ σ H x y d e s Q rep hx hy hs af
  obtain ⟨i, j, rfl, rfl, hc, rfl⟩ := hg d e s hs
  exact ⟨i, j, dp_int hx, dp_int hy, hc, After.now rep af (hv B i j)⟩
theorem o2_I0 {K : PySem.W.Frag} {f : Int → Int → V} {g : PyData → PyData → Option S} {h : Int → Int → PyData} (hv : ∀ B i j, Dp K B (f i j) (h i j))
    (hg : ∀ d e s, g d e = some s → ∃ i j, d = .int i ∧ e = .int j ∧ s = .dat (h i j)) : Op2 K (rI0 f) g := by
  intro J Γ B ρ σ H x y d e s Q rep hx hy hs af
  obtain ⟨i, j, rfl, rfl, rfl⟩ := hg d e s hs
  exact ⟨i, j, dp_int hx, dp_int hy, After.now rep af (hv B i j)⟩
theorem bif_some {b : Bool} {α : Type} {x y : α} (h : (bif b then some x else none) = some y) : b = true ∧ x = y := by
  cases b with
  | true => exact ⟨rfl, Option.some.inj h⟩
  | false => cases h
theorem o_sub {K : PySem.W.Frag} : Op2 K (rI0 fun i j => .int (i - j)) gSub := o2_I0 (h := fun i j => .int (i - j)) (fun _ _ _ => .int _) fun d e s h => by
  unfold gSub at h
  split at h
  · exact ⟨_, _, rfl, rfl, (Option.some.inj h).symm⟩
  · cases h
theorem o_mul {K : PySem.W.Frag} : Op2 K (rI CMulW fun i j => .int (i * j)) gMul := o2_I (h := fun i j => .int (i * j)) (fun _ _ _ => .int _) fun d e s h => by
  unfold gMul at h
  split at h
  · obtain ⟨h1, h2⟩ := bif_some h
    exact ⟨_, _, rfl, rfl, of_decide_eq_true h1, h2.symm⟩
  · cases h
theorem o_fd {K : PySem.W.Frag} : Op2 K (rI CFd fun i j => .int (i.fdiv j)) gFd := o2_I (h := fun i j => .int (i.fdiv j)) (fun _ _ _ => .int _) fun d e s h => by
  unfold gFd at h
  split at h
  · obtain ⟨h1, h2⟩ := bif_some h
    exact ⟨_, _, rfl, rfl, of_decide_eq_true h1, h2.symm⟩
  · cases h
theorem o_mod {K : PySem.W.Frag} : Op2 K (rI (fun _ j => 0 < j) fun i j => .int (i % j)) gMod := o2_I (h := fun i j => .int (i % j)) (fun _ _ _ => .int _) fun d e s h => by
  unfold gMod at h
  split at h
  · obtain ⟨h1, h2⟩ := bif_some h
    exact ⟨_, _, rfl, rfl, of_decide_eq_true h1, h2.symm⟩
  · cases h
theorem o_pow {K : PySem.W.Frag} : Op2 K (rI CPow fun i j => .int (i ^ j.toNat)) gPow := o2_I (h := fun i j => .int (i ^ j.toNat)) (fun _ _ _ => .int _) fun d e s h => by
  unfold gPow at h
  split at h
  · obtain ⟨h1, h2⟩ := bif_some h
    exact ⟨_, _, rfl, rfl, of_decide_eq_true h1, h2.symm⟩
  · cases h
theorem o_lt {K : PySem.W.Frag} : Op2 K (rI0 fun i j => .bl (decide (i < j))) gLt := o2_I0 (h := fun i j => .bool (decide (i < j))) (fun _ _ _ => .bl _) fun d e s h => by
  unfold gLt at h
  split at h
  · exact ⟨_, _, rfl, rfl, (Option.some.inj h).symm⟩
  · cases h
theorem o_le {K : PySem.W.Frag} : Op2 K (rI0 fun i j => .bl (decide (i ≤ j))) gLe := o2_I0 (h := fun i j => .bool (decide (i ≤ j))) (fun _ _ _ => .bl _) fun d e s h => by
  unfold gLe at h
  split at h
  · exact ⟨_, _, rfl, rfl, (Option.some.inj h).symm⟩
  · cases h
theorem o_gt {K : PySem.W.Frag} : Op2 K (rI0 fun i j => .bl (decide (j < i))) gGt := o2_I0 (h := fun i j => .bool (decide (j < i))) (fun _ _ _ => .bl _) fun d e s h => by
  unfold gGt at h
  split at h
  · exact ⟨_, _, rfl, rfl, (Option.some.inj h).symm⟩
  · cases h
theorem o_ge {K : PySem.W.Frag} : Op2 K (rI0 fun i j => .bl (decide (j ≤ i))) gGe := o2_I0 (h := fun i j => .bool (decide (j ≤ i))) (fun _ _ _ => .bl _) fun d e s h => by
  unfold gGe at h
  split at h
  · exact ⟨_, _, rfl, rfl, (Option.some.inj h).symm⟩
  · cases h
theorem o_neg {K : PySem.W.Frag} : Op1 K (rU fun i => .int (-i)) gNeg := by
  intro J Γ B ρ σ H x d s Q rep hx hs af
  unfold gNeg at hs
  split at hs
  · rename_i i
    cases hs
    exact ⟨i, dp_int hx, After.now rep af (.int _)⟩
  · cases hs
/-! ### + -/
def rCatL (K : PySem.W.Frag) : R2 := fun x y H Q => ∃ l b xs zs, x = .ref l ∧ y = .ref b ∧ SqL K H l xs ∧ SqL K H b zs ∧ xs.length + zs.length ≤ sizeLine ∧ ∀ p, H p = none → Q (.ref p) (upd H p (.lst (xs ++ zs)))
theorem op_catL : OpR X (binaryOp .Add) (rCatL X.K) := by
  intro pins s σ H x y v u Q I rx ry h
  obtain ⟨l, b, xs, zs, rfl, rfl, hH, hB, hz, q⟩ := h
  cases rx
  cases ry
  obtain ⟨its, r, pl, hl⟩ := I.list hH
  obtain ⟨its2, r2, pl2, hl2⟩ := I.list hB
  obtain ⟨⟨cls, dd, data, sl⟩, ho, hc, n, hd⟩ := id pl.isList
  obtain ⟨⟨cls2, dd2, data2, sl2⟩, ho2, hc2, n2, hd2⟩ := id pl2.isList
  simp only at hc hd hc2 hd2
  subst hc hd hc2 hd2
  have e : its.toArray ++ its2.toArray = (its ++ its2).toArray := by simp
  have e1 := r.length
  have e2 := r2.length
  refine PySem.concat_meets ⟨_, ho, rfl⟩ ⟨_, ho2, rfl⟩ PySem.noFill_list_add PySem.seq_list_add PySem.F.slot_list_add PySem.F.entry_list_add (PySem.F.args_list_add_2 _ _)
    (PyProof.Rows.list_addW l b its.toArray its2.toArray n n2 dd dd2 sl sl2 (by rw [List.size_toArray, List.size_toArray]; omega)) ⟨ho, ho2, ?_⟩
  rw [e]
  exact ⟨.ref _, _, I.lnew (t' := s.toks) (r.append r2) (by rw [List.length_append]; omega), rfl, q _ I.fresh⟩
abbrev rAddI : R2 := rI0 fun i j => .int (i + j)
abbrev rAddS : R2 := fun x y H Q => ∃ i j, x = .str i ∧ y = .str j ∧ i.length + j.length ≤ sizeLine ∧ Q (.str (i ++ j)) H
abbrev rAddZ (K : PySem.W.Frag) : R2 := fun x y H Q => rAddI x y H Q ∨ (rAddS x y H Q ∨ (rCatA K x y H Q ∨ rCatL K x y H Q))
theorem op_addZ : OpR X (binaryOp .Add) (rAddZ X.K) := OpR.or op_add (OpR.or op_add_str (OpR.or op_catA op_catL))
theorem o_add {K : PySem.W.Frag} : Op2 K (rAddZ K) gAdd := by
  intro J Γ B ρ σ H x y d e s Q rep hx hy hs af
  unfold gAdd at hs
  split at hs
  · rename_i i j
    cases hs
    exact .inl ⟨i, j, dp_int hx, dp_int hy, After.now rep af (.int _)⟩
  · rename_i a b
    obtain ⟨h1, h2⟩ := bif_some hs
    subst h2
    exact .inr (.inl ⟨a, b, dp_str hx, dp_str hy, of_decide_eq_true h1, After.now rep af (.str _)⟩)
  · rename_i a b
    obtain ⟨h1, h2⟩ := bif_some hs
    subst h2
    obtain ⟨l, xs, rfl, k1, k2⟩ := dp_tup hx
    obtain ⟨m, ys, rfl, j1, j2⟩ := dp_tup hy
    have e1 := dpAll_len k2
    have e2 := dpAll_len j2
    refine .inr (.inr (.inl ⟨l, m, xs, ys, rfl, rfl, ex_t rep.bh k1, ex_t rep.bh j1, by rw [e1, e2]; exact of_decide_eq_true h1, fun e => ?_, fun _ e => ?_, fun _ _ p hp => After.tup rep af (dpAll_app k2 j2) hp⟩))
    · subst e
      cases k2
      exact After.now rep af hy
    · subst e
      cases j2
      rw [List.append_nil] at af
      exact After.now rep af hx
  · rename_i a b
    obtain ⟨h1, h2⟩ := bif_some hs
    subst h2
    obtain ⟨l, xs, rfl, k1, k2⟩ := dp_list hx
    obtain ⟨m, ys, rfl, j1, j2⟩ := dp_list hy
    exact .inr (.inr (.inr ⟨l, m, xs, ys, rfl, rfl, ex_l rep.bh k1, ex_l rep.bh j1, by rw [dpAll_len k2, dpAll_len j2]; exact of_decide_eq_true h1, fun p hp => After.lst rep af (dpAll_app k2 j2) hp⟩))
  · cases hs
/-! ### ==, in, is -/
theorem o_eq {K : PySem.W.Frag} : Op2 K (rEqD K) gEq := by
  intro J Γ B ρ σ H x y d e s Q rep hx hy hs af
  obtain ⟨h1, h2⟩ := bif_some hs
  subst h2
  have h3 := Bool.and_eq_true_iff.mp h1
  exact ⟨d, e, dp_mono rep.bh hx, dp_mono rep.bh hy, h3.1, h3.2, After.now rep af (.bl _)⟩
theorem o_ne {K : PySem.W.Frag} : Op2 K (rNeD K) gNe := by
  intro J Γ B ρ σ H x y d e s Q rep hx hy hs af
  obtain ⟨h1, h2⟩ := bif_some hs
  subst h2
  have h3 := Bool.and_eq_true_iff.mp h1
  exact ⟨d, e, dp_mono rep.bh hx, dp_mono rep.bh hy, h3.1, h3.2, After.now rep af (.bl _)⟩
def rInT (K : PySem.W.Frag) : R2 := fun x y H Q => ∃ d ds, Dp K H x d ∧ Dp K H y (.tuple ds) ∧ SeqAt.shaped d = true ∧ SeqAt.shaped (.tuple ds) = true ∧ Q (.bl (ds.any fun z => PyData.eqv z d)) H
def rNotInT (K : PySem.W.Frag) : R2 := fun x y H Q => ∃ d ds, Dp K H x d ∧ Dp K H y (.tuple ds) ∧ SeqAt.shaped d = true ∧ SeqAt.shaped (.tuple ds) = true ∧ Q (.bl (!ds.any fun z => PyData.eqv z d)) H
theorem op_inT (hu : X.A.units + 65 < cLine) : OpR X (compareOp .In) (rInT X.K) := by
  intro pins s σ H x y v u Q I rx ry h
  obtain ⟨d, ds, hd, he, sd, se, q⟩ := h
  obtain ⟨as, r1⟩ := Dp.reads I d x v hd rx
  obtain ⟨bs, r2⟩ := Dp.reads I (.tuple ds) y u he ry
  exact SeqAt.in_tuple_reads r2 r1 (SeqAt.canLay_of_shaped se) (SeqAt.canLay_of_shaped sd) (room_in_shaped sd hu) ⟨.bl _, H, I, rfl, q⟩
theorem op_notInT (hu : X.A.units + 65 < cLine) : OpR X (compareOp .NotIn) (rNotInT X.K) := by
  intro pins s σ H x y v u Q I rx ry h
  obtain ⟨d, ds, hd, he, sd, se, q⟩ := h
  obtain ⟨as, r1⟩ := Dp.reads I d x v hd rx
  obtain ⟨bs, r2⟩ := Dp.reads I (.tuple ds) y u he ry
  exact SeqAt.notIn_tuple_reads r2 r1 (SeqAt.canLay_of_shaped se) (SeqAt.canLay_of_shaped sd) (room_in_shaped sd hu) ⟨.bl _, H, I, rfl, q⟩
abbrev rInC : R2 := fun x y H Q => ∃ (c : Nat) (z : Str), x = .str ⟨#[c]⟩ ∧ y = .str z ∧ Q (.bl (decide (c ∈ z.cps.toList))) H
abbrev rNotInC : R2 := fun x y H Q => ∃ (c : Nat) (z : Str), x = .str ⟨#[c]⟩ ∧ y = .str z ∧ Q (.bl (!decide (c ∈ z.cps.toList))) H
abbrev rInZ (K : PySem.W.Frag) : R2 := fun x y H Q => rInD K x y H Q ∨ (rInT K x y H Q ∨ rInC x y H Q)
abbrev rNotInZ (K : PySem.W.Frag) : R2 := fun x y H Q => rNotInD K x y H Q ∨ (rNotInT K x y H Q ∨ rNotInC x y H Q)
theorem op_inZ (hu : X.A.units + 65 < cLine) : OpR X (compareOp .In) (rInZ X.K) := OpR.or (op_inD hu) (OpR.or (op_inT hu) op_in_sign)
theorem op_notInZ (hu : X.A.units + 65 < cLine) : OpR X (compareOp .NotIn) (rNotInZ X.K) := OpR.or (op_notInD hu) (OpR.or (op_notInT hu) op_notIn_sign)
theorem one_sign {c : Str} (h : c.length = 1) : c = ⟨#[c.cps.getD 0 0]⟩ := by
  obtain ⟨⟨l⟩⟩ := c
  have h' : l.length = 1 := h
  match l, h' with
  | [a], _ => rfl
theorem o_in {K : PySem.W.Frag} : Op2 K (rInZ K) gIn := by
  intro J Γ B ρ σ H x y d e s Q rep hx hy hs af
  unfold gIn at hs
  split at hs
  · rename_i es
    obtain ⟨h1, h2⟩ := bif_some hs
    subst h2
    have h3 := Bool.and_eq_true_iff.mp h1
    exact .inl ⟨d, es, dp_mono rep.bh hx, dp_mono rep.bh hy, h3.1, h3.2, After.now rep af (.bl _)⟩
  · rename_i es
    obtain ⟨h1, h2⟩ := bif_some hs
    subst h2
    have h3 := Bool.and_eq_true_iff.mp h1
    exact .inr (.inl ⟨d, es, dp_mono rep.bh hx, dp_mono rep.bh hy, h3.1, h3.2, After.now rep af (.bl _)⟩)
  · rename_i z
    split at hs
    · rename_i c
      obtain ⟨h1, h2⟩ := bif_some hs
      subst h2
      exact .inr (.inr ⟨c.cps.getD 0 0, z, by rw [dp_str hx, ← one_sign (of_decide_eq_true h1)], dp_str hy, After.now rep af (.bl _)⟩)
    · cases hs
  · cases hs
theorem o_notIn {K : PySem.W.Frag} : Op2 K (rNotInZ K) gNotIn := by
  intro J Γ B ρ σ H x y d e s Q rep hx hy hs af
  unfold gNotIn at hs
  split at hs
  · rename_i b hb
    cases hs
    unfold gIn at hb
    split at hb
    · rename_i es
      obtain ⟨h1, h2⟩ := bif_some hb
      cases h2
      have h3 := Bool.and_eq_true_iff.mp h1
      exact .inl ⟨d, es, dp_mono rep.bh hx, dp_mono rep.bh hy, h3.1, h3.2, After.now rep af (.bl _)⟩
    · rename_i es
      obtain ⟨h1, h2⟩ := bif_some hb
      cases h2
      have h3 := Bool.and_eq_true_iff.mp h1
      exact .inr (.inl ⟨d, es, dp_mono rep.bh hx, dp_mono rep.bh hy, h3.1, h3.2, After.now rep af (.bl _)⟩)
    · rename_i z
      split at hb
      · rename_i c
        obtain ⟨h1, h2⟩ := bif_some hb
        cases h2
        exact .inr (.inr ⟨c.cps.getD 0 0, z, by rw [dp_str hx, ← one_sign (of_decide_eq_true h1)], dp_str hy, After.now rep af (.bl _)⟩)
      · cases hb
    · cases hb
  · cases hs
abbrev rIsNn : R2 := fun x y H Q => y = .non ∧ Q (.bl (decide (x = .non))) H
abbrev rIsNnN : R2 := fun x y H Q => y = .non ∧ Q (.bl (!decide (x = .non))) H
theorem op_isZ : OpR X (compareOp .Is) (fun x y H Q => rIsNn x y H Q ∨ rIsB x y H Q) := OpR.or op_isN op_isBl
theorem o_is {K : PySem.W.Frag} : Op2 K (fun x y H Q => rIsNn x y H Q ∨ rIsB x y H Q) gIs := by
  intro J Γ B ρ σ H x y d e s Q rep hx hy hs af
  unfold gIs at hs
  split at hs
  · rename_i a b
    cases hs
    exact .inr ⟨a, b, dp_bool hx, dp_bool hy, After.now rep af (.bl _)⟩
  · cases hs
    exact .inl ⟨dp_none hy, by rw [dp_none hx]; exact After.now rep af (.bl _)⟩
  · cases hs
    exact .inl ⟨dp_none hy, by rw [dp_int hx]; exact After.now rep af (.bl _)⟩
  · cases hs
    exact .inl ⟨dp_none hy, by rw [dp_bool hx]; exact After.now rep af (.bl _)⟩
  · cases hs
    exact .inl ⟨dp_none hy, by rw [dp_str hx]; exact After.now rep af (.bl _)⟩
  · cases hs
    obtain ⟨a, xs, rfl, _⟩ := dp_list hx
    exact .inl ⟨dp_none hy, After.now rep af (.bl _)⟩
  · cases hs
    obtain ⟨a, xs, rfl, _⟩ := dp_tup hx
    exact .inl ⟨dp_none hy, After.now rep af (.bl _)⟩
  · cases hs
theorem op_notZ : OpR X (compareOp .IsNot) (fun x y H Q => rIsNnN x y H Q ∨ rNotB x y H Q) := OpR.or op_notN op_notBl
theorem o_isN {K : PySem.W.Frag} : Op2 K (fun x y H Q => rIsNnN x y H Q ∨ rNotB x y H Q) gIsN := by
  intro J Γ B ρ σ H x y d e s Q rep hx hy hs af
  unfold gIsN at hs
  split at hs
  · split at hs
    · cases hs
      exact .inr ⟨_, _, dp_bool hx, dp_bool hy, After.now rep af (.bl _)⟩
    · cases hs
  · refine .inl ⟨dp_none hy, ?_⟩
    cases d with
    | none =>
      cases hs
      rw [dp_none hx]
      exact After.now rep af (.bl _)
    | bool b =>
      cases hs
      rw [dp_bool hx]
      exact After.now rep af (.bl _)
    | int b =>
      cases hs
      rw [dp_int hx]
      exact After.now rep af (.bl _)
    | str b =>
      cases hs
      rw [dp_str hx]
      exact After.now rep af (.bl _)
    | list l =>
      cases hs
      obtain ⟨a, xs, rfl, _⟩ := dp_list hx
      exact After.now rep af (.bl _)
    | tuple l =>
      cases hs
      obtain ⟨a, xs, rfl, _⟩ := dp_tup hx
      exact After.now rep af (.bl _)
    | dict _ => cases hs
  · cases hs
end
/-! ### chains of two comparisons -/
section
variable {X : Cx} {xc : Str → Value} {W : Ww} {a b c e : Expr} {es : List Expr} {pos p : Pos} {ca cb' cc : CE} {cas : CA}
def cChain (g1 g2 : PyData → PyData → Option S) (ca cb cc : CE) : CE := fun ρ => (ca ρ).bd fun d ρ => (cb ρ).bd fun e ρ => (R.lift (g1 d e) ρ).bd fun t ρ => match t with
  | .bool true => (cc ρ).bd fun f ρ => R.lift (g2 e f) ρ
  | .bool false => .ok (.dat (.bool false)) ρ
  | _ => .bad
theorem tz_chain {K : PySem.W.Frag} {r1 r2 : R2} {g1 g2 : PyData → PyData → Option S} (h1 : Op2 K r1 g1) (h2 : Op2 K r2 g2) {σ : L2.St} {H : Hp} {Q : VK} (h : tZ K xc W (cChain g1 g2 ca cb' cc) σ H Q) : tChain r1 r2 (tZ K xc W ca) (tZ K xc W cb') (tZ K xc W cc) σ H Q := by
  obtain ⟨Γ, B, ρ, rep, k⟩ := h
  refine tz_bd rep k fun x B1 H1 d ρ1 e1 r1' q1 k1 => ?_
  refine tz_bd r1' k1 fun y B2 H2 e ρ2 e2 r2' q2 k2 => ?_
  cases hg : g1 d e with
  | none => rw [hg] at k2; exact k2.elim
  | some s =>
    rw [hg] at k2
    have k3 : outZ K xc W Γ B2 σ Q (match s.d with
      | .bool true => (cc ρ2).bd fun f ρ => R.lift (g2 e f) ρ
      | .bool false => .ok (.dat (.bool false)) ρ2
      | _ => .bad) := k2
    refine h1 W.J Γ B2 ρ2 σ H2 x y d e s _ r2' (dp_mono e2 q1) q2 hg fun z B3 H3 e3 r3 q3 => ?_
    cases s with
    | lst l => exact k3.elim
    | dat t =>
      cases t with
      | none | int _ | str _ | list _ | tuple _ | dict _ => exact k3.elim
      | bool t =>
        refine ⟨t, dp_bool q3.1, ?_⟩
        cases t with
        | false => exact iteF (k3 _ B3 H3 e3 r3 (sres_dat (.bl _)))
        | true =>
          refine iteT (tz_bd r3 (outZ_mono e3 k3) fun w B4 H4 f ρ4 e4 r4 q4 k4 => ?_)
          obtain ⟨s', hs', af⟩ := out_lift k4
          exact h2 W.J Γ B4 ρ4 σ H4 y w e f s' Q r4 (dp_mono (e3.trans e4) q2) q4 hs' af
theorem ze_chain {op op' : CmpOp} {r r' : R2} {g g' : PyData → PyData → Option S} (ho : OpR X (compareOp op) r) (ho' : OpR X (compareOp op') r') (hg : Op2 X.K r g) (hg' : Op2 X.K r' g') (ha : ZE X xc W a ca) (hb : ZE X xc W b cb') (hc : ZE X xc W c cc)
    (hm : lastMarks [op, op'] [b, c] = false := by with_unfolding_all rfl) : ZE X xc W (.Compare a [op, op'] [b, c] pos) (cChain g g' ca cb' cc) :=
  PE.imp (pe_chain ho ho' ha hb hc hm) fun _ _ _ h => tz_chain hg hg' h
theorem zt_chain {op op' : CmpOp} {r r' : R2} {g g' : PyData → PyData → Option S} (ho : OpR X (compareOp op) r) (ho' : OpR X (compareOp op') r') (hg : Op2 X.K r g) (hg' : Op2 X.K r' g') (ha : ZE X xc W a ca) (hb : ZE X xc W b cb') (hc : ZE X xc W c cc)
    (hm : lastMarks [op, op'] [b, c] = false := by with_unfolding_all rfl) : ZT X xc W (.Compare a [op, op'] [b, c] pos) (cChain g g' ca cb' cc) :=
  PT.imp (pt_chain ho ho' ha hb hc hm) fun _ _ _ h => tz_chain hg hg' (tzt_of h)
/-! ### built-ins -/
theorem tz_N {K : PySem.W.Frag} {r : List V → Hp → VK → Prop} {g : List PyData → Option S} (hr : OpN K r g) {σ : L2.St} {H : Hp} {Q : VK} (h : tZ K xc W (cN g cas) σ H Q) : tCB r (tZA K xc W cas) σ H Q := by
  obtain ⟨Γ, B, ρ, rep, k⟩ := h
  refine tza_bd rep k fun xs B1 H1 ds ρ1 e1 r1 q1 k1 => ?_
  obtain ⟨s, hs, af⟩ := out_lift k1
  exact hr W.J Γ B1 ρ1 σ H1 xs ds s Q r1 q1 hs af
theorem ze_callB {x : Str} {id : String} {r : List V → Hp → VK → Prop} {g : List PyData → Option S} (hc : CallR X (.builtin id) r) (hr : OpN X.K r g) (hm : X.mg x = none) (hv : bootBuiltins x = some (.builtin id)) (ha : ZA X xc W (e :: es) cas) (hg : Gl X x := by rfl) (hn : x ≠ "__name__" := by decide) (hdb : (x == ("__debug__" : Str)) = false := by decide)
    (he : starEach (e :: es) X.env = (false, eval e X.env) :: starEach es X.env := by rfl) (hpl : (backTo pos (starEach es X.env)).any (·.1) = false := by rfl) : ZE X xc W (.Call (.Name x p) (e :: es) [] pos) (cN g cas) :=
  PE.imp (pe_callB hc hg hm hv ha.run hn hdb he hpl) fun _ _ _ h => tz_N hr h
theorem ze_callT {x : Str} {T : String} {r : List V → Hp → VK → Prop} {g : List PyData → Option S} (hc : CallR X (.type T) r) (hr : OpN X.K r g) (hm : X.mg x = none) (hv : bootBuiltins x = some (.type T)) (ha : ZA X xc W (e :: es) cas) (hg : Gl X x := by rfl) (hn : x ≠ "__name__" := by decide) (hdb : (x == ("__debug__" : Str)) = false := by decide)
    (he : starEach (e :: es) X.env = (false, eval e X.env) :: starEach es X.env := by rfl) (hpl : (backTo pos (starEach es X.env)).any (·.1) = false := by rfl) : ZE X xc W (.Call (.Name x p) (e :: es) [] pos) (cN g cas) :=
  PE.imp (pe_callTy hc hg hm hv ha.run hn hdb he hpl) fun _ _ _ h => tz_N hr h
theorem ze_callM {x : Str} {id : String} {r : List V → Hp → VK → Prop} {g : List PyData → Option S} (hc : CallR X (.builtin id) r) (hr : OpN X.K r g) (hm : X.mg x = some (.builtin id)) (ha : ZA X xc W (e :: es) cas) (hg : Gl X x := by rfl) (hdb : (x == ("__debug__" : Str)) = false := by decide)
    (he : starEach (e :: es) X.env = (false, eval e X.env) :: starEach es X.env := by rfl) (hpl : (backTo pos (starEach es X.env)).any (·.1) = false := by rfl) : ZE X xc W (.Call (.Name x p) (e :: es) [] pos) (cN g cas) :=
  PE.imp (pe_callBfun hc hg hm ha.run hdb he hpl) fun _ _ _ h => tz_N hr h
/-- len, in place -/
def gLen : PyData → Option S
  | .list l => some (.dat (.int l.length))
  | .tuple l => some (.dat (.int l.length))
  | .str z => bif decide (z.length ≤ sizeLine) then some (.dat (.int z.length)) else none
  | _ => none
theorem ze_len {cbb : CB} (hm : X.mg "len" = none) (ha : ZB X xc W e cbb) (hg : Gl X "len" := by rfl)
    (he : starEach [e] X.env = (false, eval e X.env) :: starEach [] X.env := by rfl) (hpl : (backTo pos (starEach [] X.env)).any (·.1) = false := by rfl) : ZE X xc W (.Call (.Name "len" p) [e] [] pos) (cB1 gLen cbb) :=
  PE.imp (pe_callB call_len hg hm PySem.boot_len (pa_cons ha pa_nil he) (by decide) (by decide) he hpl) fun σ H Q ⟨Γ, B, ρ, rep, k⟩ => tzb_bd rep k fun x B1 H1 ar ρ1 e1 r1 q1 k1 => by
    cases hres : resolve ρ1 ar with
    | none => rw [hres] at k1; exact k1.elim
    | some d =>
      rw [hres] at k1
      obtain ⟨s, hs, af⟩ := out_lift k1
      have pk := resolve_pk r1 (Ex.refl _) q1 hres
      show ∃ y n, [x] = [y] ∧ LenV X.K y H1 n ∧ Q (.int n) H1
      unfold gLen at hs
      split at hs
      · cases hs
        obtain ⟨c, rfl⟩ := pk.refL
        obtain ⟨xs, h1, h2⟩ := pk.list r1
        refine ⟨.ref c, xs.length, rfl, .inl ⟨xs, h1, rfl⟩, ?_⟩
        rw [dpAll_len h2]
        exact After.now r1 af (.int _)
      · cases hs
        obtain ⟨c, xs, rfl, h1, h2⟩ := dp_tup (pk.dp fun l e => by cases e)
        refine ⟨.ref c, xs.length, rfl, .inr ⟨xs, ex_t r1.bh h1, rfl⟩, ?_⟩
        rw [dpAll_len h2]
        exact After.now r1 af (.int _)
      · rename_i z
        obtain ⟨h1, h2⟩ := bif_some hs
        subst h2
        rw [dp_str (pk.dp fun l e => by cases e)]
        exact ⟨.str z, z.length, rfl, ⟨of_decide_eq_true h1, rfl⟩, After.now r1 af (.int _)⟩
      · cases hs
/-- the truth of a thing read in place -/
theorem zt_truthB {cbb : CB} (ha : ZB X xc W a cbb) (he : ∀ whole, isTrue a X.env whole = (do let v ← whole; standAt a.pos; holding [v] (truthy v))) : ZT X xc W a (cB1 gTru cbb) :=
  PT.imp (pt_truth ha he) fun σ H Q ⟨Γ, B, ρ, rep, k⟩ => by
    refine ⟨Γ, B, ρ, rep, ?_⟩
    unfold cB1 at k
    cases hc : cbb ρ with
    | exc x ρ1 => rw [hc] at k; exact k
    | bad => rw [hc] at k; exact k
    | ok ar ρ1 =>
      rw [hc] at k
      intro x B1 H1 e1 r1 q1
      have k1 : outT X.K xc W Γ B σ Q (match resolve ρ1 ar with
        | some d => R.lift (gTru d) ρ1
        | none => .bad) := k
      cases hres : resolve ρ1 ar with
      | none => rw [hres] at k1; exact k1.elim
      | some d =>
        rw [hres] at k1
        have pk := resolve_pk r1 (Ex.refl _) q1 hres
        cases d with
        | none =>
          obtain ⟨b, hb, k2⟩ := k1
          have e : false = b := by injection hb
          rw [dp_none (pk.dp fun l e => by cases e)]
          exact ⟨b, by rw [← e]; rfl, k2 B1 H1 e1 r1⟩
        | bool t =>
          obtain ⟨b, hb, k2⟩ := k1
          have e : t = b := by injection hb
          rw [dp_bool (pk.dp fun l e => by cases e)]
          exact ⟨b, by rw [← e]; rfl, k2 B1 H1 e1 r1⟩
        | int t =>
          obtain ⟨b, hb, k2⟩ := k1
          have e : (t != 0) = b := by injection hb
          rw [dp_int (pk.dp fun l e => by cases e)]
          exact ⟨b, by rw [← e]; rfl, k2 B1 H1 e1 r1⟩
        | str t =>
          unfold gTru at k1
          by_cases hz : t.length ≤ sizeLine
          · simp only [if_pos hz] at k1
            obtain ⟨b, hb, k2⟩ := k1
            have e : ((t.length : Int) != 0) = b := by injection hb
            rw [dp_str (pk.dp fun l e => by cases e)]
            exact ⟨b, ⟨hz, by rw [← e]⟩, k2 B1 H1 e1 r1⟩
          · simp only [if_neg hz] at k1
            exact k1.elim
        | list l =>
          obtain ⟨b, hb, k2⟩ := k1
          have e : (!l.isEmpty) = b := by injection hb
          obtain ⟨c, rfl⟩ := pk.refL
          obtain ⟨xs, h1, h2⟩ := pk.list r1
          exact ⟨b, .inl ⟨xs, h1, by rw [← e, isEmpty_len (dpAll_len h2)]⟩, k2 B1 H1 e1 r1⟩
        | tuple l =>
          obtain ⟨b, hb, k2⟩ := k1
          have e : (!l.isEmpty) = b := by injection hb
          obtain ⟨c, xs, rfl, h1, h2⟩ := dp_tup (pk.dp fun l e => by cases e)
          exact ⟨b, .inr (.inl ⟨xs, ex_t r1.bh h1, by rw [← e, isEmpty_len (dpAll_len h2)]⟩), k2 B1 H1 e1 r1⟩
        | dict _ => exact k1.elim
def gAbs : List PyData → Option S
  | [.int i] => some (.dat (.int (if i < 0 then -i else i)))
  | _ => none
def gInt : List PyData → Option S
  | [.int i] => some (.dat (.int i))
  | [.bool b] => some (.dat (.int (if b then 1 else 0)))
  | _ => none
def gMax2 : List PyData → Option S
  | [.int i, .int j] => some (.dat (.int (if j > i then j else i)))
  | _ => none
def gMin2 : List PyData → Option S
  | [.int i, .int j] => some (.dat (.int (if j < i then j else i)))
  | _ => none
def gGcd : List PyData → Option S
  | [.int i, .int j] => some (.dat (.int ((Nat.gcd i.natAbs j.natAbs : Nat) : Int)))
  | _ => none
def gList : List PyData → Option S
  | [.list l] => some (.lst l)
  | [.tuple l] => some (.lst l)
  | _ => none
def gTuple : List PyData → Option S
  | [.list l] => some (.dat (.tuple l))
  | [.tuple l] => some (.dat (.tuple l))
  | _ => none
def boolsOf : List PyData → Option (List Bool)
  | [] => some []
  | .bool b :: ds => (boolsOf ds).map (b :: ·)
  | _ => none
def gAll : List PyData → Option S
  | [.list l] => (boolsOf l).map fun bs => .dat (.bool (bs.all id))
  | _ => none
def gAny : List PyData → Option S
  | [.list l] => (boolsOf l).map fun bs => .dat (.bool (bs.any id))
  | _ => none
theorem boolsOf_map : ∀ {l : List PyData} {bs : List Bool}, boolsOf l = some bs → l = bs.map PyData.bool
  | [], bs, h => by cases h; rfl
  | .bool b :: ds, bs, h => by
    unfold boolsOf at h
    cases e : boolsOf ds with
    | none => rw [e] at h; cases h
    | some r =>
      rw [e] at h
      cases h
      rw [boolsOf_map e]
      rfl
  | .none :: _, _, h => by cases h
  | .int _ :: _, _, h => by cases h
  | .str _ :: _, _, h => by cases h
  | .list _ :: _, _, h => by cases h
  | .tuple _ :: _, _, h => by cases h
  | .dict _ :: _, _, h => by cases h
theorem dpAll_one {K : PySem.W.Frag} {B : Hp} {xs : List V} {d : PyData} (h : DpAll K B xs [d]) : ∃ x, xs = [x] ∧ Dp K B x d := by
  cases h with
  | cons h t => cases t; exact ⟨_, rfl, h⟩
theorem dpAll_two {K : PySem.W.Frag} {B : Hp} {xs : List V} {d e : PyData} (h : DpAll K B xs [d, e]) : ∃ x y, xs = [x, y] ∧ Dp K B x d ∧ Dp K B y e := by
  cases h with
  | cons h t =>
    cases t with
    | cons h2 t2 => cases t2; exact ⟨_, _, rfl, h, h2⟩
theorem on_abs {K : PySem.W.Frag} : OpN K (fun xs H Q => ∃ i, xs = [.int i] ∧ Q (.int (if i < 0 then -i else i)) H) gAbs := by
  intro J Γ B ρ σ H xs ds s Q rep hx hs af
  unfold gAbs at hs
  split at hs
  · rename_i i
    cases hs
    obtain ⟨x, rfl, h1⟩ := dpAll_one hx
    exact ⟨i, by rw [dp_int h1], After.now rep af (.int _)⟩
  · cases hs
theorem on_int {K : PySem.W.Frag} : OpN K (fun xs H Q => (∃ i, xs = [.int i] ∧ Q (.int i) H) ∨ ∃ k, xs = [.bl k] ∧ Q (.int (if k then 1 else 0)) H) gInt := by
  intro J Γ B ρ σ H xs ds s Q rep hx hs af
  unfold gInt at hs
  split at hs
  · rename_i i
    cases hs
    obtain ⟨x, rfl, h1⟩ := dpAll_one hx
    exact .inl ⟨i, by rw [dp_int h1], After.now rep af (.int _)⟩
  · rename_i b
    cases hs
    obtain ⟨x, rfl, h1⟩ := dpAll_one hx
    exact .inr ⟨b, by rw [dp_bool h1], After.now rep af (.int _)⟩
  · cases hs
theorem on_max2 {K : PySem.W.Frag} : OpN K (fun xs H Q => ∃ i j, xs = [.int i, .int j] ∧ Q (.int (if j > i then j else i)) H) gMax2 := by
  intro J Γ B ρ σ H xs ds s Q rep hx hs af
  unfold gMax2 at hs
  split at hs
  · rename_i i j
    cases hs
    obtain ⟨x, y, rfl, h1, h2⟩ := dpAll_two hx
    exact ⟨i, j, by rw [dp_int h1, dp_int h2], After.now rep af (.int _)⟩
  · cases hs
theorem on_min2 {K : PySem.W.Frag} : OpN K (fun xs H Q => ∃ i j, xs = [.int i, .int j] ∧ Q (.int (if j < i then j else i)) H) gMin2 := by
  intro J Γ B ρ σ H xs ds s Q rep hx hs af
  unfold gMin2 at hs
  split at hs
  · rename_i i j
    cases hs
    obtain ⟨x, y, rfl, h1, h2⟩ := dpAll_two hx
    exact ⟨i, j, by rw [dp_int h1, dp_int h2], After.now rep af (.int _)⟩
  · cases hs
theorem on_gcd {K : PySem.W.Frag} : OpN K rGcd gGcd := by
  intro J Γ B ρ σ H xs ds s Q rep hx hs af
  unfold gGcd at hs
  split at hs
  · rename_i i j
    cases hs
    obtain ⟨x, y, rfl, h1, h2⟩ := dpAll_two hx
    exact ⟨i, j, by rw [dp_int h1, dp_int h2], After.now rep af (.int _)⟩
  · cases hs
theorem on_list {K : PySem.W.Frag} : OpN K (fun xs H Q => ∃ p ys, xs = [.ref p] ∧ (SqL K H p ys ∨ SqT K H p ys) ∧ ∀ l, H l = none → Q (.ref l) (upd H l (.lst ys))) gList := by
  intro J Γ B ρ σ H xs ds s Q rep hx hs af
  unfold gList at hs
  split at hs
  · cases hs
    obtain ⟨x, rfl, h1⟩ := dpAll_one hx
    obtain ⟨a, ys, rfl, k1, k2⟩ := dp_list h1
    exact ⟨a, ys, rfl, .inl (ex_l rep.bh k1), fun p hp => After.lst rep af k2 hp⟩
  · cases hs
    obtain ⟨x, rfl, h1⟩ := dpAll_one hx
    obtain ⟨a, ys, rfl, k1, k2⟩ := dp_tup h1
    exact ⟨a, ys, rfl, .inr (ex_t rep.bh k1), fun p hp => After.lst rep af k2 hp⟩
  · cases hs
theorem on_tuple {K : PySem.W.Frag} : OpN K (fun xs H Q => ∃ p ys, xs = [.ref p] ∧ ((SqL K H p ys ∧ ∀ l, H l = none → Q (.ref l) (upd H l (.tup ys))) ∨ (SqT K H p ys ∧ Q (.ref p) H))) gTuple := by
  intro J Γ B ρ σ H xs ds s Q rep hx hs af
  unfold gTuple at hs
  split at hs
  · cases hs
    obtain ⟨x, rfl, h1⟩ := dpAll_one hx
    obtain ⟨a, ys, rfl, k1, k2⟩ := dp_list h1
    exact ⟨a, ys, rfl, .inl ⟨ex_l rep.bh k1, fun p hp => After.tup rep af k2 hp⟩⟩
  · cases hs
    obtain ⟨x, rfl, h1⟩ := dpAll_one hx
    obtain ⟨a, ys, rfl, k1, k2⟩ := dp_tup h1
    exact ⟨a, ys, rfl, .inr ⟨ex_t rep.bh k1, After.now rep af h1⟩⟩
  · cases hs
theorem on_all {K : PySem.W.Frag} : OpN K (rAll K) gAll := by
  intro J Γ B ρ σ H xs ds s Q rep hx hs af
  unfold gAll at hs
  split at hs
  · rename_i l
    cases hb : boolsOf l with
    | none => rw [hb] at hs; cases hs
    | some bs =>
      rw [hb] at hs
      cases hs
      obtain ⟨x, rfl, h1⟩ := dpAll_one hx
      obtain ⟨a, ys, rfl, k1, k2⟩ := dp_list h1
      rw [boolsOf_map hb] at k2
      exact ⟨a, bs, rfl, by rw [← dpAll_bools k2]; exact ex_l rep.bh k1, After.now rep af (.bl _)⟩
  · cases hs
theorem on_any {K : PySem.W.Frag} : OpN K (rAny K) gAny := by
  intro J Γ B ρ σ H xs ds s Q rep hx hs af
  unfold gAny at hs
  split at hs
  · rename_i l
    cases hb : boolsOf l with
    | none => rw [hb] at hs; cases hs
    | some bs =>
      rw [hb] at hs
      cases hs
      obtain ⟨x, rfl, h1⟩ := dpAll_one hx
      obtain ⟨a, ys, rfl, k1, k2⟩ := dp_list h1
      rw [boolsOf_map hb] at k2
      exact ⟨a, bs, rfl, by rw [← dpAll_bools k2]; exact ex_l rep.bh k1, After.now rep af (.bl _)⟩
  · cases hs
/-! ### isinstance -/
def tyName : PyData → String
  | .none => "NoneType"
  | .bool _ => "bool"
  | .int _ => "int"
  | .str _ => "str"
  | .list _ => "list"
  | .tuple _ => "tuple"
  | .dict _ => "dict"
def isT (T : String) : PyData → Bool
  | .none => T == "NoneType"
  | .bool _ => T == "bool" || T == "int"
  | .int _ => T == "int"
  | .str _ => T == "str"
  | .list _ => T == "list"
  | .tuple _ => T == "tuple"
  | .dict _ => T == "dict"
theorem tyx_dp {K : PySem.W.Frag} {B : Hp} {v : V} {d : PyData} (h : Dp K B v d) : TyX K B v (.type (tyName d)) := by
  cases h with
  | non => exact .base .non
  | bl b => exact .base (.bl b)
  | int i => exact .base (.int i)
  | str x => exact .base (.str x)
  | lst h1 h2 =>
    rcases h1 with (h1 | ⟨o, h1⟩) | ⟨o, its, n, h1, h3, _⟩
    · exact .base (.lst h1)
    · exact .base (.frz h1)
    · exact .kList h1 h3
  | tup h1 h2 =>
    rcases h1 with (h1 | ⟨o, h1⟩) | ⟨o, its, n, h1, h3, _⟩
    · exact .base (.tup h1)
    · exact .fTuple h1
    · exact .kTuple h1 h3
theorem kit_all : ∀ n ∈ ["NoneType", "bool", "int", "str", "list", "tuple"], ∀ T ∈ ["int", "bool", "str", "list", "tuple", "dict"], kitB n T = some (T == n || (n == "bool" && T == "int")) := by decide +kernel
theorem isT_eq {T : String} (hT : T ∈ ["int", "bool", "str", "list", "tuple", "dict"]) (d : PyData) (hd : ∀ l, d ≠ .dict l) : isT T d = (T == tyName d || (tyName d == "bool" && T == "int")) ∧ tyName d ∈ ["NoneType", "bool", "int", "str", "list", "tuple"] := by
  cases d with
  | none => simp [isT, tyName]
  | bool b => simp [isT, tyName]
  | int i => simp [isT, tyName]
  | str x => simp [isT, tyName]
  | list l => simp [isT, tyName]
  | tuple l => simp [isT, tyName]
  | dict l => exact absurd rfl (hd l)
theorem kit_isT {K : PySem.W.Frag} {T : String} (hT : T ∈ ["int", "bool", "str", "list", "tuple", "dict"]) {d : PyData} (hd : ∀ l, d ≠ .dict l) : PySem.W.kitOne K (.type (tyName d)) (.type T) = some (isT T d) := by
  obtain ⟨h1, h2⟩ := isT_eq hT d hd
  rw [h1]
  exact kit_ty (kit_all _ h2 _ hT)
def gIsi (T : String) (d : PyData) : Option S := match d with
  | .dict _ => none
  | d => some (.dat (.bool (isT T d)))
theorem ze_isi {T : String} {x : Str} {p3 : Pos} (hT : T ∈ ["int", "bool", "str", "list", "tuple", "dict"]) (hm : X.mg "isinstance" = none) (hmT : X.mg x = none) (hvT : bootBuiltins x = some (.type T)) (ha : ZE X xc W a ca) (hg : Gl X "isinstance" := by rfl) (hgT : Gl X x := by rfl)
    (hn : x ≠ "__name__" := by decide) (hdb : (x == ("__debug__" : Str)) = false := by decide)
    (he : starEach [a, .Name x p3] X.env = (false, eval a X.env) :: starEach [.Name x p3] X.env := by rfl) (he2 : starEach [.Name x p3] X.env = (false, eval (.Name x p3) X.env) :: starEach [] X.env := by rfl) (hpl : (backTo pos (starEach [.Name x p3] X.env)).any (·.1) = false := by rfl) :
    ZE X xc W (.Call (.Name "isinstance" p) [a, .Name x p3] [] pos) (c1 (gIsi T) ca) :=
  PE.imp (pe_callB call_isi hg hm (by decide +kernel) (pa_cons ha (pa_cons (pe_bltn hgT hmT hvT (v := .ty T) rfl hn hdb) pa_nil he2) he) (by decide) (by decide) he hpl) fun σ H Q ⟨Γ, B, ρ, rep, k⟩ => tz_bd rep k fun x B1 H1 d ρ1 e1 r1 q1 k1 => by
    obtain ⟨s, hs, af⟩ := out_lift k1
    unfold gIsi at hs
    split at hs
    · cases hs
    · rename_i d' hd
      cases hs
      exact ⟨x, .ty T, .type (tyName _), .type T, isT T _, rfl, .ty T, tyx_dp (dp_mono r1.bh q1), kit_isT hT hd, After.now r1 af (.bl _)⟩
end
end Z
set_option maxHeartbeats 2000000
/-! Z: constants of a module; more of lists. -/
namespace Z
open PySem PySem.Spec PyProof.Rows L2
open Evl (Ex ex_l ex_t ex_rd)
section
variable {X : Cx} {xc : Str → Value} {W : Ww} {o e : Expr} {es : List Expr} {pos p cpos apos : Pos} {ca : CE} {cas : CA} {x : Str}
/-- what a module's name holds, as data that stands in the written part -/
def ConstOf (K : PySem.W.Frag) (mg : Str → Option Value) (x : Str) (d : PyData) : Prop := ∃ v u, mg x = some u ∧ RelV v u ∧ ∀ B, Dp K B v d
theorem ze_const {d : PyData} (h : ConstOf X.K X.mg x d) (hg : Gl X x := by rfl) (hd : (x == ("__debug__" : Str)) = false := by decide) : ZE X xc W (.Name x pos) (cK d) := by
  obtain ⟨v, u, h1, h2, h3⟩ := h
  exact ze_of (pe_glob hg h1 h2 hd) (fun _ _ _ q => q) h3
theorem const_int {K : PySem.W.Frag} {mg : Str → Option Value} {i : Int} {t : Tok} (h : mg x = some (.int i t)) : ConstOf K mg x (.int i) := ⟨.int i, _, h, ⟨t, rfl⟩, fun _ => .int i⟩
theorem const_str {K : PySem.W.Frag} {mg : Str → Option Value} {i : Str} {t : Tok} (h : mg x = some (.str i t)) : ConstOf K mg x (.str i) := ⟨.str i, _, h, ⟨t, rfl⟩, fun _ => .str i⟩
theorem const_pair {K : PySem.W.Frag} {mg : Str → Option Value} {a : Addr} {od : Option Addr} {i j : Int} {t u : Tok} {n : Nat} {sl : Array (Option Value)} (h : mg x = some (.ref a)) (l : K.lookup a = some ⟨.type "tuple", od, .seq #[.int i t, .int j u] n, sl⟩) :
    ConstOf K mg x (.tuple [.int i, .int j]) :=
  ⟨.ref a, _, h, rfl, fun B => .tup (xs := [.int i, .int j]) (.inr ⟨_, _, n, l, rfl, rfl, (by show 2 ≤ sizeLine; decide), .cons ⟨t, rfl⟩ (.cons ⟨u, rfl⟩ .nil)⟩) (.cons (.int i) (.cons (.int j) .nil))⟩
/-- a, b, c = x, y, z -/
def cPar3 (i j l : Nat) (c : CA) : CS := fun ρ => (c ρ).bs fun ds ρ => match ds with
  | [a, b, d] => .nx (((ρ.set i (some (.dat a))).set j (some (.dat b))).set l (some (.dat d)))
  | _ => .bad
theorem zs_par3 {i j l : Nat} {x y z : Str} {a b c : Expr} {px py pz pt pt2 : Pos} {kt k2 : Nat} (hc : X.calm = true) (hN : X.N.Nodup) (hi : X.N[i]? = some x) (hj : X.N[j]? = some y) (hl : X.N[l]? = some z) (hij : i ≠ j) (hil : i ≠ l) (hjl : j ≠ l)
    (hx : X.env.scope.names.lookup x = some .local) (hy : X.env.scope.names.lookup y = some .local) (hz : X.env.scope.names.lookup z = some .local) (ha : ZA X xc W [a, b, c] cas)
    (hw : swappedStores [.Tuple [.Name x px, .Name y py, .Name z pz] kt pt] (.Tuple [a, b, c] k2 pt2) X.env = pure (some [x, y, z])) (hJi : W.J.contains i = false := by rfl) (hJj : W.J.contains j = false := by rfl) (hJl : W.J.contains l = false := by rfl)
    (hs : swapsWithSole [.Tuple [.Name x px, .Name y py, .Name z pz] kt pt] (.Tuple [a, b, c] k2 pt2) pos.line X.env = pure false := by rfl) :
    ZS X xc W (.Assign [.Tuple [.Name x px, .Name y py, .Name z pz] kt pt] (.Tuple [a, b, c] k2 pt2) pos) (cPar3 i j l cas) :=
  PS.imp (ps_par3 hc hN hi hj hl hij hil hjl hx hy hz ha.run hw hs) fun D σ H ⟨Γ, B, ρ, rep, k⟩ => tza_bs rep k fun vs B1 H1 ds ρ1 e1 r1 q1 k1 => by
    match ds, k1, q1 with
    | [d1, d2, d3], k1, .cons h1 (.cons h2 (.cons h3 .nil)) => exact ⟨_, _, _, rfl, k1 B1 _ H1 (((r1.slot i (notin hJi) (sres_dat h1)).slot j (notin hJj) (sres_dat h2)).slot l (notin hJl) (sres_dat h3))⟩
    | [], k1, _ => exact k1.elim
    | [_], k1, _ => exact k1.elim
    | [_, _], k1, _ => exact k1.elim
    | _ :: _ :: _ :: _ :: _, k1, _ => exact k1.elim
/-! ### name.pop(), name.extend(e) -/
def cPop (i : Nat) : CE := fun ρ => match ρ[i]? with
  | some (some (.lst l)) => match l[l.length - 1]? with
    | some d => .ok (.dat d) (ρ.set i (some (.lst l.dropLast)))
    | none => .bad
  | _ => .bad
theorem dpAll_dropLast {K : PySem.W.Frag} {B : Hp} : ∀ {xs : List V} {ds : List PyData}, DpAll K B xs ds → DpAll K B xs.dropLast ds.dropLast
  | _, _, .nil => .nil
  | _, _, .cons h .nil => .nil
  | _, _, .cons h (.cons h2 t) => .cons h (dpAll_dropLast (.cons h2 t))
theorem ze_pop {i : Nat} (ho : PE X o (tVar i)) (hbase : attributeBase o "pop" X.env (eval o X.env) = eval o X.env := by rfl) (hline : (apos.endLine == cpos.line) = true := by rfl) :
    ZE X xc W (.Call (.Attribute o "pop" apos) [] [] cpos) (cPop i) :=
  PE.imp (pe_bm0 PySem.F.plainAttrs_list PySem.F.slot_list_pop PySem.F.type_list_pop mt_pop ho hbase hline) fun σ H Q ⟨Γ, B, ρ, rep, k⟩ => by
    unfold cPop at k
    split at k
    · rename_i l hi
      obtain ⟨a, xs, h1, h2, h3, h4⟩ := rep.own hi
      cases hl : l[l.length - 1]? with
      | none => rw [hl] at k; exact k.elim
      | some d =>
        rw [hl] at k
        obtain ⟨v, g1, g2⟩ := dpAll_get h3 hl
        refine ⟨_, h1, .inl ⟨rfl, xs, .inl (.inl h2)⟩, a, xs, v, rfl, rfl, h2, by rw [dpAll_len h3]; exact g1, ?_⟩
        exact k v B _ (Ex.refl _) (h4 _ _ (dpAll_dropLast h3)) (sres_dat g2)
    · exact k.elim
def cExt (i : Nat) (c : CE) : CS := fun ρ => match ρ[i]? with
  | some (some (.lst _)) => (c ρ).bs fun s ρ => match ρ[i]?, s with
    | some (some (.lst l)), .lst m => bif decide (l.length + m.length ≤ sizeLine) then .nx (ρ.set i (some (.lst (l ++ m)))) else .bad
    | _, _ => .bad
  | _ => .bad
theorem zs_extend {i : Nat} (ho : PE X o (tVar i)) (he : ZE X xc W e ca)
    (hbase : attributeBase o "extend" X.env (eval o X.env) = eval o X.env := by rfl)
    (hfew : ((backTo cpos (starEach [e] X.env)).all (fun x => !x.1) && (backToKw cpos (keywordEach [] X.env)).all (fun x => x.1.isSome)
      && decide ([e].length + ([] : List Keyword).length + (if ([] : List Keyword).isEmpty then 0 else 1) < 30)) = true := by rfl)
    (hline : (apos.endLine == cpos.line) = true := by rfl) (hs : starEach [e] X.env = (false, eval e X.env) :: starEach [] X.env := by rfl) (hplain : (backTo cpos (starEach [] X.env)).any (·.1) = false := by rfl)
    (hsw : swapsWith (.Call (.Attribute o "extend" apos) [e] [] cpos) none pos.line X.env = pure false := by rfl) :
    ZS X xc W (.Expr (.Call (.Attribute o "extend" apos) [e] [] cpos) pos) (cExt i ca) :=
  PS.imp (ps_expr (pe_bm PySem.F.plainAttrs_list PySem.F.slot_list_extend PySem.F.type_list_extend mt_extend ho (pa_cons he pa_nil hs) hbase hfew hline hs hplain) hsw) fun D σ H ⟨Γ, B, ρ, rep, k⟩ => by
    unfold cExt at k
    split at k
    · rename_i l0 hi
      obtain ⟨a, xs, h1, h2, h3, _⟩ := rep.own hi
      refine ⟨_, h1, .inl ⟨rfl, xs, .inl (.inl h2)⟩, ?_⟩
      refine tz_bs rep k fun v B1 H1 s ρ1 e1 r1 q1 k1 => ?_
      split at k1
      · rename_i l m hl
        cases hd : decide (l.length + m.length ≤ sizeLine) with
        | false => rw [hd] at k1; exact k1.elim
        | true =>
          rw [hd] at k1
          obtain ⟨⟨c, zs, rfl, m1, m2, m3, m5⟩, _⟩ := q1
          obtain ⟨b, ys, g1, g2, g3, g4⟩ := r1.own hl
          rw [h1] at g1
          cases g1
          exact ⟨a, c, ys, zs, rfl, rfl, g2, m3, by rw [dpAll_len g3, dpAll_len m5]; exact of_decide_eq_true hd, k1 B1 σ _ (g4 _ _ (dpAll_app g3 m5))⟩
      · exact k1.elim
    · exact k.elim
/-! ### min, max, sum of a list of ints -/
def intsOf : List PyData → Option (List Int)
  | [] => some []
  | .int b :: ds => (intsOf ds).map (b :: ·)
  | _ => none
theorem intsOf_map : ∀ {l : List PyData} {bs : List Int}, intsOf l = some bs → l = bs.map PyData.int
  | [], bs, h => by cases h; rfl
  | .int b :: ds, bs, h => by
    unfold intsOf at h
    cases e : intsOf ds with
    | none => rw [e] at h; cases h
    | some r =>
      rw [e] at h
      cases h
      rw [intsOf_map e]
      rfl
  | .none :: _, _, h => by cases h
  | .bool _ :: _, _, h => by cases h
  | .str _ :: _, _, h => by cases h
  | .list _ :: _, _, h => by cases h
  | .tuple _ :: _, _, h => by cases h
  | .dict _ :: _, _, h => by cases h
def maxOf : List Int → Option Int
  | [] => none
  | a :: as => some (as.foldl max a)
def minOf : List Int → Option Int
  | [] => none
  | a :: as => some (as.foldl min a)
theorem foldl_max : ∀ (as : List Int) (a : Int), (as.foldl max a = a ∨ as.foldl max a ∈ as) ∧ a ≤ as.foldl max a ∧ ∀ y ∈ as, y ≤ as.foldl max a
  | [], a => ⟨.inl rfl, Int.le_refl _, fun y h => by simp at h⟩
  | b :: as, a => by
    obtain ⟨h1, h2, h3⟩ := foldl_max as (max a b)
    have e : (b :: as).foldl max a = as.foldl max (max a b) := rfl
    rw [e]
    refine ⟨?_, by omega, fun y hy => ?_⟩
    · rcases h1 with h1 | h1
      · rcases Int.le_total a b with h | h
        · exact .inr (by rw [h1, Int.max_eq_right h]; exact List.mem_cons_self)
        · exact .inl (by rw [h1, Int.max_eq_left h])
      · exact .inr (List.mem_cons_of_mem _ h1)
    · rcases List.mem_cons.mp hy with rfl | hy
      · omega
      · exact h3 y hy
theorem foldl_min : ∀ (as : List Int) (a : Int), (as.foldl min a = a ∨ as.foldl min a ∈ as) ∧ as.foldl min a ≤ a ∧ ∀ y ∈ as, as.foldl min a ≤ y
  | [], a => ⟨.inl rfl, Int.le_refl _, fun y h => by simp at h⟩
  | b :: as, a => by
    obtain ⟨h1, h2, h3⟩ := foldl_min as (min a b)
    have e : (b :: as).foldl min a = as.foldl min (min a b) := rfl
    rw [e]
    refine ⟨?_, by omega, fun y hy => ?_⟩
    · rcases h1 with h1 | h1
      · rcases Int.le_total a b with h | h
        · exact .inl (by rw [h1, Int.min_eq_left h])
        · exact .inr (by rw [h1, Int.min_eq_right h]; exact List.mem_cons_self)
      · exact .inr (List.mem_cons_of_mem _ h1)
    · rcases List.mem_cons.mp hy with rfl | hy
      · omega
      · exact h3 y hy
theorem maxOf_spec {l : List Int} {m : Int} (h : maxOf l = some m) : m ∈ l ∧ ∀ y ∈ l, y ≤ m := by
  cases l with
  | nil => cases h
  | cons a as =>
    cases h
    obtain ⟨h1, h2, h3⟩ := foldl_max as a
    refine ⟨?_, fun y hy => (List.mem_cons.mp hy).elim (fun e => by rw [e]; exact h2) (h3 y)⟩
    rcases h1 with h1 | h1
    · rw [h1]; exact List.mem_cons_self
    · exact List.mem_cons_of_mem _ h1
theorem minOf_spec {l : List Int} {m : Int} (h : minOf l = some m) : m ∈ l ∧ ∀ y ∈ l, m ≤ y := by
  cases l with
  | nil => cases h
  | cons a as =>
    cases h
    obtain ⟨h1, h2, h3⟩ := foldl_min as a
    refine ⟨?_, fun y hy => (List.mem_cons.mp hy).elim (fun e => by rw [e]; exact h2) (h3 y)⟩
    rcases h1 with h1 | h1
    · rw [h1]; exact List.mem_cons_self
    · exact List.mem_cons_of_mem _ h1
def gMax1 : List PyData → Option S
  | [.list l] => match intsOf l with
    | some ns => (maxOf ns).map fun m => .dat (.int m)
    | none => none
  | _ => none
def gMin1 : List PyData → Option S
  | [.list l] => match intsOf l with
    | some ns => (minOf ns).map fun m => .dat (.int m)
    | none => none
  | _ => none
def gSum1 : List PyData → Option S
  | [.list l] => match intsOf l with
    | some ns => some (.dat (.int ns.sum))
    | none => none
  | _ => none
theorem on_max1 {K : PySem.W.Frag} : OpN K (rMax K) gMax1 := by
  intro J Γ B ρ σ H xs ds s Q rep hx hs af
  unfold gMax1 at hs
  split at hs
  · rename_i l
    cases hb : intsOf l with
    | none => rw [hb] at hs; cases hs
    | some ns =>
      rw [hb] at hs
      cases hm : maxOf ns with
      | none => simp only [hm] at hs; cases hs
      | some m =>
        simp only [hm] at hs
        cases hs
        obtain ⟨h1, h2⟩ := maxOf_spec hm
        obtain ⟨x, rfl, g1⟩ := dpAll_one hx
        obtain ⟨a, ys, rfl, k1, k2⟩ := dp_list g1
        rw [intsOf_map hb] at k2
        refine ⟨a, ns, rfl, by rw [← dpAll_ints k2]; exact ex_l rep.bh k1, List.length_pos_of_mem h1, fun m' g1 g2 => ?_⟩
        have e : m' = m := Int.le_antisymm (h2 m' g1) (g2 m h1)
        subst e
        exact After.now rep af (.int _)
  · cases hs
theorem on_min1 {K : PySem.W.Frag} : OpN K (rMin K) gMin1 := by
  intro J Γ B ρ σ H xs ds s Q rep hx hs af
  unfold gMin1 at hs
  split at hs
  · rename_i l
    cases hb : intsOf l with
    | none => rw [hb] at hs; cases hs
    | some ns =>
      rw [hb] at hs
      cases hm : minOf ns with
      | none => simp only [hm] at hs; cases hs
      | some m =>
        simp only [hm] at hs
        cases hs
        obtain ⟨h1, h2⟩ := minOf_spec hm
        obtain ⟨x, rfl, g1⟩ := dpAll_one hx
        obtain ⟨a, ys, rfl, k1, k2⟩ := dp_list g1
        rw [intsOf_map hb] at k2
        refine ⟨a, ns, rfl, by rw [← dpAll_ints k2]; exact ex_l rep.bh k1, List.length_pos_of_mem h1, fun m' g1 g2 => ?_⟩
        have e : m' = m := Int.le_antisymm (g2 m h1) (h2 m' g1)
        subst e
        exact After.now rep af (.int _)
  · cases hs
theorem on_sum1 {K : PySem.W.Frag} : OpN K (rSum K) gSum1 := by
  intro J Γ B ρ σ H xs ds s Q rep hx hs af
  unfold gSum1 at hs
  split at hs
  · rename_i l
    cases hb : intsOf l with
    | none => rw [hb] at hs; cases hs
    | some ns =>
      rw [hb] at hs
      cases hs
      obtain ⟨x, rfl, g1⟩ := dpAll_one hx
      obtain ⟨a, ys, rfl, k1, k2⟩ := dp_list g1
      rw [intsOf_map hb] at k2
      exact ⟨a, ns, rfl, by rw [← dpAll_ints k2]; exact ex_l rep.bh k1, After.now rep af (.int _)⟩
  · cases hs
/-! ### xs[::-1] -/
def gRev : PyData → Option S
  | .list l => some (.lst l.reverse)
  | _ => none
end
end Z
set_option maxHeartbeats 2000000
/-! Z: the end of a law. -/
namespace Z
open PySem PySem.Spec PyProof.Rows L2
open Evl (Ex ex_l ex_t ex_rd)
def spLaw (K : PySem.W.Frag) : Sp := fun vs H Q _ => ∃ (a : Addr) (ns : List Int), vs = [.ref a] ∧ SqL K H a (ns.map V.int) ∧ ns.length ≤ 63 ∧ (∀ z ∈ ns, Builtin.Int.intBits z ≤ 1048576) ∧ ∀ H', Q (.bl true) H'
/-- what a law is, over its mirror -/
def LawTrue (F : Fn) : Prop := ∀ ns : List Int, ns.length ≤ 63 → (∀ z ∈ ns, Builtin.Int.intBits z ≤ 1048576) → ∃ ss, F [.dat (.list (ns.map PyData.int))] = .ok (.dat (.bool true)) ss
theorem law_imp {K : PySem.W.Frag} {xc : Str → Value} {F : Fn} (h : LawTrue F) (vs : List V) (H : Hp) (Q : VK) (E : XK) (p : spLaw K vs H Q E) : spZ K xc 1 F vs H Q E := by
  obtain ⟨a, ns, rfl, hS, hl, hb, q⟩ := p
  obtain ⟨ss, e⟩ := h ns hl hb
  refine ⟨rfl, (⟨fun _ => none, H, []⟩ : Fm []), H, [.dat (.list (ns.map PyData.int))], ?_, ?_⟩
  · refine ⟨Ex.refl H, fun a o h => (by cases h), fun a o h => (by cases h), Ex.refl H, rfl, fun i s h => ?_, fun i j s t a ne h => ?_, fun k j v h => by simp at h⟩
    · cases i with
      | zero =>
        simp at h
        subst h
        exact ⟨.ref a, rfl, .lst hS (ints_dpAll ns)⟩
      | succ i => simp at h
    · cases i with
      | zero => simp at h
      | succ i => simp at h
  · rw [e]
    intro v B' H' _ _ q'
    rw [dp_bool q'.1]
    exact q H'
theorem z_walk {l : PySem.W.OpenLaw} {k : Nat} {q : Program} {loose : List Str} {XP : (Str → Option Value) → Heap → Prop} {YP : World → Heap → Prop} {d : DefRec} {K : Params → PySem.W.Frag} {x : Str}
    (hn : l.most = some 63) (hdf : d.params.defaults = []) (hr : Room k callerA)
    (hY : ∀ (w : World) (h : Heap), YP w h → (K w.params).In h)
    (F : ∀ (w : World) (mg : Str → Option Value) (fa : Addr) (h : Heap), (K w.params).In h → h.Ns mainGlobals mg → mg d.name = some (.ref fa) →
      ∃ fd : FuncData, (∀ (s : Shared) (u : Value), BindsTo s fd ⟨[u], []⟩ [(x, u)]) ∧
        ∀ base : Heap, (K w.params).In base → base.Ns mainGlobals mg → FnOk l.prog w (K w.params) mg base (L2.CX l.prog w) k fa fd [x] (spLaw (K w.params))) :
    PySem.W.WalkO q loose XP YP l.row.toRowW d [] (fun f vs => PySem.call f vs) :=
  L2.walk_ofB (n := 63) (k := k) (x := x) (CX := fun w => L2.CX l.prog w) (sp := fun w => spLaw (K w.params)) hn (by decide) hdf hr hY F
    (fun w H a ns hl hb _ hS => ⟨a, ns, rfl, hS, hl, hb, fun _ => rfl⟩) fun w H s e s' h => by
      obtain ⟨_, _, _, _, _, _, _, _, _, _, _, _, z⟩ := h
      exact z
end Z
set_option maxHeartbeats 2000000
/-! Z: reckoning with mirrors. -/
namespace Z
open PySem PySem.Spec PyProof.Rows L2
section
variable {α : Type} {a b c d e f : α} {l : List α}
theorem atI_0 : atI (a :: l) 0 = some a := atI_nat (j := 0) rfl
theorem atI_1 : atI (a :: b :: l) 1 = some b := atI_nat (j := 1) rfl
theorem atI_2 : atI (a :: b :: c :: l) 2 = some c := atI_nat (j := 2) rfl
theorem atI_3 : atI (a :: b :: c :: d :: l) 3 = some d := atI_nat (j := 3) rfl
theorem ixN_0 {n : Nat} : ixN (n + 1) 0 = some 0 := by unfold ixN; rw [if_pos (by decide), if_pos (by omega)]; rfl
theorem ixN_1 {n : Nat} : ixN (n + 2) 1 = some 1 := by unfold ixN; rw [if_pos (by decide), if_pos (by omega)]; rfl
theorem ixN_2 {n : Nat} : ixN (n + 3) 2 = some 2 := by unfold ixN; rw [if_pos (by decide), if_pos (by omega)]; rfl
theorem ixN_3 {n : Nat} : ixN (n + 4) 3 = some 3 := by unfold ixN; rw [if_pos (by decide), if_pos (by omega)]; rfl
theorem ixL_1 : ixN [a, b, c, d].length 1 = some 1 := ixN_1
theorem ixL_2 : ixN [a, b, c, d].length 2 = some 2 := ixN_2
theorem ixL_3 : ixN [a, b, c, d].length 3 = some 3 := ixN_3
theorem atI_lt {xs : List α} {i : Nat} (h : i < xs.length) : atI xs (i : Int) = some xs[i] := atI_nat (List.getElem?_eq_getElem h)
end
theorem gEq_ii {i j : Int} : gEq (.int i) (.int j) = some (.dat (.bool (i == j))) := rfl
theorem gNe_ii {i j : Int} : gNe (.int i) (.int j) = some (.dat (.bool (!(i == j)))) := rfl
theorem bd_ok {s : S} {ρ : En} {k : PyData → En → R} : (R.ok s ρ).bd k = k s.d ρ := rfl
theorem ba_ok {s : S} {ρ : En} {k : PyData → En → RA} : (R.ok s ρ).ba k = k s.d ρ := rfl
theorem bs_ok {s : S} {ρ : En} {k : S → En → O} : (R.ok s ρ).bs k = k s ρ := rfl
theorem bx_ok {s : S} {ρ : En} {k : PyData → En → RX} : (R.ok s ρ).bx k = k s.d ρ := rfl
theorem abd_ok {s : List PyData} {ρ : En} {k : List PyData → En → R} : (RA.ok s ρ).bd k = k s ρ := rfl
theorem aba_ok {s : List PyData} {ρ : En} {k : List PyData → En → RA} : (RA.ok s ρ).ba k = k s ρ := rfl
theorem abs_ok {s : List PyData} {ρ : En} {k : List PyData → En → O} : (RA.ok s ρ).bs k = k s ρ := rfl
theorem xbx_ok {s : List Ar} {ρ : En} {k : List Ar → En → RX} : (RX.ok s ρ).bx k = k s ρ := rfl
theorem bbd_ok {s : Ar} {ρ : En} {k : Ar → En → R} : (RB.ok s ρ).bd k = k s ρ := rfl
theorem lift_some {s : S} {ρ : En} : R.lift (some s) ρ = .ok s ρ := rfl
theorem sq_nx {ρ : En} {c : CS} : (O.nx ρ).sq c = c ρ := rfl
theorem sq_rt {s : S} {ρ : En} {c : CS} : (O.rt s ρ).sq c = .rt s ρ := rfl
theorem S_d {d : PyData} : (S.dat d).d = d := rfl
theorem S_l {l : List PyData} : (S.lst l).d = .list l := rfl
theorem ixN_41 : ixN 4 1 = some 1 := ixN_1 (n := 2)
theorem ixN_42 : ixN 4 2 = some 2 := ixN_2 (n := 1)
theorem ixN_43 : ixN 4 3 = some 3 := ixN_3 (n := 0)
theorem fin_nx {J : List Nat} {ss : List S} {ρ : En} : finish J ss (.nx ρ) = match outs J ρ 0 ss with
    | some r => .ok (.dat .none) r
    | none => .bad := rfl
theorem fin_rt {J : List Nat} {ss : List S} {s : S} {ρ : En} : finish J ss (.rt s ρ) = match outs J ρ 0 ss with
    | some r => .ok s r
    | none => .bad := rfl
theorem fin_exc {J : List Nat} {ss : List S} {x : Str} {ρ : En} : finish J ss (.exc x ρ) = match outs J ρ 0 ss with
    | some r => .exc x r
    | none => .bad := rfl
theorem sq_bad {c : CS} : O.bad.sq c = .bad := rfl
theorem sq_bk {ρ : En} {c : CS} : (O.bk ρ).sq c = .bk ρ := rfl
theorem sq_ct {ρ : En} {c : CS} : (O.ct ρ).sq c = .ct ρ := rfl
theorem sq_exc {x : Str} {ρ : En} {c : CS} : (O.exc x ρ).sq c = .exc x ρ := rfl
theorem dz0 : decide (0 < sizeLine) = true := by decide
theorem dz1 : decide (1 < sizeLine) = true := by decide
theorem dz2 : decide (2 < sizeLine) = true := by decide
theorem dz3 : decide (3 < sizeLine) = true := by decide
theorem dz4 : decide (4 < sizeLine) = true := by decide
theorem dz5 : decide (5 < sizeLine) = true := by decide
theorem dz6 : decide (6 < sizeLine) = true := by decide
theorem dz7 : decide (7 < sizeLine) = true := by decide
theorem dz8 : decide (8 < sizeLine) = true := by decide
theorem dz9 : decide (9 < sizeLine) = true := by decide
theorem dz10 : decide (10 < sizeLine) = true := by decide
theorem dz11 : decide (11 < sizeLine) = true := by decide
theorem dz12 : decide (12 < sizeLine) = true := by decide
theorem dz13 : decide (13 < sizeLine) = true := by decide
theorem dz14 : decide (14 < sizeLine) = true := by decide
theorem dz15 : decide (15 < sizeLine) = true := by decide
theorem dz16 : decide (16 < sizeLine) = true := by decide
theorem ic0 : ((0 : Nat) : Int) = 0 := rfl
theorem ic1 : ((1 : Nat) : Int) = 1 := rfl
theorem ic2 : ((2 : Nat) : Int) = 2 := rfl
theorem ic3 : ((3 : Nat) : Int) = 3 := rfl
theorem ic4 : ((4 : Nat) : Int) = 4 := rfl
theorem isi_int_n  : gIsi "int" .none = some (.dat (.bool false)) := rfl
theorem isi_int_b {x : Bool} : gIsi "int" (.bool x) = some (.dat (.bool true)) := rfl
theorem isi_int_i {x : Int} : gIsi "int" (.int x) = some (.dat (.bool true)) := rfl
theorem isi_int_s {x : Str} : gIsi "int" (.str x) = some (.dat (.bool false)) := rfl
theorem isi_int_l {x : List PyData} : gIsi "int" (.list x) = some (.dat (.bool false)) := rfl
theorem isi_int_t {x : List PyData} : gIsi "int" (.tuple x) = some (.dat (.bool false)) := rfl
theorem isi_bool_n  : gIsi "bool" .none = some (.dat (.bool false)) := rfl
theorem isi_bool_b {x : Bool} : gIsi "bool" (.bool x) = some (.dat (.bool true)) := rfl
theorem isi_bool_i {x : Int} : gIsi "bool" (.int x) = some (.dat (.bool false)) := rfl
theorem isi_bool_s {x : Str} : gIsi "bool" (.str x) = some (.dat (.bool false)) := rfl
theorem isi_bool_l {x : List PyData} : gIsi "bool" (.list x) = some (.dat (.bool false)) := rfl
theorem isi_bool_t {x : List PyData} : gIsi "bool" (.tuple x) = some (.dat (.bool false)) := rfl
theorem isi_str_n  : gIsi "str" .none = some (.dat (.bool false)) := rfl
theorem isi_str_b {x : Bool} : gIsi "str" (.bool x) = some (.dat (.bool false)) := rfl
theorem isi_str_i {x : Int} : gIsi "str" (.int x) = some (.dat (.bool false)) := rfl
theorem isi_str_s {x : Str} : gIsi "str" (.str x) = some (.dat (.bool true)) := rfl
theorem isi_str_l {x : List PyData} : gIsi "str" (.list x) = some (.dat (.bool false)) := rfl
theorem isi_str_t {x : List PyData} : gIsi "str" (.tuple x) = some (.dat (.bool false)) := rfl
theorem isi_list_n  : gIsi "list" .none = some (.dat (.bool false)) := rfl
theorem isi_list_b {x : Bool} : gIsi "list" (.bool x) = some (.dat (.bool false)) := rfl
theorem isi_list_i {x : Int} : gIsi "list" (.int x) = some (.dat (.bool false)) := rfl
theorem isi_list_s {x : Str} : gIsi "list" (.str x) = some (.dat (.bool false)) := rfl
theorem isi_list_l {x : List PyData} : gIsi "list" (.list x) = some (.dat (.bool true)) := rfl
theorem isi_list_t {x : List PyData} : gIsi "list" (.tuple x) = some (.dat (.bool false)) := rfl
theorem isi_tuple_n  : gIsi "tuple" .none = some (.dat (.bool false)) := rfl
theorem isi_tuple_b {x : Bool} : gIsi "tuple" (.bool x) = some (.dat (.bool false)) := rfl
theorem isi_tuple_i {x : Int} : gIsi "tuple" (.int x) = some (.dat (.bool false)) := rfl
theorem isi_tuple_s {x : Str} : gIsi "tuple" (.str x) = some (.dat (.bool false)) := rfl
theorem isi_tuple_l {x : List PyData} : gIsi "tuple" (.list x) = some (.dat (.bool false)) := rfl
theorem isi_tuple_t {x : List PyData} : gIsi "tuple" (.tuple x) = some (.dat (.bool true)) := rfl
theorem isi_dict_n  : gIsi "dict" .none = some (.dat (.bool false)) := rfl
theorem isi_dict_b {x : Bool} : gIsi "dict" (.bool x) = some (.dat (.bool false)) := rfl
theorem isi_dict_i {x : Int} : gIsi "dict" (.int x) = some (.dat (.bool false)) := rfl
theorem isi_dict_s {x : Str} : gIsi "dict" (.str x) = some (.dat (.bool false)) := rfl
theorem isi_dict_l {x : List PyData} : gIsi "dict" (.list x) = some (.dat (.bool false)) := rfl
theorem isi_dict_t {x : List PyData} : gIsi "dict" (.tuple x) = some (.dat (.bool false)) := rfl
/-! ### loops -/
theorem forL_wp {g : CG} {body : CS} (I : List PyData → En → Prop) (P : O → Prop)
    (hs : ∀ d ds ρ, I (d :: ds) ρ → ∃ ρ1, g d ρ = some ρ1 ∧ ((∃ ρ2, body ρ1 = .nx ρ2 ∧ I ds ρ2) ∨ (∃ ρ2, body ρ1 = .ct ρ2 ∧ I ds ρ2) ∨ (∃ ρ2, body ρ1 = .bk ρ2 ∧ P (.nx ρ2)) ∨ (∃ s ρ2, body ρ1 = .rt s ρ2 ∧ P (.rt s ρ2)) ∨ (∃ x ρ2, body ρ1 = .exc x ρ2 ∧ P (.exc x ρ2))))
    (he : ∀ ρ, I [] ρ → P (.nx ρ)) : ∀ (ds : List PyData) (ρ : En), I ds ρ → P (forL g body ds ρ)
  | [], ρ, h => he ρ h
  | d :: ds, ρ, h => by
    obtain ⟨ρ1, h1, h2⟩ := hs d ds ρ h
    unfold forL
    rw [h1]
    simp only
    rcases h2 with ⟨ρ2, e, i⟩ | ⟨ρ2, e, i⟩ | ⟨ρ2, e, i⟩ | ⟨s, ρ2, e, i⟩ | ⟨s, ρ2, e, i⟩
    · rw [e]; exact forL_wp I P hs he ds ρ2 i
    · rw [e]; exact forL_wp I P hs he ds ρ2 i
    · rw [e]; exact i
    · rw [e]; exact i
    · rw [e]; exact i
/-- a loop that runs through -/
theorem forL_nx {g : CG} {body : CS} (I : List PyData → En → Prop) (hs : ∀ d ds ρ, I (d :: ds) ρ → ∃ ρ1 ρ2, g d ρ = some ρ1 ∧ body ρ1 = .nx ρ2 ∧ I ds ρ2) (ds : List PyData) (ρ : En) (h : I ds ρ) : ∃ ρ', forL g body ds ρ = .nx ρ' ∧ I [] ρ' :=
  forL_wp I (fun o => ∃ ρ', o = .nx ρ' ∧ I [] ρ') (fun d ds ρ h => by
    obtain ⟨ρ1, ρ2, h1, h2, h3⟩ := hs d ds ρ h
    exact ⟨ρ1, h1, .inl ⟨ρ2, h2, h3⟩⟩) (fun ρ h => ⟨ρ, rfl, h⟩) ds ρ h
theorem rangeL_length (lo : Int) (n : Nat) : (rangeL lo n).length = n := by simp [rangeL]
/-! ### tests as values -/
section
variable {ρ : En} {b c : Bool} {ca cb : CE} {x y : CS} {d : PyData}
def tAnd (r : R) (cb : CE) : R := r.bd fun d ρ => match d with
  | .bool true => cb ρ
  | .bool false => .ok (.dat (.bool false)) ρ
  | _ => .bad
def tOr (r : R) (cb : CE) : R := r.bd fun d ρ => match d with
  | .bool true => .ok (.dat (.bool true)) ρ
  | .bool false => cb ρ
  | _ => .bad
def tIf (r : R) (ca cb : CE) : R := r.bd fun d ρ => match d with
  | .bool true => ca ρ
  | .bool false => cb ρ
  | _ => .bad
def tIfS (r : R) (a b : CS) : O := r.bs fun s ρ => match s with
  | .dat (.bool true) => a ρ
  | .dat (.bool false) => b ρ
  | _ => .bad
theorem cAnd_t : cAnd ca cb ρ = tAnd (ca ρ) cb := rfl
theorem cOr_t : cOr ca cb ρ = tOr (ca ρ) cb := rfl
theorem cIf_t {cc : CE} : cIf cc ca cb ρ = tIf (cc ρ) ca cb := rfl
theorem cIfS_t : cIfS ca x y ρ = tIfS (ca ρ) x y := rfl
theorem cChain_t {g1 g2 : PyData → PyData → Option S} {cc : CE} : cChain g1 g2 ca cb cc ρ = (ca ρ).bd fun d ρ => (cb ρ).bd fun e ρ => tAnd (R.lift (g1 d e) ρ) (fun ρ => (cc ρ).bd fun f ρ => R.lift (g2 e f) ρ) := rfl
theorem tAnd_ok : tAnd (.ok (.dat (.bool b)) ρ) cb = bif b then cb ρ else .ok (.dat (.bool false)) ρ := by cases b <;> rfl
theorem tOr_ok : tOr (.ok (.dat (.bool b)) ρ) cb = bif b then .ok (.dat (.bool true)) ρ else cb ρ := by cases b <;> rfl
theorem tIf_ok : tIf (.ok (.dat (.bool b)) ρ) ca cb = bif b then ca ρ else cb ρ := by cases b <;> rfl
theorem tIfS_ok : tIfS (.ok (.dat (.bool b)) ρ) x y = bif b then x ρ else y ρ := by cases b <;> rfl
theorem tAnd_exc {z : Str} : tAnd (.exc z ρ) cb = .exc z ρ := rfl
theorem tOr_exc {z : Str} : tOr (.exc z ρ) cb = .exc z ρ := rfl
theorem tIf_exc {z : Str} : tIf (.exc z ρ) ca cb = .exc z ρ := rfl
theorem tIfS_exc {z : Str} : tIfS (.exc z ρ) x y = .exc z ρ := rfl
theorem co_and : (bif b then R.ok (.dat (.bool c)) ρ else R.ok (.dat (.bool false)) ρ) = .ok (.dat (.bool (b && c))) ρ := by cases b <;> rfl
theorem co_or : (bif b then R.ok (.dat (.bool true)) ρ else R.ok (.dat (.bool c)) ρ) = .ok (.dat (.bool (b || c))) ρ := by cases b <;> rfl
theorem tAnd_cond {r1 r2 : R} : tAnd (bif b then r1 else r2) cb = bif b then tAnd r1 cb else tAnd r2 cb := by cases b <;> rfl
theorem tOr_cond {r1 r2 : R} : tOr (bif b then r1 else r2) cb = bif b then tOr r1 cb else tOr r2 cb := by cases b <;> rfl
theorem tIfS_cond {r1 r2 : R} : tIfS (bif b then r1 else r2) x y = bif b then tIfS r1 x y else tIfS r2 x y := by cases b <;> rfl
theorem bd_cond {r1 r2 : R} {k : PyData → En → R} : (bif b then r1 else r2).bd k = bif b then r1.bd k else r2.bd k := by cases b <;> rfl
theorem ba_cond {r1 r2 : R} {k : PyData → En → RA} : (bif b then r1 else r2).ba k = bif b then r1.ba k else r2.ba k := by cases b <;> rfl
theorem bs_cond {r1 r2 : R} {k : S → En → O} : (bif b then r1 else r2).bs k = bif b then r1.bs k else r2.bs k := by cases b <;> rfl
theorem bx_cond {r1 r2 : R} {k : PyData → En → RX} : (bif b then r1 else r2).bx k = bif b then r1.bx k else r2.bx k := by cases b <;> rfl
theorem sq_cond {r1 r2 : O} {k : CS} : (bif b then r1 else r2).sq k = bif b then r1.sq k else r2.sq k := by cases b <;> rfl
theorem fin_cond {J : List Nat} {ss : List S} {r1 r2 : O} : finish J ss (bif b then r1 else r2) = bif b then finish J ss r1 else finish J ss r2 := by cases b <;> rfl
theorem tru_b : gTru (.bool b) = some (.dat (.bool b)) := rfl
theorem gIs_bb : gIs (.bool b) (.bool c) = some (.dat (.bool (decide (b = c)))) := rfl
theorem gIsN_bb : gIsN (.bool b) (.bool c) = some (.dat (.bool (!decide (b = c)))) := rfl
theorem rangeL_2 : rangeL 0 2 = [.int 0, .int 1] := rfl
theorem rangeL_3 : rangeL 0 3 = [.int 0, .int 1, .int 2] := rfl
/-! ### comprehensions -/
theorem lcL_nil {vs : List Nat} {g : CG} {ct ce : CE} {acc : List PyData} : lcL vs g ct ce [] ρ acc = .ok acc ρ := rfl
def oG (o : Option En) (k : En → RA) : RA := match o with
  | none => .bad
  | some ρ => k ρ
def tLc (r : R) (k1 k0 : En → RA) : RA := match r with
  | .ok (.dat (.bool true)) ρ2 => k1 ρ2
  | .ok (.dat (.bool false)) ρ2 => k0 ρ2
  | _ => .bad
def eLc (r : R) (acc : List PyData) (k : List PyData → En → RA) : RA := match r with
  | .ok s ρ3 => bif decide (acc.length < sizeLine) then k (acc ++ [s.d]) ρ3 else .bad
  | _ => .bad
theorem lcL_cons {vs : List Nat} {g : CG} {ct ce : CE} {ds acc : List PyData} : lcL vs g ct ce (d :: ds) ρ acc = oG (g d (wipeE ρ vs)) fun ρ1 => tLc (ct ρ1) (fun ρ2 => eLc (ce ρ2) acc fun a ρ3 => lcL vs g ct ce ds ρ3 a) (fun ρ2 => lcL vs g ct ce ds ρ2 acc) := by
  rw [lcL]
  cases g d (wipeE ρ vs) with
  | none => rfl
  | some ρ1 =>
    simp only [oG]
    cases h : ct ρ1 with
    | bad => rfl
    | exc x ρ => rfl
    | ok s ρ2 =>
      cases s with
      | lst l => rfl
      | dat d =>
        cases d with
        | bool b =>
          cases b
          · rfl
          · simp only [tLc]
            cases ce ρ2 <;> rfl
        | _ => rfl
theorem oG_some {k : En → RA} : oG (some ρ) k = k ρ := rfl
theorem tLc_t {k1 k0 : En → RA} : tLc (.ok (.dat (.bool true)) ρ) k1 k0 = k1 ρ := rfl
theorem tLc_f {k1 k0 : En → RA} : tLc (.ok (.dat (.bool false)) ρ) k1 k0 = k0 ρ := rfl
theorem tLc_b {k1 k0 : En → RA} : tLc (.ok (.dat (.bool b)) ρ) k1 k0 = bif b then k1 ρ else k0 ρ := by cases b <;> rfl
theorem eLc_ok {s : S} {acc : List PyData} {k : List PyData → En → RA} : eLc (.ok s ρ) acc k = bif decide (acc.length < sizeLine) then k (acc ++ [s.d]) ρ else .bad := rfl
def fLc (r : RA) (k : List PyData → En → R) : R := match r with
  | .ok acc ρ2 => k acc ρ2
  | _ => .bad
def sLc (r : RA) (k : List PyData → En → R) : R := match r with
  | .ok ds ρ1 => k ds ρ1
  | .exc x ρ1 => .exc x ρ1
  | .bad => .bad
theorem cLc_t {vs : List Nat} {src : CA} {g : CG} {ct ce : CE} : cLc vs src g ct ce ρ = sLc (src ρ) fun ds ρ1 => bif noOwn ρ1 vs then fLc (lcL vs g ct ce ds ρ1 []) (fun acc ρ2 => .ok (.lst acc) (restoreE ρ1 ρ2 vs)) else .bad := by
  unfold cLc sLc
  cases src ρ with
  | ok ds ρ1 =>
    simp only
    cases noOwn ρ1 vs
    · rfl
    · simp only [cond_true]
      cases lcL vs g ct ce ds ρ1 [] <;> rfl
  | exc x ρ1 => rfl
  | bad => rfl
theorem sLc_ok {ds : List PyData} {k : List PyData → En → R} : sLc (.ok ds ρ) k = k ds ρ := rfl
theorem fLc_ok {ds : List PyData} {k : List PyData → En → R} : fLc (.ok ds ρ) k = k ds ρ := rfl
theorem bools_nil : boolsOf [] = some [] := rfl
theorem bools_cons {ds : List PyData} : boolsOf (.bool b :: ds) = (boolsOf ds).map (b :: ·) := rfl
end
/-! ### sizes -/
abbrev Bd (k : Nat) (i : Int) : Prop := i.natAbs < 2 ^ k
theorem Bd.mul {a b : Nat} {i j : Int} (h : Bd a i) (g : Bd b j) : Bd (a + b) (i * j) := wide_lt h g
theorem Bd.add {a : Nat} {i j : Int} (h : Bd a i) (g : Bd a j) : Bd (a + 1) (i + j) := by
  have : (2 : Nat) ^ (a + 1) = 2 ^ a + 2 ^ a := by rw [Nat.pow_succ]; omega
  unfold Bd at *
  omega
theorem Bd.sub {a : Nat} {i j : Int} (h : Bd a i) (g : Bd a j) : Bd (a + 1) (i - j) := by
  have : (2 : Nat) ^ (a + 1) = 2 ^ a + 2 ^ a := by rw [Nat.pow_succ]; omega
  unfold Bd at *
  omega
theorem Bd.mono {a b : Nat} {i : Int} (h : Bd a i) (hab : a ≤ b) : Bd b i := Nat.lt_of_lt_of_le h (Nat.pow_le_pow_right (by decide) hab)
theorem Bd.ok {a b : Nat} {i j : Int} (h : Bd a i) (g : Bd b j) (h0 : 0 < a := by decide) (h1 : 0 < b := by decide) (hs : a + b ≤ 1000000 := by decide) : decide (CMulW i j) = true := decide_eq_true (wide_mul h g h0 h1 hs)
theorem Bd.fd {a : Nat} {i j : Int} (g : Bd a j) (hj : j ≠ 0) (h0 : 0 < a := by decide) (hs : a ≤ 9000 := by decide) : decide (CFd i j) = true := decide_eq_true ⟨hj, Nat.lt_of_lt_of_le (PySem.Flt.log2_lt_of h0 g) hs⟩
theorem Bd.neg {a : Nat} {i : Int} (h : Bd a i) : Bd a (-i) := by unfold Bd at *; omega
theorem Bd.add2 {a b : Nat} {i j : Int} (h : Bd a i) (g : Bd b j) : Bd (Nat.max a b + 1) (i + j) := (h.mono (Nat.le_max_left a b)).add (g.mono (Nat.le_max_right a b))
theorem Bd.sub2 {a b : Nat} {i j : Int} (h : Bd a i) (g : Bd b j) : Bd (Nat.max a b + 1) (i - j) := (h.mono (Nat.le_max_left a b)).sub (g.mono (Nat.le_max_right a b))
/-- not too wide -/
def Bdx (i : Int) : Prop := Bd 5000 i
theorem Bdx.of {a : Nat} {i : Int} (h : Bd a i) (g : a ≤ 5000) : Bdx i := h.mono g
theorem Bd.lit {i : Int} (h : decide (i.natAbs < 18446744073709551616) = true) : Bd 64 i := of_decide_eq_true h
theorem cmulW_t {i j : Int} (h : Bdx i) (g : Bdx j) : decide (CMulW i j) = true := Bd.ok (a := 5000) (b := 5000) h g
theorem cfd_t {i j : Int} (h : Bdx j) (g : j ≠ 0) : decide (CFd i j) = true := Bd.fd (a := 5000) h g
theorem mpos_t {j : Int} (g : 0 < j) : decide (0 < j) = true := decide_eq_true g
theorem Bdx.id {i : Int} (h : Bdx i) : Bdx i := h
/-- a small number -/
def Sml (j : Int) : Prop := -1000000 ≤ j ∧ j ≤ 1000000
theorem Sml.id {i : Int} (h : Sml i) : Sml i := h
theorem Sml.lit {i : Int} (h : decide (-1000000 ≤ i ∧ i ≤ 1000000) = true) : Sml i := by unfold Sml; exact of_decide_eq_true h
theorem rng1_t {j : Int} (h : Sml j) : decide (-(2 ^ 62) ≤ j ∧ j < 2 ^ 62) = true := decide_eq_true (by unfold Sml at h; omega)
theorem rng2_t {i j : Int} (g : Sml i) (h : Sml j) : decide (-(2 ^ 62) ≤ i ∧ i < 2 ^ 62 ∧ -(2 ^ 62) ≤ j ∧ j < 2 ^ 62) = true := decide_eq_true (by unfold Sml at h g; omega)
/-- a number as data -/
abbrev Nu (p q : Int) : PyData := .tuple [.int p, .int q]
end Z
set_option maxHeartbeats 4000000
namespace Z
open PySem PySem.Spec PyProof.Rows L2
/-! ### the text -/
def topS (i : Nat) : Stmt := PySem.Challenge.pw_roomyway_k01_turns_and_segments.main.body.getD i (.Pass ⟨0, 0, 0, 0⟩)
structure Tx (K : PySem.W.Frag) (mg : Str → Option Value) : Prop where
  abs : mg "abs" = none
  all : mg "all" = none
  any : mg "any" = none
  bool : mg "bool" = none
  int : mg "int" = none
  isinstance : mg "isinstance" = none
  len : mg "len" = none
  list : mg "list" = none
  range : mg "range" = none
  str : mg "str" = none
  tuple : mg "tuple" = none
  c_FARTHEST : ConstOf K mg "FARTHEST" (.int 10000)
  c_MOST_SIGNS : ConstOf K mg "MOST_SIGNS" (.int 12)
  c_SMALL_LETTERS : ConstOf K mg "SMALL_LETTERS" (.str ("abcdefghijklmnopqrstuvwxyz" : Str))
def whileMax : Nat := 2 ^ 40
section
variable {P : Program} {w : World} {K : PySem.W.Frag} {mg : Str → Option Value} {base : Heap} {xc : Str → Value}
abbrev s_is_less : Stmt := topS 1
abbrev sc_N_is_less : List Str := ["a", "b"]
theorem sc_is_less : FnScope sc_N_is_less ["a", "b"] (defScope s_is_less) := ⟨rfl, rfl, rfl, by decide +kernel, rfl, by decide +kernel, by decide +kernel⟩
def M_is_less : CS := cRet (c2 gLt (c2 gMul (cB2 gIx (cbN 0) (cK (.int 0))) (cB2 gIx (cbN 1) (cK (.int 1)))) (c2 gMul (cB2 gIx (cbN 1) (cK (.int 0))) (cB2 gIx (cbN 0) (cK (.int 1)))))
def F_is_less : Fn := mkF 2 2 [] M_is_less
theorem ok_is_less {f : Addr} {fd : FuncData} (T : Tx K mg)  (U : Fun K "is_less" "is_less" s_is_less f fd) (hm : mg "is_less" = some (.ref f)) (b : Binds K fd ["a", "b"] []) :
    Has P w K mg base xc "is_less" 1 2 ["a", "b"] F_is_less := by
  refine Has.mk U hm b (zfn (k := 0) U sc_is_less rfl (by decide) (by decide) ?_)
  rintro _ E cdv A outer s H rfl hr tk hp
  have sc := sc_is_less
  exact zss_one (zs_ret (ze_cmp op_lt o_lt (nomark _) (ze_op op_mulW o_mul (ze_item (zb_n (pv 0)) (ze_int) (fun _ _ => rfl)) (ze_item (zb_n (pv 1)) (ze_int) (fun _ _ => rfl))) (ze_op op_mulW o_mul (ze_item (zb_n (pv 1)) (ze_int) (fun _ _ => rfl)) (ze_item (zb_n (pv 0)) (ze_int) (fun _ _ => rfl)))))
abbrev s_is_name : Stmt := topS 6
abbrev sc_N_is_name : List Str := ["thing", "sign"]
theorem sc_is_name : FnScope sc_N_is_name ["thing"] (defScope s_is_name) := ⟨rfl, rfl, rfl, by decide +kernel, rfl, by decide +kernel, by decide +kernel⟩
def M_is_name : CS := cSeq (cIfS (cOr (c1 gNot (c1 gTru (c1 (gIsi "str") (cV 0)))) (c1 gNot (cChain gLe gLe (cK (.int 1)) (cB1 gLen (cbN 0)) (cK (.int 12))))) (cRet (cK (.bool false))) (cNext)) (cRet (cN gAll (caCons (cLc [1] (ciSeq (cV 0)) (cgName 1) (cK (.bool true)) (c2 gIn (cV 1) (cK (.str ("abcdefghijklmnopqrstuvwxyz" : Str))))) (caNil))))
def F_is_name : Fn := mkF 1 2 [] M_is_name
theorem ok_is_name {f : Addr} {fd : FuncData} (T : Tx K mg)  (U : Fun K "is_name" "is_name" s_is_name f fd) (hm : mg "is_name" = some (.ref f)) (b : Binds K fd ["thing"] []) :
    Has P w K mg base xc "is_name" 1 1 ["thing"] F_is_name := by
  refine Has.mk U hm b (zfn (k := 0) U sc_is_name rfl (by decide) (by decide) ?_)
  rintro _ E cdv A outer s H rfl hr tk hp
  have sc := sc_is_name
  exact zss_cons (zs_if (zt_w (zw_or (zt_not (zt_truth (ze_isi (T := "str") (by decide) T.isinstance T.str (by decide +kernel) (ze_var (pv 0))) (fun _ => rfl))) (zw_or1 (zt_not (zt_chain op_le op_le o_le o_le (ze_int) (ze_len T.len (zb_n (pv 0))) (ze_const T.c_MOST_SIGNS)))))) (zss_one (zs_ret (ze_bool))) (zss_nil)) (zss_one (zs_ret (ze_callB (cr_all rfl) on_all T.all (by decide +kernel) (za_cons (ze_lc (own := [("sign", 1)]) rfl sc.nd (zi_seq (ze_var (pv 0))) (blkOk_by (N := sc_N_is_name) (sc := defScope s_is_name) (by decide +kernel)) rfl rfl (fun _ _ _ _ _ => zg_name (i := 1) sc.nd rfl (by first | exact Or.inl rfl | exact Or.inr rfl)) (fun _ _ _ _ _ => pts_yes) (fun _ _ _ _ _ => ze_cmp (op_inZ (hu65 hr)) o_in (by with_unfolding_all rfl) (ze_var (pv 1)) (ze_const T.c_SMALL_LETTERS))) (za_nil)))))
abbrev s_is_number : Stmt := topS 7
abbrev sc_N_is_number : List Str := ["thing"]
theorem sc_is_number : FnScope sc_N_is_number ["thing"] (defScope s_is_number) := ⟨rfl, rfl, rfl, by decide +kernel, rfl, by decide +kernel, by decide +kernel⟩
def M_is_number : CS := cRet (cAnd (c1 (gIsi "int") (cV 0)) (c1 gNot (c1 (gIsi "bool") (cV 0))))
def F_is_number : Fn := mkF 1 1 [] M_is_number
theorem ok_is_number {f : Addr} {fd : FuncData} (T : Tx K mg)  (U : Fun K "is_number" "is_number" s_is_number f fd) (hm : mg "is_number" = some (.ref f)) (b : Binds K fd ["thing"] []) :
    Has P w K mg base xc "is_number" 1 1 ["thing"] F_is_number := by
  refine Has.mk U hm b (zfn (k := 0) U sc_is_number rfl (by decide) (by decide) ?_)
  rintro _ E cdv A outer s H rfl hr tk hp
  have sc := sc_is_number
  exact zss_one (zs_ret (ze_and (ze_isi (T := "int") (by decide) T.isinstance T.int (by decide +kernel) (ze_var (pv 0))) (ze_one (ze_not (ze_isi (T := "bool") (by decide) T.isinstance T.bool (by decide +kernel) (ze_var (pv 0)))))))
abbrev s_is_corner_within : Stmt := topS 8
abbrev sc_N_is_corner_within : List Str := ["thing", "least", "most", "part"]
theorem sc_is_corner_within : FnScope sc_N_is_corner_within ["thing", "least", "most"] (defScope s_is_corner_within) := ⟨rfl, rfl, rfl, by decide +kernel, rfl, by decide +kernel, by decide +kernel⟩
def M_is_corner_within : CS := cSeq (cIfS (cOr (c1 gNot (c1 gTru (c1 (gIsi "tuple") (cV 0)))) (c2 gNe (cB1 gLen (cbN 0)) (cK (.int 2)))) (cRet (cK (.bool false))) (cNext)) (cRet (cN gAll (caCons (cLc [3] (ciSeq (cV 0)) (cgName 3) (cK (.bool true)) (cAnd (cCall F_is_number (cxD (cV 3) (cxNil))) (cChain gLe gLe (cV 1) (cV 3) (cV 2)))) (caNil))))
def F_is_corner_within : Fn := mkF 3 4 [] M_is_corner_within
theorem ok_is_corner_within {f : Addr} {fd : FuncData} (T : Tx K mg) (G_is_number : Has P w K mg base xc "is_number" 1 1 ["thing"] F_is_number) (U : Fun K "is_corner_within" "is_corner_within" s_is_corner_within f fd) (hm : mg "is_corner_within" = some (.ref f)) (b : Binds K fd ["thing", "least", "most"] []) :
    Has P w K mg base xc "is_corner_within" 2 3 ["thing", "least", "most"] F_is_corner_within := by
  refine Has.mk U hm b (zfn (k := 1) U sc_is_corner_within rfl (by decide) (by decide) ?_)
  rintro _ E cdv A outer s H rfl hr tk hp
  have sc := sc_is_corner_within
  exact zss_cons (zs_if (zt_w (zw_or (zt_not (zt_truth (ze_isi (T := "tuple") (by decide) T.isinstance T.tuple (by decide +kernel) (ze_var (pv 0))) (fun _ => rfl))) (zw_or1 (zt_cmp (op_neD (hu64 hr)) o_ne (nomark _) (ze_len T.len (zb_n (pv 0))) (ze_int))))) (zss_one (zs_ret (ze_bool))) (zss_nil)) (zss_one (zs_ret (ze_callB (cr_all rfl) on_all T.all (by decide +kernel) (za_cons (ze_lc (own := [("part", 3)]) rfl sc.nd (zi_seq (ze_var (pv 0))) (blkOk_by (N := sc_N_is_corner_within) (sc := defScope s_is_corner_within) (by decide +kernel)) rfl rfl (fun _ _ _ _ _ => zg_name (i := 3) sc.nd rfl (by first | exact Or.inl rfl | exact Or.inr rfl)) (fun _ _ _ _ _ => pts_yes) (fun _ _ _ _ _ => ze_and (ze_callH G_is_number hr takes0 (zx_d (ze_var (pv 3)) (zx_nil)) (len_d len_nil)) (ze_one (ze_chain op_le op_le o_le o_le (ze_var (pv 1)) (ze_var (pv 3)) (ze_var (pv 2)))))) (za_nil)))))
abbrev s_is_corner : Stmt := topS 9
abbrev sc_N_is_corner : List Str := ["thing"]
theorem sc_is_corner : FnScope sc_N_is_corner ["thing"] (defScope s_is_corner) := ⟨rfl, rfl, rfl, by decide +kernel, rfl, by decide +kernel, by decide +kernel⟩
def M_is_corner : CS := cRet (cCall F_is_corner_within (cxD (cV 0) (cxD (c1 gNeg (cK (.int 10000))) (cxD (cK (.int 10000)) (cxNil)))))
def F_is_corner : Fn := mkF 1 1 [] M_is_corner
theorem ok_is_corner {f : Addr} {fd : FuncData} (T : Tx K mg) (G_is_corner_within : Has P w K mg base xc "is_corner_within" 2 3 ["thing", "least", "most"] F_is_corner_within) (U : Fun K "is_corner" "is_corner" s_is_corner f fd) (hm : mg "is_corner" = some (.ref f)) (b : Binds K fd ["thing"] []) :
    Has P w K mg base xc "is_corner" 3 1 ["thing"] F_is_corner := by
  refine Has.mk U hm b (zfn (k := 2) U sc_is_corner rfl (by decide) (by decide) ?_)
  rintro _ E cdv A outer s H rfl hr tk hp
  have sc := sc_is_corner
  exact zss_one (zs_ret (ze_callH G_is_corner_within hr tk (zx_d (ze_var (pv 0)) (zx_d (ze_un un_neg o_neg (ze_const T.c_FARTHEST)) (zx_d (ze_const T.c_FARTHEST) (zx_nil)))) (len_d (len_d (len_d len_nil)))))
abbrev s_point : Stmt := topS 10
abbrev sc_N_point : List Str := ["corner"]
theorem sc_point : FnScope sc_N_point ["corner"] (defScope s_point) := ⟨rfl, rfl, rfl, by decide +kernel, rfl, by decide +kernel, by decide +kernel⟩
def M_point : CS := cRet (cTup (caCons (cTup (caCons (cB2 gIx (cbN 0) (cK (.int 0))) (caCons (cK (.int 1)) (caNil)))) (caCons (cTup (caCons (cB2 gIx (cbN 0) (cK (.int 1))) (caCons (cK (.int 1)) (caNil)))) (caNil))))
def F_point : Fn := mkF 1 1 [] M_point
theorem ok_point {f : Addr} {fd : FuncData} (T : Tx K mg)  (U : Fun K "point" "point" s_point f fd) (hm : mg "point" = some (.ref f)) (b : Binds K fd ["corner"] []) :
    Has P w K mg base xc "point" 1 1 ["corner"] F_point := by
  refine Has.mk U hm b (zfn (k := 0) U sc_point rfl (by decide) (by decide) ?_)
  rintro _ E cdv A outer s H rfl hr tk hp
  have sc := sc_point
  exact zss_one (zs_ret (ze_tup (za_cons (ze_tup (za_cons (ze_item (zb_n (pv 0)) (ze_int) (fun _ _ => rfl)) (za_cons (ze_int) (za_nil)))) (za_cons (ze_tup (za_cons (ze_item (zb_n (pv 0)) (ze_int) (fun _ _ => rfl)) (za_cons (ze_int) (za_nil)))) (za_nil)))))
abbrev s_scaled : Stmt := topS 11
abbrev sc_N_scaled : List Str := ["p", "xn", "xd", "yn", "yd"]
theorem sc_scaled : FnScope sc_N_scaled ["p"] (defScope s_scaled) := ⟨rfl, rfl, rfl, by decide +kernel, rfl, by decide +kernel, by decide +kernel⟩
def M_scaled : CS := cSeq (cAsg (cgTup 2 (cgCons (cgTup 2 (cgCons (cgName 1) (cgCons (cgName 2) (cgNil)))) (cgCons (cgTup 2 (cgCons (cgName 3) (cgCons (cgName 4) (cgNil)))) (cgNil)))) (cV 0)) (cRet (cTup (caCons (c2 gMul (cV 1) (cV 4)) (caCons (c2 gMul (cV 3) (cV 2)) (caCons (c2 gMul (cV 2) (cV 4)) (caNil))))))
def F_scaled : Fn := mkF 1 5 [] M_scaled
theorem ok_scaled {f : Addr} {fd : FuncData} (T : Tx K mg)  (U : Fun K "scaled" "scaled" s_scaled f fd) (hm : mg "scaled" = some (.ref f)) (b : Binds K fd ["p"] []) :
    Has P w K mg base xc "scaled" 1 1 ["p"] F_scaled := by
  refine Has.mk U hm b (zfn (k := 0) U sc_scaled rfl (by decide) (by decide) ?_)
  rintro _ E cdv A outer s H rfl hr tk hp
  have sc := sc_scaled
  exact zss_cons (zs_asg (ze_var (pv 0)) (zg_tup rfl (zgs_cons (zg_tup rfl (zgs_cons (zg_name (i := 1) sc.nd rfl (by first | exact Or.inl rfl | exact Or.inr rfl)) (zgs_cons (zg_name (i := 2) sc.nd rfl (by first | exact Or.inl rfl | exact Or.inr rfl)) (zgs_nil)))) (zgs_cons (zg_tup rfl (zgs_cons (zg_name (i := 3) sc.nd rfl (by first | exact Or.inl rfl | exact Or.inr rfl)) (zgs_cons (zg_name (i := 4) sc.nd rfl (by first | exact Or.inl rfl | exact Or.inr rfl)) (zgs_nil)))) (zgs_nil))))) (zss_one (zs_ret (ze_tup (za_cons (ze_op op_mulW o_mul (ze_var (pv 1)) (ze_var (pv 4))) (za_cons (ze_op op_mulW o_mul (ze_var (pv 3)) (ze_var (pv 2))) (za_cons (ze_op op_mulW o_mul (ze_var (pv 2)) (ze_var (pv 4))) (za_nil)))))))
abbrev s_turn : Stmt := topS 12
abbrev sc_N_turn : List Str := ["p", "q", "r", "a", "b", "c", "first", "second"]
theorem sc_turn : FnScope sc_N_turn ["p", "q", "r"] (defScope s_turn) := ⟨rfl, rfl, rfl, by decide +kernel, rfl, by decide +kernel, by decide +kernel⟩
def M_turn : CS := cSeq (cPar3 3 4 5 (caCons (cCall F_scaled (cxD (cV 0) (cxNil))) (caCons (cCall F_scaled (cxD (cV 1) (cxNil))) (caCons (cCall F_scaled (cxD (cV 2) (cxNil))) (caNil))))) (cSeq (cSet 6 (c2 gMul (c2 gSub (c2 gMul (cB2 gIx (cbN 4) (cK (.int 0))) (cB2 gIx (cbN 3) (cK (.int 2)))) (c2 gMul (cB2 gIx (cbN 3) (cK (.int 0))) (cB2 gIx (cbN 4) (cK (.int 2))))) (c2 gSub (c2 gMul (cB2 gIx (cbN 5) (cK (.int 1))) (cB2 gIx (cbN 3) (cK (.int 2)))) (c2 gMul (cB2 gIx (cbN 3) (cK (.int 1))) (cB2 gIx (cbN 5) (cK (.int 2))))))) (cSeq (cSet 7 (c2 gMul (c2 gSub (c2 gMul (cB2 gIx (cbN 4) (cK (.int 1))) (cB2 gIx (cbN 3) (cK (.int 2)))) (c2 gMul (cB2 gIx (cbN 3) (cK (.int 1))) (cB2 gIx (cbN 4) (cK (.int 2))))) (c2 gSub (c2 gMul (cB2 gIx (cbN 5) (cK (.int 0))) (cB2 gIx (cbN 3) (cK (.int 2)))) (c2 gMul (cB2 gIx (cbN 3) (cK (.int 0))) (cB2 gIx (cbN 5) (cK (.int 2))))))) (cRet (c2 gSub (cN gInt (caCons (c2 gGt (cV 6) (cV 7)) (caNil))) (cN gInt (caCons (c2 gLt (cV 6) (cV 7)) (caNil)))))))
def F_turn : Fn := mkF 3 8 [] M_turn
theorem ok_turn {f : Addr} {fd : FuncData} (T : Tx K mg) (G_scaled : Has P w K mg base xc "scaled" 1 1 ["p"] F_scaled) (U : Fun K "turn" "turn" s_turn f fd) (hm : mg "turn" = some (.ref f)) (b : Binds K fd ["p", "q", "r"] []) :
    Has P w K mg base xc "turn" 2 3 ["p", "q", "r"] F_turn := by
  refine Has.mk U hm b (zfn (k := 1) U sc_turn rfl (by decide) (by decide) ?_)
  rintro _ E cdv A outer s H rfl hr tk hp
  have sc := sc_turn
  exact zss_cons (zs_par3 (i := 3) (j := 4) (l := 5) rfl sc.nd rfl rfl rfl (by decide) (by decide) (by decide) rfl rfl rfl (za_cons (ze_callH G_scaled hr tk (zx_d (ze_var (pv 0)) (zx_nil)) (len_d len_nil)) (za_cons (ze_callH G_scaled hr tk (zx_d (ze_var (pv 1)) (zx_nil)) (len_d len_nil)) (za_cons (ze_callH G_scaled hr tk (zx_d (ze_var (pv 2)) (zx_nil)) (len_d len_nil)) (za_nil)))) rfl) (zss_cons (zs_set (i := 6) sc.nd rfl (by first | exact Or.inl rfl | exact Or.inr rfl) (ze_op op_mulW o_mul (ze_op op_sub o_sub (ze_op op_mulW o_mul (ze_item (zb_n (pv 4)) (ze_int) (fun _ _ => rfl)) (ze_item (zb_n (pv 3)) (ze_int) (fun _ _ => rfl))) (ze_op op_mulW o_mul (ze_item (zb_n (pv 3)) (ze_int) (fun _ _ => rfl)) (ze_item (zb_n (pv 4)) (ze_int) (fun _ _ => rfl)))) (ze_op op_sub o_sub (ze_op op_mulW o_mul (ze_item (zb_n (pv 5)) (ze_int) (fun _ _ => rfl)) (ze_item (zb_n (pv 3)) (ze_int) (fun _ _ => rfl))) (ze_op op_mulW o_mul (ze_item (zb_n (pv 3)) (ze_int) (fun _ _ => rfl)) (ze_item (zb_n (pv 5)) (ze_int) (fun _ _ => rfl)))))) (zss_cons (zs_set (i := 7) sc.nd rfl (by first | exact Or.inl rfl | exact Or.inr rfl) (ze_op op_mulW o_mul (ze_op op_sub o_sub (ze_op op_mulW o_mul (ze_item (zb_n (pv 4)) (ze_int) (fun _ _ => rfl)) (ze_item (zb_n (pv 3)) (ze_int) (fun _ _ => rfl))) (ze_op op_mulW o_mul (ze_item (zb_n (pv 3)) (ze_int) (fun _ _ => rfl)) (ze_item (zb_n (pv 4)) (ze_int) (fun _ _ => rfl)))) (ze_op op_sub o_sub (ze_op op_mulW o_mul (ze_item (zb_n (pv 5)) (ze_int) (fun _ _ => rfl)) (ze_item (zb_n (pv 3)) (ze_int) (fun _ _ => rfl))) (ze_op op_mulW o_mul (ze_item (zb_n (pv 3)) (ze_int) (fun _ _ => rfl)) (ze_item (zb_n (pv 5)) (ze_int) (fun _ _ => rfl)))))) (zss_one (zs_ret (ze_op op_sub o_sub (ze_callT call_int1 on_int T.int (by decide +kernel) (za_cons (ze_cmp op_gt o_gt (nomark _) (ze_var (pv 6)) (ze_var (pv 7))) (za_nil))) (ze_callT call_int1 on_int T.int (by decide +kernel) (za_cons (ze_cmp op_lt o_lt (nomark _) (ze_var (pv 6)) (ze_var (pv 7))) (za_nil))))))))
abbrev s_is_between : Stmt := topS 13
abbrev sc_N_is_between : List Str := ["a", "b", "c"]
theorem sc_is_between : FnScope sc_N_is_between ["a", "b", "c"] (defScope s_is_between) := ⟨rfl, rfl, rfl, by decide +kernel, rfl, by decide +kernel, by decide +kernel⟩
def M_is_between : CS := cRet (cOr (cAnd (c1 gNot (cCall F_is_less (cxD (cV 0) (cxD (cV 1) (cxNil))))) (c1 gNot (cCall F_is_less (cxD (cV 2) (cxD (cV 0) (cxNil)))))) (cAnd (c1 gNot (cCall F_is_less (cxD (cV 0) (cxD (cV 2) (cxNil))))) (c1 gNot (cCall F_is_less (cxD (cV 1) (cxD (cV 0) (cxNil)))))))
def F_is_between : Fn := mkF 3 3 [] M_is_between
theorem ok_is_between {f : Addr} {fd : FuncData} (T : Tx K mg) (G_is_less : Has P w K mg base xc "is_less" 1 2 ["a", "b"] F_is_less) (U : Fun K "is_between" "is_between" s_is_between f fd) (hm : mg "is_between" = some (.ref f)) (b : Binds K fd ["a", "b", "c"] []) :
    Has P w K mg base xc "is_between" 2 3 ["a", "b", "c"] F_is_between := by
  refine Has.mk U hm b (zfn (k := 1) U sc_is_between rfl (by decide) (by decide) ?_)
  rintro _ E cdv A outer s H rfl hr tk hp
  have sc := sc_is_between
  exact zss_one (zs_ret (ze_or (ze_and (ze_not (ze_callH G_is_less hr tk (zx_d (ze_var (pv 0)) (zx_d (ze_var (pv 1)) (zx_nil))) (len_d (len_d len_nil)))) (ze_one (ze_not (ze_callH G_is_less hr tk (zx_d (ze_var (pv 2)) (zx_d (ze_var (pv 0)) (zx_nil))) (len_d (len_d len_nil)))))) (ze_one (ze_and (ze_not (ze_callH G_is_less hr tk (zx_d (ze_var (pv 0)) (zx_d (ze_var (pv 2)) (zx_nil))) (len_d (len_d len_nil)))) (ze_one (ze_not (ze_callH G_is_less hr tk (zx_d (ze_var (pv 1)) (zx_d (ze_var (pv 0)) (zx_nil))) (len_d (len_d len_nil)))))))))
abbrev s_on_segment : Stmt := topS 14
abbrev sc_N_on_segment : List Str := ["p", "a", "b"]
theorem sc_on_segment : FnScope sc_N_on_segment ["p", "a", "b"] (defScope s_on_segment) := ⟨rfl, rfl, rfl, by decide +kernel, rfl, by decide +kernel, by decide +kernel⟩
def M_on_segment : CS := cRet (cAnd (c2 gEq (cCall F_turn (cxD (cV 1) (cxD (cV 2) (cxD (cV 0) (cxNil))))) (cK (.int 0))) (cAnd (cCall F_is_between (cxD (cB2 gIx (cbN 0) (cK (.int 0))) (cxD (cB2 gIx (cbN 1) (cK (.int 0))) (cxD (cB2 gIx (cbN 2) (cK (.int 0))) (cxNil))))) (cCall F_is_between (cxD (cB2 gIx (cbN 0) (cK (.int 1))) (cxD (cB2 gIx (cbN 1) (cK (.int 1))) (cxD (cB2 gIx (cbN 2) (cK (.int 1))) (cxNil)))))))
def F_on_segment : Fn := mkF 3 3 [] M_on_segment
theorem ok_on_segment {f : Addr} {fd : FuncData} (T : Tx K mg) (G_is_between : Has P w K mg base xc "is_between" 2 3 ["a", "b", "c"] F_is_between) (G_turn : Has P w K mg base xc "turn" 2 3 ["p", "q", "r"] F_turn) (U : Fun K "on_segment" "on_segment" s_on_segment f fd) (hm : mg "on_segment" = some (.ref f)) (b : Binds K fd ["p", "a", "b"] []) :
    Has P w K mg base xc "on_segment" 3 3 ["p", "a", "b"] F_on_segment := by
  refine Has.mk U hm b (zfn (k := 2) U sc_on_segment rfl (by decide) (by decide) ?_)
  rintro _ E cdv A outer s H rfl hr tk hp
  have sc := sc_on_segment
  exact zss_one (zs_ret (ze_and (ze_cmp (op_eqD (hu64 hr)) o_eq (nomark _) (ze_callH G_turn hr tk (zx_d (ze_var (pv 1)) (zx_d (ze_var (pv 2)) (zx_d (ze_var (pv 0)) (zx_nil)))) (len_d (len_d (len_d len_nil)))) (ze_int)) (ze_and (ze_callH G_is_between hr tk (zx_d (ze_item (zb_n (pv 0)) (ze_int) (fun _ _ => rfl)) (zx_d (ze_item (zb_n (pv 1)) (ze_int) (fun _ _ => rfl)) (zx_d (ze_item (zb_n (pv 2)) (ze_int) (fun _ _ => rfl)) (zx_nil)))) (len_d (len_d (len_d len_nil)))) (ze_one (ze_callH G_is_between hr tk (zx_d (ze_item (zb_n (pv 0)) (ze_int) (fun _ _ => rfl)) (zx_d (ze_item (zb_n (pv 1)) (ze_int) (fun _ _ => rfl)) (zx_d (ze_item (zb_n (pv 2)) (ze_int) (fun _ _ => rfl)) (zx_nil)))) (len_d (len_d (len_d len_nil))))))))
abbrev s_u_law_pot : Stmt := topS 16
abbrev sc_N_u_law_pot : List Str := ["_law_script", "_law_seed", "_law_cell"]
theorem sc_u_law_pot : FnScope sc_N_u_law_pot ["_law_script"] (defScope s_u_law_pot) := ⟨rfl, rfl, rfl, by decide +kernel, rfl, by decide +kernel, by decide +kernel⟩
def L_u_law_pot_0 : CS := cSet 1 (c2 gMod (cN gInt (caCons (c2 gAdd (c2 gMul (cV 1) (cK (.int 31))) (cV 2)) (caNil))) (cK (.int 2147483647)))
def M_u_law_pot : CS := cSeq (cSet 1 (cK (.int 1))) (cSeq (cFor (ciSeq (cV 0)) (cgName 2) (L_u_law_pot_0)) (cRet (cLst (caCons (cN gList (caCons (cV 0) (caNil))) (caCons (cK (.int 0)) (caCons (cK (.int 0)) (caCons (cV 1) (caNil))))))))
def F_u_law_pot : Fn := mkF 1 3 [] M_u_law_pot
theorem ok_u_law_pot {f : Addr} {fd : FuncData} (T : Tx K mg)  (U : Fun K "_law_pot" "_law_pot" s_u_law_pot f fd) (hm : mg "_law_pot" = some (.ref f)) (b : Binds K fd ["_law_script"] []) :
    Has P w K mg base xc "_law_pot" 1 1 ["_law_script"] F_u_law_pot := by
  refine Has.mk U hm b (zfn (k := 0) U sc_u_law_pot rfl (by decide) (by decide) ?_)
  rintro _ E cdv A outer s H rfl hr tk hp
  have sc := sc_u_law_pot
  exact zss_cons (zs_set (i := 1) sc.nd rfl (by first | exact Or.inl rfl | exact Or.inr rfl) (ze_int)) (zss_cons (zs_for hp rfl (zi_seq (ze_var (pv 0))) (zg_name (i := 2) sc.nd rfl (by first | exact Or.inl rfl | exact Or.inr rfl)) (zss_one (zs_set (i := 1) sc.nd rfl (by first | exact Or.inl rfl | exact Or.inr rfl) (ze_op op_mod o_mod (ze_callT call_int1 on_int T.int (by decide +kernel) (za_cons (ze_op op_addZ o_add (ze_op op_mulW o_mul (ze_var (pv 1)) (ze_int)) (ze_var (pv 2))) (za_nil))) (ze_int))))) (zss_one (zs_ret (ze_lst (za_cons (ze_callT call_list_of on_list T.list (by decide +kernel) (za_cons (ze_var (pv 0)) (za_nil))) (za_cons (ze_int) (za_cons (ze_int) (za_cons (ze_var (pv 1)) (za_nil)))))))))
abbrev s_u_law_next : Stmt := topS 17
abbrev sc_N_u_law_next : List Str := ["_law_pot_here", "_law_limit", "_law_cell", "_law_found", "_law_mixed"]
theorem sc_u_law_next : FnScope sc_N_u_law_next ["_law_pot_here", "_law_limit"] (defScope s_u_law_next) := ⟨rfl, rfl, rfl, by decide +kernel, rfl, by decide +kernel, by decide +kernel⟩
def M_u_law_next : CS := cSeq (cIfS (cAnd (c2 gEq (cB2 gIx (cbN 0) (cK (.int 2))) (cK (.int 0))) (c2 gLt (cB2 gIx (cbN 0) (cK (.int 1))) (cB1 gLen (cbD (cB2 gIx (cbN 0) (cK (.int 0))))))) (cSeq (cSet 2 (cN gAbs (caCons (cN gInt (caCons (cB2 gIx (cbD (cB2 gIx (cbN 0) (cK (.int 0)))) (cB2 gIx (cbN 0) (cK (.int 1)))) (caNil))) (caNil)))) (cSeq (cSetIx 0 (cK (.int 1)) (c2 gAdd (cB2 gIx (cbN 0) (cK (.int 1))) (cK (.int 1)))) (cSeq (cIfS (c2 gLt (cV 2) (c2 gPow (cK (.int 10)) (cK (.int 18)))) (cRet (c2 gMod (cN gInt (caCons (cV 2) (caNil))) (cV 1))) (cNext)) (cSetIx 0 (cK (.int 2)) (cV 2))))) (cNext)) (cSeq (cIfS (c2 gGt (cB2 gIx (cbN 0) (cK (.int 2))) (cK (.int 0))) (cSeq (cSet 3 (c2 gMod (cN gInt (caCons (cB2 gIx (cbN 0) (cK (.int 2))) (caNil))) (cV 1))) (cSeq (cSetIx 0 (cK (.int 2)) (c2 gFd (cB2 gIx (cbN 0) (cK (.int 2))) (cV 1))) (cRet (cVm 3)))) (cNext)) (cSeq (cSetIx 0 (cK (.int 3)) (c2 gMod (cN gInt (caCons (c2 gAdd (c2 gMul (cB2 gIx (cbN 0) (cK (.int 3))) (cK (.int 48271))) (cK (.int 12345))) (caNil))) (cK (.int 2147483647)))) (cSeq (cSet 4 (c2 gMod (cN gInt (caCons (c2 gAdd (c2 gMul (cB2 gIx (cbN 0) (cK (.int 3))) (cK (.int 69621))) (c2 gFd (cB2 gIx (cbN 0) (cK (.int 3))) (cK (.int 127)))) (caNil))) (cK (.int 2147483629)))) (cRet (c2 gMod (cN gInt (caCons (cV 4) (caNil))) (cV 1))))))
def F_u_law_next : Fn := mkF 2 5 [0] M_u_law_next
theorem ok_u_law_next {f : Addr} {fd : FuncData} (T : Tx K mg)  (U : Fun K "_law_next" "_law_next" s_u_law_next f fd) (hm : mg "_law_next" = some (.ref f)) (b : Binds K fd ["_law_pot_here", "_law_limit"] []) :
    Has P w K mg base xc "_law_next" 1 2 ["_law_pot_here", "_law_limit"] F_u_law_next := by
  refine Has.mk U hm b (zfn (k := 0) U sc_u_law_next rfl (by decide) (by decide) ?_)
  rintro _ E cdv A outer s H rfl hr tk hp
  have sc := sc_u_law_next
  exact zss_cons (zs_if (zt_w (zw_and (zt_cmp (op_eqD (hu64 hr)) o_eq (nomark _) (ze_item (zb_n (pv 0)) (ze_int) (fun _ _ => rfl)) (ze_int)) (zw_and1 (zt_cmp op_lt o_lt (nomark _) (ze_item (zb_n (pv 0)) (ze_int) (fun _ _ => rfl)) (ze_len T.len (zb_d (ze_item (zb_n (pv 0)) (ze_int) (fun _ _ => rfl)))))))) (zss_cons (zs_set (i := 2) sc.nd rfl (by first | exact Or.inl rfl | exact Or.inr rfl) (ze_callB call_abs on_abs T.abs (by decide +kernel) (za_cons (ze_callT call_int1 on_int T.int (by decide +kernel) (za_cons (ze_item (zb_d (ze_item (zb_n (pv 0)) (ze_int) (fun _ _ => rfl))) (ze_item (zb_n (pv 0)) (ze_int) (fun _ _ => rfl)) (fun _ _ => rfl)) (za_nil))) (za_nil)))) (zss_cons (zs_setIx (pv 0) (ze_int) (ze_op op_addZ o_add (ze_item (zb_n (pv 0)) (ze_int) (fun _ _ => rfl)) (ze_int))) (zss_cons (zs_if (zt_cmp op_lt o_lt (nomark _) (ze_var (pv 2)) (ze_op op_pow o_pow (ze_int) (ze_int))) (zss_one (zs_ret (ze_op op_mod o_mod (ze_callT call_int1 on_int T.int (by decide +kernel) (za_cons (ze_var (pv 2)) (za_nil))) (ze_var (pv 1))))) (zss_nil)) (zss_one (zs_setIx (pv 0) (ze_int) (ze_var (pv 2))))))) (zss_nil)) (zss_cons (zs_if (zt_cmp op_gt o_gt (nomark _) (ze_item (zb_n (pv 0)) (ze_int) (fun _ _ => rfl)) (ze_int)) (zss_cons (zs_set (i := 3) sc.nd rfl (by first | exact Or.inl rfl | exact Or.inr rfl) (ze_op op_mod o_mod (ze_callT call_int1 on_int T.int (by decide +kernel) (za_cons (ze_item (zb_n (pv 0)) (ze_int) (fun _ _ => rfl)) (za_nil))) (ze_var (pv 1)))) (zss_cons (zs_setIx (pv 0) (ze_int) (ze_op op_fdX o_fd (ze_item (zb_n (pv 0)) (ze_int) (fun _ _ => rfl)) (ze_var (pv 1)))) (zss_one (zs_ret (ze_varm (pv 3)))))) (zss_nil)) (zss_cons (zs_setIx (pv 0) (ze_int) (ze_op op_mod o_mod (ze_callT call_int1 on_int T.int (by decide +kernel) (za_cons (ze_op op_addZ o_add (ze_op op_mulW o_mul (ze_item (zb_n (pv 0)) (ze_int) (fun _ _ => rfl)) (ze_int)) (ze_int)) (za_nil))) (ze_int))) (zss_cons (zs_set (i := 4) sc.nd rfl (by first | exact Or.inl rfl | exact Or.inr rfl) (ze_op op_mod o_mod (ze_callT call_int1 on_int T.int (by decide +kernel) (za_cons (ze_op op_addZ o_add (ze_op op_mulW o_mul (ze_item (zb_n (pv 0)) (ze_int) (fun _ _ => rfl)) (ze_int)) (ze_op op_fdX o_fd (ze_item (zb_n (pv 0)) (ze_int) (fun _ _ => rfl)) (ze_int))) (za_nil))) (ze_int))) (zss_one (zs_ret (ze_op op_mod o_mod (ze_callT call_int1 on_int T.int (by decide +kernel) (za_cons (ze_var (pv 4)) (za_nil))) (ze_var (pv 1))))))))
abbrev s_u_law_is_int : Stmt := topS 18
abbrev sc_N_u_law_is_int : List Str := ["_law_value"]
theorem sc_u_law_is_int : FnScope sc_N_u_law_is_int ["_law_value"] (defScope s_u_law_is_int) := ⟨rfl, rfl, rfl, by decide +kernel, rfl, by decide +kernel, by decide +kernel⟩
def M_u_law_is_int : CS := cRet (cAnd (c1 (gIsi "int") (cV 0)) (c1 gNot (c1 (gIsi "bool") (cV 0))))
def F_u_law_is_int : Fn := mkF 1 1 [] M_u_law_is_int
theorem ok_u_law_is_int {f : Addr} {fd : FuncData} (T : Tx K mg)  (U : Fun K "_law_is_int" "_law_is_int" s_u_law_is_int f fd) (hm : mg "_law_is_int" = some (.ref f)) (b : Binds K fd ["_law_value"] []) :
    Has P w K mg base xc "_law_is_int" 1 1 ["_law_value"] F_u_law_is_int := by
  refine Has.mk U hm b (zfn (k := 0) U sc_u_law_is_int rfl (by decide) (by decide) ?_)
  rintro _ E cdv A outer s H rfl hr tk hp
  have sc := sc_u_law_is_int
  exact zss_one (zs_ret (ze_and (ze_isi (T := "int") (by decide) T.isinstance T.int (by decide +kernel) (ze_var (pv 0))) (ze_one (ze_not (ze_isi (T := "bool") (by decide) T.isinstance T.bool (by decide +kernel) (ze_var (pv 0)))))))
abbrev s_u_law_same : Stmt := topS 19
abbrev sc_N_u_law_same : List Str := ["_law_found", "_law_value", "_law_k"]
theorem sc_u_law_same : FnScope sc_N_u_law_same ["_law_found", "_law_value"] (defScope s_u_law_same) := ⟨rfl, rfl, rfl, by decide +kernel, rfl, by decide +kernel, by decide +kernel⟩
def M_u_law_same (Fr : Fn) : CS := cSeq (cIfS (c2 gIs (cV 1) (cK .none)) (cRet (c2 gIs (cV 0) (cK .none))) (cNext)) (cSeq (cIfS (c1 gTru (c1 (gIsi "bool") (cV 1))) (cRet (cAnd (c1 (gIsi "bool") (cV 0)) (c2 gEq (cV 0) (cV 1)))) (cNext)) (cSeq (cIfS (c1 gTru (c1 (gIsi "int") (cV 1))) (cRet (cAnd (cCall F_u_law_is_int (cxD (cV 0) (cxNil))) (c2 gEq (cV 0) (cV 1)))) (cNext)) (cSeq (cIfS (c1 gTru (c1 (gIsi "str") (cV 1))) (cRet (cAnd (c1 (gIsi "str") (cV 0)) (c2 gEq (cV 0) (cV 1)))) (cNext)) (cSeq (cIfS (cOr (c2 gNe (c1 (gIsi "list") (cV 1)) (c1 (gIsi "list") (cV 0))) (c2 gNe (c1 (gIsi "tuple") (cV 1)) (c1 (gIsi "tuple") (cV 0)))) (cRet (cK (.bool false))) (cNext)) (cRet (cAnd (c2 gEq (cB1 gLen (cbN 0)) (cB1 gLen (cbN 1))) (cN gAll (caCons (cLc [2] (ciRange1 (caCons (cB1 gLen (cbN 1)) (caNil))) (cgName 2) (cK (.bool true)) (cCall Fr (cxD (cB2 gIx (cbN 0) (cV 2)) (cxD (cB2 gIx (cbN 1) (cV 2)) (cxNil))))) (caNil)))))))))
def F_u_law_same : Nat → Fn
  | 0 => mkF 2 3 [] fun _ => .bad
  | k + 1 => mkF 2 3 [] (M_u_law_same (F_u_law_same k))
theorem ok_u_law_same {f : Addr} {fd : FuncData} (T : Tx K mg) (G_u_law_is_int : Has P w K mg base xc "_law_is_int" 1 1 ["_law_value"] F_u_law_is_int) (U : Fun K "_law_same" "_law_same" s_u_law_same f fd) (hm : mg "_law_same" = some (.ref f)) (b : Binds K fd ["_law_found", "_law_value"] []) :
    ∀ k : Nat, Has P w K mg base xc "_law_same" (2 + k) 2 ["_law_found", "_law_value"] (F_u_law_same k) := by
  intro k
  induction k with
  | zero =>
    refine Has.mk U hm b (zfn (k := 1) U sc_u_law_same rfl (by decide) (by decide) ?_)
    rintro _ E cdv A outer s H rfl hr tk hp
    exact zss_bad
  | succ k Gr =>
    refine Has.mk U hm b (zfn (k := 2 + k) U sc_u_law_same rfl (by decide) (by decide) ?_)
    rintro _ E cdv A outer s H rfl hr tk hp
    have sc := sc_u_law_same
    exact zss_cons (zs_if (zt_cmp op_isZ o_is (nomark _) (ze_var (pv 1)) (ze_none)) (zss_one (zs_ret (ze_cmp op_isZ o_is (nomark _) (ze_var (pv 0)) (ze_none)))) (zss_nil)) (zss_cons (zs_if (zt_truth (ze_isi (T := "bool") (by decide) T.isinstance T.bool (by decide +kernel) (ze_var (pv 1))) (fun _ => rfl)) (zss_one (zs_ret (ze_and (ze_isi (T := "bool") (by decide) T.isinstance T.bool (by decide +kernel) (ze_var (pv 0))) (ze_one (ze_cmp (op_eqD (hu64 hr)) o_eq (nomark _) (ze_var (pv 0)) (ze_var (pv 1))))))) (zss_nil)) (zss_cons (zs_if (zt_truth (ze_isi (T := "int") (by decide) T.isinstance T.int (by decide +kernel) (ze_var (pv 1))) (fun _ => rfl)) (zss_one (zs_ret (ze_and (ze_callH G_u_law_is_int hr tk (zx_d (ze_var (pv 0)) (zx_nil)) (len_d len_nil)) (ze_one (ze_cmp (op_eqD (hu64 hr)) o_eq (nomark _) (ze_var (pv 0)) (ze_var (pv 1))))))) (zss_nil)) (zss_cons (zs_if (zt_truth (ze_isi (T := "str") (by decide) T.isinstance T.str (by decide +kernel) (ze_var (pv 1))) (fun _ => rfl)) (zss_one (zs_ret (ze_and (ze_isi (T := "str") (by decide) T.isinstance T.str (by decide +kernel) (ze_var (pv 0))) (ze_one (ze_cmp (op_eqD (hu64 hr)) o_eq (nomark _) (ze_var (pv 0)) (ze_var (pv 1))))))) (zss_nil)) (zss_cons (zs_if (zt_w (zw_or (zt_cmp (op_neD (hu64 hr)) o_ne (nomark _) (ze_isi (T := "list") (by decide) T.isinstance T.list (by decide +kernel) (ze_var (pv 1))) (ze_isi (T := "list") (by decide) T.isinstance T.list (by decide +kernel) (ze_var (pv 0)))) (zw_or1 (zt_cmp (op_neD (hu64 hr)) o_ne (nomark _) (ze_isi (T := "tuple") (by decide) T.isinstance T.tuple (by decide +kernel) (ze_var (pv 1))) (ze_isi (T := "tuple") (by decide) T.isinstance T.tuple (by decide +kernel) (ze_var (pv 0))))))) (zss_one (zs_ret (ze_bool))) (zss_nil)) (zss_one (zs_ret (ze_and (ze_cmp (op_eqD (hu64 hr)) o_eq (nomark _) (ze_len T.len (zb_n (pv 0))) (ze_len T.len (zb_n (pv 1)))) (ze_one (ze_callB (cr_all rfl) on_all T.all (by decide +kernel) (za_cons (ze_lc (own := [("_law_k", 2)]) rfl sc.nd (zi_range1 rfl T.range (za_cons (ze_len T.len (zb_n (pv 1))) (za_nil))) (blkOk_by (N := sc_N_u_law_same) (sc := defScope s_u_law_same) (by decide +kernel)) rfl rfl (fun _ _ _ _ _ => zg_name (i := 2) sc.nd rfl (by first | exact Or.inl rfl | exact Or.inr rfl)) (fun _ _ _ _ _ => pts_yes) (fun _ _ _ _ _ => ze_callH Gr hr takes0 (zx_d (ze_item (zb_n (pv 0)) (ze_var (pv 2)) (fun _ _ => rfl)) (zx_d (ze_item (zb_n (pv 1)) (ze_var (pv 2)) (fun _ _ => rfl)) (zx_nil))) (len_d (len_d len_nil)))) (za_nil)))))))))))
abbrev s_u_law_gcd : Stmt := topS 20
abbrev sc_N_u_law_gcd : List Str := ["_law_a", "_law_b", "_law_k"]
theorem sc_u_law_gcd : FnScope sc_N_u_law_gcd ["_law_a", "_law_b"] (defScope s_u_law_gcd) := ⟨rfl, rfl, rfl, by decide +kernel, rfl, by decide +kernel, by decide +kernel⟩
def L_u_law_gcd_0 : CS := cSeq (cIfS (c2 gEq (cV 1) (cK (.int 0))) (cRet (cN gAbs (caCons (cV 0) (caNil)))) (cNext)) (cPar 0 1 (caCons (cV 1) (caCons (c2 gMod (cN gInt (caCons (cV 0) (caNil))) (cV 1)) (caNil))))
def M_u_law_gcd : CS := cSeq (cFor (ciRange1 (caCons (cK (.int 60)) (caNil))) (cgName 2) (L_u_law_gcd_0)) (cRet (cK (.int 1)))
def F_u_law_gcd : Fn := mkF 2 3 [] M_u_law_gcd
theorem ok_u_law_gcd {f : Addr} {fd : FuncData} (T : Tx K mg)  (U : Fun K "_law_gcd" "_law_gcd" s_u_law_gcd f fd) (hm : mg "_law_gcd" = some (.ref f)) (b : Binds K fd ["_law_a", "_law_b"] []) :
    Has P w K mg base xc "_law_gcd" 1 2 ["_law_a", "_law_b"] F_u_law_gcd := by
  refine Has.mk U hm b (zfn (k := 0) U sc_u_law_gcd rfl (by decide) (by decide) ?_)
  rintro _ E cdv A outer s H rfl hr tk hp
  have sc := sc_u_law_gcd
  exact zss_cons (zs_for hp rfl (zi_range1 rfl T.range (za_cons (ze_int) (za_nil))) (zg_name (i := 2) sc.nd rfl (by first | exact Or.inl rfl | exact Or.inr rfl)) (zss_cons (zs_if (zt_cmp (op_eqD (hu64 hr)) o_eq (nomark _) (ze_var (pv 1)) (ze_int)) (zss_one (zs_ret (ze_callB call_abs on_abs T.abs (by decide +kernel) (za_cons (ze_var (pv 0)) (za_nil))))) (zss_nil)) (zss_one (zs_par (i := 0) (j := 1) rfl sc.nd rfl rfl (by decide) rfl rfl (za_cons (ze_var (pv 1)) (za_cons (ze_op op_mod o_mod (ze_callT call_int1 on_int T.int (by decide +kernel) (za_cons (ze_var (pv 0)) (za_nil))) (ze_var (pv 1))) (za_nil))) rfl)))) (zss_one (zs_ret (ze_int)))
abbrev s_u_law_low : Stmt := topS 21
abbrev sc_N_u_law_low : List Str := ["_law_n", "_law_d", "_law_common"]
theorem sc_u_law_low : FnScope sc_N_u_law_low ["_law_n", "_law_d"] (defScope s_u_law_low) := ⟨rfl, rfl, rfl, by decide +kernel, rfl, by decide +kernel, by decide +kernel⟩
def M_u_law_low : CS := cSeq (cSet 2 (cCall F_u_law_gcd (cxD (cV 0) (cxD (cV 1) (cxNil))))) (cRet (cTup (caCons (c2 gFd (cV 0) (cV 2)) (caCons (c2 gFd (cV 1) (cV 2)) (caNil)))))
def F_u_law_low : Fn := mkF 2 3 [] M_u_law_low
theorem ok_u_law_low {f : Addr} {fd : FuncData} (T : Tx K mg) (G_u_law_gcd : Has P w K mg base xc "_law_gcd" 1 2 ["_law_a", "_law_b"] F_u_law_gcd) (U : Fun K "_law_low" "_law_low" s_u_law_low f fd) (hm : mg "_law_low" = some (.ref f)) (b : Binds K fd ["_law_n", "_law_d"] []) :
    Has P w K mg base xc "_law_low" 2 2 ["_law_n", "_law_d"] F_u_law_low := by
  refine Has.mk U hm b (zfn (k := 1) U sc_u_law_low rfl (by decide) (by decide) ?_)
  rintro _ E cdv A outer s H rfl hr tk hp
  have sc := sc_u_law_low
  exact zss_cons (zs_set (i := 2) sc.nd rfl (by first | exact Or.inl rfl | exact Or.inr rfl) (ze_callH G_u_law_gcd hr tk (zx_d (ze_var (pv 0)) (zx_d (ze_var (pv 1)) (zx_nil))) (len_d (len_d len_nil)))) (zss_one (zs_ret (ze_tup (za_cons (ze_op op_fdX o_fd (ze_var (pv 0)) (ze_var (pv 2))) (za_cons (ze_op op_fdX o_fd (ze_var (pv 1)) (ze_var (pv 2))) (za_nil))))))
abbrev s_u_law_number : Stmt := topS 22
abbrev sc_N_u_law_number : List Str := ["_law_pot_here"]
theorem sc_u_law_number : FnScope sc_N_u_law_number ["_law_pot_here"] (defScope s_u_law_number) := ⟨rfl, rfl, rfl, by decide +kernel, rfl, by decide +kernel, by decide +kernel⟩
def M_u_law_number : CS := cRet (cCall F_u_law_low (cxD (c2 gSub (cCall F_u_law_next (cxS 0 (cxD (cK (.int 13)) (cxNil)))) (cK (.int 6))) (cxD (c2 gAdd (cK (.int 1)) (cCall F_u_law_next (cxS 0 (cxD (cK (.int 4)) (cxNil))))) (cxNil))))
def F_u_law_number : Fn := mkF 1 1 [0] M_u_law_number
theorem ok_u_law_number {f : Addr} {fd : FuncData} (T : Tx K mg) (G_u_law_low : Has P w K mg base xc "_law_low" 2 2 ["_law_n", "_law_d"] F_u_law_low) (G_u_law_next : Has P w K mg base xc "_law_next" 1 2 ["_law_pot_here", "_law_limit"] F_u_law_next) (U : Fun K "_law_number" "_law_number" s_u_law_number f fd) (hm : mg "_law_number" = some (.ref f)) (b : Binds K fd ["_law_pot_here"] []) :
    Has P w K mg base xc "_law_number" 3 1 ["_law_pot_here"] F_u_law_number := by
  refine Has.mk U hm b (zfn (k := 2) U sc_u_law_number rfl (by decide) (by decide) ?_)
  rintro _ E cdv A outer s H rfl hr tk hp
  have sc := sc_u_law_number
  exact zss_one (zs_ret (ze_callH G_u_law_low hr tk (zx_d (ze_op op_sub o_sub (ze_callH G_u_law_next hr tk (zx_s (pv 0) (zx_d (ze_int) (zx_nil))) (len_s (len_d len_nil))) (ze_int)) (zx_d (ze_op op_addZ o_add (ze_int) (ze_callH G_u_law_next hr tk (zx_s (pv 0) (zx_d (ze_int) (zx_nil))) (len_s (len_d len_nil)))) (zx_nil))) (len_d (len_d len_nil))))
abbrev s_u_law_cross : Stmt := topS 23
abbrev sc_N_u_law_cross : List Str := ["_law_p", "_law_q", "_law_r", "_law_a", "_law_b"]
theorem sc_u_law_cross : FnScope sc_N_u_law_cross ["_law_p", "_law_q", "_law_r"] (defScope s_u_law_cross) := ⟨rfl, rfl, rfl, by decide +kernel, rfl, by decide +kernel, by decide +kernel⟩
def M_u_law_cross : CS := cSeq (cSet 3 (c2 gMul (c2 gMul (c2 gMul (c2 gSub (c2 gMul (cB2 gIx (cbD (cB2 gIx (cbN 1) (cK (.int 0)))) (cK (.int 0))) (cB2 gIx (cbD (cB2 gIx (cbN 0) (cK (.int 0)))) (cK (.int 1)))) (c2 gMul (cB2 gIx (cbD (cB2 gIx (cbN 0) (cK (.int 0)))) (cK (.int 0))) (cB2 gIx (cbD (cB2 gIx (cbN 1) (cK (.int 0)))) (cK (.int 1))))) (c2 gSub (c2 gMul (cB2 gIx (cbD (cB2 gIx (cbN 2) (cK (.int 1)))) (cK (.int 0))) (cB2 gIx (cbD (cB2 gIx (cbN 0) (cK (.int 1)))) (cK (.int 1)))) (c2 gMul (cB2 gIx (cbD (cB2 gIx (cbN 0) (cK (.int 1)))) (cK (.int 0))) (cB2 gIx (cbD (cB2 gIx (cbN 2) (cK (.int 1)))) (cK (.int 1)))))) (cB2 gIx (cbD (cB2 gIx (cbN 1) (cK (.int 1)))) (cK (.int 1)))) (cB2 gIx (cbD (cB2 gIx (cbN 2) (cK (.int 0)))) (cK (.int 1))))) (cSeq (cSet 4 (c2 gMul (c2 gMul (c2 gMul (c2 gSub (c2 gMul (cB2 gIx (cbD (cB2 gIx (cbN 1) (cK (.int 1)))) (cK (.int 0))) (cB2 gIx (cbD (cB2 gIx (cbN 0) (cK (.int 1)))) (cK (.int 1)))) (c2 gMul (cB2 gIx (cbD (cB2 gIx (cbN 0) (cK (.int 1)))) (cK (.int 0))) (cB2 gIx (cbD (cB2 gIx (cbN 1) (cK (.int 1)))) (cK (.int 1))))) (c2 gSub (c2 gMul (cB2 gIx (cbD (cB2 gIx (cbN 2) (cK (.int 0)))) (cK (.int 0))) (cB2 gIx (cbD (cB2 gIx (cbN 0) (cK (.int 0)))) (cK (.int 1)))) (c2 gMul (cB2 gIx (cbD (cB2 gIx (cbN 0) (cK (.int 0)))) (cK (.int 0))) (cB2 gIx (cbD (cB2 gIx (cbN 2) (cK (.int 0)))) (cK (.int 1)))))) (cB2 gIx (cbD (cB2 gIx (cbN 1) (cK (.int 0)))) (cK (.int 1)))) (cB2 gIx (cbD (cB2 gIx (cbN 2) (cK (.int 1)))) (cK (.int 1))))) (cRet (c2 gSub (cN gInt (caCons (c2 gGt (cV 3) (cV 4)) (caNil))) (cN gInt (caCons (c2 gLt (cV 3) (cV 4)) (caNil))))))
def F_u_law_cross : Fn := mkF 3 5 [] M_u_law_cross
theorem ok_u_law_cross {f : Addr} {fd : FuncData} (T : Tx K mg)  (U : Fun K "_law_cross" "_law_cross" s_u_law_cross f fd) (hm : mg "_law_cross" = some (.ref f)) (b : Binds K fd ["_law_p", "_law_q", "_law_r"] []) :
    Has P w K mg base xc "_law_cross" 1 3 ["_law_p", "_law_q", "_law_r"] F_u_law_cross := by
  refine Has.mk U hm b (zfn (k := 0) U sc_u_law_cross rfl (by decide) (by decide) ?_)
  rintro _ E cdv A outer s H rfl hr tk hp
  have sc := sc_u_law_cross
  exact zss_cons (zs_set (i := 3) sc.nd rfl (by first | exact Or.inl rfl | exact Or.inr rfl) (ze_op op_mulW o_mul (ze_op op_mulW o_mul (ze_op op_mulW o_mul (ze_op op_sub o_sub (ze_op op_mulW o_mul (ze_item (zb_d (ze_item (zb_n (pv 1)) (ze_int) (fun _ _ => rfl))) (ze_int) (fun _ _ => rfl)) (ze_item (zb_d (ze_item (zb_n (pv 0)) (ze_int) (fun _ _ => rfl))) (ze_int) (fun _ _ => rfl))) (ze_op op_mulW o_mul (ze_item (zb_d (ze_item (zb_n (pv 0)) (ze_int) (fun _ _ => rfl))) (ze_int) (fun _ _ => rfl)) (ze_item (zb_d (ze_item (zb_n (pv 1)) (ze_int) (fun _ _ => rfl))) (ze_int) (fun _ _ => rfl)))) (ze_op op_sub o_sub (ze_op op_mulW o_mul (ze_item (zb_d (ze_item (zb_n (pv 2)) (ze_int) (fun _ _ => rfl))) (ze_int) (fun _ _ => rfl)) (ze_item (zb_d (ze_item (zb_n (pv 0)) (ze_int) (fun _ _ => rfl))) (ze_int) (fun _ _ => rfl))) (ze_op op_mulW o_mul (ze_item (zb_d (ze_item (zb_n (pv 0)) (ze_int) (fun _ _ => rfl))) (ze_int) (fun _ _ => rfl)) (ze_item (zb_d (ze_item (zb_n (pv 2)) (ze_int) (fun _ _ => rfl))) (ze_int) (fun _ _ => rfl))))) (ze_item (zb_d (ze_item (zb_n (pv 1)) (ze_int) (fun _ _ => rfl))) (ze_int) (fun _ _ => rfl))) (ze_item (zb_d (ze_item (zb_n (pv 2)) (ze_int) (fun _ _ => rfl))) (ze_int) (fun _ _ => rfl)))) (zss_cons (zs_set (i := 4) sc.nd rfl (by first | exact Or.inl rfl | exact Or.inr rfl) (ze_op op_mulW o_mul (ze_op op_mulW o_mul (ze_op op_mulW o_mul (ze_op op_sub o_sub (ze_op op_mulW o_mul (ze_item (zb_d (ze_item (zb_n (pv 1)) (ze_int) (fun _ _ => rfl))) (ze_int) (fun _ _ => rfl)) (ze_item (zb_d (ze_item (zb_n (pv 0)) (ze_int) (fun _ _ => rfl))) (ze_int) (fun _ _ => rfl))) (ze_op op_mulW o_mul (ze_item (zb_d (ze_item (zb_n (pv 0)) (ze_int) (fun _ _ => rfl))) (ze_int) (fun _ _ => rfl)) (ze_item (zb_d (ze_item (zb_n (pv 1)) (ze_int) (fun _ _ => rfl))) (ze_int) (fun _ _ => rfl)))) (ze_op op_sub o_sub (ze_op op_mulW o_mul (ze_item (zb_d (ze_item (zb_n (pv 2)) (ze_int) (fun _ _ => rfl))) (ze_int) (fun _ _ => rfl)) (ze_item (zb_d (ze_item (zb_n (pv 0)) (ze_int) (fun _ _ => rfl))) (ze_int) (fun _ _ => rfl))) (ze_op op_mulW o_mul (ze_item (zb_d (ze_item (zb_n (pv 0)) (ze_int) (fun _ _ => rfl))) (ze_int) (fun _ _ => rfl)) (ze_item (zb_d (ze_item (zb_n (pv 2)) (ze_int) (fun _ _ => rfl))) (ze_int) (fun _ _ => rfl))))) (ze_item (zb_d (ze_item (zb_n (pv 1)) (ze_int) (fun _ _ => rfl))) (ze_int) (fun _ _ => rfl))) (ze_item (zb_d (ze_item (zb_n (pv 2)) (ze_int) (fun _ _ => rfl))) (ze_int) (fun _ _ => rfl)))) (zss_one (zs_ret (ze_op op_sub o_sub (ze_callT call_int1 on_int T.int (by decide +kernel) (za_cons (ze_cmp op_gt o_gt (nomark _) (ze_var (pv 3)) (ze_var (pv 4))) (za_nil))) (ze_callT call_int1 on_int T.int (by decide +kernel) (za_cons (ze_cmp op_lt o_lt (nomark _) (ze_var (pv 3)) (ze_var (pv 4))) (za_nil)))))))
abbrev s_u_law_between : Stmt := topS 24
abbrev sc_N_u_law_between : List Str := ["_law_a", "_law_b", "_law_c", "_law_low_here", "_law_high"]
theorem sc_u_law_between : FnScope sc_N_u_law_between ["_law_a", "_law_b", "_law_c"] (defScope s_u_law_between) := ⟨rfl, rfl, rfl, by decide +kernel, rfl, by decide +kernel, by decide +kernel⟩
def M_u_law_between : CS := cSeq (cSet 3 (cAnd (c2 gLe (c2 gMul (cB2 gIx (cbN 0) (cK (.int 0))) (cB2 gIx (cbN 1) (cK (.int 1)))) (c2 gMul (cB2 gIx (cbN 1) (cK (.int 0))) (cB2 gIx (cbN 0) (cK (.int 1))))) (c2 gLe (c2 gMul (cB2 gIx (cbN 1) (cK (.int 0))) (cB2 gIx (cbN 2) (cK (.int 1)))) (c2 gMul (cB2 gIx (cbN 2) (cK (.int 0))) (cB2 gIx (cbN 1) (cK (.int 1))))))) (cSeq (cSet 4 (cAnd (c2 gGe (c2 gMul (cB2 gIx (cbN 0) (cK (.int 0))) (cB2 gIx (cbN 1) (cK (.int 1)))) (c2 gMul (cB2 gIx (cbN 1) (cK (.int 0))) (cB2 gIx (cbN 0) (cK (.int 1))))) (c2 gGe (c2 gMul (cB2 gIx (cbN 1) (cK (.int 0))) (cB2 gIx (cbN 2) (cK (.int 1)))) (c2 gMul (cB2 gIx (cbN 2) (cK (.int 0))) (cB2 gIx (cbN 1) (cK (.int 1))))))) (cRet (cOr (cV 3) (cV 4))))
def F_u_law_between : Fn := mkF 3 5 [] M_u_law_between
theorem ok_u_law_between {f : Addr} {fd : FuncData} (T : Tx K mg)  (U : Fun K "_law_between" "_law_between" s_u_law_between f fd) (hm : mg "_law_between" = some (.ref f)) (b : Binds K fd ["_law_a", "_law_b", "_law_c"] []) :
    Has P w K mg base xc "_law_between" 1 3 ["_law_a", "_law_b", "_law_c"] F_u_law_between := by
  refine Has.mk U hm b (zfn (k := 0) U sc_u_law_between rfl (by decide) (by decide) ?_)
  rintro _ E cdv A outer s H rfl hr tk hp
  have sc := sc_u_law_between
  exact zss_cons (zs_set (i := 3) sc.nd rfl (by first | exact Or.inl rfl | exact Or.inr rfl) (ze_and (ze_cmp op_le o_le (nomark _) (ze_op op_mulW o_mul (ze_item (zb_n (pv 0)) (ze_int) (fun _ _ => rfl)) (ze_item (zb_n (pv 1)) (ze_int) (fun _ _ => rfl))) (ze_op op_mulW o_mul (ze_item (zb_n (pv 1)) (ze_int) (fun _ _ => rfl)) (ze_item (zb_n (pv 0)) (ze_int) (fun _ _ => rfl)))) (ze_one (ze_cmp op_le o_le (nomark _) (ze_op op_mulW o_mul (ze_item (zb_n (pv 1)) (ze_int) (fun _ _ => rfl)) (ze_item (zb_n (pv 2)) (ze_int) (fun _ _ => rfl))) (ze_op op_mulW o_mul (ze_item (zb_n (pv 2)) (ze_int) (fun _ _ => rfl)) (ze_item (zb_n (pv 1)) (ze_int) (fun _ _ => rfl))))))) (zss_cons (zs_set (i := 4) sc.nd rfl (by first | exact Or.inl rfl | exact Or.inr rfl) (ze_and (ze_cmp op_ge o_ge (nomark _) (ze_op op_mulW o_mul (ze_item (zb_n (pv 0)) (ze_int) (fun _ _ => rfl)) (ze_item (zb_n (pv 1)) (ze_int) (fun _ _ => rfl))) (ze_op op_mulW o_mul (ze_item (zb_n (pv 1)) (ze_int) (fun _ _ => rfl)) (ze_item (zb_n (pv 0)) (ze_int) (fun _ _ => rfl)))) (ze_one (ze_cmp op_ge o_ge (nomark _) (ze_op op_mulW o_mul (ze_item (zb_n (pv 1)) (ze_int) (fun _ _ => rfl)) (ze_item (zb_n (pv 2)) (ze_int) (fun _ _ => rfl))) (ze_op op_mulW o_mul (ze_item (zb_n (pv 2)) (ze_int) (fun _ _ => rfl)) (ze_item (zb_n (pv 1)) (ze_int) (fun _ _ => rfl))))))) (zss_one (zs_ret (ze_or (ze_var (pv 3)) (ze_one (ze_var (pv 4)))))))
abbrev s_law : Stmt := topS 25
abbrev sc_N_law : List Str := ["_law_script", "_law_pot_here", "_law_k", "_law_p", "_law_q", "_law_r", "_law_share", "_law_due", "_law_n", "_law_bad", "_law_j", "_law_thing"]
theorem sc_law : FnScope sc_N_law ["_law_script"] (defScope s_law) := ⟨rfl, rfl, rfl, by decide +kernel, rfl, by decide +kernel, by decide +kernel⟩
def L_law_0 : CS := cSeq (cSet 3 (cTup (caCons (cCall F_u_law_number (cxS 1 (cxNil))) (caCons (cCall F_u_law_number (cxS 1 (cxNil))) (caNil))))) (cSeq (cSet 4 (cB2 gIx (cbD (cLst (caCons (cV 3) (caCons (cTup (caCons (cCall F_u_law_number (cxS 1 (cxNil))) (caCons (cCall F_u_law_number (cxS 1 (cxNil))) (caNil)))) (caNil))))) (cN gInt (caCons (c2 gGt (cCall F_u_law_next (cxS 1 (cxD (cK (.int 5)) (cxNil)))) (cK (.int 0))) (caNil))))) (cSeq (cSet 5 (cTup (caCons (cCall F_u_law_number (cxS 1 (cxNil))) (caCons (cCall F_u_law_number (cxS 1 (cxNil))) (caNil))))) (cSeq (cSet 6 (c2 gSub (cCall F_u_law_next (cxS 1 (cxD (cK (.int 7)) (cxNil)))) (cK (.int 2)))) (cSeq (cIfS (c2 gEq (cCall F_u_law_next (cxS 1 (cxD (cK (.int 2)) (cxNil)))) (cK (.int 1))) (cSet 5 (cN gTuple (caCons (cLc [10] (ciRange1 (caCons (cK (.int 2)) (caNil))) (cgName 10) (cK (.bool true)) (cCall F_u_law_low (cxD (c2 gAdd (c2 gMul (c2 gMul (cB2 gIx (cbD (cB2 gIx (cbN 3) (cV 10))) (cK (.int 0))) (cB2 gIx (cbD (cB2 gIx (cbN 4) (cV 10))) (cK (.int 1)))) (c2 gSub (cK (.int 4)) (cV 6))) (c2 gMul (c2 gMul (cB2 gIx (cbD (cB2 gIx (cbN 4) (cV 10))) (cK (.int 0))) (cB2 gIx (cbD (cB2 gIx (cbN 3) (cV 10))) (cK (.int 1)))) (cV 6))) (cxD (c2 gMul (c2 gMul (cK (.int 4)) (cB2 gIx (cbD (cB2 gIx (cbN 3) (cV 10))) (cK (.int 1)))) (cB2 gIx (cbD (cB2 gIx (cbN 4) (cV 10))) (cK (.int 1)))) (cxNil))))) (caNil)))) (cNext)) (cSeq (cIfS (c1 gNot (c1 gTru (cCall (F_u_law_same 8) (cxD (cCall F_turn (cxD (cV 3) (cxD (cV 4) (cxD (cV 5) (cxNil))))) (cxD (cCall F_u_law_cross (cxD (cV 3) (cxD (cV 4) (cxD (cV 5) (cxNil))))) (cxNil)))))) (cRet (cK (.bool false))) (cNext)) (cSeq (cSet 7 (cAnd (c2 gEq (cCall F_u_law_cross (cxD (cV 3) (cxD (cV 4) (cxD (cV 5) (cxNil))))) (cK (.int 0))) (cN gAll (caCons (cLc [10] (ciRange1 (caCons (cK (.int 2)) (caNil))) (cgName 10) (cK (.bool true)) (cCall F_u_law_between (cxD (cB2 gIx (cbN 3) (cV 10)) (cxD (cB2 gIx (cbN 5) (cV 10)) (cxD (cB2 gIx (cbN 4) (cV 10)) (cxNil)))))) (caNil))))) (cIfS (c1 gNot (c1 gTru (cCall (F_u_law_same 8) (cxD (cCall F_on_segment (cxD (cV 5) (cxD (cV 3) (cxD (cV 4) (cxNil))))) (cxD (cV 7) (cxNil)))))) (cRet (cK (.bool false))) (cNext))))))))
def M_law : CS := cSeq (cSet 1 (cCall F_u_law_pot (cxD (cV 0) (cxNil)))) (cSeq (cFor (ciRange1 (caCons (cK (.int 4)) (caNil))) (cgName 2) (L_law_0)) (cSeq (cSet 8 (c2 gSub (cCall F_u_law_next (cxS 1 (cxD (cK (.int 20001)) (cxNil)))) (cK (.int 10000)))) (cSeq (cIfS (cOr (c2 gIsN (cCall F_is_corner (cxD (cTup (caCons (cV 8) (caCons (c1 gNeg (cV 8)) (caNil)))) (cxNil))) (cK (.bool true))) (c2 gNe (cCall F_point (cxD (cTup (caCons (cV 8) (caCons (cK (.int 5)) (caNil)))) (cxNil))) (cTup (caCons (cTup (caCons (cV 8) (caCons (cK (.int 1)) (caNil)))) (caCons (cTup (caCons (cK (.int 5)) (caCons (cK (.int 1)) (caNil)))) (caNil)))))) (cRet (cK (.bool false))) (cNext)) (cSeq (cSet 9 (cLst (caCons (cTup (caCons (cK (.int 10001)) (caCons (cK (.int 0)) (caNil)))) (caCons (cTup (caCons (cK (.int 0)) (caCons (c1 gNeg (cK (.int 10001))) (caNil)))) (caCons (cTup (caCons (cK (.int 0)) (caNil))) (caCons (cTup (caCons (cK (.int 0)) (caCons (cK (.int 0)) (caCons (cK (.int 0)) (caNil))))) (caCons (cLst (caCons (cK (.int 0)) (caCons (cK (.int 0)) (caNil)))) (caCons (cTup (caCons (cK (.bool true)) (caCons (cK (.int 0)) (caNil)))) (caCons (cTup (caCons (cK (.int 0)) (caCons (cK (.str ("0" : Str))) (caNil)))) (caCons (cK .none) (caCons (cK (.int 5)) (caNil)))))))))))) (cSeq (cIfS (cOr (c1 gTru (cN gAny (caCons (cLc [11] (ciSeq (cV 9)) (cgName 11) (cK (.bool true)) (cCall F_is_corner (cxD (cV 11) (cxNil)))) (caNil)))) (c1 gNot (c1 gTru (cCall F_is_name (cxD (cK (.str ("abcdefghijkl" : Str))) (cxNil)))))) (cRet (cK (.bool false))) (cNext)) (cRet (c1 gNot (cN gAny (caCons (cLc [11] (ciSeq (cLst (caCons (cK (.str ("" : Str))) (caCons (cK (.str ("abcdefghijklm" : Str))) (caCons (cK (.str ("A" : Str))) (caCons (cK (.str ("a1" : Str))) (caCons (cK (.str ("a b" : Str))) (caCons (cK (.int 5)) (caCons (cK .none) (caCons (cTup (caCons (cK (.str ("a" : Str))) (caNil))) (caNil))))))))))) (cgName 11) (cK (.bool true)) (cCall F_is_name (cxD (cV 11) (cxNil)))) (caNil))))))))))
def F_law : Fn := mkF 1 12 [] M_law
theorem ok_law {f : Addr} {fd : FuncData} (T : Tx K mg) (G_u_law_between : Has P w K mg base xc "_law_between" 1 3 ["_law_a", "_law_b", "_law_c"] F_u_law_between) (G_u_law_cross : Has P w K mg base xc "_law_cross" 1 3 ["_law_p", "_law_q", "_law_r"] F_u_law_cross) (G_u_law_low : Has P w K mg base xc "_law_low" 2 2 ["_law_n", "_law_d"] F_u_law_low) (G_u_law_next : Has P w K mg base xc "_law_next" 1 2 ["_law_pot_here", "_law_limit"] F_u_law_next) (G_u_law_number : Has P w K mg base xc "_law_number" 3 1 ["_law_pot_here"] F_u_law_number) (G_u_law_pot : Has P w K mg base xc "_law_pot" 1 1 ["_law_script"] F_u_law_pot) (G_u_law_same : Has P w K mg base xc "_law_same" 10 2 ["_law_found", "_law_value"] (F_u_law_same 8)) (G_is_corner : Has P w K mg base xc "is_corner" 3 1 ["thing"] F_is_corner) (G_is_name : Has P w K mg base xc "is_name" 1 1 ["thing"] F_is_name) (G_on_segment : Has P w K mg base xc "on_segment" 3 3 ["p", "a", "b"] F_on_segment) (G_point : Has P w K mg base xc "point" 1 1 ["corner"] F_point) (G_turn : Has P w K mg base xc "turn" 2 3 ["p", "q", "r"] F_turn) (U : Fun K "law" "law" s_law f fd) (hm : mg "law" = some (.ref f)) (b : Binds K fd ["_law_script"] []) :
    FnOk P w K mg base (L2.CX P w) 11 f fd ["_law_script"] (spZ K xc 1 F_law) := by
  refine zfn (k := 10) U sc_law rfl (by decide) (by decide) ?_
  rintro _ E cdv A outer s H rfl hr tk hp
  have sc := sc_law
  exact zss_cons (zs_set (i := 1) sc.nd rfl (by first | exact Or.inl rfl | exact Or.inr rfl) (ze_callH G_u_law_pot hr tk (zx_d (ze_var (pv 0)) (zx_nil)) (len_d len_nil))) (zss_cons (zs_for hp rfl (zi_range1 rfl T.range (za_cons (ze_int) (za_nil))) (zg_name (i := 2) sc.nd rfl (by first | exact Or.inl rfl | exact Or.inr rfl)) (zss_cons (zs_set (i := 3) sc.nd rfl (by first | exact Or.inl rfl | exact Or.inr rfl) (ze_tup (za_cons (ze_callH G_u_law_number hr tk (zx_s (pv 1) (zx_nil)) (len_s len_nil)) (za_cons (ze_callH G_u_law_number hr tk (zx_s (pv 1) (zx_nil)) (len_s len_nil)) (za_nil))))) (zss_cons (zs_set (i := 4) sc.nd rfl (by first | exact Or.inl rfl | exact Or.inr rfl) (ze_item (zb_d (ze_lst (za_cons (ze_var (pv 3)) (za_cons (ze_tup (za_cons (ze_callH G_u_law_number hr tk (zx_s (pv 1) (zx_nil)) (len_s len_nil)) (za_cons (ze_callH G_u_law_number hr tk (zx_s (pv 1) (zx_nil)) (len_s len_nil)) (za_nil)))) (za_nil))))) (ze_callT call_int1 on_int T.int (by decide +kernel) (za_cons (ze_cmp op_gt o_gt (nomark _) (ze_callH G_u_law_next hr tk (zx_s (pv 1) (zx_d (ze_int) (zx_nil))) (len_s (len_d len_nil))) (ze_int)) (za_nil))) (fun _ _ => rfl))) (zss_cons (zs_set (i := 5) sc.nd rfl (by first | exact Or.inl rfl | exact Or.inr rfl) (ze_tup (za_cons (ze_callH G_u_law_number hr tk (zx_s (pv 1) (zx_nil)) (len_s len_nil)) (za_cons (ze_callH G_u_law_number hr tk (zx_s (pv 1) (zx_nil)) (len_s len_nil)) (za_nil))))) (zss_cons (zs_set (i := 6) sc.nd rfl (by first | exact Or.inl rfl | exact Or.inr rfl) (ze_op op_sub o_sub (ze_callH G_u_law_next hr tk (zx_s (pv 1) (zx_d (ze_int) (zx_nil))) (len_s (len_d len_nil))) (ze_int))) (zss_cons (zs_if (zt_cmp (op_eqD (hu64 hr)) o_eq (nomark _) (ze_callH G_u_law_next hr tk (zx_s (pv 1) (zx_d (ze_int) (zx_nil))) (len_s (len_d len_nil))) (ze_int)) (zss_one (zs_set (i := 5) sc.nd rfl (by first | exact Or.inl rfl | exact Or.inr rfl) (ze_callT call_tuple_of on_tuple T.tuple (by decide +kernel) (za_cons (ze_lc (own := [("_law_j", 10)]) rfl sc.nd (zi_range1 rfl T.range (za_cons (ze_int) (za_nil))) (blkOk_by (N := sc_N_law) (sc := defScope s_law) (by decide +kernel)) rfl rfl (fun _ _ _ _ _ => zg_name (i := 10) sc.nd rfl (by first | exact Or.inl rfl | exact Or.inr rfl)) (fun _ _ _ _ _ => pts_yes) (fun _ _ _ _ _ => ze_callH G_u_law_low hr takes0 (zx_d (ze_op op_addZ o_add (ze_op op_mulW o_mul (ze_op op_mulW o_mul (ze_item (zb_d (ze_item (zb_n (pv 3)) (ze_var (pv 10)) (fun _ _ => rfl))) (ze_int) (fun _ _ => rfl)) (ze_item (zb_d (ze_item (zb_n (pv 4)) (ze_var (pv 10)) (fun _ _ => rfl))) (ze_int) (fun _ _ => rfl))) (ze_op op_sub o_sub (ze_int) (ze_var (pv 6)))) (ze_op op_mulW o_mul (ze_op op_mulW o_mul (ze_item (zb_d (ze_item (zb_n (pv 4)) (ze_var (pv 10)) (fun _ _ => rfl))) (ze_int) (fun _ _ => rfl)) (ze_item (zb_d (ze_item (zb_n (pv 3)) (ze_var (pv 10)) (fun _ _ => rfl))) (ze_int) (fun _ _ => rfl))) (ze_var (pv 6)))) (zx_d (ze_op op_mulW o_mul (ze_op op_mulW o_mul (ze_int) (ze_item (zb_d (ze_item (zb_n (pv 3)) (ze_var (pv 10)) (fun _ _ => rfl))) (ze_int) (fun _ _ => rfl))) (ze_item (zb_d (ze_item (zb_n (pv 4)) (ze_var (pv 10)) (fun _ _ => rfl))) (ze_int) (fun _ _ => rfl))) (zx_nil))) (len_d (len_d len_nil)))) (za_nil))))) (zss_nil)) (zss_cons (zs_if (zt_not (zt_truth (ze_callH G_u_law_same hr tk (zx_d (ze_callH G_turn hr tk (zx_d (ze_var (pv 3)) (zx_d (ze_var (pv 4)) (zx_d (ze_var (pv 5)) (zx_nil)))) (len_d (len_d (len_d len_nil)))) (zx_d (ze_callH G_u_law_cross hr tk (zx_d (ze_var (pv 3)) (zx_d (ze_var (pv 4)) (zx_d (ze_var (pv 5)) (zx_nil)))) (len_d (len_d (len_d len_nil)))) (zx_nil))) (len_d (len_d len_nil))) (fun _ => rfl))) (zss_one (zs_ret (ze_bool))) (zss_nil)) (zss_cons (zs_set (i := 7) sc.nd rfl (by first | exact Or.inl rfl | exact Or.inr rfl) (ze_and (ze_cmp (op_eqD (hu64 hr)) o_eq (nomark _) (ze_callH G_u_law_cross hr tk (zx_d (ze_var (pv 3)) (zx_d (ze_var (pv 4)) (zx_d (ze_var (pv 5)) (zx_nil)))) (len_d (len_d (len_d len_nil)))) (ze_int)) (ze_one (ze_callB (cr_all rfl) on_all T.all (by decide +kernel) (za_cons (ze_lc (own := [("_law_j", 10)]) rfl sc.nd (zi_range1 rfl T.range (za_cons (ze_int) (za_nil))) (blkOk_by (N := sc_N_law) (sc := defScope s_law) (by decide +kernel)) rfl rfl (fun _ _ _ _ _ => zg_name (i := 10) sc.nd rfl (by first | exact Or.inl rfl | exact Or.inr rfl)) (fun _ _ _ _ _ => pts_yes) (fun _ _ _ _ _ => ze_callH G_u_law_between hr takes0 (zx_d (ze_item (zb_n (pv 3)) (ze_var (pv 10)) (fun _ _ => rfl)) (zx_d (ze_item (zb_n (pv 5)) (ze_var (pv 10)) (fun _ _ => rfl)) (zx_d (ze_item (zb_n (pv 4)) (ze_var (pv 10)) (fun _ _ => rfl)) (zx_nil)))) (len_d (len_d (len_d len_nil))))) (za_nil)))))) (zss_one (zs_if (zt_not (zt_truth (ze_callH G_u_law_same hr tk (zx_d (ze_callH G_on_segment hr tk (zx_d (ze_var (pv 5)) (zx_d (ze_var (pv 3)) (zx_d (ze_var (pv 4)) (zx_nil)))) (len_d (len_d (len_d len_nil)))) (zx_d (ze_var (pv 7)) (zx_nil))) (len_d (len_d len_nil))) (fun _ => rfl))) (zss_one (zs_ret (ze_bool))) (zss_nil))))))))))) (zss_cons (zs_set (i := 8) sc.nd rfl (by first | exact Or.inl rfl | exact Or.inr rfl) (ze_op op_sub o_sub (ze_callH G_u_law_next hr tk (zx_s (pv 1) (zx_d (ze_int) (zx_nil))) (len_s (len_d len_nil))) (ze_int))) (zss_cons (zs_if (zt_w (zw_or (zt_cmp op_notZ o_isN (nomark _) (ze_callH G_is_corner hr tk (zx_d (ze_tup (za_cons (ze_var (pv 8)) (za_cons (ze_un un_neg o_neg (ze_var (pv 8))) (za_nil)))) (zx_nil)) (len_d len_nil)) (ze_bool)) (zw_or1 (zt_cmp (op_neD (hu64 hr)) o_ne (nomark _) (ze_callH G_point hr tk (zx_d (ze_tup (za_cons (ze_var (pv 8)) (za_cons (ze_int) (za_nil)))) (zx_nil)) (len_d len_nil)) (ze_tup (za_cons (ze_tup (za_cons (ze_var (pv 8)) (za_cons (ze_int) (za_nil)))) (za_cons (ze_tup (za_cons (ze_int) (za_cons (ze_int) (za_nil)))) (za_nil)))))))) (zss_one (zs_ret (ze_bool))) (zss_nil)) (zss_cons (zs_set (i := 9) sc.nd rfl (by first | exact Or.inl rfl | exact Or.inr rfl) (ze_lst (za_cons (ze_tup (za_cons (ze_int) (za_cons (ze_int) (za_nil)))) (za_cons (ze_tup (za_cons (ze_int) (za_cons (ze_un un_neg o_neg (ze_int)) (za_nil)))) (za_cons (ze_tup (za_cons (ze_int) (za_nil))) (za_cons (ze_tup (za_cons (ze_int) (za_cons (ze_int) (za_cons (ze_int) (za_nil))))) (za_cons (ze_lst (za_cons (ze_int) (za_cons (ze_int) (za_nil)))) (za_cons (ze_tup (za_cons (ze_bool) (za_cons (ze_int) (za_nil)))) (za_cons (ze_tup (za_cons (ze_int) (za_cons (ze_str) (za_nil)))) (za_cons (ze_none) (za_cons (ze_int) (za_nil)))))))))))) (zss_cons (zs_if (zt_w (zw_or (zt_truth (ze_callB (cr_any rfl) on_any T.any (by decide +kernel) (za_cons (ze_lc (own := [("_law_thing", 11)]) rfl sc.nd (zi_seq (ze_var (pv 9))) (blkOk_by (N := sc_N_law) (sc := defScope s_law) (by decide +kernel)) rfl rfl (fun _ _ _ _ _ => zg_name (i := 11) sc.nd rfl (by first | exact Or.inl rfl | exact Or.inr rfl)) (fun _ _ _ _ _ => pts_yes) (fun _ _ _ _ _ => ze_callH G_is_corner hr takes0 (zx_d (ze_var (pv 11)) (zx_nil)) (len_d len_nil))) (za_nil))) (fun _ => rfl)) (zw_or1 (zt_not (zt_truth (ze_callH G_is_name hr tk (zx_d (ze_str) (zx_nil)) (len_d len_nil)) (fun _ => rfl)))))) (zss_one (zs_ret (ze_bool))) (zss_nil)) (zss_one (zs_ret (ze_not (ze_callB (cr_any rfl) on_any T.any (by decide +kernel) (za_cons (ze_lc (own := [("_law_thing", 11)]) rfl sc.nd (zi_seq (ze_lst (za_cons (ze_str) (za_cons (ze_str) (za_cons (ze_str) (za_cons (ze_str) (za_cons (ze_str) (za_cons (ze_int) (za_cons (ze_none) (za_cons (ze_tup (za_cons (ze_str) (za_nil))) (za_nil))))))))))) (blkOk_by (N := sc_N_law) (sc := defScope s_law) (by decide +kernel)) rfl rfl (fun _ _ _ _ _ => zg_name (i := 11) sc.nd rfl (by first | exact Or.inl rfl | exact Or.inr rfl)) (fun _ _ _ _ _ => pts_yes) (fun _ _ _ _ _ => ze_callH G_is_name hr takes0 (zx_d (ze_var (pv 11)) (zx_nil)) (len_d len_nil))) (za_nil)))))))))))
end
end Z
set_option maxHeartbeats 4000000
namespace Z
open PySem PySem.Spec PyProof.Rows L2
structure PotOk (l : List PyData) : Prop where
  ex : ∃ (ns : List Int) (i : Nat) (c s : Int), l = [.list (ns.map .int), .int i, .int c, .int s] ∧ i ≤ ns.length ∧ 0 ≤ c ∧ 0 ≤ s ∧ s < 2147483647
theorem small_mul {i : Int} {j : Int} (h : i.natAbs < 2 ^ 64) (h2 : j.natAbs < 2 ^ 64) : decide (CMulW i j) = true := decide_eq_true (wide_mul h h2 (by decide) (by decide) (by decide))
theorem next_spec {l : List PyData} {m : Int} (h : PotOk l) (hm : 0 < m) (hm2 : m.natAbs.log2 < 9000) : ∃ r l', F_u_law_next [.lst l, .dat (.int m)] = .ok (.dat (.int r)) [.lst l', .dat (.int m)] ∧ 0 ≤ r ∧ r < m ∧ PotOk l' := by
  obtain ⟨ns, i, c, s, rfl, hi, hc, hs, hs2⟩ := h.ex
  have m0 : decide ((0 : Int) < m) = true := decide_eq_true hm
  have mf : ∀ x, decide (CFd x m) = true := fun x => decide_eq_true ⟨by omega, hm2⟩
  have p1 : decide (CPow 10 18) = true := by decide
  have p2 : ((10 : Int) ^ (18 : Nat)) = 1000000000000000000 := by decide
  have r0 : ∀ x : Int, 0 ≤ x % m := fun x => Int.emod_nonneg x (by omega)
  have r1 : ∀ x : Int, x % m < m := fun x => Int.emod_lt_of_pos x hm
  have p3 : decide ((0 : Int) < 2147483647) = true := by decide
  have p4 : decide ((0 : Int) < 2147483629) = true := by decide
  have p5 : ∀ x, decide (CFd x 127) = true := fun x => decide_eq_true ⟨by decide, by decide⟩
  have big : ∀ (c : Int), 0 < c → ∃ r l', F_u_law_next [.lst [.list (ns.map .int), .int i, .int c, .int s], .dat (.int m)] = .ok (.dat (.int r)) [.lst l', .dat (.int m)] ∧ 0 ≤ r ∧ r < m ∧ PotOk l' := fun c hc => by
    have c1' : (c == 0) = false := beq_eq_false_iff_ne.mpr (by omega)
    have c2' : decide (0 < c) = true := decide_eq_true hc
    unfold F_u_law_next M_u_law_next
    simp only [mkF, fin_nx, fin_rt, fin_exc, outs, cSeq, sq_nx, sq_rt, cIfS_t, cSet, cRet, cRetN, cDrop, cNext, bd_ok, ba_ok, bs_ok, bx_ok, abd_ok, aba_ok, abs_ok, xbx_ok, bbd_ok, lift_some, c1, c2, cN, cB1, cB2, cAnd_t, cOr_t, cIf_t, cK, cV, cVm, cbN, cbD, resolve, caNil, caCons, cTup, cLst, cxNil, cxD, cxS, cCall, ssOf, slotsOf, putBack, dist, S_d, S_l, gAdd, gSub, gNeg, gNot, gLt, gLe, gGt, gGe, gEq_ii, gNe_ii, gIx, gLen, gAbs, gInt, tru_b, gMax2, gMin2, gGcd, gList, gTuple, cSetIx, cApp, cAsg, cgName, cgTup, cgCons, cgNil, cPar, atI_0, atI_1, atI_2, atI_3, ixL_1, ixL_2, ixL_3, List.getElem?_cons_zero, List.getElem?_cons_succ, List.set_cons_zero, List.set_cons_succ, List.map_cons, List.map_nil, List.length_cons, List.length_nil, List.cons_append, List.nil_append, List.replicate_succ, List.replicate_zero, List.length_map, cond_true, cond_false, Option.map_some, beq_self_eq_true, List.contains_cons, List.contains_nil, Bool.or_false, Bool.false_or, Bool.or_true, Bool.and_true, Bool.true_and, Bool.not_true, Bool.not_false, Nat.reduceBEq, Nat.reduceAdd, Nat.reduceSub, Nat.reduceEqDiff, reduceCtorEq, Bool.false_eq_true, ixN_41, ixN_42, ixN_43, gPow, gMul, gFd, gMod, sq_bad, sq_bk, sq_ct, sq_exc, dz0, dz1, dz2, dz3, dz4, dz5, dz6, dz7, dz8, dz9, dz10, dz11, dz12, dz13, dz14, dz15, dz16, ic0, ic1, ic2, ic3, ic4, isi_int_n, isi_int_b, isi_int_i, isi_int_s, isi_int_l, isi_int_t, isi_bool_n, isi_bool_b, isi_bool_i, isi_bool_s, isi_bool_l, isi_bool_t, isi_str_n, isi_str_b, isi_str_i, isi_str_s, isi_str_l, isi_str_t, isi_list_n, isi_list_b, isi_list_i, isi_list_s, isi_list_l, isi_list_t, isi_tuple_n, isi_tuple_b, isi_tuple_i, isi_tuple_s, isi_tuple_l, isi_tuple_t, isi_dict_n, isi_dict_b, isi_dict_i, isi_dict_s, isi_dict_l, isi_dict_t, tAnd_ok, tOr_ok, tIf_ok, tIfS_ok, tAnd_exc, tOr_exc, tIf_exc, tIfS_exc, co_and, co_or, tAnd_cond, tOr_cond, tIfS_cond, bd_cond, ba_cond, bs_cond, bx_cond, sq_cond, fin_cond, gIs_bb, gIsN_bb, rangeL_2, rangeL_3, lcL_nil, lcL_cons, oG_some, tLc_t, tLc_f, tLc_b, eLc_ok, cLc_t, sLc_ok, fLc_ok, gAll, gAny, bools_nil, bools_cons, ciSeq, noOwn, wipeE, restoreE, List.all_cons, List.all_nil, List.any_cons, List.any_nil, id, ciRange1, ciRange2, rng1_t, rng2_t, Int.reduceToNat, if_true, ite_true, if_false, cChain_t, eq_self, decide_true, decide_false, c1', c2', m0, mf]
    refine ⟨_, _, rfl, r0 _, r1 _, ⟨ns, i, _, s, rfl, hi, ?_, hs, hs2⟩⟩
    rw [Int.fdiv_eq_ediv_of_nonneg _ (by omega)]
    exact Int.ediv_nonneg (by omega) (by omega)
  by_cases c0 : c = 0
  · subst c0
    have z0 : decide ((0 : Int) < 0) = false := by decide
    by_cases hlt : i < ns.length
    · have hx : atI (ns.map PyData.int) (i : Int) = some (.int ns[i]) := by rw [atI_lt (by simpa using hlt)]; simp
      have hl : decide ((i : Int) < (ns.length : Int)) = true := decide_eq_true (by omega)
      obtain ⟨v, hv⟩ : ∃ v, v = (if ns[i] < 0 then -ns[i] else ns[i]) := ⟨_, rfl⟩
      have hv0 : 0 ≤ v := by rw [hv]; split <;> omega
      by_cases hs18 : v < 1000000000000000000
      · have d18 : decide (v < 1000000000000000000) = true := decide_eq_true hs18
        unfold F_u_law_next M_u_law_next
        simp only [mkF, fin_nx, fin_rt, fin_exc, outs, cSeq, sq_nx, sq_rt, cIfS_t, cSet, cRet, cRetN, cDrop, cNext, bd_ok, ba_ok, bs_ok, bx_ok, abd_ok, aba_ok, abs_ok, xbx_ok, bbd_ok, lift_some, c1, c2, cN, cB1, cB2, cAnd_t, cOr_t, cIf_t, cK, cV, cVm, cbN, cbD, resolve, caNil, caCons, cTup, cLst, cxNil, cxD, cxS, cCall, ssOf, slotsOf, putBack, dist, S_d, S_l, gAdd, gSub, gNeg, gNot, gLt, gLe, gGt, gGe, gEq_ii, gNe_ii, gIx, gLen, gAbs, gInt, tru_b, gMax2, gMin2, gGcd, gList, gTuple, cSetIx, cApp, cAsg, cgName, cgTup, cgCons, cgNil, cPar, atI_0, atI_1, atI_2, atI_3, ixL_1, ixL_2, ixL_3, List.getElem?_cons_zero, List.getElem?_cons_succ, List.set_cons_zero, List.set_cons_succ, List.map_cons, List.map_nil, List.length_cons, List.length_nil, List.cons_append, List.nil_append, List.replicate_succ, List.replicate_zero, List.length_map, cond_true, cond_false, Option.map_some, beq_self_eq_true, List.contains_cons, List.contains_nil, Bool.or_false, Bool.false_or, Bool.or_true, Bool.and_true, Bool.true_and, Bool.not_true, Bool.not_false, Nat.reduceBEq, Nat.reduceAdd, Nat.reduceSub, Nat.reduceEqDiff, reduceCtorEq, Bool.false_eq_true, ixN_41, ixN_42, ixN_43, gPow, gMul, gFd, gMod, sq_bad, sq_bk, sq_ct, sq_exc, dz0, dz1, dz2, dz3, dz4, dz5, dz6, dz7, dz8, dz9, dz10, dz11, dz12, dz13, dz14, dz15, dz16, ic0, ic1, ic2, ic3, ic4, isi_int_n, isi_int_b, isi_int_i, isi_int_s, isi_int_l, isi_int_t, isi_bool_n, isi_bool_b, isi_bool_i, isi_bool_s, isi_bool_l, isi_bool_t, isi_str_n, isi_str_b, isi_str_i, isi_str_s, isi_str_l, isi_str_t, isi_list_n, isi_list_b, isi_list_i, isi_list_s, isi_list_l, isi_list_t, isi_tuple_n, isi_tuple_b, isi_tuple_i, isi_tuple_s, isi_tuple_l, isi_tuple_t, isi_dict_n, isi_dict_b, isi_dict_i, isi_dict_s, isi_dict_l, isi_dict_t, tAnd_ok, tOr_ok, tIf_ok, tIfS_ok, tAnd_exc, tOr_exc, tIf_exc, tIfS_exc, co_and, co_or, tAnd_cond, tOr_cond, tIfS_cond, bd_cond, ba_cond, bs_cond, bx_cond, sq_cond, fin_cond, gIs_bb, gIsN_bb, rangeL_2, rangeL_3, lcL_nil, lcL_cons, oG_some, tLc_t, tLc_f, tLc_b, eLc_ok, cLc_t, sLc_ok, fLc_ok, gAll, gAny, bools_nil, bools_cons, ciSeq, noOwn, wipeE, restoreE, List.all_cons, List.all_nil, List.any_cons, List.any_nil, id, ciRange1, ciRange2, rng1_t, rng2_t, Int.reduceToNat, if_true, ite_true, if_false, cChain_t, eq_self, decide_true, decide_false, hl, hx, ← hv, p1, p2, d18, m0]
        exact ⟨_, _, rfl, r0 _, r1 _, ⟨ns, i + 1, 0, s, by simp, by omega, by omega, hs, hs2⟩⟩
      · have d18 : decide (v < 1000000000000000000) = false := decide_eq_false hs18
        have c2' : decide (0 < v) = true := decide_eq_true (by omega)
        unfold F_u_law_next M_u_law_next
        simp only [mkF, fin_nx, fin_rt, fin_exc, outs, cSeq, sq_nx, sq_rt, cIfS_t, cSet, cRet, cRetN, cDrop, cNext, bd_ok, ba_ok, bs_ok, bx_ok, abd_ok, aba_ok, abs_ok, xbx_ok, bbd_ok, lift_some, c1, c2, cN, cB1, cB2, cAnd_t, cOr_t, cIf_t, cK, cV, cVm, cbN, cbD, resolve, caNil, caCons, cTup, cLst, cxNil, cxD, cxS, cCall, ssOf, slotsOf, putBack, dist, S_d, S_l, gAdd, gSub, gNeg, gNot, gLt, gLe, gGt, gGe, gEq_ii, gNe_ii, gIx, gLen, gAbs, gInt, tru_b, gMax2, gMin2, gGcd, gList, gTuple, cSetIx, cApp, cAsg, cgName, cgTup, cgCons, cgNil, cPar, atI_0, atI_1, atI_2, atI_3, ixL_1, ixL_2, ixL_3, List.getElem?_cons_zero, List.getElem?_cons_succ, List.set_cons_zero, List.set_cons_succ, List.map_cons, List.map_nil, List.length_cons, List.length_nil, List.cons_append, List.nil_append, List.replicate_succ, List.replicate_zero, List.length_map, cond_true, cond_false, Option.map_some, beq_self_eq_true, List.contains_cons, List.contains_nil, Bool.or_false, Bool.false_or, Bool.or_true, Bool.and_true, Bool.true_and, Bool.not_true, Bool.not_false, Nat.reduceBEq, Nat.reduceAdd, Nat.reduceSub, Nat.reduceEqDiff, reduceCtorEq, Bool.false_eq_true, ixN_41, ixN_42, ixN_43, gPow, gMul, gFd, gMod, sq_bad, sq_bk, sq_ct, sq_exc, dz0, dz1, dz2, dz3, dz4, dz5, dz6, dz7, dz8, dz9, dz10, dz11, dz12, dz13, dz14, dz15, dz16, ic0, ic1, ic2, ic3, ic4, isi_int_n, isi_int_b, isi_int_i, isi_int_s, isi_int_l, isi_int_t, isi_bool_n, isi_bool_b, isi_bool_i, isi_bool_s, isi_bool_l, isi_bool_t, isi_str_n, isi_str_b, isi_str_i, isi_str_s, isi_str_l, isi_str_t, isi_list_n, isi_list_b, isi_list_i, isi_list_s, isi_list_l, isi_list_t, isi_tuple_n, isi_tuple_b, isi_tuple_i, isi_tuple_s, isi_tuple_l, isi_tuple_t, isi_dict_n, isi_dict_b, isi_dict_i, isi_dict_s, isi_dict_l, isi_dict_t, tAnd_ok, tOr_ok, tIf_ok, tIfS_ok, tAnd_exc, tOr_exc, tIf_exc, tIfS_exc, co_and, co_or, tAnd_cond, tOr_cond, tIfS_cond, bd_cond, ba_cond, bs_cond, bx_cond, sq_cond, fin_cond, gIs_bb, gIsN_bb, rangeL_2, rangeL_3, lcL_nil, lcL_cons, oG_some, tLc_t, tLc_f, tLc_b, eLc_ok, cLc_t, sLc_ok, fLc_ok, gAll, gAny, bools_nil, bools_cons, ciSeq, noOwn, wipeE, restoreE, List.all_cons, List.all_nil, List.any_cons, List.any_nil, id, ciRange1, ciRange2, rng1_t, rng2_t, Int.reduceToNat, if_true, ite_true, if_false, cChain_t, eq_self, decide_true, decide_false, hl, hx, ← hv, p1, p2, d18, m0, c2', mf]
        refine ⟨_, _, rfl, r0 _, r1 _, ⟨ns, i + 1, _, s, rfl, by omega, ?_, hs, hs2⟩⟩
        rw [Int.fdiv_eq_ediv_of_nonneg _ (by omega)]
        exact Int.ediv_nonneg (by omega) (by omega)
    · have hl : decide ((i : Int) < (ns.length : Int)) = false := decide_eq_false (by omega)
      have mu1 : decide (CMulW s 48271) = true := small_mul (by omega) (by decide)
      obtain ⟨t, ht⟩ : ∃ t, t = (s * 48271 + 12345) % 2147483647 := ⟨_, rfl⟩
      have ht0 : 0 ≤ t ∧ t < 2147483647 := by omega
      have mu2 : decide (CMulW t 69621) = true := small_mul (by omega) (by decide)
      unfold F_u_law_next M_u_law_next
      simp only [mkF, fin_nx, fin_rt, fin_exc, outs, cSeq, sq_nx, sq_rt, cIfS_t, cSet, cRet, cRetN, cDrop, cNext, bd_ok, ba_ok, bs_ok, bx_ok, abd_ok, aba_ok, abs_ok, xbx_ok, bbd_ok, lift_some, c1, c2, cN, cB1, cB2, cAnd_t, cOr_t, cIf_t, cK, cV, cVm, cbN, cbD, resolve, caNil, caCons, cTup, cLst, cxNil, cxD, cxS, cCall, ssOf, slotsOf, putBack, dist, S_d, S_l, gAdd, gSub, gNeg, gNot, gLt, gLe, gGt, gGe, gEq_ii, gNe_ii, gIx, gLen, gAbs, gInt, tru_b, gMax2, gMin2, gGcd, gList, gTuple, cSetIx, cApp, cAsg, cgName, cgTup, cgCons, cgNil, cPar, atI_0, atI_1, atI_2, atI_3, ixL_1, ixL_2, ixL_3, List.getElem?_cons_zero, List.getElem?_cons_succ, List.set_cons_zero, List.set_cons_succ, List.map_cons, List.map_nil, List.length_cons, List.length_nil, List.cons_append, List.nil_append, List.replicate_succ, List.replicate_zero, List.length_map, cond_true, cond_false, Option.map_some, beq_self_eq_true, List.contains_cons, List.contains_nil, Bool.or_false, Bool.false_or, Bool.or_true, Bool.and_true, Bool.true_and, Bool.not_true, Bool.not_false, Nat.reduceBEq, Nat.reduceAdd, Nat.reduceSub, Nat.reduceEqDiff, reduceCtorEq, Bool.false_eq_true, ixN_41, ixN_42, ixN_43, gPow, gMul, gFd, gMod, sq_bad, sq_bk, sq_ct, sq_exc, dz0, dz1, dz2, dz3, dz4, dz5, dz6, dz7, dz8, dz9, dz10, dz11, dz12, dz13, dz14, dz15, dz16, ic0, ic1, ic2, ic3, ic4, isi_int_n, isi_int_b, isi_int_i, isi_int_s, isi_int_l, isi_int_t, isi_bool_n, isi_bool_b, isi_bool_i, isi_bool_s, isi_bool_l, isi_bool_t, isi_str_n, isi_str_b, isi_str_i, isi_str_s, isi_str_l, isi_str_t, isi_list_n, isi_list_b, isi_list_i, isi_list_s, isi_list_l, isi_list_t, isi_tuple_n, isi_tuple_b, isi_tuple_i, isi_tuple_s, isi_tuple_l, isi_tuple_t, isi_dict_n, isi_dict_b, isi_dict_i, isi_dict_s, isi_dict_l, isi_dict_t, tAnd_ok, tOr_ok, tIf_ok, tIfS_ok, tAnd_exc, tOr_exc, tIf_exc, tIfS_exc, co_and, co_or, tAnd_cond, tOr_cond, tIfS_cond, bd_cond, ba_cond, bs_cond, bx_cond, sq_cond, fin_cond, gIs_bb, gIsN_bb, rangeL_2, rangeL_3, lcL_nil, lcL_cons, oG_some, tLc_t, tLc_f, tLc_b, eLc_ok, cLc_t, sLc_ok, fLc_ok, gAll, gAny, bools_nil, bools_cons, ciSeq, noOwn, wipeE, restoreE, List.all_cons, List.all_nil, List.any_cons, List.any_nil, id, ciRange1, ciRange2, rng1_t, rng2_t, Int.reduceToNat, if_true, ite_true, if_false, cChain_t, eq_self, decide_true, decide_false, hl, z0, mu1, p3, ← ht, mu2, p5, p4, m0]
      exact ⟨_, _, rfl, r0 _, r1 _, ⟨ns, i, 0, t, rfl, hi, by omega, ht0.1, ht0.2⟩⟩
  · exact big c (by omega)
theorem pot_spec (ns : List Int) : ∃ l, F_u_law_pot [.dat (.list (ns.map .int))] = .ok (.lst l) [.dat (.list (ns.map .int))] ∧ PotOk l := by
  obtain ⟨ρ', e, _, s, x, rfl, h0, h1⟩ := forL_nx (g := cgName 2) (body := L_u_law_pot_0)
    (fun ds ρ => (∃ ms : List Int, ds = ms.map .int) ∧ ∃ (s : Int) (x : Option S), ρ = [some (.dat (.list (ns.map .int))), some (.dat (.int s)), x] ∧ 0 ≤ s ∧ s < 2147483647)
    (fun d ds ρ h => by
      obtain ⟨⟨ms, hm⟩, s, x, rfl, h0, h1⟩ := h
      cases ms with
      | nil => cases hm
      | cons m ms =>
        cases hm
        have mu : decide (CMulW s 31) = true := small_mul (by omega) (by decide)
        have p3 : decide ((0 : Int) < 2147483647) = true := by decide
        refine ⟨_, _, rfl, ?_, ⟨ms, rfl⟩, (s * 31 + m) % 2147483647, some (.dat (.int m)), rfl, by omega, by omega⟩
        simp only [L_u_law_pot_0, mkF, fin_nx, fin_rt, fin_exc, outs, cSeq, sq_nx, sq_rt, cIfS_t, cSet, cRet, cRetN, cDrop, cNext, bd_ok, ba_ok, bs_ok, bx_ok, abd_ok, aba_ok, abs_ok, xbx_ok, bbd_ok, lift_some, c1, c2, cN, cB1, cB2, cAnd_t, cOr_t, cIf_t, cK, cV, cVm, cbN, cbD, resolve, caNil, caCons, cTup, cLst, cxNil, cxD, cxS, cCall, ssOf, slotsOf, putBack, dist, S_d, S_l, gAdd, gSub, gNeg, gNot, gLt, gLe, gGt, gGe, gEq_ii, gNe_ii, gIx, gLen, gAbs, gInt, tru_b, gMax2, gMin2, gGcd, gList, gTuple, cSetIx, cApp, cAsg, cgName, cgTup, cgCons, cgNil, cPar, atI_0, atI_1, atI_2, atI_3, ixL_1, ixL_2, ixL_3, List.getElem?_cons_zero, List.getElem?_cons_succ, List.set_cons_zero, List.set_cons_succ, List.map_cons, List.map_nil, List.length_cons, List.length_nil, List.cons_append, List.nil_append, List.replicate_succ, List.replicate_zero, List.length_map, cond_true, cond_false, Option.map_some, beq_self_eq_true, List.contains_cons, List.contains_nil, Bool.or_false, Bool.false_or, Bool.or_true, Bool.and_true, Bool.true_and, Bool.not_true, Bool.not_false, Nat.reduceBEq, Nat.reduceAdd, Nat.reduceSub, Nat.reduceEqDiff, reduceCtorEq, Bool.false_eq_true, ixN_41, ixN_42, ixN_43, gPow, gMul, gFd, gMod, sq_bad, sq_bk, sq_ct, sq_exc, dz0, dz1, dz2, dz3, dz4, dz5, dz6, dz7, dz8, dz9, dz10, dz11, dz12, dz13, dz14, dz15, dz16, ic0, ic1, ic2, ic3, ic4, isi_int_n, isi_int_b, isi_int_i, isi_int_s, isi_int_l, isi_int_t, isi_bool_n, isi_bool_b, isi_bool_i, isi_bool_s, isi_bool_l, isi_bool_t, isi_str_n, isi_str_b, isi_str_i, isi_str_s, isi_str_l, isi_str_t, isi_list_n, isi_list_b, isi_list_i, isi_list_s, isi_list_l, isi_list_t, isi_tuple_n, isi_tuple_b, isi_tuple_i, isi_tuple_s, isi_tuple_l, isi_tuple_t, isi_dict_n, isi_dict_b, isi_dict_i, isi_dict_s, isi_dict_l, isi_dict_t, tAnd_ok, tOr_ok, tIf_ok, tIfS_ok, tAnd_exc, tOr_exc, tIf_exc, tIfS_exc, co_and, co_or, tAnd_cond, tOr_cond, tIfS_cond, bd_cond, ba_cond, bs_cond, bx_cond, sq_cond, fin_cond, gIs_bb, gIsN_bb, rangeL_2, rangeL_3, lcL_nil, lcL_cons, oG_some, tLc_t, tLc_f, tLc_b, eLc_ok, cLc_t, sLc_ok, fLc_ok, gAll, gAny, bools_nil, bools_cons, ciSeq, noOwn, wipeE, restoreE, List.all_cons, List.all_nil, List.any_cons, List.any_nil, id, ciRange1, ciRange2, rng1_t, rng2_t, Int.reduceToNat, if_true, ite_true, if_false, cChain_t, eq_self, decide_true, decide_false, mu, p3]) (ns.map .int) [some (.dat (.list (ns.map .int))), some (.dat (.int 1)), none] ⟨⟨ns, rfl⟩, 1, none, rfl, by omega, by omega⟩
  refine ⟨[.list (ns.map .int), .int (0 : Nat), .int 0, .int s], ?_, ⟨ns, 0, 0, s, rfl, by omega, by omega, h0, h1⟩⟩
  unfold F_u_law_pot M_u_law_pot
  simp only [mkF, fin_nx, fin_rt, fin_exc, outs, cSeq, sq_nx, sq_rt, cIfS_t, cSet, cRet, cRetN, cDrop, cNext, bd_ok, ba_ok, bs_ok, bx_ok, abd_ok, aba_ok, abs_ok, xbx_ok, bbd_ok, lift_some, c1, c2, cN, cB1, cB2, cAnd_t, cOr_t, cIf_t, cK, cV, cVm, cbN, cbD, resolve, caNil, caCons, cTup, cLst, cxNil, cxD, cxS, cCall, ssOf, slotsOf, putBack, dist, S_d, S_l, gAdd, gSub, gNeg, gNot, gLt, gLe, gGt, gGe, gEq_ii, gNe_ii, gIx, gLen, gAbs, gInt, tru_b, gMax2, gMin2, gGcd, gList, gTuple, cSetIx, cApp, cAsg, cgName, cgTup, cgCons, cgNil, cPar, atI_0, atI_1, atI_2, atI_3, ixL_1, ixL_2, ixL_3, List.getElem?_cons_zero, List.getElem?_cons_succ, List.set_cons_zero, List.set_cons_succ, List.map_cons, List.map_nil, List.length_cons, List.length_nil, List.cons_append, List.nil_append, List.replicate_succ, List.replicate_zero, List.length_map, cond_true, cond_false, Option.map_some, beq_self_eq_true, List.contains_cons, List.contains_nil, Bool.or_false, Bool.false_or, Bool.or_true, Bool.and_true, Bool.true_and, Bool.not_true, Bool.not_false, Nat.reduceBEq, Nat.reduceAdd, Nat.reduceSub, Nat.reduceEqDiff, reduceCtorEq, Bool.false_eq_true, ixN_41, ixN_42, ixN_43, gPow, gMul, gFd, gMod, sq_bad, sq_bk, sq_ct, sq_exc, dz0, dz1, dz2, dz3, dz4, dz5, dz6, dz7, dz8, dz9, dz10, dz11, dz12, dz13, dz14, dz15, dz16, ic0, ic1, ic2, ic3, ic4, isi_int_n, isi_int_b, isi_int_i, isi_int_s, isi_int_l, isi_int_t, isi_bool_n, isi_bool_b, isi_bool_i, isi_bool_s, isi_bool_l, isi_bool_t, isi_str_n, isi_str_b, isi_str_i, isi_str_s, isi_str_l, isi_str_t, isi_list_n, isi_list_b, isi_list_i, isi_list_s, isi_list_l, isi_list_t, isi_tuple_n, isi_tuple_b, isi_tuple_i, isi_tuple_s, isi_tuple_l, isi_tuple_t, isi_dict_n, isi_dict_b, isi_dict_i, isi_dict_s, isi_dict_l, isi_dict_t, tAnd_ok, tOr_ok, tIf_ok, tIfS_ok, tAnd_exc, tOr_exc, tIf_exc, tIfS_exc, co_and, co_or, tAnd_cond, tOr_cond, tIfS_cond, bd_cond, ba_cond, bs_cond, bx_cond, sq_cond, fin_cond, gIs_bb, gIsN_bb, rangeL_2, rangeL_3, lcL_nil, lcL_cons, oG_some, tLc_t, tLc_f, tLc_b, eLc_ok, cLc_t, sLc_ok, fLc_ok, gAll, gAny, bools_nil, bools_cons, ciSeq, noOwn, wipeE, restoreE, List.all_cons, List.all_nil, List.any_cons, List.any_nil, id, ciRange1, ciRange2, rng1_t, rng2_t, Int.reduceToNat, if_true, ite_true, if_false, cChain_t, eq_self, decide_true, decide_false, cFor, ciSeq, e]
theorem gcd_loop : ∀ (k : Nat) (a b : Int) (x : Option S) (ds : List PyData), 0 ≤ b → b < 2 ^ k → 2 * k + 1 ≤ ds.length →
    ∃ ρ', forL (cgName 2) L_u_law_gcd_0 ds
      [some (.dat (.int a)), some (.dat (.int b)), x] = .rt (.dat (.int (Int.gcd a b))) ρ'
  | k, a, b, x, [], h0, h1, h2 => by simp at h2
  | k, a, b, x, d :: ds, h0, h1, h2 => by
    by_cases hb : b = 0
    · subst hb
      have : (if a < 0 then -a else a) = ((Int.gcd a 0 : Nat) : Int) := by rw [Int.gcd_zero]; split <;> omega
      simp only [forL, L_u_law_gcd_0, mkF, fin_nx, fin_rt, fin_exc, outs, cSeq, sq_nx, sq_rt, cIfS_t, cSet, cRet, cRetN, cDrop, cNext, bd_ok, ba_ok, bs_ok, bx_ok, abd_ok, aba_ok, abs_ok, xbx_ok, bbd_ok, lift_some, c1, c2, cN, cB1, cB2, cAnd_t, cOr_t, cIf_t, cK, cV, cVm, cbN, cbD, resolve, caNil, caCons, cTup, cLst, cxNil, cxD, cxS, cCall, ssOf, slotsOf, putBack, dist, S_d, S_l, gAdd, gSub, gNeg, gNot, gLt, gLe, gGt, gGe, gEq_ii, gNe_ii, gIx, gLen, gAbs, gInt, tru_b, gMax2, gMin2, gGcd, gList, gTuple, cSetIx, cApp, cAsg, cgName, cgTup, cgCons, cgNil, cPar, atI_0, atI_1, atI_2, atI_3, ixL_1, ixL_2, ixL_3, List.getElem?_cons_zero, List.getElem?_cons_succ, List.set_cons_zero, List.set_cons_succ, List.map_cons, List.map_nil, List.length_cons, List.length_nil, List.cons_append, List.nil_append, List.replicate_succ, List.replicate_zero, List.length_map, cond_true, cond_false, Option.map_some, beq_self_eq_true, List.contains_cons, List.contains_nil, Bool.or_false, Bool.false_or, Bool.or_true, Bool.and_true, Bool.true_and, Bool.not_true, Bool.not_false, Nat.reduceBEq, Nat.reduceAdd, Nat.reduceSub, Nat.reduceEqDiff, reduceCtorEq, Bool.false_eq_true, ixN_41, ixN_42, ixN_43, gPow, gMul, gFd, gMod, sq_bad, sq_bk, sq_ct, sq_exc, dz0, dz1, dz2, dz3, dz4, dz5, dz6, dz7, dz8, dz9, dz10, dz11, dz12, dz13, dz14, dz15, dz16, ic0, ic1, ic2, ic3, ic4, isi_int_n, isi_int_b, isi_int_i, isi_int_s, isi_int_l, isi_int_t, isi_bool_n, isi_bool_b, isi_bool_i, isi_bool_s, isi_bool_l, isi_bool_t, isi_str_n, isi_str_b, isi_str_i, isi_str_s, isi_str_l, isi_str_t, isi_list_n, isi_list_b, isi_list_i, isi_list_s, isi_list_l, isi_list_t, isi_tuple_n, isi_tuple_b, isi_tuple_i, isi_tuple_s, isi_tuple_l, isi_tuple_t, isi_dict_n, isi_dict_b, isi_dict_i, isi_dict_s, isi_dict_l, isi_dict_t, tAnd_ok, tOr_ok, tIf_ok, tIfS_ok, tAnd_exc, tOr_exc, tIf_exc, tIfS_exc, co_and, co_or, tAnd_cond, tOr_cond, tIfS_cond, bd_cond, ba_cond, bs_cond, bx_cond, sq_cond, fin_cond, gIs_bb, gIsN_bb, rangeL_2, rangeL_3, lcL_nil, lcL_cons, oG_some, tLc_t, tLc_f, tLc_b, eLc_ok, cLc_t, sLc_ok, fLc_ok, gAll, gAny, bools_nil, bools_cons, ciSeq, noOwn, wipeE, restoreE, List.all_cons, List.all_nil, List.any_cons, List.any_nil, id, ciRange1, ciRange2, rng1_t, rng2_t, Int.reduceToNat, if_true, ite_true, if_false, cChain_t, eq_self, decide_true, decide_false, this]
      exact ⟨_, rfl⟩
    · cases k with
      | zero => exfalso; have : (2 : Int) ^ 0 = 1 := rfl; omega
      | succ k =>
        have e1 : (b == 0) = false := beq_eq_false_iff_ne.mpr hb
        have e2 : decide (0 < b) = true := decide_eq_true (by omega)
        have r0 := Int.emod_nonneg a hb
        have r1 := Int.emod_lt_of_pos a (show 0 < b by omega)
        have g1 : Int.gcd a b = Int.gcd b (a % b) := by
          have := Int.gcd_add_mul_left_right b (a % b) (a / b)
          rw [Int.emod_add_mul_ediv] at this
          rw [Int.gcd_comm, this]
        simp only [forL, L_u_law_gcd_0, mkF, fin_nx, fin_rt, fin_exc, outs, cSeq, sq_nx, sq_rt, cIfS_t, cSet, cRet, cRetN, cDrop, cNext, bd_ok, ba_ok, bs_ok, bx_ok, abd_ok, aba_ok, abs_ok, xbx_ok, bbd_ok, lift_some, c1, c2, cN, cB1, cB2, cAnd_t, cOr_t, cIf_t, cK, cV, cVm, cbN, cbD, resolve, caNil, caCons, cTup, cLst, cxNil, cxD, cxS, cCall, ssOf, slotsOf, putBack, dist, S_d, S_l, gAdd, gSub, gNeg, gNot, gLt, gLe, gGt, gGe, gEq_ii, gNe_ii, gIx, gLen, gAbs, gInt, tru_b, gMax2, gMin2, gGcd, gList, gTuple, cSetIx, cApp, cAsg, cgName, cgTup, cgCons, cgNil, cPar, atI_0, atI_1, atI_2, atI_3, ixL_1, ixL_2, ixL_3, List.getElem?_cons_zero, List.getElem?_cons_succ, List.set_cons_zero, List.set_cons_succ, List.map_cons, List.map_nil, List.length_cons, List.length_nil, List.cons_append, List.nil_append, List.replicate_succ, List.replicate_zero, List.length_map, cond_true, cond_false, Option.map_some, beq_self_eq_true, List.contains_cons, List.contains_nil, Bool.or_false, Bool.false_or, Bool.or_true, Bool.and_true, Bool.true_and, Bool.not_true, Bool.not_false, Nat.reduceBEq, Nat.reduceAdd, Nat.reduceSub, Nat.reduceEqDiff, reduceCtorEq, Bool.false_eq_true, ixN_41, ixN_42, ixN_43, gPow, gMul, gFd, gMod, sq_bad, sq_bk, sq_ct, sq_exc, dz0, dz1, dz2, dz3, dz4, dz5, dz6, dz7, dz8, dz9, dz10, dz11, dz12, dz13, dz14, dz15, dz16, ic0, ic1, ic2, ic3, ic4, isi_int_n, isi_int_b, isi_int_i, isi_int_s, isi_int_l, isi_int_t, isi_bool_n, isi_bool_b, isi_bool_i, isi_bool_s, isi_bool_l, isi_bool_t, isi_str_n, isi_str_b, isi_str_i, isi_str_s, isi_str_l, isi_str_t, isi_list_n, isi_list_b, isi_list_i, isi_list_s, isi_list_l, isi_list_t, isi_tuple_n, isi_tuple_b, isi_tuple_i, isi_tuple_s, isi_tuple_l, isi_tuple_t, isi_dict_n, isi_dict_b, isi_dict_i, isi_dict_s, isi_dict_l, isi_dict_t, tAnd_ok, tOr_ok, tIf_ok, tIfS_ok, tAnd_exc, tOr_exc, tIf_exc, tIfS_exc, co_and, co_or, tAnd_cond, tOr_cond, tIfS_cond, bd_cond, ba_cond, bs_cond, bx_cond, sq_cond, fin_cond, gIs_bb, gIsN_bb, rangeL_2, rangeL_3, lcL_nil, lcL_cons, oG_some, tLc_t, tLc_f, tLc_b, eLc_ok, cLc_t, sLc_ok, fLc_ok, gAll, gAny, bools_nil, bools_cons, ciSeq, noOwn, wipeE, restoreE, List.all_cons, List.all_nil, List.any_cons, List.any_nil, id, ciRange1, ciRange2, rng1_t, rng2_t, Int.reduceToNat, if_true, ite_true, if_false, cChain_t, eq_self, decide_true, decide_false, e1, e2]
        obtain ⟨r, hr⟩ : ∃ r, r = a % b := ⟨_, rfl⟩
        rw [g1]
        rw [← hr] at r0 r1 ⊢
        match ds, h2 with
        | [], h2 => simp at h2
        | d' :: ds, h2 =>
          by_cases hr0 : r = 0
          · subst hr0
            have : (if b < 0 then -b else b) = ((Int.gcd b 0 : Nat) : Int) := by rw [Int.gcd_zero]; split <;> omega
            simp only [forL, L_u_law_gcd_0, mkF, fin_nx, fin_rt, fin_exc, outs, cSeq, sq_nx, sq_rt, cIfS_t, cSet, cRet, cRetN, cDrop, cNext, bd_ok, ba_ok, bs_ok, bx_ok, abd_ok, aba_ok, abs_ok, xbx_ok, bbd_ok, lift_some, c1, c2, cN, cB1, cB2, cAnd_t, cOr_t, cIf_t, cK, cV, cVm, cbN, cbD, resolve, caNil, caCons, cTup, cLst, cxNil, cxD, cxS, cCall, ssOf, slotsOf, putBack, dist, S_d, S_l, gAdd, gSub, gNeg, gNot, gLt, gLe, gGt, gGe, gEq_ii, gNe_ii, gIx, gLen, gAbs, gInt, tru_b, gMax2, gMin2, gGcd, gList, gTuple, cSetIx, cApp, cAsg, cgName, cgTup, cgCons, cgNil, cPar, atI_0, atI_1, atI_2, atI_3, ixL_1, ixL_2, ixL_3, List.getElem?_cons_zero, List.getElem?_cons_succ, List.set_cons_zero, List.set_cons_succ, List.map_cons, List.map_nil, List.length_cons, List.length_nil, List.cons_append, List.nil_append, List.replicate_succ, List.replicate_zero, List.length_map, cond_true, cond_false, Option.map_some, beq_self_eq_true, List.contains_cons, List.contains_nil, Bool.or_false, Bool.false_or, Bool.or_true, Bool.and_true, Bool.true_and, Bool.not_true, Bool.not_false, Nat.reduceBEq, Nat.reduceAdd, Nat.reduceSub, Nat.reduceEqDiff, reduceCtorEq, Bool.false_eq_true, ixN_41, ixN_42, ixN_43, gPow, gMul, gFd, gMod, sq_bad, sq_bk, sq_ct, sq_exc, dz0, dz1, dz2, dz3, dz4, dz5, dz6, dz7, dz8, dz9, dz10, dz11, dz12, dz13, dz14, dz15, dz16, ic0, ic1, ic2, ic3, ic4, isi_int_n, isi_int_b, isi_int_i, isi_int_s, isi_int_l, isi_int_t, isi_bool_n, isi_bool_b, isi_bool_i, isi_bool_s, isi_bool_l, isi_bool_t, isi_str_n, isi_str_b, isi_str_i, isi_str_s, isi_str_l, isi_str_t, isi_list_n, isi_list_b, isi_list_i, isi_list_s, isi_list_l, isi_list_t, isi_tuple_n, isi_tuple_b, isi_tuple_i, isi_tuple_s, isi_tuple_l, isi_tuple_t, isi_dict_n, isi_dict_b, isi_dict_i, isi_dict_s, isi_dict_l, isi_dict_t, tAnd_ok, tOr_ok, tIf_ok, tIfS_ok, tAnd_exc, tOr_exc, tIf_exc, tIfS_exc, co_and, co_or, tAnd_cond, tOr_cond, tIfS_cond, bd_cond, ba_cond, bs_cond, bx_cond, sq_cond, fin_cond, gIs_bb, gIsN_bb, rangeL_2, rangeL_3, lcL_nil, lcL_cons, oG_some, tLc_t, tLc_f, tLc_b, eLc_ok, cLc_t, sLc_ok, fLc_ok, gAll, gAny, bools_nil, bools_cons, ciSeq, noOwn, wipeE, restoreE, List.all_cons, List.all_nil, List.any_cons, List.any_nil, id, ciRange1, ciRange2, rng1_t, rng2_t, Int.reduceToNat, if_true, ite_true, if_false, cChain_t, eq_self, decide_true, decide_false, this]
            exact ⟨_, rfl⟩
          · have e3 : (r == 0) = false := beq_eq_false_iff_ne.mpr hr0
            have e4 : decide (0 < r) = true := decide_eq_true (by omega)
            have q0 := Int.emod_nonneg b hr0
            have q1 := Int.emod_lt_of_pos b (show 0 < r by omega)
            have g2 : Int.gcd b r = Int.gcd r (b % r) := by
              have := Int.gcd_add_mul_left_right r (b % r) (b / r)
              rw [Int.emod_add_mul_ediv] at this
              rw [Int.gcd_comm, this]
            have half : 2 * (b % r) < b := by
              have h3 := Int.emod_add_mul_ediv b r
              have h4 : 1 ≤ b / r := by
                have := (Int.le_ediv_iff_mul_le (show 0 < r by omega)).mpr (show 1 * r ≤ b by omega)
                exact this
              have h5 : r * 1 ≤ r * (b / r) := Int.mul_le_mul_of_nonneg_left h4 (by omega)
              omega
            simp only [forL, L_u_law_gcd_0, mkF, fin_nx, fin_rt, fin_exc, outs, cSeq, sq_nx, sq_rt, cIfS_t, cSet, cRet, cRetN, cDrop, cNext, bd_ok, ba_ok, bs_ok, bx_ok, abd_ok, aba_ok, abs_ok, xbx_ok, bbd_ok, lift_some, c1, c2, cN, cB1, cB2, cAnd_t, cOr_t, cIf_t, cK, cV, cVm, cbN, cbD, resolve, caNil, caCons, cTup, cLst, cxNil, cxD, cxS, cCall, ssOf, slotsOf, putBack, dist, S_d, S_l, gAdd, gSub, gNeg, gNot, gLt, gLe, gGt, gGe, gEq_ii, gNe_ii, gIx, gLen, gAbs, gInt, tru_b, gMax2, gMin2, gGcd, gList, gTuple, cSetIx, cApp, cAsg, cgName, cgTup, cgCons, cgNil, cPar, atI_0, atI_1, atI_2, atI_3, ixL_1, ixL_2, ixL_3, List.getElem?_cons_zero, List.getElem?_cons_succ, List.set_cons_zero, List.set_cons_succ, List.map_cons, List.map_nil, List.length_cons, List.length_nil, List.cons_append, List.nil_append, List.replicate_succ, List.replicate_zero, List.length_map, cond_true, cond_false, Option.map_some, beq_self_eq_true, List.contains_cons, List.contains_nil, Bool.or_false, Bool.false_or, Bool.or_true, Bool.and_true, Bool.true_and, Bool.not_true, Bool.not_false, Nat.reduceBEq, Nat.reduceAdd, Nat.reduceSub, Nat.reduceEqDiff, reduceCtorEq, Bool.false_eq_true, ixN_41, ixN_42, ixN_43, gPow, gMul, gFd, gMod, sq_bad, sq_bk, sq_ct, sq_exc, dz0, dz1, dz2, dz3, dz4, dz5, dz6, dz7, dz8, dz9, dz10, dz11, dz12, dz13, dz14, dz15, dz16, ic0, ic1, ic2, ic3, ic4, isi_int_n, isi_int_b, isi_int_i, isi_int_s, isi_int_l, isi_int_t, isi_bool_n, isi_bool_b, isi_bool_i, isi_bool_s, isi_bool_l, isi_bool_t, isi_str_n, isi_str_b, isi_str_i, isi_str_s, isi_str_l, isi_str_t, isi_list_n, isi_list_b, isi_list_i, isi_list_s, isi_list_l, isi_list_t, isi_tuple_n, isi_tuple_b, isi_tuple_i, isi_tuple_s, isi_tuple_l, isi_tuple_t, isi_dict_n, isi_dict_b, isi_dict_i, isi_dict_s, isi_dict_l, isi_dict_t, tAnd_ok, tOr_ok, tIf_ok, tIfS_ok, tAnd_exc, tOr_exc, tIf_exc, tIfS_exc, co_and, co_or, tAnd_cond, tOr_cond, tIfS_cond, bd_cond, ba_cond, bs_cond, bx_cond, sq_cond, fin_cond, gIs_bb, gIsN_bb, rangeL_2, rangeL_3, lcL_nil, lcL_cons, oG_some, tLc_t, tLc_f, tLc_b, eLc_ok, cLc_t, sLc_ok, fLc_ok, gAll, gAny, bools_nil, bools_cons, ciSeq, noOwn, wipeE, restoreE, List.all_cons, List.all_nil, List.any_cons, List.any_nil, id, ciRange1, ciRange2, rng1_t, rng2_t, Int.reduceToNat, if_true, ite_true, if_false, cChain_t, eq_self, decide_true, decide_false, e3, e4]
            rw [g2]
            have h1' : b < 2 ^ k * 2 := by rw [← Int.pow_succ]; exact h1
            exact gcd_loop k r (b % r) _ ds q0 (by omega) (by simp at h2; omega)
theorem gcd_spec {a b : Int} (h0 : 0 ≤ b) (h1 : b < 2 ^ 29) : F_u_law_gcd [.dat (.int a), .dat (.int b)] = .ok (.dat (.int (Int.gcd a b))) [.dat (.int a), .dat (.int b)] := by
  obtain ⟨ρ', e⟩ := gcd_loop 29 a b none (rangeL 0 60) h0 h1 (by rw [rangeL_length]; decide)
  have p : decide (-(2 ^ 62) ≤ (60 : Int) ∧ (60 : Int) < 2 ^ 62) = true := by decide
  have p2 : Int.toNat 60 = 60 := rfl
  unfold F_u_law_gcd M_u_law_gcd
  simp only [mkF, fin_nx, fin_rt, fin_exc, outs, cSeq, sq_nx, sq_rt, cIfS_t, cSet, cRet, cRetN, cDrop, cNext, bd_ok, ba_ok, bs_ok, bx_ok, abd_ok, aba_ok, abs_ok, xbx_ok, bbd_ok, lift_some, c1, c2, cN, cB1, cB2, cAnd_t, cOr_t, cIf_t, cK, cV, cVm, cbN, cbD, resolve, caNil, caCons, cTup, cLst, cxNil, cxD, cxS, cCall, ssOf, slotsOf, putBack, dist, S_d, S_l, gAdd, gSub, gNeg, gNot, gLt, gLe, gGt, gGe, gEq_ii, gNe_ii, gIx, gLen, gAbs, gInt, tru_b, gMax2, gMin2, gGcd, gList, gTuple, cSetIx, cApp, cAsg, cgName, cgTup, cgCons, cgNil, cPar, atI_0, atI_1, atI_2, atI_3, ixL_1, ixL_2, ixL_3, List.getElem?_cons_zero, List.getElem?_cons_succ, List.set_cons_zero, List.set_cons_succ, List.map_cons, List.map_nil, List.length_cons, List.length_nil, List.cons_append, List.nil_append, List.replicate_succ, List.replicate_zero, List.length_map, cond_true, cond_false, Option.map_some, beq_self_eq_true, List.contains_cons, List.contains_nil, Bool.or_false, Bool.false_or, Bool.or_true, Bool.and_true, Bool.true_and, Bool.not_true, Bool.not_false, Nat.reduceBEq, Nat.reduceAdd, Nat.reduceSub, Nat.reduceEqDiff, reduceCtorEq, Bool.false_eq_true, ixN_41, ixN_42, ixN_43, gPow, gMul, gFd, gMod, sq_bad, sq_bk, sq_ct, sq_exc, dz0, dz1, dz2, dz3, dz4, dz5, dz6, dz7, dz8, dz9, dz10, dz11, dz12, dz13, dz14, dz15, dz16, ic0, ic1, ic2, ic3, ic4, isi_int_n, isi_int_b, isi_int_i, isi_int_s, isi_int_l, isi_int_t, isi_bool_n, isi_bool_b, isi_bool_i, isi_bool_s, isi_bool_l, isi_bool_t, isi_str_n, isi_str_b, isi_str_i, isi_str_s, isi_str_l, isi_str_t, isi_list_n, isi_list_b, isi_list_i, isi_list_s, isi_list_l, isi_list_t, isi_tuple_n, isi_tuple_b, isi_tuple_i, isi_tuple_s, isi_tuple_l, isi_tuple_t, isi_dict_n, isi_dict_b, isi_dict_i, isi_dict_s, isi_dict_l, isi_dict_t, tAnd_ok, tOr_ok, tIf_ok, tIfS_ok, tAnd_exc, tOr_exc, tIf_exc, tIfS_exc, co_and, co_or, tAnd_cond, tOr_cond, tIfS_cond, bd_cond, ba_cond, bs_cond, bx_cond, sq_cond, fin_cond, gIs_bb, gIsN_bb, rangeL_2, rangeL_3, lcL_nil, lcL_cons, oG_some, tLc_t, tLc_f, tLc_b, eLc_ok, cLc_t, sLc_ok, fLc_ok, gAll, gAny, bools_nil, bools_cons, ciSeq, noOwn, wipeE, restoreE, List.all_cons, List.all_nil, List.any_cons, List.any_nil, id, ciRange1, ciRange2, rng1_t, rng2_t, Int.reduceToNat, if_true, ite_true, if_false, cChain_t, eq_self, decide_true, decide_false, cFor, ciRange1, p, p2, e]
theorem gcd_bd {n d : Int} {k : Nat} (h : Bd k d) (hd : d ≠ 0) : ∃ g : Int, g = ((Nat.gcd n.natAbs d.natAbs : Nat) : Int) ∧ 0 < g ∧ Bd k g ∧ ∃ x y, n = g * x ∧ d = g * y ∧ Int.gcd x y = 1 := by
  refine ⟨_, rfl, ?_, ?_, ?_⟩
  · have := Nat.gcd_pos_of_pos_right n.natAbs (show 0 < d.natAbs by omega)
    omega
  · have := Nat.gcd_le_right n.natAbs (show 0 < d.natAbs by omega)
    unfold Bd at *
    omega
  · obtain ⟨x, hx⟩ := Int.gcd_dvd_left n d
    obtain ⟨y, hy⟩ := Int.gcd_dvd_right n d
    refine ⟨x, y, hx, hy, ?_⟩
    have h1 : Int.gcd n d = Int.gcd (((Int.gcd n d : Nat) : Int) * x) (((Int.gcd n d : Nat) : Int) * y) := by rw [← hx, ← hy]
    rw [Int.gcd_mul_left] at h1
    have h2 : 0 < Int.gcd n d := by
      have := Nat.gcd_pos_of_pos_right n.natAbs (show 0 < d.natAbs by omega)
      exact this
    have h3 : ((Int.gcd n d : Nat) : Int).natAbs = Int.gcd n d := Int.natAbs_natCast _
    rw [h3] at h1
    have h4 : Int.gcd n d * 1 = Int.gcd n d * Int.gcd x y := by omega
    exact (Nat.eq_of_mul_eq_mul_left h2 h4).symm
theorem natAbs_mul_le {g x : Int} (h : 0 < g) : x.natAbs ≤ (g * x).natAbs := by
  rw [Int.natAbs_mul]
  exact Nat.le_mul_of_pos_left _ (by omega)
/-- lowest terms of the law: the divisor above zero -/
theorem low_spec {n d : Int} (h0 : 0 < d) (h1 : d < 2 ^ 29) : ∃ p q, F_u_law_low [.dat (.int n), .dat (.int d)] = .ok (.dat (Nu p q)) [.dat (.int n), .dat (.int d)] ∧ 0 < q ∧ q ≤ d ∧ p.natAbs ≤ n.natAbs ∧ p * d = n * q := by
  obtain ⟨g, hg, g0, gb, x, y, hx, hy, hxy⟩ := gcd_bd (n := n) (d := d) (k := 29) (by unfold Bd; omega) (by omega)
  have gs := gcd_spec (a := n) (by omega) h1
  have gg : ((Int.gcd n d : Nat) : Int) = g := by rw [hg]; rfl
  rw [gg] at gs
  have f1 : ∀ z, decide (CFd z g) = true := fun z => Bd.fd gb (by omega)
  have e1 : ∀ z, (g * z).fdiv g = z := fun z => Int.mul_fdiv_cancel_left z (by omega)
  have hy0 : 0 < y := by
    have h1 : 0 < g * y := by rw [← hy]; omega
    exact Int.pos_of_mul_pos_right h1 (by omega)
  refine ⟨x, y, ?_, hy0, ?_, ?_, ?_⟩
  · unfold F_u_law_low M_u_law_low
    simp only [mkF, fin_nx, fin_rt, fin_exc, outs, cSeq, sq_nx, sq_rt, cIfS_t, cSet, cRet, cRetN, cDrop, cNext, bd_ok, ba_ok, bs_ok, bx_ok, abd_ok, aba_ok, abs_ok, xbx_ok, bbd_ok, lift_some, c1, c2, cN, cB1, cB2, cAnd_t, cOr_t, cIf_t, cK, cV, cVm, cbN, cbD, resolve, caNil, caCons, cTup, cLst, cxNil, cxD, cxS, cCall, ssOf, slotsOf, putBack, dist, S_d, S_l, gAdd, gSub, gNeg, gNot, gLt, gLe, gGt, gGe, gEq_ii, gNe_ii, gIx, gLen, gAbs, gInt, tru_b, gMax2, gMin2, gGcd, gList, gTuple, cSetIx, cApp, cAsg, cgName, cgTup, cgCons, cgNil, cPar, atI_0, atI_1, atI_2, atI_3, ixL_1, ixL_2, ixL_3, List.getElem?_cons_zero, List.getElem?_cons_succ, List.set_cons_zero, List.set_cons_succ, List.map_cons, List.map_nil, List.length_cons, List.length_nil, List.cons_append, List.nil_append, List.replicate_succ, List.replicate_zero, List.length_map, cond_true, cond_false, Option.map_some, beq_self_eq_true, List.contains_cons, List.contains_nil, Bool.or_false, Bool.false_or, Bool.or_true, Bool.and_true, Bool.true_and, Bool.not_true, Bool.not_false, Nat.reduceBEq, Nat.reduceAdd, Nat.reduceSub, Nat.reduceEqDiff, reduceCtorEq, Bool.false_eq_true, ixN_41, ixN_42, ixN_43, gPow, gMul, gFd, gMod, sq_bad, sq_bk, sq_ct, sq_exc, dz0, dz1, dz2, dz3, dz4, dz5, dz6, dz7, dz8, dz9, dz10, dz11, dz12, dz13, dz14, dz15, dz16, ic0, ic1, ic2, ic3, ic4, isi_int_n, isi_int_b, isi_int_i, isi_int_s, isi_int_l, isi_int_t, isi_bool_n, isi_bool_b, isi_bool_i, isi_bool_s, isi_bool_l, isi_bool_t, isi_str_n, isi_str_b, isi_str_i, isi_str_s, isi_str_l, isi_str_t, isi_list_n, isi_list_b, isi_list_i, isi_list_s, isi_list_l, isi_list_t, isi_tuple_n, isi_tuple_b, isi_tuple_i, isi_tuple_s, isi_tuple_l, isi_tuple_t, isi_dict_n, isi_dict_b, isi_dict_i, isi_dict_s, isi_dict_l, isi_dict_t, tAnd_ok, tOr_ok, tIf_ok, tIfS_ok, tAnd_exc, tOr_exc, tIf_exc, tIfS_exc, co_and, co_or, tAnd_cond, tOr_cond, tIfS_cond, bd_cond, ba_cond, bs_cond, bx_cond, sq_cond, fin_cond, gIs_bb, gIsN_bb, rangeL_2, rangeL_3, lcL_nil, lcL_cons, oG_some, tLc_t, tLc_f, tLc_b, eLc_ok, cLc_t, sLc_ok, fLc_ok, gAll, gAny, bools_nil, bools_cons, ciSeq, noOwn, wipeE, restoreE, List.all_cons, List.all_nil, List.any_cons, List.any_nil, id, ciRange1, ciRange2, rng1_t, rng2_t, Int.reduceToNat, if_true, ite_true, if_false, cChain_t, eq_self, decide_true, decide_false, gs, f1]
    have e2 : n.fdiv g = x := by rw [hx]; exact e1 x
    have e3 : d.fdiv g = y := by rw [hy]; exact e1 y
    rw [e2, e3]
  · have := natAbs_mul_le (x := y) g0
    rw [hy]; omega
  · have := natAbs_mul_le (x := x) g0
    rw [hx]; omega
  · rw [hx, hy]; grind
/-- a point as data -/
abbrev Pt (x a y b : Int) : PyData := .tuple [Nu x a, Nu y b]
def sgn2 (a b : Int) : Int := (if decide (b < a) = true then 1 else 0) - (if decide (a < b) = true then 1 else 0)
theorem sgn2_mul {c a b : Int} (h : 0 < c) : sgn2 (c * a) (c * b) = sgn2 a b := by
  have h1 : ∀ x y, (c * x < c * y) = (x < y) := fun x y => propext ⟨fun z => Int.lt_of_mul_lt_mul_left z (by omega), fun z => Int.mul_lt_mul_of_pos_left z h⟩
  unfold sgn2
  simp only [h1]
theorem scaled_eq {x a y b : Int} (h1 : Bd 500 x) (h2 : Bd 500 a) (h3 : Bd 500 y) (h4 : Bd 500 b) : F_scaled [.dat (Pt x a y b)] = .ok (.dat (.tuple [.int (x * b), .int (y * a), .int (a * b)])) [.dat (Pt x a y b)] := by
  unfold F_scaled M_scaled
  simp (disch := first | with_reducible assumption | ((with_reducible apply Bdx.id); exact Bdx.of (by (repeat' first | with_reducible assumption | apply Bd.mul | apply Bd.sub2 | apply Bd.add2 | apply Bd.neg | exact Bd.lit rfl)) (by decide)) | ((with_reducible apply Sml.id); exact Sml.lit rfl) | fail) only [mkF, fin_nx, fin_rt, fin_exc, outs, cSeq, sq_nx, sq_rt, cIfS_t, cSet, cRet, cRetN, cDrop, cNext, bd_ok, ba_ok, bs_ok, bx_ok, abd_ok, aba_ok, abs_ok, xbx_ok, bbd_ok, lift_some, c1, c2, cN, cB1, cB2, cAnd_t, cOr_t, cIf_t, cK, cV, cVm, cbN, cbD, resolve, caNil, caCons, cTup, cLst, cxNil, cxD, cxS, cCall, ssOf, slotsOf, putBack, dist, S_d, S_l, gAdd, gSub, gNeg, gNot, gLt, gLe, gGt, gGe, gEq_ii, gNe_ii, gIx, gLen, gAbs, gInt, tru_b, gMax2, gMin2, gGcd, gList, gTuple, cSetIx, cApp, cAsg, cgName, cgTup, cgCons, cgNil, cPar, atI_0, atI_1, atI_2, atI_3, ixL_1, ixL_2, ixL_3, List.getElem?_cons_zero, List.getElem?_cons_succ, List.set_cons_zero, List.set_cons_succ, List.map_cons, List.map_nil, List.length_cons, List.length_nil, List.cons_append, List.nil_append, List.replicate_succ, List.replicate_zero, List.length_map, cond_true, cond_false, Option.map_some, beq_self_eq_true, List.contains_cons, List.contains_nil, Bool.or_false, Bool.false_or, Bool.or_true, Bool.and_true, Bool.true_and, Bool.not_true, Bool.not_false, Nat.reduceBEq, Nat.reduceAdd, Nat.reduceSub, Nat.reduceEqDiff, reduceCtorEq, Bool.false_eq_true, ixN_41, ixN_42, ixN_43, gPow, gMul, gFd, gMod, sq_bad, sq_bk, sq_ct, sq_exc, dz0, dz1, dz2, dz3, dz4, dz5, dz6, dz7, dz8, dz9, dz10, dz11, dz12, dz13, dz14, dz15, dz16, ic0, ic1, ic2, ic3, ic4, isi_int_n, isi_int_b, isi_int_i, isi_int_s, isi_int_l, isi_int_t, isi_bool_n, isi_bool_b, isi_bool_i, isi_bool_s, isi_bool_l, isi_bool_t, isi_str_n, isi_str_b, isi_str_i, isi_str_s, isi_str_l, isi_str_t, isi_list_n, isi_list_b, isi_list_i, isi_list_s, isi_list_l, isi_list_t, isi_tuple_n, isi_tuple_b, isi_tuple_i, isi_tuple_s, isi_tuple_l, isi_tuple_t, isi_dict_n, isi_dict_b, isi_dict_i, isi_dict_s, isi_dict_l, isi_dict_t, tAnd_ok, tOr_ok, tIf_ok, tIfS_ok, tAnd_exc, tOr_exc, tIf_exc, tIfS_exc, co_and, co_or, tAnd_cond, tOr_cond, tIfS_cond, bd_cond, ba_cond, bs_cond, bx_cond, sq_cond, fin_cond, gIs_bb, gIsN_bb, rangeL_2, rangeL_3, lcL_nil, lcL_cons, oG_some, tLc_t, tLc_f, tLc_b, eLc_ok, cLc_t, sLc_ok, fLc_ok, gAll, gAny, bools_nil, bools_cons, ciSeq, noOwn, wipeE, restoreE, List.all_cons, List.all_nil, List.any_cons, List.any_nil, id, ciRange1, ciRange2, rng1_t, rng2_t, Int.reduceToNat, if_true, ite_true, if_false, cChain_t, eq_self, decide_true, decide_false, cmulW_t]
theorem turn_eq {x1 a1 y1 b1 x2 a2 y2 b2 x3 a3 y3 b3 : Int} (h1 : Bd 500 x1) (h2 : Bd 500 a1) (h3 : Bd 500 y1) (h4 : Bd 500 b1) (h5 : Bd 500 x2) (h6 : Bd 500 a2) (h7 : Bd 500 y2) (h8 : Bd 500 b2) (h9 : Bd 500 x3) (h10 : Bd 500 a3) (h11 : Bd 500 y3) (h12 : Bd 500 b3) (p1 : 0 < a1) (p2 : 0 < b1) :
    F_turn [.dat (Pt x1 a1 y1 b1), .dat (Pt x2 a2 y2 b2), .dat (Pt x3 a3 y3 b3)] = .ok (.dat (.int (sgn2 ((x2 * a1 - x1 * a2) * (y3 * b1 - y1 * b3) * b2 * a3) ((y2 * b1 - y1 * b2) * (x3 * a1 - x1 * a3) * a2 * b3)))) [.dat (Pt x1 a1 y1 b1), .dat (Pt x2 a2 y2 b2), .dat (Pt x3 a3 y3 b3)] := by
  have s1 := scaled_eq h1 h2 h3 h4
  have s2 := scaled_eq h5 h6 h7 h8
  have s3 := scaled_eq h9 h10 h11 h12
  unfold F_turn M_turn
  simp (disch := first | with_reducible assumption | ((with_reducible apply Bdx.id); exact Bdx.of (by (repeat' first | with_reducible assumption | apply Bd.mul | apply Bd.sub2 | apply Bd.add2 | apply Bd.neg | exact Bd.lit rfl)) (by decide)) | ((with_reducible apply Sml.id); exact Sml.lit rfl) | fail) only [mkF, fin_nx, fin_rt, fin_exc, outs, cSeq, sq_nx, sq_rt, cIfS_t, cSet, cRet, cRetN, cDrop, cNext, bd_ok, ba_ok, bs_ok, bx_ok, abd_ok, aba_ok, abs_ok, xbx_ok, bbd_ok, lift_some, c1, c2, cN, cB1, cB2, cAnd_t, cOr_t, cIf_t, cK, cV, cVm, cbN, cbD, resolve, caNil, caCons, cTup, cLst, cxNil, cxD, cxS, cCall, ssOf, slotsOf, putBack, dist, S_d, S_l, gAdd, gSub, gNeg, gNot, gLt, gLe, gGt, gGe, gEq_ii, gNe_ii, gIx, gLen, gAbs, gInt, tru_b, gMax2, gMin2, gGcd, gList, gTuple, cSetIx, cApp, cAsg, cgName, cgTup, cgCons, cgNil, cPar, atI_0, atI_1, atI_2, atI_3, ixL_1, ixL_2, ixL_3, List.getElem?_cons_zero, List.getElem?_cons_succ, List.set_cons_zero, List.set_cons_succ, List.map_cons, List.map_nil, List.length_cons, List.length_nil, List.cons_append, List.nil_append, List.replicate_succ, List.replicate_zero, List.length_map, cond_true, cond_false, Option.map_some, beq_self_eq_true, List.contains_cons, List.contains_nil, Bool.or_false, Bool.false_or, Bool.or_true, Bool.and_true, Bool.true_and, Bool.not_true, Bool.not_false, Nat.reduceBEq, Nat.reduceAdd, Nat.reduceSub, Nat.reduceEqDiff, reduceCtorEq, Bool.false_eq_true, ixN_41, ixN_42, ixN_43, gPow, gMul, gFd, gMod, sq_bad, sq_bk, sq_ct, sq_exc, dz0, dz1, dz2, dz3, dz4, dz5, dz6, dz7, dz8, dz9, dz10, dz11, dz12, dz13, dz14, dz15, dz16, ic0, ic1, ic2, ic3, ic4, isi_int_n, isi_int_b, isi_int_i, isi_int_s, isi_int_l, isi_int_t, isi_bool_n, isi_bool_b, isi_bool_i, isi_bool_s, isi_bool_l, isi_bool_t, isi_str_n, isi_str_b, isi_str_i, isi_str_s, isi_str_l, isi_str_t, isi_list_n, isi_list_b, isi_list_i, isi_list_s, isi_list_l, isi_list_t, isi_tuple_n, isi_tuple_b, isi_tuple_i, isi_tuple_s, isi_tuple_l, isi_tuple_t, isi_dict_n, isi_dict_b, isi_dict_i, isi_dict_s, isi_dict_l, isi_dict_t, tAnd_ok, tOr_ok, tIf_ok, tIfS_ok, tAnd_exc, tOr_exc, tIf_exc, tIfS_exc, co_and, co_or, tAnd_cond, tOr_cond, tIfS_cond, bd_cond, ba_cond, bs_cond, bx_cond, sq_cond, fin_cond, gIs_bb, gIsN_bb, rangeL_2, rangeL_3, lcL_nil, lcL_cons, oG_some, tLc_t, tLc_f, tLc_b, eLc_ok, cLc_t, sLc_ok, fLc_ok, gAll, gAny, bools_nil, bools_cons, ciSeq, noOwn, wipeE, restoreE, List.all_cons, List.all_nil, List.any_cons, List.any_nil, id, ciRange1, ciRange2, rng1_t, rng2_t, Int.reduceToNat, if_true, ite_true, if_false, cChain_t, eq_self, decide_true, decide_false, cPar3, s1, s2, s3, cmulW_t]
  have e1 : (x2 * b2 * (a1 * b1) - x1 * b1 * (a2 * b2)) * (y3 * a3 * (a1 * b1) - y1 * a1 * (a3 * b3)) = (a1 * b1) * ((x2 * a1 - x1 * a2) * (y3 * b1 - y1 * b3) * b2 * a3) := by grind
  have e2 : (y2 * a2 * (a1 * b1) - y1 * a1 * (a2 * b2)) * (x3 * b3 * (a1 * b1) - x1 * b1 * (a3 * b3)) = (a1 * b1) * ((y2 * b1 - y1 * b2) * (x3 * a1 - x1 * a3) * a2 * b3) := by grind
  rw [e1, e2]
  rw [← sgn2_mul (c := a1 * b1) (Int.mul_pos p1 p2)]
  rfl
theorem isint_spec (i : Int) : F_u_law_is_int [.dat (.int i)] = .ok (.dat (.bool true)) [.dat (.int i)] := rfl
theorem same_bool (a : Bool) (k : Nat) : F_u_law_same (k + 1) [.dat (.bool a), .dat (.bool a)] = .ok (.dat (.bool true)) [.dat (.bool a), .dat (.bool a)] := by
  unfold F_u_law_same M_u_law_same
  cases a <;> simp only [mkF, fin_nx, fin_rt, fin_exc, outs, cSeq, sq_nx, sq_rt, cIfS_t, cSet, cRet, cRetN, cDrop, cNext, bd_ok, ba_ok, bs_ok, bx_ok, abd_ok, aba_ok, abs_ok, xbx_ok, bbd_ok, lift_some, c1, c2, cN, cB1, cB2, cAnd_t, cOr_t, cIf_t, cK, cV, cVm, cbN, cbD, resolve, caNil, caCons, cTup, cLst, cxNil, cxD, cxS, cCall, ssOf, slotsOf, putBack, dist, S_d, S_l, gAdd, gSub, gNeg, gNot, gLt, gLe, gGt, gGe, gEq_ii, gNe_ii, gIx, gLen, gAbs, gInt, tru_b, gMax2, gMin2, gGcd, gList, gTuple, cSetIx, cApp, cAsg, cgName, cgTup, cgCons, cgNil, cPar, atI_0, atI_1, atI_2, atI_3, ixL_1, ixL_2, ixL_3, List.getElem?_cons_zero, List.getElem?_cons_succ, List.set_cons_zero, List.set_cons_succ, List.map_cons, List.map_nil, List.length_cons, List.length_nil, List.cons_append, List.nil_append, List.replicate_succ, List.replicate_zero, List.length_map, cond_true, cond_false, Option.map_some, beq_self_eq_true, List.contains_cons, List.contains_nil, Bool.or_false, Bool.false_or, Bool.or_true, Bool.and_true, Bool.true_and, Bool.not_true, Bool.not_false, Nat.reduceBEq, Nat.reduceAdd, Nat.reduceSub, Nat.reduceEqDiff, reduceCtorEq, Bool.false_eq_true, ixN_41, ixN_42, ixN_43, gPow, gMul, gFd, gMod, sq_bad, sq_bk, sq_ct, sq_exc, dz0, dz1, dz2, dz3, dz4, dz5, dz6, dz7, dz8, dz9, dz10, dz11, dz12, dz13, dz14, dz15, dz16, ic0, ic1, ic2, ic3, ic4, isi_int_n, isi_int_b, isi_int_i, isi_int_s, isi_int_l, isi_int_t, isi_bool_n, isi_bool_b, isi_bool_i, isi_bool_s, isi_bool_l, isi_bool_t, isi_str_n, isi_str_b, isi_str_i, isi_str_s, isi_str_l, isi_str_t, isi_list_n, isi_list_b, isi_list_i, isi_list_s, isi_list_l, isi_list_t, isi_tuple_n, isi_tuple_b, isi_tuple_i, isi_tuple_s, isi_tuple_l, isi_tuple_t, isi_dict_n, isi_dict_b, isi_dict_i, isi_dict_s, isi_dict_l, isi_dict_t, tAnd_ok, tOr_ok, tIf_ok, tIfS_ok, tAnd_exc, tOr_exc, tIf_exc, tIfS_exc, co_and, co_or, tAnd_cond, tOr_cond, tIfS_cond, bd_cond, ba_cond, bs_cond, bx_cond, sq_cond, fin_cond, gIs_bb, gIsN_bb, rangeL_2, rangeL_3, lcL_nil, lcL_cons, oG_some, tLc_t, tLc_f, tLc_b, eLc_ok, cLc_t, sLc_ok, fLc_ok, gAll, gAny, bools_nil, bools_cons, ciSeq, noOwn, wipeE, restoreE, List.all_cons, List.all_nil, List.any_cons, List.any_nil, id, ciRange1, ciRange2, rng1_t, rng2_t, Int.reduceToNat, if_true, ite_true, if_false, cChain_t, eq_self, decide_true, decide_false, gIs] <;> rfl
theorem isint_bool (i : Bool) : F_u_law_is_int [.dat (.bool i)] = .ok (.dat (.bool false)) [.dat (.bool i)] := rfl
theorem same_int (a : Int) (k : Nat) : F_u_law_same (k + 1) [.dat (.int a), .dat (.int a)] = .ok (.dat (.bool true)) [.dat (.int a), .dat (.int a)] := by
  unfold F_u_law_same M_u_law_same
  simp only [mkF, fin_nx, fin_rt, fin_exc, outs, cSeq, sq_nx, sq_rt, cIfS_t, cSet, cRet, cRetN, cDrop, cNext, bd_ok, ba_ok, bs_ok, bx_ok, abd_ok, aba_ok, abs_ok, xbx_ok, bbd_ok, lift_some, c1, c2, cN, cB1, cB2, cAnd_t, cOr_t, cIf_t, cK, cV, cVm, cbN, cbD, resolve, caNil, caCons, cTup, cLst, cxNil, cxD, cxS, cCall, ssOf, slotsOf, putBack, dist, S_d, S_l, gAdd, gSub, gNeg, gNot, gLt, gLe, gGt, gGe, gEq_ii, gNe_ii, gIx, gLen, gAbs, gInt, tru_b, gMax2, gMin2, gGcd, gList, gTuple, cSetIx, cApp, cAsg, cgName, cgTup, cgCons, cgNil, cPar, atI_0, atI_1, atI_2, atI_3, ixL_1, ixL_2, ixL_3, List.getElem?_cons_zero, List.getElem?_cons_succ, List.set_cons_zero, List.set_cons_succ, List.map_cons, List.map_nil, List.length_cons, List.length_nil, List.cons_append, List.nil_append, List.replicate_succ, List.replicate_zero, List.length_map, cond_true, cond_false, Option.map_some, beq_self_eq_true, List.contains_cons, List.contains_nil, Bool.or_false, Bool.false_or, Bool.or_true, Bool.and_true, Bool.true_and, Bool.not_true, Bool.not_false, Nat.reduceBEq, Nat.reduceAdd, Nat.reduceSub, Nat.reduceEqDiff, reduceCtorEq, Bool.false_eq_true, ixN_41, ixN_42, ixN_43, gPow, gMul, gFd, gMod, sq_bad, sq_bk, sq_ct, sq_exc, dz0, dz1, dz2, dz3, dz4, dz5, dz6, dz7, dz8, dz9, dz10, dz11, dz12, dz13, dz14, dz15, dz16, ic0, ic1, ic2, ic3, ic4, isi_int_n, isi_int_b, isi_int_i, isi_int_s, isi_int_l, isi_int_t, isi_bool_n, isi_bool_b, isi_bool_i, isi_bool_s, isi_bool_l, isi_bool_t, isi_str_n, isi_str_b, isi_str_i, isi_str_s, isi_str_l, isi_str_t, isi_list_n, isi_list_b, isi_list_i, isi_list_s, isi_list_l, isi_list_t, isi_tuple_n, isi_tuple_b, isi_tuple_i, isi_tuple_s, isi_tuple_l, isi_tuple_t, isi_dict_n, isi_dict_b, isi_dict_i, isi_dict_s, isi_dict_l, isi_dict_t, tAnd_ok, tOr_ok, tIf_ok, tIfS_ok, tAnd_exc, tOr_exc, tIf_exc, tIfS_exc, co_and, co_or, tAnd_cond, tOr_cond, tIfS_cond, bd_cond, ba_cond, bs_cond, bx_cond, sq_cond, fin_cond, gIs_bb, gIsN_bb, rangeL_2, rangeL_3, lcL_nil, lcL_cons, oG_some, tLc_t, tLc_f, tLc_b, eLc_ok, cLc_t, sLc_ok, fLc_ok, gAll, gAny, bools_nil, bools_cons, ciSeq, noOwn, wipeE, restoreE, List.all_cons, List.all_nil, List.any_cons, List.any_nil, id, ciRange1, ciRange2, rng1_t, rng2_t, Int.reduceToNat, if_true, ite_true, if_false, cChain_t, eq_self, decide_true, decide_false, gIs, isint_spec]
theorem less_eq {x a y b : Int} (h1 : Bd 500 x) (h2 : Bd 500 a) (h3 : Bd 500 y) (h4 : Bd 500 b) : F_is_less [.dat (Nu x a), .dat (Nu y b)] = .ok (.dat (.bool (decide (x * b < y * a)))) [.dat (Nu x a), .dat (Nu y b)] := by
  unfold F_is_less M_is_less
  simp (disch := first | with_reducible assumption | ((with_reducible apply Bdx.id); exact Bdx.of (by (repeat' first | with_reducible assumption | apply Bd.mul | apply Bd.sub2 | apply Bd.add2 | apply Bd.neg | exact Bd.lit rfl)) (by decide)) | ((with_reducible apply Sml.id); exact Sml.lit rfl) | fail) only [mkF, fin_nx, fin_rt, fin_exc, outs, cSeq, sq_nx, sq_rt, cIfS_t, cSet, cRet, cRetN, cDrop, cNext, bd_ok, ba_ok, bs_ok, bx_ok, abd_ok, aba_ok, abs_ok, xbx_ok, bbd_ok, lift_some, c1, c2, cN, cB1, cB2, cAnd_t, cOr_t, cIf_t, cK, cV, cVm, cbN, cbD, resolve, caNil, caCons, cTup, cLst, cxNil, cxD, cxS, cCall, ssOf, slotsOf, putBack, dist, S_d, S_l, gAdd, gSub, gNeg, gNot, gLt, gLe, gGt, gGe, gEq_ii, gNe_ii, gIx, gLen, gAbs, gInt, tru_b, gMax2, gMin2, gGcd, gList, gTuple, cSetIx, cApp, cAsg, cgName, cgTup, cgCons, cgNil, cPar, atI_0, atI_1, atI_2, atI_3, ixL_1, ixL_2, ixL_3, List.getElem?_cons_zero, List.getElem?_cons_succ, List.set_cons_zero, List.set_cons_succ, List.map_cons, List.map_nil, List.length_cons, List.length_nil, List.cons_append, List.nil_append, List.replicate_succ, List.replicate_zero, List.length_map, cond_true, cond_false, Option.map_some, beq_self_eq_true, List.contains_cons, List.contains_nil, Bool.or_false, Bool.false_or, Bool.or_true, Bool.and_true, Bool.true_and, Bool.not_true, Bool.not_false, Nat.reduceBEq, Nat.reduceAdd, Nat.reduceSub, Nat.reduceEqDiff, reduceCtorEq, Bool.false_eq_true, ixN_41, ixN_42, ixN_43, gPow, gMul, gFd, gMod, sq_bad, sq_bk, sq_ct, sq_exc, dz0, dz1, dz2, dz3, dz4, dz5, dz6, dz7, dz8, dz9, dz10, dz11, dz12, dz13, dz14, dz15, dz16, ic0, ic1, ic2, ic3, ic4, isi_int_n, isi_int_b, isi_int_i, isi_int_s, isi_int_l, isi_int_t, isi_bool_n, isi_bool_b, isi_bool_i, isi_bool_s, isi_bool_l, isi_bool_t, isi_str_n, isi_str_b, isi_str_i, isi_str_s, isi_str_l, isi_str_t, isi_list_n, isi_list_b, isi_list_i, isi_list_s, isi_list_l, isi_list_t, isi_tuple_n, isi_tuple_b, isi_tuple_i, isi_tuple_s, isi_tuple_l, isi_tuple_t, isi_dict_n, isi_dict_b, isi_dict_i, isi_dict_s, isi_dict_l, isi_dict_t, tAnd_ok, tOr_ok, tIf_ok, tIfS_ok, tAnd_exc, tOr_exc, tIf_exc, tIfS_exc, co_and, co_or, tAnd_cond, tOr_cond, tIfS_cond, bd_cond, ba_cond, bs_cond, bx_cond, sq_cond, fin_cond, gIs_bb, gIsN_bb, rangeL_2, rangeL_3, lcL_nil, lcL_cons, oG_some, tLc_t, tLc_f, tLc_b, eLc_ok, cLc_t, sLc_ok, fLc_ok, gAll, gAny, bools_nil, bools_cons, ciSeq, noOwn, wipeE, restoreE, List.all_cons, List.all_nil, List.any_cons, List.any_nil, id, ciRange1, ciRange2, rng1_t, rng2_t, Int.reduceToNat, if_true, ite_true, if_false, cChain_t, eq_self, decide_true, decide_false, cmulW_t]
/-- x/a lies between y/b and z/c -/
def btw (x a y b z c : Int) : Bool := (decide (y * a ≤ x * b) && decide (x * c ≤ z * a)) || (decide (z * a ≤ x * c) && decide (x * b ≤ y * a))
theorem not_lt_le {x y : Int} : (!decide (x < y)) = decide (y ≤ x) := by
  by_cases h : x < y
  · rw [decide_eq_true h, decide_eq_false (by omega)]; rfl
  · rw [decide_eq_false h, decide_eq_true (by omega)]; rfl
theorem is_between_eq {x a y b z c : Int} (h1 : Bd 500 x) (h2 : Bd 500 a) (h3 : Bd 500 y) (h4 : Bd 500 b) (h5 : Bd 500 z) (h6 : Bd 500 c) : F_is_between [.dat (Nu x a), .dat (Nu y b), .dat (Nu z c)] = .ok (.dat (.bool (btw x a y b z c))) [.dat (Nu x a), .dat (Nu y b), .dat (Nu z c)] := by
  have e1 := less_eq h1 h2 h3 h4
  have e2 := less_eq h5 h6 h1 h2
  have e3 := less_eq h1 h2 h5 h6
  have e4 := less_eq h3 h4 h1 h2
  unfold F_is_between M_is_between btw
  simp only [mkF, fin_nx, fin_rt, fin_exc, outs, cSeq, sq_nx, sq_rt, cIfS_t, cSet, cRet, cRetN, cDrop, cNext, bd_ok, ba_ok, bs_ok, bx_ok, abd_ok, aba_ok, abs_ok, xbx_ok, bbd_ok, lift_some, c1, c2, cN, cB1, cB2, cAnd_t, cOr_t, cIf_t, cK, cV, cVm, cbN, cbD, resolve, caNil, caCons, cTup, cLst, cxNil, cxD, cxS, cCall, ssOf, slotsOf, putBack, dist, S_d, S_l, gAdd, gSub, gNeg, gNot, gLt, gLe, gGt, gGe, gEq_ii, gNe_ii, gIx, gLen, gAbs, gInt, tru_b, gMax2, gMin2, gGcd, gList, gTuple, cSetIx, cApp, cAsg, cgName, cgTup, cgCons, cgNil, cPar, atI_0, atI_1, atI_2, atI_3, ixL_1, ixL_2, ixL_3, List.getElem?_cons_zero, List.getElem?_cons_succ, List.set_cons_zero, List.set_cons_succ, List.map_cons, List.map_nil, List.length_cons, List.length_nil, List.cons_append, List.nil_append, List.replicate_succ, List.replicate_zero, List.length_map, cond_true, cond_false, Option.map_some, beq_self_eq_true, List.contains_cons, List.contains_nil, Bool.or_false, Bool.false_or, Bool.or_true, Bool.and_true, Bool.true_and, Bool.not_true, Bool.not_false, Nat.reduceBEq, Nat.reduceAdd, Nat.reduceSub, Nat.reduceEqDiff, reduceCtorEq, Bool.false_eq_true, ixN_41, ixN_42, ixN_43, gPow, gMul, gFd, gMod, sq_bad, sq_bk, sq_ct, sq_exc, dz0, dz1, dz2, dz3, dz4, dz5, dz6, dz7, dz8, dz9, dz10, dz11, dz12, dz13, dz14, dz15, dz16, ic0, ic1, ic2, ic3, ic4, isi_int_n, isi_int_b, isi_int_i, isi_int_s, isi_int_l, isi_int_t, isi_bool_n, isi_bool_b, isi_bool_i, isi_bool_s, isi_bool_l, isi_bool_t, isi_str_n, isi_str_b, isi_str_i, isi_str_s, isi_str_l, isi_str_t, isi_list_n, isi_list_b, isi_list_i, isi_list_s, isi_list_l, isi_list_t, isi_tuple_n, isi_tuple_b, isi_tuple_i, isi_tuple_s, isi_tuple_l, isi_tuple_t, isi_dict_n, isi_dict_b, isi_dict_i, isi_dict_s, isi_dict_l, isi_dict_t, tAnd_ok, tOr_ok, tIf_ok, tIfS_ok, tAnd_exc, tOr_exc, tIf_exc, tIfS_exc, co_and, co_or, tAnd_cond, tOr_cond, tIfS_cond, bd_cond, ba_cond, bs_cond, bx_cond, sq_cond, fin_cond, gIs_bb, gIsN_bb, rangeL_2, rangeL_3, lcL_nil, lcL_cons, oG_some, tLc_t, tLc_f, tLc_b, eLc_ok, cLc_t, sLc_ok, fLc_ok, gAll, gAny, bools_nil, bools_cons, ciSeq, noOwn, wipeE, restoreE, List.all_cons, List.all_nil, List.any_cons, List.any_nil, id, ciRange1, ciRange2, rng1_t, rng2_t, Int.reduceToNat, if_true, ite_true, if_false, cChain_t, eq_self, decide_true, decide_false, e1, e2, e3, e4, not_lt_le]
theorem law_between_eq {x a y b z c : Int} (h1 : Bd 500 x) (h2 : Bd 500 a) (h3 : Bd 500 y) (h4 : Bd 500 b) (h5 : Bd 500 z) (h6 : Bd 500 c) : F_u_law_between [.dat (Nu y b), .dat (Nu x a), .dat (Nu z c)] = .ok (.dat (.bool (btw x a y b z c))) [.dat (Nu y b), .dat (Nu x a), .dat (Nu z c)] := by
  have e : (decide (z * a ≤ x * c) && decide (x * b ≤ y * a)) = (decide (x * b ≤ y * a) && decide (z * a ≤ x * c)) := Bool.and_comm _ _
  unfold F_u_law_between M_u_law_between btw
  simp (disch := first | with_reducible assumption | ((with_reducible apply Bdx.id); exact Bdx.of (by (repeat' first | with_reducible assumption | apply Bd.mul | apply Bd.sub2 | apply Bd.add2 | apply Bd.neg | exact Bd.lit rfl)) (by decide)) | ((with_reducible apply Sml.id); exact Sml.lit rfl) | fail) only [mkF, fin_nx, fin_rt, fin_exc, outs, cSeq, sq_nx, sq_rt, cIfS_t, cSet, cRet, cRetN, cDrop, cNext, bd_ok, ba_ok, bs_ok, bx_ok, abd_ok, aba_ok, abs_ok, xbx_ok, bbd_ok, lift_some, c1, c2, cN, cB1, cB2, cAnd_t, cOr_t, cIf_t, cK, cV, cVm, cbN, cbD, resolve, caNil, caCons, cTup, cLst, cxNil, cxD, cxS, cCall, ssOf, slotsOf, putBack, dist, S_d, S_l, gAdd, gSub, gNeg, gNot, gLt, gLe, gGt, gGe, gEq_ii, gNe_ii, gIx, gLen, gAbs, gInt, tru_b, gMax2, gMin2, gGcd, gList, gTuple, cSetIx, cApp, cAsg, cgName, cgTup, cgCons, cgNil, cPar, atI_0, atI_1, atI_2, atI_3, ixL_1, ixL_2, ixL_3, List.getElem?_cons_zero, List.getElem?_cons_succ, List.set_cons_zero, List.set_cons_succ, List.map_cons, List.map_nil, List.length_cons, List.length_nil, List.cons_append, List.nil_append, List.replicate_succ, List.replicate_zero, List.length_map, cond_true, cond_false, Option.map_some, beq_self_eq_true, List.contains_cons, List.contains_nil, Bool.or_false, Bool.false_or, Bool.or_true, Bool.and_true, Bool.true_and, Bool.not_true, Bool.not_false, Nat.reduceBEq, Nat.reduceAdd, Nat.reduceSub, Nat.reduceEqDiff, reduceCtorEq, Bool.false_eq_true, ixN_41, ixN_42, ixN_43, gPow, gMul, gFd, gMod, sq_bad, sq_bk, sq_ct, sq_exc, dz0, dz1, dz2, dz3, dz4, dz5, dz6, dz7, dz8, dz9, dz10, dz11, dz12, dz13, dz14, dz15, dz16, ic0, ic1, ic2, ic3, ic4, isi_int_n, isi_int_b, isi_int_i, isi_int_s, isi_int_l, isi_int_t, isi_bool_n, isi_bool_b, isi_bool_i, isi_bool_s, isi_bool_l, isi_bool_t, isi_str_n, isi_str_b, isi_str_i, isi_str_s, isi_str_l, isi_str_t, isi_list_n, isi_list_b, isi_list_i, isi_list_s, isi_list_l, isi_list_t, isi_tuple_n, isi_tuple_b, isi_tuple_i, isi_tuple_s, isi_tuple_l, isi_tuple_t, isi_dict_n, isi_dict_b, isi_dict_i, isi_dict_s, isi_dict_l, isi_dict_t, tAnd_ok, tOr_ok, tIf_ok, tIfS_ok, tAnd_exc, tOr_exc, tIf_exc, tIfS_exc, co_and, co_or, tAnd_cond, tOr_cond, tIfS_cond, bd_cond, ba_cond, bs_cond, bx_cond, sq_cond, fin_cond, gIs_bb, gIsN_bb, rangeL_2, rangeL_3, lcL_nil, lcL_cons, oG_some, tLc_t, tLc_f, tLc_b, eLc_ok, cLc_t, sLc_ok, fLc_ok, gAll, gAny, bools_nil, bools_cons, ciSeq, noOwn, wipeE, restoreE, List.all_cons, List.all_nil, List.any_cons, List.any_nil, id, ciRange1, ciRange2, rng1_t, rng2_t, Int.reduceToNat, if_true, ite_true, if_false, cChain_t, eq_self, decide_true, decide_false, cmulW_t, e]
theorem cross_eq {x1 a1 y1 b1 x2 a2 y2 b2 x3 a3 y3 b3 : Int} (h1 : Bd 500 x1) (h2 : Bd 500 a1) (h3 : Bd 500 y1) (h4 : Bd 500 b1) (h5 : Bd 500 x2) (h6 : Bd 500 a2) (h7 : Bd 500 y2) (h8 : Bd 500 b2) (h9 : Bd 500 x3) (h10 : Bd 500 a3) (h11 : Bd 500 y3) (h12 : Bd 500 b3) :
    F_u_law_cross [.dat (Pt x1 a1 y1 b1), .dat (Pt x2 a2 y2 b2), .dat (Pt x3 a3 y3 b3)] = .ok (.dat (.int (sgn2 ((x2 * a1 - x1 * a2) * (y3 * b1 - y1 * b3) * b2 * a3) ((y2 * b1 - y1 * b2) * (x3 * a1 - x1 * a3) * a2 * b3)))) [.dat (Pt x1 a1 y1 b1), .dat (Pt x2 a2 y2 b2), .dat (Pt x3 a3 y3 b3)] := by
  unfold F_u_law_cross M_u_law_cross
  simp (disch := first | with_reducible assumption | ((with_reducible apply Bdx.id); exact Bdx.of (by (repeat' first | with_reducible assumption | apply Bd.mul | apply Bd.sub2 | apply Bd.add2 | apply Bd.neg | exact Bd.lit rfl)) (by decide)) | ((with_reducible apply Sml.id); exact Sml.lit rfl) | fail) only [mkF, fin_nx, fin_rt, fin_exc, outs, cSeq, sq_nx, sq_rt, cIfS_t, cSet, cRet, cRetN, cDrop, cNext, bd_ok, ba_ok, bs_ok, bx_ok, abd_ok, aba_ok, abs_ok, xbx_ok, bbd_ok, lift_some, c1, c2, cN, cB1, cB2, cAnd_t, cOr_t, cIf_t, cK, cV, cVm, cbN, cbD, resolve, caNil, caCons, cTup, cLst, cxNil, cxD, cxS, cCall, ssOf, slotsOf, putBack, dist, S_d, S_l, gAdd, gSub, gNeg, gNot, gLt, gLe, gGt, gGe, gEq_ii, gNe_ii, gIx, gLen, gAbs, gInt, tru_b, gMax2, gMin2, gGcd, gList, gTuple, cSetIx, cApp, cAsg, cgName, cgTup, cgCons, cgNil, cPar, atI_0, atI_1, atI_2, atI_3, ixL_1, ixL_2, ixL_3, List.getElem?_cons_zero, List.getElem?_cons_succ, List.set_cons_zero, List.set_cons_succ, List.map_cons, List.map_nil, List.length_cons, List.length_nil, List.cons_append, List.nil_append, List.replicate_succ, List.replicate_zero, List.length_map, cond_true, cond_false, Option.map_some, beq_self_eq_true, List.contains_cons, List.contains_nil, Bool.or_false, Bool.false_or, Bool.or_true, Bool.and_true, Bool.true_and, Bool.not_true, Bool.not_false, Nat.reduceBEq, Nat.reduceAdd, Nat.reduceSub, Nat.reduceEqDiff, reduceCtorEq, Bool.false_eq_true, ixN_41, ixN_42, ixN_43, gPow, gMul, gFd, gMod, sq_bad, sq_bk, sq_ct, sq_exc, dz0, dz1, dz2, dz3, dz4, dz5, dz6, dz7, dz8, dz9, dz10, dz11, dz12, dz13, dz14, dz15, dz16, ic0, ic1, ic2, ic3, ic4, isi_int_n, isi_int_b, isi_int_i, isi_int_s, isi_int_l, isi_int_t, isi_bool_n, isi_bool_b, isi_bool_i, isi_bool_s, isi_bool_l, isi_bool_t, isi_str_n, isi_str_b, isi_str_i, isi_str_s, isi_str_l, isi_str_t, isi_list_n, isi_list_b, isi_list_i, isi_list_s, isi_list_l, isi_list_t, isi_tuple_n, isi_tuple_b, isi_tuple_i, isi_tuple_s, isi_tuple_l, isi_tuple_t, isi_dict_n, isi_dict_b, isi_dict_i, isi_dict_s, isi_dict_l, isi_dict_t, tAnd_ok, tOr_ok, tIf_ok, tIfS_ok, tAnd_exc, tOr_exc, tIf_exc, tIfS_exc, co_and, co_or, tAnd_cond, tOr_cond, tIfS_cond, bd_cond, ba_cond, bs_cond, bx_cond, sq_cond, fin_cond, gIs_bb, gIsN_bb, rangeL_2, rangeL_3, lcL_nil, lcL_cons, oG_some, tLc_t, tLc_f, tLc_b, eLc_ok, cLc_t, sLc_ok, fLc_ok, gAll, gAny, bools_nil, bools_cons, ciSeq, noOwn, wipeE, restoreE, List.all_cons, List.all_nil, List.any_cons, List.any_nil, id, ciRange1, ciRange2, rng1_t, rng2_t, Int.reduceToNat, if_true, ite_true, if_false, cChain_t, eq_self, decide_true, decide_false, cmulW_t]
  rfl
theorem on_seg_eq {x1 a1 y1 b1 x2 a2 y2 b2 x3 a3 y3 b3 : Int} (h1 : Bd 500 x1) (h2 : Bd 500 a1) (h3 : Bd 500 y1) (h4 : Bd 500 b1) (h5 : Bd 500 x2) (h6 : Bd 500 a2) (h7 : Bd 500 y2) (h8 : Bd 500 b2) (h9 : Bd 500 x3) (h10 : Bd 500 a3) (h11 : Bd 500 y3) (h12 : Bd 500 b3) (p1 : 0 < a1) (p2 : 0 < b1) :
    F_on_segment [.dat (Pt x3 a3 y3 b3), .dat (Pt x1 a1 y1 b1), .dat (Pt x2 a2 y2 b2)] = .ok (.dat (.bool ((sgn2 ((x2 * a1 - x1 * a2) * (y3 * b1 - y1 * b3) * b2 * a3) ((y2 * b1 - y1 * b2) * (x3 * a1 - x1 * a3) * a2 * b3) == 0) && (btw x3 a3 x1 a1 x2 a2 && btw y3 b3 y1 b1 y2 b2)))) [.dat (Pt x3 a3 y3 b3), .dat (Pt x1 a1 y1 b1), .dat (Pt x2 a2 y2 b2)] := by
  have e1 := turn_eq h1 h2 h3 h4 h5 h6 h7 h8 h9 h10 h11 h12 p1 p2
  have e2 := is_between_eq h9 h10 h1 h2 h5 h6
  have e3 := is_between_eq h11 h12 h3 h4 h7 h8
  unfold F_on_segment M_on_segment
  simp only [mkF, fin_nx, fin_rt, fin_exc, outs, cSeq, sq_nx, sq_rt, cIfS_t, cSet, cRet, cRetN, cDrop, cNext, bd_ok, ba_ok, bs_ok, bx_ok, abd_ok, aba_ok, abs_ok, xbx_ok, bbd_ok, lift_some, c1, c2, cN, cB1, cB2, cAnd_t, cOr_t, cIf_t, cK, cV, cVm, cbN, cbD, resolve, caNil, caCons, cTup, cLst, cxNil, cxD, cxS, cCall, ssOf, slotsOf, putBack, dist, S_d, S_l, gAdd, gSub, gNeg, gNot, gLt, gLe, gGt, gGe, gEq_ii, gNe_ii, gIx, gLen, gAbs, gInt, tru_b, gMax2, gMin2, gGcd, gList, gTuple, cSetIx, cApp, cAsg, cgName, cgTup, cgCons, cgNil, cPar, atI_0, atI_1, atI_2, atI_3, ixL_1, ixL_2, ixL_3, List.getElem?_cons_zero, List.getElem?_cons_succ, List.set_cons_zero, List.set_cons_succ, List.map_cons, List.map_nil, List.length_cons, List.length_nil, List.cons_append, List.nil_append, List.replicate_succ, List.replicate_zero, List.length_map, cond_true, cond_false, Option.map_some, beq_self_eq_true, List.contains_cons, List.contains_nil, Bool.or_false, Bool.false_or, Bool.or_true, Bool.and_true, Bool.true_and, Bool.not_true, Bool.not_false, Nat.reduceBEq, Nat.reduceAdd, Nat.reduceSub, Nat.reduceEqDiff, reduceCtorEq, Bool.false_eq_true, ixN_41, ixN_42, ixN_43, gPow, gMul, gFd, gMod, sq_bad, sq_bk, sq_ct, sq_exc, dz0, dz1, dz2, dz3, dz4, dz5, dz6, dz7, dz8, dz9, dz10, dz11, dz12, dz13, dz14, dz15, dz16, ic0, ic1, ic2, ic3, ic4, isi_int_n, isi_int_b, isi_int_i, isi_int_s, isi_int_l, isi_int_t, isi_bool_n, isi_bool_b, isi_bool_i, isi_bool_s, isi_bool_l, isi_bool_t, isi_str_n, isi_str_b, isi_str_i, isi_str_s, isi_str_l, isi_str_t, isi_list_n, isi_list_b, isi_list_i, isi_list_s, isi_list_l, isi_list_t, isi_tuple_n, isi_tuple_b, isi_tuple_i, isi_tuple_s, isi_tuple_l, isi_tuple_t, isi_dict_n, isi_dict_b, isi_dict_i, isi_dict_s, isi_dict_l, isi_dict_t, tAnd_ok, tOr_ok, tIf_ok, tIfS_ok, tAnd_exc, tOr_exc, tIf_exc, tIfS_exc, co_and, co_or, tAnd_cond, tOr_cond, tIfS_cond, bd_cond, ba_cond, bs_cond, bx_cond, sq_cond, fin_cond, gIs_bb, gIsN_bb, rangeL_2, rangeL_3, lcL_nil, lcL_cons, oG_some, tLc_t, tLc_f, tLc_b, eLc_ok, cLc_t, sLc_ok, fLc_ok, gAll, gAny, bools_nil, bools_cons, ciSeq, noOwn, wipeE, restoreE, List.all_cons, List.all_nil, List.any_cons, List.any_nil, id, ciRange1, ciRange2, rng1_t, rng2_t, Int.reduceToNat, if_true, ite_true, if_false, cChain_t, eq_self, decide_true, decide_false, e1, e2, e3]
theorem number_spec {l : List PyData} (h : PotOk l) : ∃ p q l', F_u_law_number [.lst l] = .ok (.dat (Nu p q)) [.lst l'] ∧ 0 < q ∧ Bd 12 p ∧ Bd 12 q ∧ PotOk l' ∧ p.natAbs ≤ 6 ∧ q ≤ 4 := by
  obtain ⟨r, l1, e1, r0, r3, g1⟩ := next_spec (m := 13) h (by decide) (by decide)
  obtain ⟨c, l2, e2, c0, c6, g2⟩ := next_spec (m := 4) g1 (by decide) (by decide)
  obtain ⟨p, q, e, q0, q1, p1, _⟩ := low_spec (n := r - 6) (d := 1 + c) (by omega) (by omega)
  refine ⟨p, q, l2, ?_, q0, by unfold Bd; omega, by unfold Bd; omega, g2, by omega, by omega⟩
  unfold F_u_law_number M_u_law_number
  simp only [mkF, fin_nx, fin_rt, fin_exc, outs, cSeq, sq_nx, sq_rt, cIfS_t, cSet, cRet, cRetN, cDrop, cNext, bd_ok, ba_ok, bs_ok, bx_ok, abd_ok, aba_ok, abs_ok, xbx_ok, bbd_ok, lift_some, c1, c2, cN, cB1, cB2, cAnd_t, cOr_t, cIf_t, cK, cV, cVm, cbN, cbD, resolve, caNil, caCons, cTup, cLst, cxNil, cxD, cxS, cCall, ssOf, slotsOf, putBack, dist, S_d, S_l, gAdd, gSub, gNeg, gNot, gLt, gLe, gGt, gGe, gEq_ii, gNe_ii, gIx, gLen, gAbs, gInt, tru_b, gMax2, gMin2, gGcd, gList, gTuple, cSetIx, cApp, cAsg, cgName, cgTup, cgCons, cgNil, cPar, atI_0, atI_1, atI_2, atI_3, ixL_1, ixL_2, ixL_3, List.getElem?_cons_zero, List.getElem?_cons_succ, List.set_cons_zero, List.set_cons_succ, List.map_cons, List.map_nil, List.length_cons, List.length_nil, List.cons_append, List.nil_append, List.replicate_succ, List.replicate_zero, List.length_map, cond_true, cond_false, Option.map_some, beq_self_eq_true, List.contains_cons, List.contains_nil, Bool.or_false, Bool.false_or, Bool.or_true, Bool.and_true, Bool.true_and, Bool.not_true, Bool.not_false, Nat.reduceBEq, Nat.reduceAdd, Nat.reduceSub, Nat.reduceEqDiff, reduceCtorEq, Bool.false_eq_true, ixN_41, ixN_42, ixN_43, gPow, gMul, gFd, gMod, sq_bad, sq_bk, sq_ct, sq_exc, dz0, dz1, dz2, dz3, dz4, dz5, dz6, dz7, dz8, dz9, dz10, dz11, dz12, dz13, dz14, dz15, dz16, ic0, ic1, ic2, ic3, ic4, isi_int_n, isi_int_b, isi_int_i, isi_int_s, isi_int_l, isi_int_t, isi_bool_n, isi_bool_b, isi_bool_i, isi_bool_s, isi_bool_l, isi_bool_t, isi_str_n, isi_str_b, isi_str_i, isi_str_s, isi_str_l, isi_str_t, isi_list_n, isi_list_b, isi_list_i, isi_list_s, isi_list_l, isi_list_t, isi_tuple_n, isi_tuple_b, isi_tuple_i, isi_tuple_s, isi_tuple_l, isi_tuple_t, isi_dict_n, isi_dict_b, isi_dict_i, isi_dict_s, isi_dict_l, isi_dict_t, tAnd_ok, tOr_ok, tIf_ok, tIfS_ok, tAnd_exc, tOr_exc, tIf_exc, tIfS_exc, co_and, co_or, tAnd_cond, tOr_cond, tIfS_cond, bd_cond, ba_cond, bs_cond, bx_cond, sq_cond, fin_cond, gIs_bb, gIsN_bb, rangeL_2, rangeL_3, lcL_nil, lcL_cons, oG_some, tLc_t, tLc_f, tLc_b, eLc_ok, cLc_t, sLc_ok, fLc_ok, gAll, gAny, bools_nil, bools_cons, ciSeq, noOwn, wipeE, restoreE, List.all_cons, List.all_nil, List.any_cons, List.any_nil, id, ciRange1, ciRange2, rng1_t, rng2_t, Int.reduceToNat, if_true, ite_true, if_false, cChain_t, eq_self, decide_true, decide_false, e1, e2, e]
theorem mixed_spec {x a y b s : Int} (hx : x.natAbs ≤ 6) (ha : 0 < a) (ha4 : a ≤ 4) (hy : y.natAbs ≤ 6) (hb : 0 < b) (hb4 : b ≤ 4) (s0 : -2 ≤ s) (s1 : s ≤ 4) :
    ∃ p q, F_u_law_low [.dat (.int (x * b * (4 - s) + y * a * s)), .dat (.int (4 * a * b))] = .ok (.dat (Nu p q)) [.dat (.int (x * b * (4 - s) + y * a * s)), .dat (.int (4 * a * b))] ∧ 0 < q ∧ Bd 12 p ∧ Bd 12 q := by
  have hd : 0 < 4 * a * b := Int.mul_pos (by omega) hb
  have hdm : 4 * a * b ≤ 64 := by
    have h1 : (4 * a) * b ≤ 16 * b := Int.mul_le_mul_of_nonneg_right (by omega) (by omega)
    omega
  have A1 : (x * b).natAbs ≤ 24 := by rw [Int.natAbs_mul]; exact Nat.mul_le_mul hx (show b.natAbs ≤ 4 by omega)
  have A2 : (y * a).natAbs ≤ 24 := by rw [Int.natAbs_mul]; exact Nat.mul_le_mul hy (show a.natAbs ≤ 4 by omega)
  have A3 : (x * b * (4 - s)).natAbs ≤ 24 * 6 := by rw [Int.natAbs_mul]; exact Nat.mul_le_mul A1 (show (4 - s).natAbs ≤ 6 by omega)
  have A4 : (y * a * s).natAbs ≤ 24 * 6 := by rw [Int.natAbs_mul]; exact Nat.mul_le_mul A2 (show s.natAbs ≤ 6 by omega)
  obtain ⟨p, q, e, q0, q1, p1, _⟩ := low_spec (n := x * b * (4 - s) + y * a * s) (d := 4 * a * b) hd (by omega)
  exact ⟨p, q, e, q0, by unfold Bd; omega, by unfold Bd; omega⟩
end Z
set_option maxHeartbeats 4000000
namespace Z
open PySem PySem.Spec PyProof.Rows L2
abbrev lawEnv (sc : PyData) (l : List PyData) (x2 x3 x4 x5 x6 x7 x8 x9 : Option S) : En := [some (.dat sc), some (.lst l), x2, x3, x4, x5, x6, x7, x8, x9, none, none]
theorem law_turn {sc : PyData} {l : List PyData} {x2 x3 x4 x5 x6 x7 x8 x9 : Option S} (h : PotOk l) : ∃ l' y3 y4 y5 y6 y7, L_law_0 (lawEnv sc l x2 x3 x4 x5 x6 x7 x8 x9) = .nx (lawEnv sc l' x2 y3 y4 y5 y6 y7 x8 x9) ∧ PotOk l' := by
  obtain ⟨x1, a1, l1, e1, ga1, bx1, ba1, h1, sx1, sa1⟩ := number_spec h
  obtain ⟨y1, b1, l2, e2, gb1, by1, bb1, h2, sy1, sb1⟩ := number_spec h1
  obtain ⟨u2, c2', l3, e3, gc2, bu2, bc2, h3, su2, sc2⟩ := number_spec h2
  obtain ⟨v2, d2, l4, e4, gd2, bv2, bd2, h4, sv2, sd2⟩ := number_spec h3
  obtain ⟨t, l5, e5, t0, t1, h5⟩ := next_spec (m := 5) h4 (by decide) (by decide)
  obtain ⟨x3', a3, l6, e6, ga3, bx3, ba3, h6, sx3, sa3⟩ := number_spec h5
  obtain ⟨y3', b3, l7, e7, gb3, by3, bb3, h7, sy3, sb3⟩ := number_spec h6
  obtain ⟨s, l8, e8, s0, s1, h8⟩ := next_spec (m := 7) h7 (by decide) (by decide)
  obtain ⟨f, l9, e9, f0, f1, h9⟩ := next_spec (m := 2) h8 (by decide) (by decide)
  obtain ⟨x2', a2, y2', b2, hq, gx2, ga2, gy2, gb2, gx2', ga2', gy2', gb2', ga4, gb4⟩ : ∃ x2 a2 y2 b2, atI [Pt x1 a1 y1 b1, Pt u2 c2' v2 d2] (if decide (0 < t) = true then 1 else 0) = some (Pt x2 a2 y2 b2) ∧ Bd 12 x2 ∧ Bd 12 a2 ∧ Bd 12 y2 ∧ Bd 12 b2 ∧ 0 < a2 ∧ 0 < b2 ∧ x2.natAbs ≤ 6 ∧ y2.natAbs ≤ 6 ∧ a2 ≤ 4 ∧ b2 ≤ 4 := by
    by_cases ht : 0 < t
    · rw [decide_eq_true ht]
      exact ⟨_, _, _, _, atI_1, bu2, bc2, bv2, bd2, gc2, gd2, su2, sv2, sc2, sd2⟩
    · rw [decide_eq_false ht]
      exact ⟨_, _, _, _, atI_0, bx1, ba1, by1, bb1, ga1, gb1, sx1, sy1, sa1, sb1⟩
  obtain ⟨m1, n1, em1, gn1, bm1, bn1⟩ := mixed_spec (s := s - 2) sx1 ga1 sa1 gy2' gx2' ga4 (by omega) (by omega)
  obtain ⟨m2, n2, em2, gn2, bm2, bn2⟩ := mixed_spec (s := s - 2) sy1 gb1 sb1 gb2' ga2' gb4 (by omega) (by omega)
  have up : ∀ {z : Int}, Bd 12 z → Bd 500 z := fun h => h.mono (by decide)
  have K : ∀ {x a y b : Int}, 0 < a → 0 < b → Bd 12 x → Bd 12 a → Bd 12 y → Bd 12 b →
      (∃ v, F_turn [.dat (Pt x1 a1 y1 b1), .dat (Pt x2' a2 y2' b2), .dat (Pt x a y b)] = .ok (.dat (.int v)) [.dat (Pt x1 a1 y1 b1), .dat (Pt x2' a2 y2' b2), .dat (Pt x a y b)] ∧
        F_u_law_cross [.dat (Pt x1 a1 y1 b1), .dat (Pt x2' a2 y2' b2), .dat (Pt x a y b)] = .ok (.dat (.int v)) [.dat (Pt x1 a1 y1 b1), .dat (Pt x2' a2 y2' b2), .dat (Pt x a y b)] ∧
        F_on_segment [.dat (Pt x a y b), .dat (Pt x1 a1 y1 b1), .dat (Pt x2' a2 y2' b2)] = .ok (.dat (.bool ((v == 0) && (btw x a x1 a1 x2' a2 && btw y b y1 b1 y2' b2)))) [.dat (Pt x a y b), .dat (Pt x1 a1 y1 b1), .dat (Pt x2' a2 y2' b2)] ∧
        F_u_law_between [.dat (Nu x1 a1), .dat (Nu x a), .dat (Nu x2' a2)] = .ok (.dat (.bool (btw x a x1 a1 x2' a2))) [.dat (Nu x1 a1), .dat (Nu x a), .dat (Nu x2' a2)] ∧
        F_u_law_between [.dat (Nu y1 b1), .dat (Nu y b), .dat (Nu y2' b2)] = .ok (.dat (.bool (btw y b y1 b1 y2' b2))) [.dat (Nu y1 b1), .dat (Nu y b), .dat (Nu y2' b2)]) := fun {x a y b} p1 p2 q1 q2 q3 q4 =>
    ⟨_, turn_eq (up bx1) (up ba1) (up by1) (up bb1) (up gx2) (up ga2) (up gy2) (up gb2) (up q1) (up q2) (up q3) (up q4) ga1 gb1,
      cross_eq (up bx1) (up ba1) (up by1) (up bb1) (up gx2) (up ga2) (up gy2) (up gb2) (up q1) (up q2) (up q3) (up q4),
      on_seg_eq (up bx1) (up ba1) (up by1) (up bb1) (up gx2) (up ga2) (up gy2) (up gb2) (up q1) (up q2) (up q3) (up q4) ga1 gb1,
      law_between_eq (up q1) (up q2) (up bx1) (up ba1) (up gx2) (up ga2),
      law_between_eq (up q3) (up q4) (up by1) (up bb1) (up gy2) (up gb2)⟩
  have sb : Bd 12 (s - 2) := by unfold Bd; omega
  by_cases hf : f = 1
  · have hf' : (f == 1) = true := beq_iff_eq.mpr hf
    obtain ⟨v, t1', t2', t3', t4', t5'⟩ := K gn1 gn2 bm1 bn1 bm2 bn2
    unfold L_law_0
    simp (disch := first | with_reducible assumption | ((with_reducible apply Bdx.id); exact Bdx.of (by (repeat' first | with_reducible assumption | apply Bd.mul | apply Bd.sub2 | apply Bd.add2 | apply Bd.neg | exact Bd.lit rfl)) (by decide)) | ((with_reducible apply Sml.id); exact Sml.lit rfl) | fail) only [mkF, fin_nx, fin_rt, fin_exc, outs, cSeq, sq_nx, sq_rt, cIfS_t, cSet, cRet, cRetN, cDrop, cNext, bd_ok, ba_ok, bs_ok, bx_ok, abd_ok, aba_ok, abs_ok, xbx_ok, bbd_ok, lift_some, c1, c2, cN, cB1, cB2, cAnd_t, cOr_t, cIf_t, cK, cV, cVm, cbN, cbD, resolve, caNil, caCons, cTup, cLst, cxNil, cxD, cxS, cCall, ssOf, slotsOf, putBack, dist, S_d, S_l, gAdd, gSub, gNeg, gNot, gLt, gLe, gGt, gGe, gEq_ii, gNe_ii, gIx, gLen, gAbs, gInt, tru_b, gMax2, gMin2, gGcd, gList, gTuple, cSetIx, cApp, cAsg, cgName, cgTup, cgCons, cgNil, cPar, atI_0, atI_1, atI_2, atI_3, ixL_1, ixL_2, ixL_3, List.getElem?_cons_zero, List.getElem?_cons_succ, List.set_cons_zero, List.set_cons_succ, List.map_cons, List.map_nil, List.length_cons, List.length_nil, List.cons_append, List.nil_append, List.replicate_succ, List.replicate_zero, List.length_map, cond_true, cond_false, Option.map_some, beq_self_eq_true, List.contains_cons, List.contains_nil, Bool.or_false, Bool.false_or, Bool.or_true, Bool.and_true, Bool.true_and, Bool.not_true, Bool.not_false, Nat.reduceBEq, Nat.reduceAdd, Nat.reduceSub, Nat.reduceEqDiff, reduceCtorEq, Bool.false_eq_true, ixN_41, ixN_42, ixN_43, gPow, gMul, gFd, gMod, sq_bad, sq_bk, sq_ct, sq_exc, dz0, dz1, dz2, dz3, dz4, dz5, dz6, dz7, dz8, dz9, dz10, dz11, dz12, dz13, dz14, dz15, dz16, ic0, ic1, ic2, ic3, ic4, isi_int_n, isi_int_b, isi_int_i, isi_int_s, isi_int_l, isi_int_t, isi_bool_n, isi_bool_b, isi_bool_i, isi_bool_s, isi_bool_l, isi_bool_t, isi_str_n, isi_str_b, isi_str_i, isi_str_s, isi_str_l, isi_str_t, isi_list_n, isi_list_b, isi_list_i, isi_list_s, isi_list_l, isi_list_t, isi_tuple_n, isi_tuple_b, isi_tuple_i, isi_tuple_s, isi_tuple_l, isi_tuple_t, isi_dict_n, isi_dict_b, isi_dict_i, isi_dict_s, isi_dict_l, isi_dict_t, tAnd_ok, tOr_ok, tIf_ok, tIfS_ok, tAnd_exc, tOr_exc, tIf_exc, tIfS_exc, co_and, co_or, tAnd_cond, tOr_cond, tIfS_cond, bd_cond, ba_cond, bs_cond, bx_cond, sq_cond, fin_cond, gIs_bb, gIsN_bb, rangeL_2, rangeL_3, lcL_nil, lcL_cons, oG_some, tLc_t, tLc_f, tLc_b, eLc_ok, cLc_t, sLc_ok, fLc_ok, gAll, gAny, bools_nil, bools_cons, ciSeq, noOwn, wipeE, restoreE, List.all_cons, List.all_nil, List.any_cons, List.any_nil, id, ciRange1, ciRange2, rng1_t, rng2_t, Int.reduceToNat, if_true, ite_true, if_false, cChain_t, eq_self, decide_true, decide_false, lawEnv, e1, e2, e3, e4, e5, hq, e6, e7, e8, e9, hf', cmulW_t, em1, em2, t1', t2', t3', t4', t5', same_int, same_bool]
    exact ⟨_, _, _, _, _, _, rfl, h9⟩
  · have hf' : (f == 1) = false := beq_eq_false_iff_ne.mpr hf
    obtain ⟨v, t1', t2', t3', t4', t5'⟩ := K ga3 gb3 bx3 ba3 by3 bb3
    unfold L_law_0
    simp (disch := first | with_reducible assumption | ((with_reducible apply Bdx.id); exact Bdx.of (by (repeat' first | with_reducible assumption | apply Bd.mul | apply Bd.sub2 | apply Bd.add2 | apply Bd.neg | exact Bd.lit rfl)) (by decide)) | ((with_reducible apply Sml.id); exact Sml.lit rfl) | fail) only [mkF, fin_nx, fin_rt, fin_exc, outs, cSeq, sq_nx, sq_rt, cIfS_t, cSet, cRet, cRetN, cDrop, cNext, bd_ok, ba_ok, bs_ok, bx_ok, abd_ok, aba_ok, abs_ok, xbx_ok, bbd_ok, lift_some, c1, c2, cN, cB1, cB2, cAnd_t, cOr_t, cIf_t, cK, cV, cVm, cbN, cbD, resolve, caNil, caCons, cTup, cLst, cxNil, cxD, cxS, cCall, ssOf, slotsOf, putBack, dist, S_d, S_l, gAdd, gSub, gNeg, gNot, gLt, gLe, gGt, gGe, gEq_ii, gNe_ii, gIx, gLen, gAbs, gInt, tru_b, gMax2, gMin2, gGcd, gList, gTuple, cSetIx, cApp, cAsg, cgName, cgTup, cgCons, cgNil, cPar, atI_0, atI_1, atI_2, atI_3, ixL_1, ixL_2, ixL_3, List.getElem?_cons_zero, List.getElem?_cons_succ, List.set_cons_zero, List.set_cons_succ, List.map_cons, List.map_nil, List.length_cons, List.length_nil, List.cons_append, List.nil_append, List.replicate_succ, List.replicate_zero, List.length_map, cond_true, cond_false, Option.map_some, beq_self_eq_true, List.contains_cons, List.contains_nil, Bool.or_false, Bool.false_or, Bool.or_true, Bool.and_true, Bool.true_and, Bool.not_true, Bool.not_false, Nat.reduceBEq, Nat.reduceAdd, Nat.reduceSub, Nat.reduceEqDiff, reduceCtorEq, Bool.false_eq_true, ixN_41, ixN_42, ixN_43, gPow, gMul, gFd, gMod, sq_bad, sq_bk, sq_ct, sq_exc, dz0, dz1, dz2, dz3, dz4, dz5, dz6, dz7, dz8, dz9, dz10, dz11, dz12, dz13, dz14, dz15, dz16, ic0, ic1, ic2, ic3, ic4, isi_int_n, isi_int_b, isi_int_i, isi_int_s, isi_int_l, isi_int_t, isi_bool_n, isi_bool_b, isi_bool_i, isi_bool_s, isi_bool_l, isi_bool_t, isi_str_n, isi_str_b, isi_str_i, isi_str_s, isi_str_l, isi_str_t, isi_list_n, isi_list_b, isi_list_i, isi_list_s, isi_list_l, isi_list_t, isi_tuple_n, isi_tuple_b, isi_tuple_i, isi_tuple_s, isi_tuple_l, isi_tuple_t, isi_dict_n, isi_dict_b, isi_dict_i, isi_dict_s, isi_dict_l, isi_dict_t, tAnd_ok, tOr_ok, tIf_ok, tIfS_ok, tAnd_exc, tOr_exc, tIf_exc, tIfS_exc, co_and, co_or, tAnd_cond, tOr_cond, tIfS_cond, bd_cond, ba_cond, bs_cond, bx_cond, sq_cond, fin_cond, gIs_bb, gIsN_bb, rangeL_2, rangeL_3, lcL_nil, lcL_cons, oG_some, tLc_t, tLc_f, tLc_b, eLc_ok, cLc_t, sLc_ok, fLc_ok, gAll, gAny, bools_nil, bools_cons, ciSeq, noOwn, wipeE, restoreE, List.all_cons, List.all_nil, List.any_cons, List.any_nil, id, ciRange1, ciRange2, rng1_t, rng2_t, Int.reduceToNat, if_true, ite_true, if_false, cChain_t, eq_self, decide_true, decide_false, lawEnv, e1, e2, e3, e4, e5, hq, e6, e7, e8, e9, hf', cmulW_t, t1', t2', t3', t4', t5', same_int, same_bool]
    exact ⟨_, _, _, _, _, _, rfl, h9⟩
end Z
set_option maxHeartbeats 1000000
namespace Z
open PySem PySem.Spec PyProof.Rows L2
theorem corner_n {n : Int} (h : n.natAbs ≤ 10000) : F_is_corner [.dat (.tuple [.int n, .int (-n)])] = .ok (.dat (.bool true)) [.dat (.tuple [.int n, .int (-n)])] := by
  have e1 : decide (-10000 ≤ n) = true := decide_eq_true (by omega)
  have e2 : decide (n ≤ 10000) = true := decide_eq_true (by omega)
  have e3 : decide (-10000 ≤ -n) = true := decide_eq_true (by omega)
  have e4 : decide (-n ≤ 10000) = true := decide_eq_true (by omega)
  have nm : ∀ i : Int, F_is_number [.dat (.int i)] = .ok (.dat (.bool true)) [.dat (.int i)] := fun _ => rfl
  unfold F_is_corner M_is_corner F_is_corner_within M_is_corner_within
  simp only [mkF, fin_nx, fin_rt, fin_exc, outs, cSeq, sq_nx, sq_rt, cIfS_t, cSet, cRet, cRetN, cDrop, cNext, bd_ok, ba_ok, bs_ok, bx_ok, abd_ok, aba_ok, abs_ok, xbx_ok, bbd_ok, lift_some, c1, c2, cN, cB1, cB2, cAnd_t, cOr_t, cIf_t, cK, cV, cVm, cbN, cbD, resolve, caNil, caCons, cTup, cLst, cxNil, cxD, cxS, cCall, ssOf, slotsOf, putBack, dist, S_d, S_l, gAdd, gSub, gNeg, gNot, gLt, gLe, gGt, gGe, gEq_ii, gNe_ii, gIx, gLen, gAbs, gInt, tru_b, gMax2, gMin2, gGcd, gList, gTuple, cSetIx, cApp, cAsg, cgName, cgTup, cgCons, cgNil, cPar, atI_0, atI_1, atI_2, atI_3, ixL_1, ixL_2, ixL_3, List.getElem?_cons_zero, List.getElem?_cons_succ, List.set_cons_zero, List.set_cons_succ, List.map_cons, List.map_nil, List.length_cons, List.length_nil, List.cons_append, List.nil_append, List.replicate_succ, List.replicate_zero, List.length_map, cond_true, cond_false, Option.map_some, beq_self_eq_true, List.contains_cons, List.contains_nil, Bool.or_false, Bool.false_or, Bool.or_true, Bool.and_true, Bool.true_and, Bool.not_true, Bool.not_false, Nat.reduceBEq, Nat.reduceAdd, Nat.reduceSub, Nat.reduceEqDiff, reduceCtorEq, Bool.false_eq_true, ixN_41, ixN_42, ixN_43, gPow, gMul, gFd, gMod, sq_bad, sq_bk, sq_ct, sq_exc, dz0, dz1, dz2, dz3, dz4, dz5, dz6, dz7, dz8, dz9, dz10, dz11, dz12, dz13, dz14, dz15, dz16, ic0, ic1, ic2, ic3, ic4, isi_int_n, isi_int_b, isi_int_i, isi_int_s, isi_int_l, isi_int_t, isi_bool_n, isi_bool_b, isi_bool_i, isi_bool_s, isi_bool_l, isi_bool_t, isi_str_n, isi_str_b, isi_str_i, isi_str_s, isi_str_l, isi_str_t, isi_list_n, isi_list_b, isi_list_i, isi_list_s, isi_list_l, isi_list_t, isi_tuple_n, isi_tuple_b, isi_tuple_i, isi_tuple_s, isi_tuple_l, isi_tuple_t, isi_dict_n, isi_dict_b, isi_dict_i, isi_dict_s, isi_dict_l, isi_dict_t, tAnd_ok, tOr_ok, tIf_ok, tIfS_ok, tAnd_exc, tOr_exc, tIf_exc, tIfS_exc, co_and, co_or, tAnd_cond, tOr_cond, tIfS_cond, bd_cond, ba_cond, bs_cond, bx_cond, sq_cond, fin_cond, gIs_bb, gIsN_bb, rangeL_2, rangeL_3, lcL_nil, lcL_cons, oG_some, tLc_t, tLc_f, tLc_b, eLc_ok, cLc_t, sLc_ok, fLc_ok, gAll, gAny, bools_nil, bools_cons, ciSeq, noOwn, wipeE, restoreE, List.all_cons, List.all_nil, List.any_cons, List.any_nil, id, ciRange1, ciRange2, rng1_t, rng2_t, Int.reduceToNat, if_true, ite_true, if_false, cChain_t, eq_self, decide_true, decide_false, nm, e1, e2, e3, e4]
theorem bad_1 : F_is_corner [.dat (.tuple [.int 10001, .int 0])] = .ok (.dat (.bool false)) [.dat (.tuple [.int 10001, .int 0])] := by with_unfolding_all rfl
theorem bad_2 : F_is_corner [.dat (.tuple [.int 0, .int (-10001)])] = .ok (.dat (.bool false)) [.dat (.tuple [.int 0, .int (-10001)])] := by with_unfolding_all rfl
theorem bad_3 : F_is_corner [.dat (.tuple [.int 0])] = .ok (.dat (.bool false)) [.dat (.tuple [.int 0])] := by with_unfolding_all rfl
theorem bad_4 : F_is_corner [.dat (.tuple [.int 0, .int 0, .int 0])] = .ok (.dat (.bool false)) [.dat (.tuple [.int 0, .int 0, .int 0])] := by with_unfolding_all rfl
theorem bad_5 : F_is_corner [.dat (.list [.int 0, .int 0])] = .ok (.dat (.bool false)) [.dat (.list [.int 0, .int 0])] := by with_unfolding_all rfl
theorem bad_6 : F_is_corner [.dat (.tuple [.bool true, .int 0])] = .ok (.dat (.bool false)) [.dat (.tuple [.bool true, .int 0])] := by with_unfolding_all rfl
theorem bad_7 : F_is_corner [.dat (.tuple [.int 0, .str ("0" : Str)])] = .ok (.dat (.bool false)) [.dat (.tuple [.int 0, .str ("0" : Str)])] := by with_unfolding_all rfl
theorem bad_8 : F_is_corner [.dat .none] = .ok (.dat (.bool false)) [.dat .none] := by with_unfolding_all rfl
theorem bad_9 : F_is_corner [.dat (.int 5)] = .ok (.dat (.bool false)) [.dat (.int 5)] := by with_unfolding_all rfl
theorem name_0 : F_is_name [.dat (.str ("abcdefghijkl" : Str))] = .ok (.dat (.bool true)) [.dat (.str ("abcdefghijkl" : Str))] := by with_unfolding_all rfl
theorem name_1 : F_is_name [.dat (.str ("" : Str))] = .ok (.dat (.bool false)) [.dat (.str ("" : Str))] := by with_unfolding_all rfl
theorem name_2 : F_is_name [.dat (.str ("abcdefghijklm" : Str))] = .ok (.dat (.bool false)) [.dat (.str ("abcdefghijklm" : Str))] := by with_unfolding_all rfl
theorem name_3 : F_is_name [.dat (.str ("A" : Str))] = .ok (.dat (.bool false)) [.dat (.str ("A" : Str))] := by with_unfolding_all rfl
theorem name_4 : F_is_name [.dat (.str ("a1" : Str))] = .ok (.dat (.bool false)) [.dat (.str ("a1" : Str))] := by with_unfolding_all rfl
theorem name_5 : F_is_name [.dat (.str ("a b" : Str))] = .ok (.dat (.bool false)) [.dat (.str ("a b" : Str))] := by with_unfolding_all rfl
theorem name_6 : F_is_name [.dat (.int 5)] = .ok (.dat (.bool false)) [.dat (.int 5)] := by with_unfolding_all rfl
theorem name_7 : F_is_name [.dat .none] = .ok (.dat (.bool false)) [.dat .none] := by with_unfolding_all rfl
theorem name_8 : F_is_name [.dat (.tuple [.str ("a" : Str)])] = .ok (.dat (.bool false)) [.dat (.tuple [.str ("a" : Str)])] := by with_unfolding_all rfl
theorem point_n {n : Int} : F_point [.dat (.tuple [.int n, .int 5])] = .ok (.dat (Pt n 1 5 1)) [.dat (.tuple [.int n, .int 5])] := rfl
theorem eqv_n {n : Int} : gNe (Pt n 1 5 1) (Pt n 1 5 1) = some (.dat (.bool false)) := by
  show (bif SeqAt.shaped (Pt n 1 5 1) && SeqAt.shaped (Pt n 1 5 1) then some (S.dat (.bool (!PyData.eqv (Pt n 1 5 1) (Pt n 1 5 1)))) else none) = _
  have h1 : SeqAt.shaped (Pt n 1 5 1) = true := rfl
  have h2 : PyData.eqv (Pt n 1 5 1) (Pt n 1 5 1) = true := by simp [PyData.eqv, PyData.eqvAll]
  rw [h1, h2]
  rfl
theorem any12 {F : Fn} {f : PyData → Bool} {a b c d e v5 v6 v7 v8 v9 k : Option S} : ∀ (ds acc : List PyData) (x : Option S), (∀ z ∈ ds, F [.dat z] = .ok (.dat (.bool (f z))) [.dat z]) → acc.length + ds.length ≤ 100 → ∃ x', lcL [11] (cgName 11) (cK (.bool true)) (cCall F (cxD (cV 11) cxNil)) ds [a, b, c, d, e, v5, v6, v7, v8, v9, k, x] acc = .ok (acc ++ ds.map fun z => .bool (f z)) [a, b, c, d, e, v5, v6, v7, v8, v9, k, x']
  | [], acc, x, _, _ => ⟨x, by rw [List.map_nil, List.append_nil]; rfl⟩
  | z :: ds, acc, x, h, hl => by
    have hz := h z (by simp)
    have hq : decide (acc.length < sizeLine) = true := decide_eq_true (Nat.lt_of_le_of_lt (show acc.length ≤ 100 by omega) (by decide))
    obtain ⟨x', e'⟩ := any12 (F := F) (f := f) (a := a) (b := b) (c := c) (d := d) (e := e) (v5 := v5) (v6 := v6) (v7 := v7) (v8 := v8) (v9 := v9) (k := k) ds (acc ++ [.bool (f z)]) (some (.dat z)) (fun y hy => h y (by simp [hy])) (by simp at hl ⊢; omega)
    refine ⟨x', ?_⟩
    rw [lcL_cons]
    simp only [mkF, fin_nx, fin_rt, fin_exc, outs, cSeq, sq_nx, sq_rt, cIfS_t, cSet, cRet, cRetN, cDrop, cNext, bd_ok, ba_ok, bs_ok, bx_ok, abd_ok, aba_ok, abs_ok, xbx_ok, bbd_ok, lift_some, c1, c2, cN, cB1, cB2, cAnd_t, cOr_t, cIf_t, cK, cV, cVm, cbN, cbD, resolve, caNil, caCons, cTup, cLst, cxNil, cxD, cxS, cCall, ssOf, slotsOf, putBack, dist, S_d, S_l, gAdd, gSub, gNeg, gNot, gLt, gLe, gGt, gGe, gEq_ii, gNe_ii, gIx, gLen, gAbs, gInt, tru_b, gMax2, gMin2, gGcd, gList, gTuple, cSetIx, cApp, cAsg, cgName, cgTup, cgCons, cgNil, cPar, atI_0, atI_1, atI_2, atI_3, ixL_1, ixL_2, ixL_3, List.getElem?_cons_zero, List.getElem?_cons_succ, List.set_cons_zero, List.set_cons_succ, List.map_cons, List.map_nil, List.length_cons, List.length_nil, List.cons_append, List.nil_append, List.replicate_succ, List.replicate_zero, List.length_map, cond_true, cond_false, Option.map_some, beq_self_eq_true, List.contains_cons, List.contains_nil, Bool.or_false, Bool.false_or, Bool.or_true, Bool.and_true, Bool.true_and, Bool.not_true, Bool.not_false, Nat.reduceBEq, Nat.reduceAdd, Nat.reduceSub, Nat.reduceEqDiff, reduceCtorEq, Bool.false_eq_true, ixN_41, ixN_42, ixN_43, gPow, gMul, gFd, gMod, sq_bad, sq_bk, sq_ct, sq_exc, dz0, dz1, dz2, dz3, dz4, dz5, dz6, dz7, dz8, dz9, dz10, dz11, dz12, dz13, dz14, dz15, dz16, ic0, ic1, ic2, ic3, ic4, isi_int_n, isi_int_b, isi_int_i, isi_int_s, isi_int_l, isi_int_t, isi_bool_n, isi_bool_b, isi_bool_i, isi_bool_s, isi_bool_l, isi_bool_t, isi_str_n, isi_str_b, isi_str_i, isi_str_s, isi_str_l, isi_str_t, isi_list_n, isi_list_b, isi_list_i, isi_list_s, isi_list_l, isi_list_t, isi_tuple_n, isi_tuple_b, isi_tuple_i, isi_tuple_s, isi_tuple_l, isi_tuple_t, isi_dict_n, isi_dict_b, isi_dict_i, isi_dict_s, isi_dict_l, isi_dict_t, tAnd_ok, tOr_ok, tIf_ok, tIfS_ok, tAnd_exc, tOr_exc, tIf_exc, tIfS_exc, co_and, co_or, tAnd_cond, tOr_cond, tIfS_cond, bd_cond, ba_cond, bs_cond, bx_cond, sq_cond, fin_cond, gIs_bb, gIsN_bb, rangeL_2, rangeL_3, oG_some, tLc_t, tLc_f, tLc_b, eLc_ok, cLc_t, sLc_ok, fLc_ok, gAll, gAny, bools_nil, bools_cons, ciSeq, noOwn, wipeE, restoreE, List.all_cons, List.all_nil, List.any_cons, List.any_nil, id, ciRange1, ciRange2, rng1_t, rng2_t, Int.reduceToNat, if_true, ite_true, if_false, cChain_t, eq_self, decide_true, decide_false, hz, hq, e', List.append_assoc]
theorem seq_nx {a b : CS} {ρ ρ' : En} (h : a ρ = .nx ρ') : cSeq a b ρ = b ρ' := by unfold cSeq; rw [h]; rfl
theorem law_true : LawTrue F_law := by
  intro ns _ _
  obtain ⟨l0, e0, h0⟩ := pot_spec ns
  obtain ⟨ρ', e, l, x2, x3, x4, x5, x6, x7, rfl, hl⟩ := forL_nx (g := cgName 2) (body := L_law_0)
    (fun _ ρ => ∃ (l : List PyData) (x2 x3 x4 x5 x6 x7 : Option S), ρ = lawEnv (.list (ns.map .int)) l x2 x3 x4 x5 x6 x7 none none ∧ PotOk l)
    (fun d ds ρ h => by
      obtain ⟨l, x2, x3, x4, x5, x6, x7, rfl, hl⟩ := h
      obtain ⟨l', y3, y4, y5, y6, y7, e, hl'⟩ := law_turn (sc := .list (ns.map .int)) (x2 := some (.dat d)) (x3 := x3) (x4 := x4) (x5 := x5) (x6 := x6) (x7 := x7) (x8 := none) (x9 := none) hl
      exact ⟨_, _, rfl, e, l', _, y3, y4, y5, y6, y7, rfl, hl'⟩) (rangeL 0 4) (lawEnv (.list (ns.map .int)) l0 none none none none none none none none) ⟨l0, none, none, none, none, none, none, rfl, h0⟩
  obtain ⟨n, l1, e1, n0, n1, h1⟩ := next_spec (m := 20001) hl (by decide) (by decide)
  have cn := corner_n (n := n - 10000) (by omega)
  unfold lawEnv at e
  have key : ∃ ρ', M_law [some (.dat (.list (ns.map .int))), none, none, none, none, none, none, none, none, none, none, none] = .rt (.dat (.bool true)) ρ' := by
    apply Exists.intro
    unfold M_law
    refine (seq_nx (ρ' := ?r1) ?h1).trans ?_
    case h1 => simp (disch := first | with_reducible assumption | ((with_reducible apply Bdx.id); exact Bdx.of (by (repeat' first | with_reducible assumption | apply Bd.mul | apply Bd.sub2 | apply Bd.add2 | apply Bd.neg | exact Bd.lit rfl)) (by decide)) | ((with_reducible apply Sml.id); exact Sml.lit rfl) | fail) only [mkF, fin_nx, fin_rt, fin_exc, outs, cSeq, sq_nx, sq_rt, cIfS_t, cSet, cRet, cRetN, cDrop, cNext, bd_ok, ba_ok, bs_ok, bx_ok, abd_ok, aba_ok, abs_ok, xbx_ok, bbd_ok, lift_some, c1, c2, cN, cB1, cB2, cAnd_t, cOr_t, cIf_t, cK, cV, cVm, cbN, cbD, resolve, caNil, caCons, cTup, cLst, cxNil, cxD, cxS, cCall, ssOf, slotsOf, putBack, dist, S_d, S_l, gAdd, gSub, gNeg, gNot, gLt, gLe, gGt, gGe, gEq_ii, gNe_ii, gIx, gLen, gAbs, gInt, tru_b, gMax2, gMin2, gGcd, gList, gTuple, cSetIx, cApp, cAsg, cgName, cgTup, cgCons, cgNil, cPar, atI_0, atI_1, atI_2, atI_3, ixL_1, ixL_2, ixL_3, List.getElem?_cons_zero, List.getElem?_cons_succ, List.set_cons_zero, List.set_cons_succ, List.map_cons, List.map_nil, List.length_cons, List.length_nil, List.cons_append, List.nil_append, List.replicate_succ, List.replicate_zero, List.length_map, cond_true, cond_false, Option.map_some, beq_self_eq_true, List.contains_cons, List.contains_nil, Bool.or_false, Bool.false_or, Bool.or_true, Bool.and_true, Bool.true_and, Bool.not_true, Bool.not_false, Nat.reduceBEq, Nat.reduceAdd, Nat.reduceSub, Nat.reduceEqDiff, reduceCtorEq, Bool.false_eq_true, ixN_41, ixN_42, ixN_43, gPow, gMul, gFd, gMod, sq_bad, sq_bk, sq_ct, sq_exc, dz0, dz1, dz2, dz3, dz4, dz5, dz6, dz7, dz8, dz9, dz10, dz11, dz12, dz13, dz14, dz15, dz16, ic0, ic1, ic2, ic3, ic4, isi_int_n, isi_int_b, isi_int_i, isi_int_s, isi_int_l, isi_int_t, isi_bool_n, isi_bool_b, isi_bool_i, isi_bool_s, isi_bool_l, isi_bool_t, isi_str_n, isi_str_b, isi_str_i, isi_str_s, isi_str_l, isi_str_t, isi_list_n, isi_list_b, isi_list_i, isi_list_s, isi_list_l, isi_list_t, isi_tuple_n, isi_tuple_b, isi_tuple_i, isi_tuple_s, isi_tuple_l, isi_tuple_t, isi_dict_n, isi_dict_b, isi_dict_i, isi_dict_s, isi_dict_l, isi_dict_t, tAnd_ok, tOr_ok, tIf_ok, tIfS_ok, tAnd_exc, tOr_exc, tIf_exc, tIfS_exc, co_and, co_or, tAnd_cond, tOr_cond, tIfS_cond, bd_cond, ba_cond, bs_cond, bx_cond, sq_cond, fin_cond, gIs_bb, gIsN_bb, rangeL_2, rangeL_3, lcL_nil, lcL_cons, oG_some, tLc_t, tLc_f, tLc_b, eLc_ok, cLc_t, sLc_ok, fLc_ok, gAll, gAny, bools_nil, bools_cons, ciSeq, noOwn, wipeE, restoreE, List.all_cons, List.all_nil, List.any_cons, List.any_nil, id, ciRange1, ciRange2, rng1_t, rng2_t, Int.reduceToNat, if_true, ite_true, if_false, cChain_t, eq_self, decide_true, decide_false, e0]; rfl
    refine (seq_nx (ρ' := ?r2) ?h2).trans ?_
    case h2 => simp (disch := first | with_reducible assumption | ((with_reducible apply Bdx.id); exact Bdx.of (by (repeat' first | with_reducible assumption | apply Bd.mul | apply Bd.sub2 | apply Bd.add2 | apply Bd.neg | exact Bd.lit rfl)) (by decide)) | ((with_reducible apply Sml.id); exact Sml.lit rfl) | fail) only [mkF, fin_nx, fin_rt, fin_exc, outs, cSeq, sq_nx, sq_rt, cIfS_t, cSet, cRet, cRetN, cDrop, cNext, bd_ok, ba_ok, bs_ok, bx_ok, abd_ok, aba_ok, abs_ok, xbx_ok, bbd_ok, lift_some, c1, c2, cN, cB1, cB2, cAnd_t, cOr_t, cIf_t, cK, cV, cVm, cbN, cbD, resolve, caNil, caCons, cTup, cLst, cxNil, cxD, cxS, cCall, ssOf, slotsOf, putBack, dist, S_d, S_l, gAdd, gSub, gNeg, gNot, gLt, gLe, gGt, gGe, gEq_ii, gNe_ii, gIx, gLen, gAbs, gInt, tru_b, gMax2, gMin2, gGcd, gList, gTuple, cSetIx, cApp, cAsg, cgName, cgTup, cgCons, cgNil, cPar, atI_0, atI_1, atI_2, atI_3, ixL_1, ixL_2, ixL_3, List.getElem?_cons_zero, List.getElem?_cons_succ, List.set_cons_zero, List.set_cons_succ, List.map_cons, List.map_nil, List.length_cons, List.length_nil, List.cons_append, List.nil_append, List.replicate_succ, List.replicate_zero, List.length_map, cond_true, cond_false, Option.map_some, beq_self_eq_true, List.contains_cons, List.contains_nil, Bool.or_false, Bool.false_or, Bool.or_true, Bool.and_true, Bool.true_and, Bool.not_true, Bool.not_false, Nat.reduceBEq, Nat.reduceAdd, Nat.reduceSub, Nat.reduceEqDiff, reduceCtorEq, Bool.false_eq_true, ixN_41, ixN_42, ixN_43, gPow, gMul, gFd, gMod, sq_bad, sq_bk, sq_ct, sq_exc, dz0, dz1, dz2, dz3, dz4, dz5, dz6, dz7, dz8, dz9, dz10, dz11, dz12, dz13, dz14, dz15, dz16, ic0, ic1, ic2, ic3, ic4, isi_int_n, isi_int_b, isi_int_i, isi_int_s, isi_int_l, isi_int_t, isi_bool_n, isi_bool_b, isi_bool_i, isi_bool_s, isi_bool_l, isi_bool_t, isi_str_n, isi_str_b, isi_str_i, isi_str_s, isi_str_l, isi_str_t, isi_list_n, isi_list_b, isi_list_i, isi_list_s, isi_list_l, isi_list_t, isi_tuple_n, isi_tuple_b, isi_tuple_i, isi_tuple_s, isi_tuple_l, isi_tuple_t, isi_dict_n, isi_dict_b, isi_dict_i, isi_dict_s, isi_dict_l, isi_dict_t, tAnd_ok, tOr_ok, tIf_ok, tIfS_ok, tAnd_exc, tOr_exc, tIf_exc, tIfS_exc, co_and, co_or, tAnd_cond, tOr_cond, tIfS_cond, bd_cond, ba_cond, bs_cond, bx_cond, sq_cond, fin_cond, gIs_bb, gIsN_bb, rangeL_2, rangeL_3, lcL_nil, lcL_cons, oG_some, tLc_t, tLc_f, tLc_b, eLc_ok, cLc_t, sLc_ok, fLc_ok, gAll, gAny, bools_nil, bools_cons, ciSeq, noOwn, wipeE, restoreE, List.all_cons, List.all_nil, List.any_cons, List.any_nil, id, ciRange1, ciRange2, rng1_t, rng2_t, Int.reduceToNat, if_true, ite_true, if_false, cChain_t, eq_self, decide_true, decide_false, cFor, e]; rfl
    refine (seq_nx (ρ' := ?r3) ?h3).trans ?_
    case h3 => simp (disch := first | with_reducible assumption | ((with_reducible apply Bdx.id); exact Bdx.of (by (repeat' first | with_reducible assumption | apply Bd.mul | apply Bd.sub2 | apply Bd.add2 | apply Bd.neg | exact Bd.lit rfl)) (by decide)) | ((with_reducible apply Sml.id); exact Sml.lit rfl) | fail) only [mkF, fin_nx, fin_rt, fin_exc, outs, cSeq, sq_nx, sq_rt, cIfS_t, cSet, cRet, cRetN, cDrop, cNext, bd_ok, ba_ok, bs_ok, bx_ok, abd_ok, aba_ok, abs_ok, xbx_ok, bbd_ok, lift_some, c1, c2, cN, cB1, cB2, cAnd_t, cOr_t, cIf_t, cK, cV, cVm, cbN, cbD, resolve, caNil, caCons, cTup, cLst, cxNil, cxD, cxS, cCall, ssOf, slotsOf, putBack, dist, S_d, S_l, gAdd, gSub, gNeg, gNot, gLt, gLe, gGt, gGe, gEq_ii, gNe_ii, gIx, gLen, gAbs, gInt, tru_b, gMax2, gMin2, gGcd, gList, gTuple, cSetIx, cApp, cAsg, cgName, cgTup, cgCons, cgNil, cPar, atI_0, atI_1, atI_2, atI_3, ixL_1, ixL_2, ixL_3, List.getElem?_cons_zero, List.getElem?_cons_succ, List.set_cons_zero, List.set_cons_succ, List.map_cons, List.map_nil, List.length_cons, List.length_nil, List.cons_append, List.nil_append, List.replicate_succ, List.replicate_zero, List.length_map, cond_true, cond_false, Option.map_some, beq_self_eq_true, List.contains_cons, List.contains_nil, Bool.or_false, Bool.false_or, Bool.or_true, Bool.and_true, Bool.true_and, Bool.not_true, Bool.not_false, Nat.reduceBEq, Nat.reduceAdd, Nat.reduceSub, Nat.reduceEqDiff, reduceCtorEq, Bool.false_eq_true, ixN_41, ixN_42, ixN_43, gPow, gMul, gFd, gMod, sq_bad, sq_bk, sq_ct, sq_exc, dz0, dz1, dz2, dz3, dz4, dz5, dz6, dz7, dz8, dz9, dz10, dz11, dz12, dz13, dz14, dz15, dz16, ic0, ic1, ic2, ic3, ic4, isi_int_n, isi_int_b, isi_int_i, isi_int_s, isi_int_l, isi_int_t, isi_bool_n, isi_bool_b, isi_bool_i, isi_bool_s, isi_bool_l, isi_bool_t, isi_str_n, isi_str_b, isi_str_i, isi_str_s, isi_str_l, isi_str_t, isi_list_n, isi_list_b, isi_list_i, isi_list_s, isi_list_l, isi_list_t, isi_tuple_n, isi_tuple_b, isi_tuple_i, isi_tuple_s, isi_tuple_l, isi_tuple_t, isi_dict_n, isi_dict_b, isi_dict_i, isi_dict_s, isi_dict_l, isi_dict_t, tAnd_ok, tOr_ok, tIf_ok, tIfS_ok, tAnd_exc, tOr_exc, tIf_exc, tIfS_exc, co_and, co_or, tAnd_cond, tOr_cond, tIfS_cond, bd_cond, ba_cond, bs_cond, bx_cond, sq_cond, fin_cond, gIs_bb, gIsN_bb, rangeL_2, rangeL_3, lcL_nil, lcL_cons, oG_some, tLc_t, tLc_f, tLc_b, eLc_ok, cLc_t, sLc_ok, fLc_ok, gAll, gAny, bools_nil, bools_cons, ciSeq, noOwn, wipeE, restoreE, List.all_cons, List.all_nil, List.any_cons, List.any_nil, id, ciRange1, ciRange2, rng1_t, rng2_t, Int.reduceToNat, if_true, ite_true, if_false, cChain_t, eq_self, decide_true, decide_false, e1]; rfl
    refine (seq_nx (ρ' := ?r4) ?h4).trans ?_
    case h4 => simp (disch := first | with_reducible assumption | ((with_reducible apply Bdx.id); exact Bdx.of (by (repeat' first | with_reducible assumption | apply Bd.mul | apply Bd.sub2 | apply Bd.add2 | apply Bd.neg | exact Bd.lit rfl)) (by decide)) | ((with_reducible apply Sml.id); exact Sml.lit rfl) | fail) only [mkF, fin_nx, fin_rt, fin_exc, outs, cSeq, sq_nx, sq_rt, cIfS_t, cSet, cRet, cRetN, cDrop, cNext, bd_ok, ba_ok, bs_ok, bx_ok, abd_ok, aba_ok, abs_ok, xbx_ok, bbd_ok, lift_some, c1, c2, cN, cB1, cB2, cAnd_t, cOr_t, cIf_t, cK, cV, cVm, cbN, cbD, resolve, caNil, caCons, cTup, cLst, cxNil, cxD, cxS, cCall, ssOf, slotsOf, putBack, dist, S_d, S_l, gAdd, gSub, gNeg, gNot, gLt, gLe, gGt, gGe, gEq_ii, gNe_ii, gIx, gLen, gAbs, gInt, tru_b, gMax2, gMin2, gGcd, gList, gTuple, cSetIx, cApp, cAsg, cgName, cgTup, cgCons, cgNil, cPar, atI_0, atI_1, atI_2, atI_3, ixL_1, ixL_2, ixL_3, List.getElem?_cons_zero, List.getElem?_cons_succ, List.set_cons_zero, List.set_cons_succ, List.map_cons, List.map_nil, List.length_cons, List.length_nil, List.cons_append, List.nil_append, List.replicate_succ, List.replicate_zero, List.length_map, cond_true, cond_false, Option.map_some, beq_self_eq_true, List.contains_cons, List.contains_nil, Bool.or_false, Bool.false_or, Bool.or_true, Bool.and_true, Bool.true_and, Bool.not_true, Bool.not_false, Nat.reduceBEq, Nat.reduceAdd, Nat.reduceSub, Nat.reduceEqDiff, reduceCtorEq, Bool.false_eq_true, ixN_41, ixN_42, ixN_43, gPow, gMul, gFd, gMod, sq_bad, sq_bk, sq_ct, sq_exc, dz0, dz1, dz2, dz3, dz4, dz5, dz6, dz7, dz8, dz9, dz10, dz11, dz12, dz13, dz14, dz15, dz16, ic0, ic1, ic2, ic3, ic4, isi_int_n, isi_int_b, isi_int_i, isi_int_s, isi_int_l, isi_int_t, isi_bool_n, isi_bool_b, isi_bool_i, isi_bool_s, isi_bool_l, isi_bool_t, isi_str_n, isi_str_b, isi_str_i, isi_str_s, isi_str_l, isi_str_t, isi_list_n, isi_list_b, isi_list_i, isi_list_s, isi_list_l, isi_list_t, isi_tuple_n, isi_tuple_b, isi_tuple_i, isi_tuple_s, isi_tuple_l, isi_tuple_t, isi_dict_n, isi_dict_b, isi_dict_i, isi_dict_s, isi_dict_l, isi_dict_t, tAnd_ok, tOr_ok, tIf_ok, tIfS_ok, tAnd_exc, tOr_exc, tIf_exc, tIfS_exc, co_and, co_or, tAnd_cond, tOr_cond, tIfS_cond, bd_cond, ba_cond, bs_cond, bx_cond, sq_cond, fin_cond, gIs_bb, gIsN_bb, rangeL_2, rangeL_3, lcL_nil, lcL_cons, oG_some, tLc_t, tLc_f, tLc_b, eLc_ok, cLc_t, sLc_ok, fLc_ok, gAll, gAny, bools_nil, bools_cons, ciSeq, noOwn, wipeE, restoreE, List.all_cons, List.all_nil, List.any_cons, List.any_nil, id, ciRange1, ciRange2, rng1_t, rng2_t, Int.reduceToNat, if_true, ite_true, if_false, cChain_t, eq_self, decide_true, decide_false, cn, point_n, eqv_n]; rfl
    refine (seq_nx (ρ' := ?r5) ?h5).trans ?_
    case h5 => simp (disch := first | with_reducible assumption | ((with_reducible apply Bdx.id); exact Bdx.of (by (repeat' first | with_reducible assumption | apply Bd.mul | apply Bd.sub2 | apply Bd.add2 | apply Bd.neg | exact Bd.lit rfl)) (by decide)) | ((with_reducible apply Sml.id); exact Sml.lit rfl) | fail) only [mkF, fin_nx, fin_rt, fin_exc, outs, cSeq, sq_nx, sq_rt, cIfS_t, cSet, cRet, cRetN, cDrop, cNext, bd_ok, ba_ok, bs_ok, bx_ok, abd_ok, aba_ok, abs_ok, xbx_ok, bbd_ok, lift_some, c1, c2, cN, cB1, cB2, cAnd_t, cOr_t, cIf_t, cK, cV, cVm, cbN, cbD, resolve, caNil, caCons, cTup, cLst, cxNil, cxD, cxS, cCall, ssOf, slotsOf, putBack, dist, S_d, S_l, gAdd, gSub, gNeg, gNot, gLt, gLe, gGt, gGe, gEq_ii, gNe_ii, gIx, gLen, gAbs, gInt, tru_b, gMax2, gMin2, gGcd, gList, gTuple, cSetIx, cApp, cAsg, cgName, cgTup, cgCons, cgNil, cPar, atI_0, atI_1, atI_2, atI_3, ixL_1, ixL_2, ixL_3, List.getElem?_cons_zero, List.getElem?_cons_succ, List.set_cons_zero, List.set_cons_succ, List.map_cons, List.map_nil, List.length_cons, List.length_nil, List.cons_append, List.nil_append, List.replicate_succ, List.replicate_zero, List.length_map, cond_true, cond_false, Option.map_some, beq_self_eq_true, List.contains_cons, List.contains_nil, Bool.or_false, Bool.false_or, Bool.or_true, Bool.and_true, Bool.true_and, Bool.not_true, Bool.not_false, Nat.reduceBEq, Nat.reduceAdd, Nat.reduceSub, Nat.reduceEqDiff, reduceCtorEq, Bool.false_eq_true, ixN_41, ixN_42, ixN_43, gPow, gMul, gFd, gMod, sq_bad, sq_bk, sq_ct, sq_exc, dz0, dz1, dz2, dz3, dz4, dz5, dz6, dz7, dz8, dz9, dz10, dz11, dz12, dz13, dz14, dz15, dz16, ic0, ic1, ic2, ic3, ic4, isi_int_n, isi_int_b, isi_int_i, isi_int_s, isi_int_l, isi_int_t, isi_bool_n, isi_bool_b, isi_bool_i, isi_bool_s, isi_bool_l, isi_bool_t, isi_str_n, isi_str_b, isi_str_i, isi_str_s, isi_str_l, isi_str_t, isi_list_n, isi_list_b, isi_list_i, isi_list_s, isi_list_l, isi_list_t, isi_tuple_n, isi_tuple_b, isi_tuple_i, isi_tuple_s, isi_tuple_l, isi_tuple_t, isi_dict_n, isi_dict_b, isi_dict_i, isi_dict_s, isi_dict_l, isi_dict_t, tAnd_ok, tOr_ok, tIf_ok, tIfS_ok, tAnd_exc, tOr_exc, tIf_exc, tIfS_exc, co_and, co_or, tAnd_cond, tOr_cond, tIfS_cond, bd_cond, ba_cond, bs_cond, bx_cond, sq_cond, fin_cond, gIs_bb, gIsN_bb, rangeL_2, rangeL_3, lcL_nil, lcL_cons, oG_some, tLc_t, tLc_f, tLc_b, eLc_ok, cLc_t, sLc_ok, fLc_ok, gAll, gAny, bools_nil, bools_cons, ciSeq, noOwn, wipeE, restoreE, List.all_cons, List.all_nil, List.any_cons, List.any_nil, id, ciRange1, ciRange2, rng1_t, rng2_t, Int.reduceToNat, if_true, ite_true, if_false, cChain_t, eq_self, decide_true, decide_false]; rfl
    refine (seq_nx (ρ' := ?r6) ?h6).trans ?_
    case h6 =>
      obtain ⟨x', e6⟩ := any12 (F := F_is_corner) (f := fun _ => false) (a := some (.dat (.list (ns.map .int)))) (b := some (.lst l1)) (c := x2) (d := x3) (e := x4) (v5 := x5) (v6 := x6) (v7 := x7) (v8 := some (.dat (.int (n - 10000)))) (v9 := some (.dat (.list [.tuple [.int 10001, .int 0], .tuple [.int 0, .int (-10001)], .tuple [.int 0], .tuple [.int 0, .int 0, .int 0], .list [.int 0, .int 0], .tuple [.bool true, .int 0], .tuple [.int 0, .str ("0" : Str)], .none, .int 5]))) (k := none) [.tuple [.int 10001, .int 0], .tuple [.int 0, .int (-10001)], .tuple [.int 0], .tuple [.int 0, .int 0, .int 0], .list [.int 0, .int 0], .tuple [.bool true, .int 0], .tuple [.int 0, .str ("0" : Str)], .none, .int 5] [] none (by
        intro z hz
        simp only [List.mem_cons, List.not_mem_nil, or_false] at hz
        rcases hz with rfl | rfl | rfl | rfl | rfl | rfl | rfl | rfl | rfl
        · exact bad_1
        · exact bad_2
        · exact bad_3
        · exact bad_4
        · exact bad_5
        · exact bad_6
        · exact bad_7
        · exact bad_8
        · exact bad_9) (by simp)
      simp (disch := first | with_reducible assumption | ((with_reducible apply Bdx.id); exact Bdx.of (by (repeat' first | with_reducible assumption | apply Bd.mul | apply Bd.sub2 | apply Bd.add2 | apply Bd.neg | exact Bd.lit rfl)) (by decide)) | ((with_reducible apply Sml.id); exact Sml.lit rfl) | fail) only [mkF, fin_nx, fin_rt, fin_exc, outs, cSeq, sq_nx, sq_rt, cIfS_t, cSet, cRet, cRetN, cDrop, cNext, bd_ok, ba_ok, bs_ok, bx_ok, abd_ok, aba_ok, abs_ok, xbx_ok, bbd_ok, lift_some, c1, c2, cN, cB1, cB2, cAnd_t, cOr_t, cIf_t, cK, cV, cVm, cbN, cbD, resolve, caNil, caCons, cTup, cLst, cxNil, cxD, cxS, cCall, ssOf, slotsOf, putBack, dist, S_d, S_l, gAdd, gSub, gNeg, gNot, gLt, gLe, gGt, gGe, gEq_ii, gNe_ii, gIx, gLen, gAbs, gInt, tru_b, gMax2, gMin2, gGcd, gList, gTuple, cSetIx, cApp, cAsg, cgName, cgTup, cgCons, cgNil, cPar, atI_0, atI_1, atI_2, atI_3, ixL_1, ixL_2, ixL_3, List.getElem?_cons_zero, List.getElem?_cons_succ, List.set_cons_zero, List.set_cons_succ, List.map_cons, List.map_nil, List.length_cons, List.length_nil, List.cons_append, List.nil_append, List.replicate_succ, List.replicate_zero, List.length_map, cond_true, cond_false, Option.map_some, beq_self_eq_true, List.contains_cons, List.contains_nil, Bool.or_false, Bool.false_or, Bool.or_true, Bool.and_true, Bool.true_and, Bool.not_true, Bool.not_false, Nat.reduceBEq, Nat.reduceAdd, Nat.reduceSub, Nat.reduceEqDiff, reduceCtorEq, Bool.false_eq_true, ixN_41, ixN_42, ixN_43, gPow, gMul, gFd, gMod, sq_bad, sq_bk, sq_ct, sq_exc, dz0, dz1, dz2, dz3, dz4, dz5, dz6, dz7, dz8, dz9, dz10, dz11, dz12, dz13, dz14, dz15, dz16, ic0, ic1, ic2, ic3, ic4, isi_int_n, isi_int_b, isi_int_i, isi_int_s, isi_int_l, isi_int_t, isi_bool_n, isi_bool_b, isi_bool_i, isi_bool_s, isi_bool_l, isi_bool_t, isi_str_n, isi_str_b, isi_str_i, isi_str_s, isi_str_l, isi_str_t, isi_list_n, isi_list_b, isi_list_i, isi_list_s, isi_list_l, isi_list_t, isi_tuple_n, isi_tuple_b, isi_tuple_i, isi_tuple_s, isi_tuple_l, isi_tuple_t, isi_dict_n, isi_dict_b, isi_dict_i, isi_dict_s, isi_dict_l, isi_dict_t, tAnd_ok, tOr_ok, tIf_ok, tIfS_ok, tAnd_exc, tOr_exc, tIf_exc, tIfS_exc, co_and, co_or, tAnd_cond, tOr_cond, tIfS_cond, bd_cond, ba_cond, bs_cond, bx_cond, sq_cond, fin_cond, gIs_bb, gIsN_bb, rangeL_2, rangeL_3, oG_some, tLc_t, tLc_f, tLc_b, eLc_ok, cLc_t, sLc_ok, fLc_ok, gAll, gAny, bools_nil, bools_cons, ciSeq, noOwn, wipeE, restoreE, List.all_cons, List.all_nil, List.any_cons, List.any_nil, id, ciRange1, ciRange2, rng1_t, rng2_t, Int.reduceToNat, if_true, ite_true, if_false, cChain_t, eq_self, decide_true, decide_false, e6, name_0]
      rfl
    obtain ⟨x', e7⟩ := any12 (F := F_is_name) (f := fun _ => false) (a := some (.dat (.list (ns.map .int)))) (b := some (.lst l1)) (c := x2) (d := x3) (e := x4) (v5 := x5) (v6 := x6) (v7 := x7) (v8 := some (.dat (.int (n - 10000)))) (v9 := some (.dat (.list [.tuple [.int 10001, .int 0], .tuple [.int 0, .int (-10001)], .tuple [.int 0], .tuple [.int 0, .int 0, .int 0], .list [.int 0, .int 0], .tuple [.bool true, .int 0], .tuple [.int 0, .str ("0" : Str)], .none, .int 5]))) (k := none) [.str ("" : Str), .str ("abcdefghijklm" : Str), .str ("A" : Str), .str ("a1" : Str), .str ("a b" : Str), .int 5, .none, .tuple [.str ("a" : Str)]] [] none (by
        intro z hz
        simp only [List.mem_cons, List.not_mem_nil, or_false] at hz
        rcases hz with rfl | rfl | rfl | rfl | rfl | rfl | rfl | rfl
        · exact name_1
        · exact name_2
        · exact name_3
        · exact name_4
        · exact name_5
        · exact name_6
        · exact name_7
        · exact name_8) (by simp)
    simp (disch := first | with_reducible assumption | ((with_reducible apply Bdx.id); exact Bdx.of (by (repeat' first | with_reducible assumption | apply Bd.mul | apply Bd.sub2 | apply Bd.add2 | apply Bd.neg | exact Bd.lit rfl)) (by decide)) | ((with_reducible apply Sml.id); exact Sml.lit rfl) | fail) only [mkF, fin_nx, fin_rt, fin_exc, outs, cSeq, sq_nx, sq_rt, cIfS_t, cSet, cRet, cRetN, cDrop, cNext, bd_ok, ba_ok, bs_ok, bx_ok, abd_ok, aba_ok, abs_ok, xbx_ok, bbd_ok, lift_some, c1, c2, cN, cB1, cB2, cAnd_t, cOr_t, cIf_t, cK, cV, cVm, cbN, cbD, resolve, caNil, caCons, cTup, cLst, cxNil, cxD, cxS, cCall, ssOf, slotsOf, putBack, dist, S_d, S_l, gAdd, gSub, gNeg, gNot, gLt, gLe, gGt, gGe, gEq_ii, gNe_ii, gIx, gLen, gAbs, gInt, tru_b, gMax2, gMin2, gGcd, gList, gTuple, cSetIx, cApp, cAsg, cgName, cgTup, cgCons, cgNil, cPar, atI_0, atI_1, atI_2, atI_3, ixL_1, ixL_2, ixL_3, List.getElem?_cons_zero, List.getElem?_cons_succ, List.set_cons_zero, List.set_cons_succ, List.map_cons, List.map_nil, List.length_cons, List.length_nil, List.cons_append, List.nil_append, List.replicate_succ, List.replicate_zero, List.length_map, cond_true, cond_false, Option.map_some, beq_self_eq_true, List.contains_cons, List.contains_nil, Bool.or_false, Bool.false_or, Bool.or_true, Bool.and_true, Bool.true_and, Bool.not_true, Bool.not_false, Nat.reduceBEq, Nat.reduceAdd, Nat.reduceSub, Nat.reduceEqDiff, reduceCtorEq, Bool.false_eq_true, ixN_41, ixN_42, ixN_43, gPow, gMul, gFd, gMod, sq_bad, sq_bk, sq_ct, sq_exc, dz0, dz1, dz2, dz3, dz4, dz5, dz6, dz7, dz8, dz9, dz10, dz11, dz12, dz13, dz14, dz15, dz16, ic0, ic1, ic2, ic3, ic4, isi_int_n, isi_int_b, isi_int_i, isi_int_s, isi_int_l, isi_int_t, isi_bool_n, isi_bool_b, isi_bool_i, isi_bool_s, isi_bool_l, isi_bool_t, isi_str_n, isi_str_b, isi_str_i, isi_str_s, isi_str_l, isi_str_t, isi_list_n, isi_list_b, isi_list_i, isi_list_s, isi_list_l, isi_list_t, isi_tuple_n, isi_tuple_b, isi_tuple_i, isi_tuple_s, isi_tuple_l, isi_tuple_t, isi_dict_n, isi_dict_b, isi_dict_i, isi_dict_s, isi_dict_l, isi_dict_t, tAnd_ok, tOr_ok, tIf_ok, tIfS_ok, tAnd_exc, tOr_exc, tIf_exc, tIfS_exc, co_and, co_or, tAnd_cond, tOr_cond, tIfS_cond, bd_cond, ba_cond, bs_cond, bx_cond, sq_cond, fin_cond, gIs_bb, gIsN_bb, rangeL_2, rangeL_3, oG_some, tLc_t, tLc_f, tLc_b, eLc_ok, cLc_t, sLc_ok, fLc_ok, gAll, gAny, bools_nil, bools_cons, ciSeq, noOwn, wipeE, restoreE, List.all_cons, List.all_nil, List.any_cons, List.any_nil, id, ciRange1, ciRange2, rng1_t, rng2_t, Int.reduceToNat, if_true, ite_true, if_false, cChain_t, eq_self, decide_true, decide_false, e7]
    rfl
  obtain ⟨ρ', ek⟩ := key
  unfold F_law
  simp only [mkF, List.map_cons, List.map_nil, List.cons_append, List.nil_append, List.length_cons, List.length_nil, Nat.reduceAdd, Nat.reduceSub, List.replicate_succ, List.replicate_zero, beq_self_eq_true, cond_true, Nat.reduceBEq, ek, fin_rt, outs, List.contains_nil, cond_false]
  exact ⟨_, rfl⟩
end Z
set_option maxHeartbeats 4000000
namespace Z
open PySem PySem.Spec PyProof.Rows L2
section
end
/-! ### what the top has written -/
theorem all_mk {l : PySem.W.OpenLaw} {w : World} {K : PySem.W.Frag} {h : Heap} {mg : Str → Option Value} {fa f0 f1 f2 f3 f4 f5 f6 f7 f8 f9 f10 f11 f12 f13 f14 f15 f16 f17 f18 f19 : Addr} (X : K.In h) (G : h.Ns mainGlobals mg) (hfa : mg "law" = some (.ref fa))
    {od0 an0 od1 an1 od2 an2 od3 an3 od4 an4 od5 an5 od6 an6 od7 an7 od8 an8 od9 an9 od10 an10 od11 an11 od12 an12 od13 an13 od14 an14 od15 an15 od16 an16 od17 an17 od18 an18 od19 an19 : Option Addr} {sl0 sl1 sl2 sl3 sl4 sl5 sl6 sl7 sl8 sl9 sl10 sl11 sl12 sl13 sl14 sl15 sl16 sl17 sl18 sl19 : Array (Option Value)} {oc0 kV0 dc0 pm0 cd0 ct0 oc1 kV1 dc1 pm1 cd1 ct1 oc2 kV2 dc2 pm2 cd2 ct2 oc3 kV3 dc3 pm3 cd3 ct3 oc4 kV4 dc4 pm4 cd4 ct4 oc5 kV5 dc5 pm5 cd5 ct5 oc6 kV6 dc6 pm6 cd6 ct6 oc7 kV7 dc7 pm7 cd7 ct7 oc8 kV8 dc8 pm8 cd8 ct8 oc9 kV9 dc9 pm9 cd9 ct9 oc10 kV10 dc10 pm10 cd10 ct10 oc11 kV11 dc11 pm11 cd11 ct11 oc12 kV12 dc12 pm12 cd12 ct12 oc13 kV13 dc13 pm13 cd13 ct13 oc14 kV14 dc14 pm14 cd14 ct14 oc15 kV15 dc15 pm15 cd15 ct15 oc16 kV16 dc16 pm16 cd16 ct16 oc17 kV17 dc17 pm17 cd17 ct17 oc18 kV18 dc18 pm18 cd18 ct18 oc19 kV19 dc19 pm19 cd19 ct19 : Value}
    (a0 : PySem.W.nsIn K mainGlobals "is_less" = some (some (.ref f0))) (l0 : K.lookup f0 = some ⟨oc0, od0, .func (PySem.W.fnOf "is_less" "is_less" (defArgs s_is_less) (defBody s_is_less) (defScope s_is_less) .none kV0 dc0 pm0 an0 cd0 ct0), sl0⟩) (c0 : PySem.W.codeIn K cd0 "is_less" = true) (k0 : PySem.W.keepIn K (.ref f0) = true)
    (a1 : PySem.W.nsIn K mainGlobals "is_name" = some (some (.ref f1))) (l1 : K.lookup f1 = some ⟨oc1, od1, .func (PySem.W.fnOf "is_name" "is_name" (defArgs s_is_name) (defBody s_is_name) (defScope s_is_name) .none kV1 dc1 pm1 an1 cd1 ct1), sl1⟩) (c1 : PySem.W.codeIn K cd1 "is_name" = true) (k1 : PySem.W.keepIn K (.ref f1) = true)
    (a2 : PySem.W.nsIn K mainGlobals "is_number" = some (some (.ref f2))) (l2 : K.lookup f2 = some ⟨oc2, od2, .func (PySem.W.fnOf "is_number" "is_number" (defArgs s_is_number) (defBody s_is_number) (defScope s_is_number) .none kV2 dc2 pm2 an2 cd2 ct2), sl2⟩) (c2 : PySem.W.codeIn K cd2 "is_number" = true) (k2 : PySem.W.keepIn K (.ref f2) = true)
    (a3 : PySem.W.nsIn K mainGlobals "is_corner_within" = some (some (.ref f3))) (l3 : K.lookup f3 = some ⟨oc3, od3, .func (PySem.W.fnOf "is_corner_within" "is_corner_within" (defArgs s_is_corner_within) (defBody s_is_corner_within) (defScope s_is_corner_within) .none kV3 dc3 pm3 an3 cd3 ct3), sl3⟩) (c3 : PySem.W.codeIn K cd3 "is_corner_within" = true) (k3 : PySem.W.keepIn K (.ref f3) = true)
    (a4 : PySem.W.nsIn K mainGlobals "is_corner" = some (some (.ref f4))) (l4 : K.lookup f4 = some ⟨oc4, od4, .func (PySem.W.fnOf "is_corner" "is_corner" (defArgs s_is_corner) (defBody s_is_corner) (defScope s_is_corner) .none kV4 dc4 pm4 an4 cd4 ct4), sl4⟩) (c4 : PySem.W.codeIn K cd4 "is_corner" = true) (k4 : PySem.W.keepIn K (.ref f4) = true)
    (a5 : PySem.W.nsIn K mainGlobals "point" = some (some (.ref f5))) (l5 : K.lookup f5 = some ⟨oc5, od5, .func (PySem.W.fnOf "point" "point" (defArgs s_point) (defBody s_point) (defScope s_point) .none kV5 dc5 pm5 an5 cd5 ct5), sl5⟩) (c5 : PySem.W.codeIn K cd5 "point" = true) (k5 : PySem.W.keepIn K (.ref f5) = true)
    (a6 : PySem.W.nsIn K mainGlobals "scaled" = some (some (.ref f6))) (l6 : K.lookup f6 = some ⟨oc6, od6, .func (PySem.W.fnOf "scaled" "scaled" (defArgs s_scaled) (defBody s_scaled) (defScope s_scaled) .none kV6 dc6 pm6 an6 cd6 ct6), sl6⟩) (c6 : PySem.W.codeIn K cd6 "scaled" = true) (k6 : PySem.W.keepIn K (.ref f6) = true)
    (a7 : PySem.W.nsIn K mainGlobals "turn" = some (some (.ref f7))) (l7 : K.lookup f7 = some ⟨oc7, od7, .func (PySem.W.fnOf "turn" "turn" (defArgs s_turn) (defBody s_turn) (defScope s_turn) .none kV7 dc7 pm7 an7 cd7 ct7), sl7⟩) (c7 : PySem.W.codeIn K cd7 "turn" = true) (k7 : PySem.W.keepIn K (.ref f7) = true)
    (a8 : PySem.W.nsIn K mainGlobals "is_between" = some (some (.ref f8))) (l8 : K.lookup f8 = some ⟨oc8, od8, .func (PySem.W.fnOf "is_between" "is_between" (defArgs s_is_between) (defBody s_is_between) (defScope s_is_between) .none kV8 dc8 pm8 an8 cd8 ct8), sl8⟩) (c8 : PySem.W.codeIn K cd8 "is_between" = true) (k8 : PySem.W.keepIn K (.ref f8) = true)
    (a9 : PySem.W.nsIn K mainGlobals "on_segment" = some (some (.ref f9))) (l9 : K.lookup f9 = some ⟨oc9, od9, .func (PySem.W.fnOf "on_segment" "on_segment" (defArgs s_on_segment) (defBody s_on_segment) (defScope s_on_segment) .none kV9 dc9 pm9 an9 cd9 ct9), sl9⟩) (c9 : PySem.W.codeIn K cd9 "on_segment" = true) (k9 : PySem.W.keepIn K (.ref f9) = true)
    (a10 : PySem.W.nsIn K mainGlobals "_law_pot" = some (some (.ref f10))) (l10 : K.lookup f10 = some ⟨oc10, od10, .func (PySem.W.fnOf "_law_pot" "_law_pot" (defArgs s_u_law_pot) (defBody s_u_law_pot) (defScope s_u_law_pot) .none kV10 dc10 pm10 an10 cd10 ct10), sl10⟩) (c10 : PySem.W.codeIn K cd10 "_law_pot" = true) (k10 : PySem.W.keepIn K (.ref f10) = true)
    (a11 : PySem.W.nsIn K mainGlobals "_law_next" = some (some (.ref f11))) (l11 : K.lookup f11 = some ⟨oc11, od11, .func (PySem.W.fnOf "_law_next" "_law_next" (defArgs s_u_law_next) (defBody s_u_law_next) (defScope s_u_law_next) .none kV11 dc11 pm11 an11 cd11 ct11), sl11⟩) (c11 : PySem.W.codeIn K cd11 "_law_next" = true) (k11 : PySem.W.keepIn K (.ref f11) = true)
    (a12 : PySem.W.nsIn K mainGlobals "_law_is_int" = some (some (.ref f12))) (l12 : K.lookup f12 = some ⟨oc12, od12, .func (PySem.W.fnOf "_law_is_int" "_law_is_int" (defArgs s_u_law_is_int) (defBody s_u_law_is_int) (defScope s_u_law_is_int) .none kV12 dc12 pm12 an12 cd12 ct12), sl12⟩) (c12 : PySem.W.codeIn K cd12 "_law_is_int" = true) (k12 : PySem.W.keepIn K (.ref f12) = true)
    (a13 : PySem.W.nsIn K mainGlobals "_law_same" = some (some (.ref f13))) (l13 : K.lookup f13 = some ⟨oc13, od13, .func (PySem.W.fnOf "_law_same" "_law_same" (defArgs s_u_law_same) (defBody s_u_law_same) (defScope s_u_law_same) .none kV13 dc13 pm13 an13 cd13 ct13), sl13⟩) (c13 : PySem.W.codeIn K cd13 "_law_same" = true) (k13 : PySem.W.keepIn K (.ref f13) = true)
    (a14 : PySem.W.nsIn K mainGlobals "_law_gcd" = some (some (.ref f14))) (l14 : K.lookup f14 = some ⟨oc14, od14, .func (PySem.W.fnOf "_law_gcd" "_law_gcd" (defArgs s_u_law_gcd) (defBody s_u_law_gcd) (defScope s_u_law_gcd) .none kV14 dc14 pm14 an14 cd14 ct14), sl14⟩) (c14 : PySem.W.codeIn K cd14 "_law_gcd" = true) (k14 : PySem.W.keepIn K (.ref f14) = true)
    (a15 : PySem.W.nsIn K mainGlobals "_law_low" = some (some (.ref f15))) (l15 : K.lookup f15 = some ⟨oc15, od15, .func (PySem.W.fnOf "_law_low" "_law_low" (defArgs s_u_law_low) (defBody s_u_law_low) (defScope s_u_law_low) .none kV15 dc15 pm15 an15 cd15 ct15), sl15⟩) (c15 : PySem.W.codeIn K cd15 "_law_low" = true) (k15 : PySem.W.keepIn K (.ref f15) = true)
    (a16 : PySem.W.nsIn K mainGlobals "_law_number" = some (some (.ref f16))) (l16 : K.lookup f16 = some ⟨oc16, od16, .func (PySem.W.fnOf "_law_number" "_law_number" (defArgs s_u_law_number) (defBody s_u_law_number) (defScope s_u_law_number) .none kV16 dc16 pm16 an16 cd16 ct16), sl16⟩) (c16 : PySem.W.codeIn K cd16 "_law_number" = true) (k16 : PySem.W.keepIn K (.ref f16) = true)
    (a17 : PySem.W.nsIn K mainGlobals "_law_cross" = some (some (.ref f17))) (l17 : K.lookup f17 = some ⟨oc17, od17, .func (PySem.W.fnOf "_law_cross" "_law_cross" (defArgs s_u_law_cross) (defBody s_u_law_cross) (defScope s_u_law_cross) .none kV17 dc17 pm17 an17 cd17 ct17), sl17⟩) (c17 : PySem.W.codeIn K cd17 "_law_cross" = true) (k17 : PySem.W.keepIn K (.ref f17) = true)
    (a18 : PySem.W.nsIn K mainGlobals "_law_between" = some (some (.ref f18))) (l18 : K.lookup f18 = some ⟨oc18, od18, .func (PySem.W.fnOf "_law_between" "_law_between" (defArgs s_u_law_between) (defBody s_u_law_between) (defScope s_u_law_between) .none kV18 dc18 pm18 an18 cd18 ct18), sl18⟩) (c18 : PySem.W.codeIn K cd18 "_law_between" = true) (k18 : PySem.W.keepIn K (.ref f18) = true)
    (a19 : PySem.W.nsIn K mainGlobals "law" = some (some (.ref f19))) (l19 : K.lookup f19 = some ⟨oc19, od19, .func (PySem.W.fnOf "law" "law" (defArgs s_law) (defBody s_law) (defScope s_law) .none kV19 dc19 pm19 an19 cd19 ct19), sl19⟩) (c19 : PySem.W.codeIn K cd19 "law" = true) (k19 : PySem.W.keepIn K (.ref f19) = true)
    (z_abs : PySem.W.nsIn K mainGlobals "abs" = some none)
    (z_all : PySem.W.nsIn K mainGlobals "all" = some none)
    (z_any : PySem.W.nsIn K mainGlobals "any" = some none)
    (z_bool : PySem.W.nsIn K mainGlobals "bool" = some none)
    (z_int : PySem.W.nsIn K mainGlobals "int" = some none)
    (z_isinstance : PySem.W.nsIn K mainGlobals "isinstance" = some none)
    (z_len : PySem.W.nsIn K mainGlobals "len" = some none)
    (z_list : PySem.W.nsIn K mainGlobals "list" = some none)
    (z_range : PySem.W.nsIn K mainGlobals "range" = some none)
    (z_str : PySem.W.nsIn K mainGlobals "str" = some none)
    (z_tuple : PySem.W.nsIn K mainGlobals "tuple" = some none)
    {t_FARTHEST : Tok} (m_FARTHEST : PySem.W.nsIn K mainGlobals "FARTHEST" = some (some (.int 10000 t_FARTHEST)))
    {t_MOST_SIGNS : Tok} (m_MOST_SIGNS : PySem.W.nsIn K mainGlobals "MOST_SIGNS" = some (some (.int 12 t_MOST_SIGNS)))
    {t_SMALL_LETTERS : Tok} (m_SMALL_LETTERS : PySem.W.nsIn K mainGlobals "SMALL_LETTERS" = some (some (.str ("abcdefghijklmnopqrstuvwxyz" : Str) t_SMALL_LETTERS))) :
    ∃ fd : FuncData, (∀ (s : Shared) (v : Value), BindsTo s fd ⟨[v], []⟩ [("_law_script", v)]) ∧ ∀ base : Heap, K.In base → base.Ns mainGlobals mg → FnOk l.prog w K mg base (L2.CX l.prog w) 11 fa fd ["_law_script"] (spLaw K) := by
  have e := hfa.symm.trans (PySem.W.mg_of X G a19)
  cases e
  have T : Tx K mg := ⟨PySem.W.mg_none_of X G z_abs, PySem.W.mg_none_of X G z_all, PySem.W.mg_none_of X G z_any, PySem.W.mg_none_of X G z_bool, PySem.W.mg_none_of X G z_int, PySem.W.mg_none_of X G z_isinstance, PySem.W.mg_none_of X G z_len, PySem.W.mg_none_of X G z_list, PySem.W.mg_none_of X G z_range, PySem.W.mg_none_of X G z_str, PySem.W.mg_none_of X G z_tuple, const_int (PySem.W.mg_of X G m_FARTHEST), const_int (PySem.W.mg_of X G m_MOST_SIGNS), const_str (PySem.W.mg_of X G m_SMALL_LETTERS)⟩
  have U0 := fun_mk (st := s_is_less) l0 c0 k0
  have b0 := U0.binds (ps := ["a", "b"]) fun _ _ _ _ _ _ us hl => match us, hl with | [_, _], _ => rfl
  have U1 := fun_mk (st := s_is_name) l1 c1 k1
  have b1 := U1.binds (ps := ["thing"]) fun _ _ _ _ _ _ us hl => match us, hl with | [_], _ => rfl
  have U2 := fun_mk (st := s_is_number) l2 c2 k2
  have b2 := U2.binds (ps := ["thing"]) fun _ _ _ _ _ _ us hl => match us, hl with | [_], _ => rfl
  have U3 := fun_mk (st := s_is_corner_within) l3 c3 k3
  have b3 := U3.binds (ps := ["thing", "least", "most"]) fun _ _ _ _ _ _ us hl => match us, hl with | [_, _, _], _ => rfl
  have U4 := fun_mk (st := s_is_corner) l4 c4 k4
  have b4 := U4.binds (ps := ["thing"]) fun _ _ _ _ _ _ us hl => match us, hl with | [_], _ => rfl
  have U5 := fun_mk (st := s_point) l5 c5 k5
  have b5 := U5.binds (ps := ["corner"]) fun _ _ _ _ _ _ us hl => match us, hl with | [_], _ => rfl
  have U6 := fun_mk (st := s_scaled) l6 c6 k6
  have b6 := U6.binds (ps := ["p"]) fun _ _ _ _ _ _ us hl => match us, hl with | [_], _ => rfl
  have U7 := fun_mk (st := s_turn) l7 c7 k7
  have b7 := U7.binds (ps := ["p", "q", "r"]) fun _ _ _ _ _ _ us hl => match us, hl with | [_, _, _], _ => rfl
  have U8 := fun_mk (st := s_is_between) l8 c8 k8
  have b8 := U8.binds (ps := ["a", "b", "c"]) fun _ _ _ _ _ _ us hl => match us, hl with | [_, _, _], _ => rfl
  have U9 := fun_mk (st := s_on_segment) l9 c9 k9
  have b9 := U9.binds (ps := ["p", "a", "b"]) fun _ _ _ _ _ _ us hl => match us, hl with | [_, _, _], _ => rfl
  have U10 := fun_mk (st := s_u_law_pot) l10 c10 k10
  have b10 := U10.binds (ps := ["_law_script"]) fun _ _ _ _ _ _ us hl => match us, hl with | [_], _ => rfl
  have U11 := fun_mk (st := s_u_law_next) l11 c11 k11
  have b11 := U11.binds (ps := ["_law_pot_here", "_law_limit"]) fun _ _ _ _ _ _ us hl => match us, hl with | [_, _], _ => rfl
  have U12 := fun_mk (st := s_u_law_is_int) l12 c12 k12
  have b12 := U12.binds (ps := ["_law_value"]) fun _ _ _ _ _ _ us hl => match us, hl with | [_], _ => rfl
  have U13 := fun_mk (st := s_u_law_same) l13 c13 k13
  have b13 := U13.binds (ps := ["_law_found", "_law_value"]) fun _ _ _ _ _ _ us hl => match us, hl with | [_, _], _ => rfl
  have U14 := fun_mk (st := s_u_law_gcd) l14 c14 k14
  have b14 := U14.binds (ps := ["_law_a", "_law_b"]) fun _ _ _ _ _ _ us hl => match us, hl with | [_, _], _ => rfl
  have U15 := fun_mk (st := s_u_law_low) l15 c15 k15
  have b15 := U15.binds (ps := ["_law_n", "_law_d"]) fun _ _ _ _ _ _ us hl => match us, hl with | [_, _], _ => rfl
  have U16 := fun_mk (st := s_u_law_number) l16 c16 k16
  have b16 := U16.binds (ps := ["_law_pot_here"]) fun _ _ _ _ _ _ us hl => match us, hl with | [_], _ => rfl
  have U17 := fun_mk (st := s_u_law_cross) l17 c17 k17
  have b17 := U17.binds (ps := ["_law_p", "_law_q", "_law_r"]) fun _ _ _ _ _ _ us hl => match us, hl with | [_, _, _], _ => rfl
  have U18 := fun_mk (st := s_u_law_between) l18 c18 k18
  have b18 := U18.binds (ps := ["_law_a", "_law_b", "_law_c"]) fun _ _ _ _ _ _ us hl => match us, hl with | [_, _, _], _ => rfl
  have U19 := fun_mk (st := s_law) l19 c19 k19
  have b19 := U19.binds (ps := ["_law_script"]) fun _ _ _ _ _ _ us hl => match us, hl with | [_], _ => rfl
  refine ⟨PySem.W.fnOf "law" "law" (defArgs s_law) (defBody s_law) (defScope s_law) .none kV19 dc19 pm19 an19 cd19 ct19, fun s v => .of_eq rfl, fun base _ _ => ?_⟩
  have G0 := ok_is_less (P := l.prog) (w := w) (base := base) (xc := fun _ => .none) T  U0 (PySem.W.mg_of X G a0) b0
  have G1 := ok_is_name (P := l.prog) (w := w) (base := base) (xc := fun _ => .none) T  U1 (PySem.W.mg_of X G a1) b1
  have G2 := ok_is_number (P := l.prog) (w := w) (base := base) (xc := fun _ => .none) T  U2 (PySem.W.mg_of X G a2) b2
  have G3 := ok_is_corner_within (P := l.prog) (w := w) (base := base) (xc := fun _ => .none) T G2 U3 (PySem.W.mg_of X G a3) b3
  have G4 := ok_is_corner (P := l.prog) (w := w) (base := base) (xc := fun _ => .none) T G3 U4 (PySem.W.mg_of X G a4) b4
  have G5 := ok_point (P := l.prog) (w := w) (base := base) (xc := fun _ => .none) T  U5 (PySem.W.mg_of X G a5) b5
  have G6 := ok_scaled (P := l.prog) (w := w) (base := base) (xc := fun _ => .none) T  U6 (PySem.W.mg_of X G a6) b6
  have G7 := ok_turn (P := l.prog) (w := w) (base := base) (xc := fun _ => .none) T G6 U7 (PySem.W.mg_of X G a7) b7
  have G8 := ok_is_between (P := l.prog) (w := w) (base := base) (xc := fun _ => .none) T G0 U8 (PySem.W.mg_of X G a8) b8
  have G9 := ok_on_segment (P := l.prog) (w := w) (base := base) (xc := fun _ => .none) T G8 G7 U9 (PySem.W.mg_of X G a9) b9
  have G10 := ok_u_law_pot (P := l.prog) (w := w) (base := base) (xc := fun _ => .none) T  U10 (PySem.W.mg_of X G a10) b10
  have G11 := ok_u_law_next (P := l.prog) (w := w) (base := base) (xc := fun _ => .none) T  U11 (PySem.W.mg_of X G a11) b11
  have G12 := ok_u_law_is_int (P := l.prog) (w := w) (base := base) (xc := fun _ => .none) T  U12 (PySem.W.mg_of X G a12) b12
  have G13 := ok_u_law_same (P := l.prog) (w := w) (base := base) (xc := fun _ => .none) T G12 U13 (PySem.W.mg_of X G a13) b13
  have G14 := ok_u_law_gcd (P := l.prog) (w := w) (base := base) (xc := fun _ => .none) T  U14 (PySem.W.mg_of X G a14) b14
  have G15 := ok_u_law_low (P := l.prog) (w := w) (base := base) (xc := fun _ => .none) T G14 U15 (PySem.W.mg_of X G a15) b15
  have G16 := ok_u_law_number (P := l.prog) (w := w) (base := base) (xc := fun _ => .none) T G15 G11 U16 (PySem.W.mg_of X G a16) b16
  have G17 := ok_u_law_cross (P := l.prog) (w := w) (base := base) (xc := fun _ => .none) T  U17 (PySem.W.mg_of X G a17) b17
  have G18 := ok_u_law_between (P := l.prog) (w := w) (base := base) (xc := fun _ => .none) T  U18 (PySem.W.mg_of X G a18) b18
  have G19 := ok_law (P := l.prog) (w := w) (base := base) (xc := fun _ => .none) T G18 G17 G15 G11 G16 G10 (G13 8) G4 G1 G9 G5 G7 U19 (PySem.W.mg_of X G a19) b19
  exact G19.imp fun vs H Q E p => law_imp law_true vs H Q E p
end Z
open PySem PySem.W PyProof.Rows
set_option maxRecDepth 100000 in
set_option maxHeartbeats 0 in
theorem PySem.Challenge.cw_roomyway_k01_turns_and_segments_holds : PySem.Challenge.rw_roomyway_k01_turns_and_segments.Holds := by
  w_on; o_law; k_head; (case hw => w_witness2)
  k_fill
  refine Z.z_walk (l := PySem.Challenge.rw_roomyway_k01_turns_and_segments) (k := 11) (x := "_law_script") rfl rfl ⟨rfl, by decide, by decide⟩ (fun w h Y => PySem.W.kIn_of Y) ?F
  case F =>
    intro w mg fa h KX G hmg
    refine' Z.all_mk KX G hmg ?a0 ?l0 ?c0 ?k0 ?a1 ?l1 ?c1 ?k1 ?a2 ?l2 ?c2 ?k2 ?a3 ?l3 ?c3 ?k3 ?a4 ?l4 ?c4 ?k4 ?a5 ?l5 ?c5 ?k5 ?a6 ?l6 ?c6 ?k6 ?a7 ?l7 ?c7 ?k7 ?a8 ?l8 ?c8 ?k8 ?a9 ?l9 ?c9 ?k9 ?a10 ?l10 ?c10 ?k10 ?a11 ?l11 ?c11 ?k11 ?a12 ?l12 ?c12 ?k12 ?a13 ?l13 ?c13 ?k13 ?a14 ?l14 ?c14 ?k14 ?a15 ?l15 ?c15 ?k15 ?a16 ?l16 ?c16 ?k16 ?a17 ?l17 ?c17 ?k17 ?a18 ?l18 ?c18 ?k18 ?a19 ?l19 ?c19 ?k19 ?z_abs ?z_all ?z_any ?z_bool ?z_int ?z_isinstance ?z_len ?z_list ?z_range ?z_str ?z_tuple ?m_FARTHEST ?m_MOST_SIGNS ?m_SMALL_LETTERS
    (case a0 => k_is); (case l0 => k_is); (case c0 => k_is); (case k0 => k_is); (case a1 => k_is); (case l1 => k_is); (case c1 => k_is); (case k1 => k_is); (case a2 => k_is); (case l2 => k_is); (case c2 => k_is); (case k2 => k_is); (case a3 => k_is); (case l3 => k_is); (case c3 => k_is); (case k3 => k_is); (case a4 => k_is); (case l4 => k_is); (case c4 => k_is); (case k4 => k_is); (case a5 => k_is); (case l5 => k_is); (case c5 => k_is); (case k5 => k_is); (case a6 => k_is); (case l6 => k_is); (case c6 => k_is); (case k6 => k_is); (case a7 => k_is); (case l7 => k_is); (case c7 => k_is); (case k7 => k_is); (case a8 => k_is); (case l8 => k_is); (case c8 => k_is); (case k8 => k_is); (case a9 => k_is); (case l9 => k_is); (case c9 => k_is); (case k9 => k_is); (case a10 => k_is); (case l10 => k_is); (case c10 => k_is); (case k10 => k_is); (case a11 => k_is); (case l11 => k_is); (case c11 => k_is); (case k11 => k_is); (case a12 => k_is); (case l12 => k_is); (case c12 => k_is); (case k12 => k_is); (case a13 => k_is); (case l13 => k_is); (case c13 => k_is); (case k13 => k_is); (case a14 => k_is); (case l14 => k_is); (case c14 => k_is); (case k14 => k_is); (case a15 => k_is); (case l15 => k_is); (case c15 => k_is); (case k15 => k_is); (case a16 => k_is); (case l16 => k_is); (case c16 => k_is); (case k16 => k_is); (case a17 => k_is); (case l17 => k_is); (case c17 => k_is); (case k17 => k_is); (case a18 => k_is); (case l18 => k_is); (case c18 => k_is); (case k18 => k_is); (case a19 => k_is); (case l19 => k_is); (case c19 => k_is); (case k19 => k_is); (case z_abs => k_is); (case z_all => k_is); (case z_any => k_is); (case z_bool => k_is); (case z_int => k_is); (case z_isinstance => k_is); (case z_len => k_is); (case z_list => k_is); (case z_range => k_is); (case z_str => k_is); (case z_tuple => k_is); (case m_FARTHEST => k_is); (case m_MOST_SIGNS => k_is); (case m_SMALL_LETTERS => k_is)
