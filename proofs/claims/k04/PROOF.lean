import PyProof.Rows.All
import Wide.All
import OpenK.AllK
import Wide.FinOn
import HandS.ForExc
import HandS.Comp
import HandS.Evl
import HandS.Wide
import HandS.Gcd
import HandS.IsInst
import HandS.Deep
import HandS.TupAny
import HandS.EndBits
import HandS.DictComp
import KE.KDictKeyed
import HandS.Iter
import HandS.Style
import HandS.Text
import PyProof.Rows.InDataRows
import HandS.SortRule
import HandS.Conv
import KE.KDictPairs
import KE.SortData
import KE.DataMinMax
import PyProof.Transfer
import HandS.RevTup
import HandS.Rev
import PySem.Challenge.RW_roomyway_k04_in_and_inside
set_option Elab.async false
set_option linter.all false
set_option maxRecDepth 100000
set_option maxHeartbeats 2000000
/-! Z (second form): mirrors. Data (dicts and objects among them), things of one's own, environments, outcomes. -/
namespace Z
open PySem PySem.Spec PyProof.Rows L2
open Evl (Ex ex_l ex_t ex_rd)
/-- the written part, with program and world -/
structure KF where
  K : PySem.W.Frag
  P : Program
  w : World
abbrev _root_.L2.Cx.kf (X : Cx) : KF := ⟨X.K, X.prog, X.w⟩
abbrev SqL (K : KF) (H : Hp) (a : Addr) (xs : List V) : Prop := L2.SqL K.K H a xs
abbrev SqT (K : KF) (H : Hp) (a : Addr) (xs : List V) : Prop := L2.SqT K.K H a xs
/-- the class of that name stands at C -/
def ClsAt (K : KF) (c : Str) (C : Addr) : Prop := PySem.W.nsIn K.K mainGlobals c = some (some (.ref C))
theorem ClsAt.inj {K : KF} {c : Str} {C D : Addr} (h : ClsAt K c C) (g : ClsAt K c D) : C = D := by
  have e := h.symm.trans g
  injection e with e
  injection e with e
  injection e
/-! ### a dict with keys that are tuples -/
abbrev NL := List (NestedKey × Addr × V)
/-- the entries that a list of keys, addresses and values stands for -/
abbrev NX : NL → List (NestedKey × Addr × Value) → Prop := Paired fun x y => x.1 = y.1 ∧ x.2.1 = y.2.1 ∧ RelV x.2.2 y.2.2
structure NOk (K : KF) (D : Addr) (L : NL) (h : Heap) : Prop where
  low : (D == sysModules) = false
  len : L.length ≤ sizeLine
  nd : (L.map (·.1)).Nodup
  obj : ∃ (xs : List (NestedKey × Addr × Value)) (o : Obj) (es : Array DictEntry) (ep : Nat), NX L xs ∧ h.get? D = some o ∧ o.ExactDict ∧ o.data = .dict es ep ∧ es.toList = xs.map (entryOfKey (nestedKind K.P K.w))
def nO (K : KF) (D : Addr) (L : NL) : HO := .ext (NOk K D L)
/-! ### data -/
def kD : Key → PyData
  | .inl i => .int i
  | .inr x => .str x
mutual
inductive Dp (K : KF) (H : Hp) : V → PyData → Prop
  | non : Dp K H .non .none
  | bl (b : Bool) : Dp K H (.bl b) (.bool b)
  | int (i : Int) : Dp K H (.int i) (.int i)
  | str (x : Str) : Dp K H (.str x) (.str x)
  | lst {a : Addr} {xs : List V} {ds : List PyData} : SqL K H a xs → DpAll K H xs ds → Dp K H (.ref a) (.list ds)
  | tup {a : Addr} {xs : List V} {ds : List PyData} : SqT K H a xs → DpAll K H xs ds → Dp K H (.ref a) (.tuple ds)
  | dic {a : Addr} {kvs : List (Key × V)} {ds : List (PyData × PyData)} : H a = some (.dK kvs) → DpKV K H kvs ds → Dp K H (.ref a) (.dict ds)
  | dit {a : Addr} {L : NL} {ds : List (PyData × PyData)} : H a = some (nO K a L) → DpKN K H L ds → Dp K H (.ref a) (.dict ds)
  | ins {a C dx : Addr} {c : Str} {vs : List (Str × V)} {ds : List (PyData × PyData)} : H a = some (.ins C dx vs) → ClsAt K c C → DpF K H vs ds → Dp K H (.ref a) (.dict ((.none, .str c) :: ds))
inductive DpAll (K : KF) (H : Hp) : List V → List PyData → Prop
  | nil : DpAll K H [] []
  | cons {v : V} {vs : List V} {d : PyData} {ds : List PyData} : Dp K H v d → DpAll K H vs ds → DpAll K H (v :: vs) (d :: ds)
inductive DpKV (K : KF) (H : Hp) : List (Key × V) → List (PyData × PyData) → Prop
  | nil : DpKV K H [] []
  | cons {k : Key} {v : V} {vs : List (Key × V)} {d : PyData} {ds : List (PyData × PyData)} : Dp K H v d → DpKV K H vs ds → DpKV K H ((k, v) :: vs) ((kD k, d) :: ds)
inductive DpKN (K : KF) (H : Hp) : NL → List (PyData × PyData) → Prop
  | nil : DpKN K H [] []
  | cons {ks : List NestedKey} {b : Addr} {v : V} {vs : NL} {d : PyData} {ds : List (PyData × PyData)} : Dp K H (.ref b) (.tuple (NestedKey.datas ks)) → (NestedKey.tup ks).depth ≤ 8 → Dp K H v d → DpKN K H vs ds → DpKN K H ((.tup ks, b, v) :: vs) ((.tuple (NestedKey.datas ks), d) :: ds)
inductive DpF (K : KF) (H : Hp) : List (Str × V) → List (PyData × PyData) → Prop
  | nil : DpF K H [] []
  | cons {f : Str} {v : V} {vs : List (Str × V)} {d : PyData} {ds : List (PyData × PyData)} : Dp K H v d → DpF K H vs ds → DpF K H ((f, v) :: vs) ((.str f, d) :: ds)
end
section
variable {K : KF} {H H' : Hp}
theorem dp_all_mono (e : Ex H H') : (∀ {v : V} {d : PyData}, Dp K H v d → Dp K H' v d) ∧ (∀ {vs : List V} {ds : List PyData}, DpAll K H vs ds → DpAll K H' vs ds) ∧
    (∀ {vs : List (Key × V)} {ds : List (PyData × PyData)}, DpKV K H vs ds → DpKV K H' vs ds) ∧ (∀ {vs : NL} {ds : List (PyData × PyData)}, DpKN K H vs ds → DpKN K H' vs ds) ∧ (∀ {vs : List (Str × V)} {ds : List (PyData × PyData)}, DpF K H vs ds → DpF K H' vs ds) := by
  have r := fun (a1 : V → PyData → Prop) => True
  refine ⟨fun {v d} h => ?_, fun {v d} h => ?_, fun {v d} h => ?_, fun {v d} h => ?_, fun {v d} h => ?_⟩
  · exact Dp.rec (motive_1 := fun v d _ => Dp K H' v d) (motive_2 := fun v d _ => DpAll K H' v d) (motive_3 := fun v d _ => DpKV K H' v d) (motive_4 := fun v d _ => DpKN K H' v d) (motive_5 := fun v d _ => DpF K H' v d)
      .non .bl .int .str (fun h _ i => .lst (ex_l e h) i) (fun h _ i => .tup (ex_t e h) i) (fun h _ i => .dic (e _ _ h) i) (fun h _ i => .dit (e _ _ h) i) (fun h c _ i => .ins (e _ _ h) c i)
      .nil (fun _ _ i j => .cons i j) .nil (fun _ _ i j => .cons i j) .nil (fun _ z _ _ i j l => .cons i z j l) .nil (fun _ _ i j => .cons i j) h
  · exact DpAll.rec (motive_1 := fun v d _ => Dp K H' v d) (motive_2 := fun v d _ => DpAll K H' v d) (motive_3 := fun v d _ => DpKV K H' v d) (motive_4 := fun v d _ => DpKN K H' v d) (motive_5 := fun v d _ => DpF K H' v d)
      .non .bl .int .str (fun h _ i => .lst (ex_l e h) i) (fun h _ i => .tup (ex_t e h) i) (fun h _ i => .dic (e _ _ h) i) (fun h _ i => .dit (e _ _ h) i) (fun h c _ i => .ins (e _ _ h) c i)
      .nil (fun _ _ i j => .cons i j) .nil (fun _ _ i j => .cons i j) .nil (fun _ z _ _ i j l => .cons i z j l) .nil (fun _ _ i j => .cons i j) h
  · exact DpKV.rec (motive_1 := fun v d _ => Dp K H' v d) (motive_2 := fun v d _ => DpAll K H' v d) (motive_3 := fun v d _ => DpKV K H' v d) (motive_4 := fun v d _ => DpKN K H' v d) (motive_5 := fun v d _ => DpF K H' v d)
      .non .bl .int .str (fun h _ i => .lst (ex_l e h) i) (fun h _ i => .tup (ex_t e h) i) (fun h _ i => .dic (e _ _ h) i) (fun h _ i => .dit (e _ _ h) i) (fun h c _ i => .ins (e _ _ h) c i)
      .nil (fun _ _ i j => .cons i j) .nil (fun _ _ i j => .cons i j) .nil (fun _ z _ _ i j l => .cons i z j l) .nil (fun _ _ i j => .cons i j) h
  · exact DpKN.rec (motive_1 := fun v d _ => Dp K H' v d) (motive_2 := fun v d _ => DpAll K H' v d) (motive_3 := fun v d _ => DpKV K H' v d) (motive_4 := fun v d _ => DpKN K H' v d) (motive_5 := fun v d _ => DpF K H' v d)
      .non .bl .int .str (fun h _ i => .lst (ex_l e h) i) (fun h _ i => .tup (ex_t e h) i) (fun h _ i => .dic (e _ _ h) i) (fun h _ i => .dit (e _ _ h) i) (fun h c _ i => .ins (e _ _ h) c i)
      .nil (fun _ _ i j => .cons i j) .nil (fun _ _ i j => .cons i j) .nil (fun _ z _ _ i j l => .cons i z j l) .nil (fun _ _ i j => .cons i j) h
  · exact DpF.rec (motive_1 := fun v d _ => Dp K H' v d) (motive_2 := fun v d _ => DpAll K H' v d) (motive_3 := fun v d _ => DpKV K H' v d) (motive_4 := fun v d _ => DpKN K H' v d) (motive_5 := fun v d _ => DpF K H' v d)
      .non .bl .int .str (fun h _ i => .lst (ex_l e h) i) (fun h _ i => .tup (ex_t e h) i) (fun h _ i => .dic (e _ _ h) i) (fun h _ i => .dit (e _ _ h) i) (fun h c _ i => .ins (e _ _ h) c i)
      .nil (fun _ _ i j => .cons i j) .nil (fun _ _ i j => .cons i j) .nil (fun _ z _ _ i j l => .cons i z j l) .nil (fun _ _ i j => .cons i j) h
theorem dp_mono (e : Ex H H') {v : V} {d : PyData} (h : Dp K H v d) : Dp K H' v d := (dp_all_mono e).1 h
theorem dpAll_mono (e : Ex H H') {vs : List V} {ds : List PyData} (h : DpAll K H vs ds) : DpAll K H' vs ds := (dp_all_mono e).2.1 h
theorem dpKV_mono (e : Ex H H') {vs : List (Key × V)} {ds : List (PyData × PyData)} (h : DpKV K H vs ds) : DpKV K H' vs ds := (dp_all_mono e).2.2.1 h
theorem dpKN_mono (e : Ex H H') {vs : NL} {ds : List (PyData × PyData)} (h : DpKN K H vs ds) : DpKN K H' vs ds := (dp_all_mono e).2.2.2.1 h
theorem dpF_mono (e : Ex H H') {vs : List (Str × V)} {ds : List (PyData × PyData)} (h : DpF K H vs ds) : DpF K H' vs ds := (dp_all_mono e).2.2.2.2 h
end
section
variable {K : KF} {H : Hp}
theorem dpAll_len : ∀ {vs : List V} {ds : List PyData}, DpAll K H vs ds → vs.length = ds.length
  | _, _, .nil => rfl
  | _, _, .cons _ t => congrArg (· + 1) (dpAll_len t)
theorem dpAll_get : ∀ {vs : List V} {ds : List PyData} {i : Nat} {d : PyData}, DpAll K H vs ds → ds[i]? = some d → ∃ v, vs[i]? = some v ∧ Dp K H v d
  | _, _, _, _, .nil, h => by simp at h
  | _, _, 0, _, .cons h t, e => by
    simp at e
    subst e
    exact ⟨_, rfl, h⟩
  | _, _, i + 1, _, .cons h t, e => by
    obtain ⟨v, h1, h2⟩ := dpAll_get (i := i) t (by simpa using e)
    exact ⟨v, by simpa using h1, h2⟩
theorem dpAll_get' : ∀ {vs : List V} {ds : List PyData} {i : Nat} {v : V}, DpAll K H vs ds → vs[i]? = some v → ∃ d, ds[i]? = some d ∧ Dp K H v d
  | _, _, _, _, .nil, h => by simp at h
  | _, _, 0, _, .cons h t, e => by
    simp at e
    subst e
    exact ⟨_, rfl, h⟩
  | _, _, i + 1, _, .cons h t, e => by
    obtain ⟨v, h1, h2⟩ := dpAll_get' (i := i) t (by simpa using e)
    exact ⟨v, by simpa using h1, h2⟩
theorem dpAll_app : ∀ {vs ws : List V} {ds es : List PyData}, DpAll K H vs ds → DpAll K H ws es → DpAll K H (vs ++ ws) (ds ++ es)
  | _, _, _, _, .nil, h => h
  | _, _, _, _, .cons h t, g => .cons h (dpAll_app t g)
theorem dpAll_drop : ∀ (n : Nat) {vs : List V} {ds : List PyData}, DpAll K H vs ds → DpAll K H (vs.drop n) (ds.drop n)
  | 0, _, _, h => h
  | n + 1, _, _, .nil => .nil
  | n + 1, _, _, .cons h t => dpAll_drop n t
theorem dpAll_take : ∀ (n : Nat) {vs : List V} {ds : List PyData}, DpAll K H vs ds → DpAll K H (vs.take n) (ds.take n)
  | 0, _, _, h => .nil
  | n + 1, _, _, .nil => .nil
  | n + 1, _, _, .cons h t => .cons h (dpAll_take n t)
theorem dpAll_set : ∀ (n : Nat) {v : V} {d : PyData} {vs : List V} {ds : List PyData}, Dp K H v d → DpAll K H vs ds → DpAll K H (vs.set n v) (ds.set n d)
  | 0, _, _, _, _, h, .nil => .nil
  | n + 1, _, _, _, _, h, .nil => .nil
  | 0, _, _, _, _, h, .cons _ t => .cons h t
  | n + 1, _, _, _, _, h, .cons g t => .cons g (dpAll_set n h t)
theorem dpAll_rev : ∀ {vs : List V} {ds : List PyData}, DpAll K H vs ds → DpAll K H vs.reverse ds.reverse
  | _, _, .nil => .nil
  | _, _, .cons h t => by
    rw [List.reverse_cons, List.reverse_cons]
    exact dpAll_app (dpAll_rev t) (.cons h .nil)
theorem dpAll_cut {vs : List V} {ds : List PyData} (h : DpAll K H vs ds) (lo hi : Option Int) : DpAll K H (cutV vs lo hi) ((ds.drop (HT.sIx ds.length 0 lo)).take (HT.sIx ds.length ds.length hi - HT.sIx ds.length 0 lo)) := by
  unfold cutV
  rw [dpAll_len h]
  exact dpAll_take _ (dpAll_drop _ h)
theorem dp_int {v : V} {i : Int} (h : Dp K H v (.int i)) : v = .int i := by cases h; rfl
theorem dp_bool {v : V} {b : Bool} (h : Dp K H v (.bool b)) : v = .bl b := by cases h; rfl
theorem dp_str {v : V} {x : Str} (h : Dp K H v (.str x)) : v = .str x := by cases h; rfl
theorem dp_none {v : V} (h : Dp K H v .none) : v = .non := by cases h; rfl
theorem dp_list {v : V} {ds : List PyData} (h : Dp K H v (.list ds)) : ∃ a xs, v = .ref a ∧ SqL K H a xs ∧ DpAll K H xs ds := by
  cases h with
  | lst h1 h2 => exact ⟨_, _, rfl, h1, h2⟩
theorem dp_tup {v : V} {ds : List PyData} (h : Dp K H v (.tuple ds)) : ∃ a xs, v = .ref a ∧ SqT K H a xs ∧ DpAll K H xs ds := by
  cases h with
  | tup h1 h2 => exact ⟨_, _, rfl, h1, h2⟩
theorem dp_dict {v : V} {ds : List (PyData × PyData)} (h : Dp K H v (.dict ds)) : ∃ a, v = .ref a ∧ ((∃ kvs, H a = some (.dK kvs) ∧ DpKV K H kvs ds) ∨ (∃ L, H a = some (nO K a L) ∧ DpKN K H L ds) ∨ ∃ C dx c vs es, ds = (.none, .str c) :: es ∧ H a = some (.ins C dx vs) ∧ ClsAt K c C ∧ DpF K H vs es) := by
  cases h with
  | dic h1 h2 => exact ⟨_, rfl, .inl ⟨_, h1, h2⟩⟩
  | dit h1 h2 => exact ⟨_, rfl, .inr (.inl ⟨_, h1, h2⟩)⟩
  | ins h1 h2 h3 => exact ⟨_, rfl, .inr (.inr ⟨_, _, _, _, _, rfl, h1, h2, h3⟩)⟩
theorem dpKV_head {kvs : List (Key × V)} {c : PyData} {ds : List (PyData × PyData)} (h : DpKV K H kvs ((.none, c) :: ds)) : False := by
  generalize e : ((PyData.none, c) :: ds) = es at h
  cases h with
  | nil => cases e
  | @cons k v vs d ds' h1 h2 => cases k <;> cases e
theorem dpKN_head {kvs : NL} {c : PyData} {ds : List (PyData × PyData)} (h : DpKN K H kvs ((.none, c) :: ds)) : False := by cases h
/-- a frozen object -/
theorem dp_obj {v : V} {c : Str} {ds : List (PyData × PyData)} (h : Dp K H v (.dict ((.none, .str c) :: ds))) : ∃ a C dx vs, v = .ref a ∧ H a = some (.ins C dx vs) ∧ ClsAt K c C ∧ DpF K H vs ds := by
  obtain ⟨a, rfl, h | h | h⟩ := dp_dict h
  · obtain ⟨_, _, h⟩ := h; exact (dpKV_head h).elim
  · obtain ⟨_, _, h⟩ := h; exact (dpKN_head h).elim
  · obtain ⟨C, dx, c', vs, es, e, h1, h2, h3⟩ := h
    injection e with e1 e2
    injection e1 with e3 e4
    injection e4 with e5
    subst e2 e5
    exact ⟨a, C, dx, vs, rfl, h1, h2, h3⟩
theorem dpAll_ints : ∀ {vs : List V} {ns : List Int}, DpAll K H vs (ns.map PyData.int) → vs = ns.map V.int
  | _, [], .nil => rfl
  | _, n :: ns, .cons h t => by rw [dp_int h, dpAll_ints t]; rfl
theorem dpAll_bools : ∀ {vs : List V} {ns : List Bool}, DpAll K H vs (ns.map PyData.bool) → vs = ns.map V.bl
  | _, [], .nil => rfl
  | _, n :: ns, .cons h t => by rw [dp_bool h, dpAll_bools t]; rfl
theorem ints_dpAll : ∀ (ns : List Int), DpAll K H (ns.map V.int) (ns.map PyData.int)
  | [] => .nil
  | n :: ns => .cons (.int n) (ints_dpAll ns)
end
/-! no dict, no object anywhere inside -/
mutual
def plain : PyData → Bool
  | .none => true
  | .bool _ => true
  | .int _ => true
  | .str _ => true
  | .list l => plains l
  | .tuple l => plains l
  | .dict _ => false
def plains : List PyData → Bool
  | [] => true
  | d :: ds => plain d && plains ds
end
theorem plain_dp {K : KF} {H : Hp} {v : V} {d : PyData} (h : Dp K H v d) : plain d = true → L2.Dp K.K H v d := by
  refine Dp.rec (motive_1 := fun v d _ => plain d = true → L2.Dp K.K H v d) (motive_2 := fun v d _ => plains d = true → L2.DpAll K.K H v d) (motive_3 := fun _ _ _ => True) (motive_4 := fun _ _ _ => True) (motive_5 := fun _ _ _ => True)
    (fun _ => .non) (fun b _ => .bl b) (fun b _ => .int b) (fun b _ => .str b) (fun h _ i p => .lst h (i p)) (fun h _ i p => .tup h (i p)) (fun _ _ _ p => nomatch p) (fun _ _ _ p => nomatch p) (fun _ _ _ _ p => nomatch p)
      (fun _ => .nil) (fun _ _ i j p => ?_) trivial (fun _ _ _ _ => trivial) trivial (fun _ _ _ _ _ _ _ => trivial) trivial (fun _ _ _ _ => trivial) h
  have q := Bool.and_eq_true_iff.mp p
  exact .cons (i q.1) (j q.2)
theorem dp_plain {K : KF} {H : Hp} {v : V} {d : PyData} (h : L2.Dp K.K H v d) : Dp K H v d := by
  exact L2.Dp.rec (motive_1 := fun v d _ => Dp K H v d) (motive_2 := fun v d _ => DpAll K H v d) .non .bl .int .str (fun h _ i => .lst h i) (fun h _ i => .tup h i) .nil (fun _ _ i j => .cons i j) h
theorem dpAll_plain {K : KF} {H : Hp} : ∀ {v : List V} {d : List PyData}, L2.DpAll K.K H v d → DpAll K H v d
  | _, _, .nil => .nil
  | _, _, .cons h t => .cons (dp_plain h) (dpAll_plain t)
/-! ### slots, environments, outcomes -/
mutual
/-- what a slot holds: data (never changed any more), or a thing of its own: a list, a dict, an object -/
inductive S where
  | dat (d : PyData)
  | lst (l : List PyData)
  | dic (l : List (PyData × PyData))
  | obj (c : Str) (fs : Fs)
  /-- a place whose thing is out of hand -/
  | hole
inductive Fs where
  | nil
  | cons (f : Str) (s : S) (fs : Fs)
end
mutual
/-- seen as data -/
def S.d : S → PyData
  | .dat d => d
  | .lst l => .list l
  | .dic l => .dict l
  | .obj c fs => .dict ((.none, .str c) :: fs.d)
  | .hole => .none
def Fs.d : Fs → List (PyData × PyData)
  | .nil => []
  | .cons f s fs => (.str f, s.d) :: fs.d
end
mutual
/-- nothing is out of hand -/
def S.nh : S → Bool
  | .obj _ fs => fs.nh
  | .hole => false
  | .dat _ => true
  | .lst _ => true
  | .dic _ => true
def Fs.nh : Fs → Bool
  | .nil => true
  | .cons _ s fs => s.nh && fs.nh
end
abbrev En := List (Option S)
/-- an expression's outcome -/
inductive R where
  | ok (s : S) (ρ : En)
  | exc (x : Str) (ρ : En)
  | bad
/-- a statement's -/
inductive O where
  | nx (ρ : En)
  | rt (s : S) (ρ : En)
  | bk (ρ : En)
  | ct (ρ : En)
  | exc (x : Str) (ρ : En)
  | bad
/-- a call's: the parameters' contents behind it -/
inductive FR where
  | ok (s : S) (ss : List S)
  | exc (x : Str) (ss : List S)
  | bad
abbrev CE := En → R
abbrev CS := En → O
abbrev Fn := List S → FR
/-- the frame of a body: what the callers have (F), the data at the entry (B0), the slots of parameters that are handed on (io) -/
structure Fm (J : List Nat) where
  F : Hp
  B0 : Hp
  io : List V
  hv : V
/-- what the things of one's own are told by: the callers' heap, the thing that is out of hand -/
structure Fx where
  F : Hp
  hv : V
abbrev Fm.X {J : List Nat} (Γ : Fm J) : Fx := ⟨Γ.F, Γ.hv⟩
/-- what is wanted of an exception; the slots of parameters that are handed on -/
structure Ww where
  W : WX
  J : List Nat
def Own (F : Fx) (B : Hp) (a : Addr) : Prop := B a = none ∧ F.F a = none
/-- a dict of one's own at a -/
def DicAt (K : KF) (B H : Hp) (a : Addr) (l : List (PyData × PyData)) : Prop := (∃ kvs, H a = some (.dK kvs) ∧ DpKV K B kvs l) ∨ ∃ L, H a = some (nO K a L) ∧ DpKN K B L l
mutual
/-- v holds s; A: the addresses of what it has of its own -/
def SA (K : KF) (F : Fx) (B H : Hp) : S → V → List Addr → Prop
  | .dat d, v, A => A = [] ∧ Dp K B v d
  | .lst l, v, A => ∃ a xs, v = .ref a ∧ A = [a] ∧ Own F B a ∧ H a = some (.lst xs) ∧ DpAll K B xs l
  | .dic l, v, A => ∃ a, v = .ref a ∧ A = [a] ∧ Own F B a ∧ DicAt K B H a l
  | .obj c fs, v, A => ∃ a C dx vs A', v = .ref a ∧ A = a :: A' ∧ a ∉ A' ∧ Own F B a ∧ ClsAt K c C ∧ H a = some (.ins C dx vs) ∧ SF K F B H fs vs A'
  | .hole, v, A => A = [] ∧ v = F.hv
def SF (K : KF) (F : Fx) (B H : Hp) : Fs → List (Str × V) → List Addr → Prop
  | .nil, vs, A => vs = [] ∧ A = []
  | .cons f s fs, vs, A => ∃ v vs' A1 A2, vs = (f, v) :: vs' ∧ A = A1 ++ A2 ∧ (∀ a ∈ A1, a ∉ A2) ∧ SA K F B H s v A1 ∧ SF K F B H fs vs' A2
end
section
variable {K : KF} {F F' : Fx} {B B' H H' : Hp}
mutual
theorem SA.move (eB : Ex B B') (hv : F'.hv = F.hv) : ∀ {s : S} {v : V} {A : List Addr}, (∀ a ∈ A, B' a = none ∧ F'.F a = none ∧ H' a = H a) → SA K F B H s v A → SA K F' B' H' s v A
  | .dat d, v, A, _, h => ⟨h.1, dp_mono eB h.2⟩
  | .hole, v, A, _, h => ⟨h.1, h.2.trans hv.symm⟩
  | .lst l, v, A, k, h => by
    obtain ⟨a, xs, rfl, rfl, _, h2, h3⟩ := h
    have q := k a (by simp)
    exact ⟨a, xs, rfl, rfl, ⟨q.1, q.2.1⟩, by rw [q.2.2]; exact h2, dpAll_mono eB h3⟩
  | .dic l, v, A, k, h => by
    obtain ⟨a, rfl, rfl, _, h2⟩ := h
    have q := k a (by simp)
    refine ⟨a, rfl, rfl, ⟨q.1, q.2.1⟩, ?_⟩
    rcases h2 with ⟨kvs, h2, h3⟩ | ⟨L, h2, h3⟩
    · exact .inl ⟨kvs, by rw [q.2.2]; exact h2, dpKV_mono eB h3⟩
    · exact .inr ⟨L, by rw [q.2.2]; exact h2, dpKN_mono eB h3⟩
  | .obj c fs, v, A, k, h => by
    obtain ⟨a, C, dx, vs, A', rfl, rfl, na, _, hc, h2, h3⟩ := h
    have q := k a (by simp)
    exact ⟨a, C, dx, vs, A', rfl, rfl, na, ⟨q.1, q.2.1⟩, hc, by rw [q.2.2]; exact h2, SF.move eB hv (fun b hb => k b (by simp [hb])) h3⟩
theorem SF.move (eB : Ex B B') (hv : F'.hv = F.hv) : ∀ {s : Fs} {v : List (Str × V)} {A : List Addr}, (∀ a ∈ A, B' a = none ∧ F'.F a = none ∧ H' a = H a) → SF K F B H s v A → SF K F' B' H' s v A
  | .nil, v, A, _, h => h
  | .cons f s fs, v, A, k, h => by
    obtain ⟨v, vs', A1, A2, rfl, rfl, dj, h1, h2⟩ := h
    exact ⟨v, vs', A1, A2, rfl, rfl, dj, SA.move eB hv (fun b hb => k b (by simp [hb])) h1, SF.move eB hv (fun b hb => k b (by simp [hb])) h2⟩
end
mutual
theorem SA.uniq : ∀ {s : S} {v : V} {A A' : List Addr}, SA K F B H s v A → SA K F' B' H s v A' → A = A'
  | .dat d, v, A, A', h, g => by rw [h.1, g.1]
  | .hole, v, A, A', h, g => by rw [h.1, g.1]
  | .lst l, v, A, A', h, g => by
    obtain ⟨a, xs, rfl, rfl, _⟩ := h
    obtain ⟨b, ys, e, rfl, _⟩ := g
    cases e
    rfl
  | .dic l, v, A, A', h, g => by
    obtain ⟨a, rfl, rfl, _⟩ := h
    obtain ⟨b, e, rfl, _⟩ := g
    cases e
    rfl
  | .obj c fs, v, A, A', h, g => by
    obtain ⟨a, C, dx, vs, A1, rfl, rfl, na, _, hc, h2, h3⟩ := h
    obtain ⟨b, C', dx', vs', A2, e, rfl, nb, _, hc', g2, g3⟩ := g
    cases e
    rw [h2] at g2
    cases g2
    rw [SF.uniq h3 g3]
theorem SF.uniq : ∀ {s : Fs} {v : List (Str × V)} {A A' : List Addr}, SF K F B H s v A → SF K F' B' H s v A' → A = A'
  | .nil, v, A, A', h, g => by rw [h.2, g.2]
  | .cons f s fs, v, A, A', h, g => by
    obtain ⟨v, vs', A1, A2, rfl, rfl, dj, h1, h2⟩ := h
    obtain ⟨u, us', C1, C2, e, rfl, dj', g1, g2⟩ := g
    injection e with e1 e2
    injection e1 with e3 e4
    subst e2 e4
    rw [SA.uniq h1 g1, SF.uniq h2 g2]
end
mutual
theorem SA.own : ∀ {s : S} {v : V} {A : List Addr}, SA K F B H s v A → ∀ a ∈ A, B a = none ∧ F.F a = none ∧ ∃ o, H a = some o
  | .dat d, v, A, h => by rw [h.1]; simp
  | .hole, v, A, h => by rw [h.1]; simp
  | .lst l, v, A, h => by
    obtain ⟨a, xs, rfl, rfl, h1, h2, h3⟩ := h
    intro b hb
    have e : b = a := by simpa using hb
    subst e
    exact ⟨h1.1, h1.2, _, h2⟩
  | .dic l, v, A, h => by
    obtain ⟨a, rfl, rfl, h1, h2⟩ := h
    intro b hb
    have e : b = a := by simpa using hb
    subst e
    rcases h2 with ⟨kvs, h2, h3⟩ | ⟨L, h2, h3⟩
    · exact ⟨h1.1, h1.2, _, h2⟩
    · exact ⟨h1.1, h1.2, _, h2⟩
  | .obj c fs, v, A, h => by
    obtain ⟨a, C, dx, vs, A', rfl, rfl, na, h1, hc, h2, h3⟩ := h
    intro b hb
    rcases List.mem_cons.mp hb with rfl | hb
    · exact ⟨h1.1, h1.2, _, h2⟩
    · exact SF.own h3 b hb
theorem SF.own : ∀ {s : Fs} {v : List (Str × V)} {A : List Addr}, SF K F B H s v A → ∀ a ∈ A, B a = none ∧ F.F a = none ∧ ∃ o, H a = some o
  | .nil, v, A, h => by rw [h.2]; simp
  | .cons f s fs, v, A, h => by
    obtain ⟨v, vs', A1, A2, rfl, rfl, dj, h1, h2⟩ := h
    intro b hb
    rcases List.mem_append.mp hb with hb | hb
    · exact SA.own h1 b hb
    · exact SF.own h2 b hb
end
mutual
/-- frozen: the data world has what it had of its own -/
theorem SA.froz (eB : Ex B B') : ∀ {s : S} {v : V} {A : List Addr}, s.nh = true → (∀ a ∈ A, B' a = H a) → SA K F B H s v A → Dp K B' v s.d
  | .dat d, v, A, _, _, h => dp_mono eB h.2
  | .lst l, v, A, _, k, h => by
    obtain ⟨a, xs, rfl, rfl, h1, h2, h3⟩ := h
    exact .lst (.inl (.inl (by rw [k a (by simp)]; exact h2))) (dpAll_mono eB h3)
  | .dic l, v, A, _, k, h => by
    obtain ⟨a, rfl, rfl, h1, h2⟩ := h
    rcases h2 with ⟨kvs, h2, h3⟩ | ⟨L, h2, h3⟩
    · exact .dic (by rw [k a (by simp)]; exact h2) (dpKV_mono eB h3)
    · exact .dit (by rw [k a (by simp)]; exact h2) (dpKN_mono eB h3)
  | .obj c fs, v, A, n, k, h => by
    obtain ⟨a, C, dx, vs, A', rfl, rfl, na, h1, hc, h2, h3⟩ := h
    exact .ins (by rw [k a (by simp)]; exact h2) hc (SF.froz eB n (fun b hb => k b (by simp [hb])) h3)
theorem SF.froz (eB : Ex B B') : ∀ {s : Fs} {v : List (Str × V)} {A : List Addr}, s.nh = true → (∀ a ∈ A, B' a = H a) → SF K F B H s v A → DpF K B' v s.d
  | .nil, v, A, _, _, h => by rw [h.1]; exact .nil
  | .cons f s fs, v, A, n, k, h => by
    obtain ⟨v, vs', A1, A2, rfl, rfl, dj, h1, h2⟩ := h
    have n2 := Bool.and_eq_true_iff.mp n
    exact .cons (SA.froz eB n2.1 (fun b hb => k b (by simp [hb])) h1) (SF.froz eB n2.2 (fun b hb => k b (by simp [hb])) h2)
end
end
section
variable (K : KF) {J : List Nat} (Γ : Fm J)
structure Rep (B : Hp) (ρ : En) (σ : L2.St) (H : Hp) : Prop where
  bh : Ex B H
  fh : Ex Γ.F H
  fb : ∀ a o, Γ.F a = some o → B a = none
  b0 : Ex Γ.B0 B
  len : ρ.length = σ.length
  at_ : ∀ (i : Nat) s, ρ[i]? = some (some s) → ∃ v A, σ[i]? = some (some v) ∧ SA K Γ.X B H s v A
  sep : ∀ (i j : Nat) s t v u A C, i ≠ j → ρ[i]? = some (some s) → ρ[j]? = some (some t) → σ[i]? = some (some v) → σ[j]? = some (some u) → SA K Γ.X B H s v A → SA K Γ.X B H t u C → ∀ a ∈ A, a ∉ C
  iot : ∀ (k j : Nat) v, J[k]? = some j → Γ.io[k]? = some v → σ[j]? = some (some v)
/-- apart from what all slots have -/
def Apart (B : Hp) (ρ : En) (σ : L2.St) (H : Hp) (A : List Addr) : Prop := ∀ (i : Nat) t u C, ρ[i]? = some (some t) → σ[i]? = some (some u) → SA K Γ.X B H t u C → ∀ a ∈ A, a ∉ C
/-- a result: what it has of its own is no slot's -/
def SRes (B : Hp) (ρ : En) (σ : L2.St) (H : Hp) (s : S) (v : V) : Prop := s.nh = true ∧ ∃ A, SA K Γ.X B H s v A ∧ Apart K Γ B ρ σ H A
end
section
variable (K : KF) (xc : Str → Value) (W : Ww)
/-- what is wanted behind an expression's outcome -/
def outZ (Γ : Fm W.J) (B : Hp) (σ : L2.St) (Q : VK) : R → Prop
  | .ok s ρ' => ∀ v B' H', Ex B B' → Rep K Γ B' ρ' σ H' → SRes K Γ B' ρ' σ H' s v → Q v H'
  | .exc x ρ' => ∀ B' H', Ex B B' → Rep K Γ B' ρ' σ H' → W.W (xc x) none σ H'
  | .bad => False
/-- the reading that a mirror gives -/
def tZ (c : CE) : TE := fun σ H Q => ∃ (Γ : Fm W.J) (B : Hp) (ρ : En), Rep K Γ B ρ σ H ∧ outZ K xc W Γ B σ Q (c ρ)
/-- .. of a test -/
def outT (Γ : Fm W.J) (B : Hp) (σ : L2.St) (Q : Bool → Hp → Prop) : R → Prop
  | .ok s ρ' => ∃ b, s.d = .bool b ∧ ∀ B' H', Ex B B' → Rep K Γ B' ρ' σ H' → Q b H'
  | .exc x ρ' => ∀ B' H', Ex B B' → Rep K Γ B' ρ' σ H' → W.W (xc x) none σ H'
  | .bad => False
def tZT (c : CE) : TT := fun σ H Q => ∃ (Γ : Fm W.J) (B : Hp) (ρ : En), Rep K Γ B ρ σ H ∧ outT K xc W Γ B σ Q (c ρ)
def outS (Γ : Fm W.J) (D : Ends) : O → Prop
  | .nx ρ' => ∀ B' σ' H', Rep K Γ B' ρ' σ' H' → D.nx σ' H'
  | .rt s ρ' => ∀ v B' σ' H', Rep K Γ B' ρ' σ' H' → SRes K Γ B' ρ' σ' H' s v → D.rt v H'
  | .bk ρ' => ∀ B' σ' H', Rep K Γ B' ρ' σ' H' → D.bk σ' H'
  | .ct ρ' => ∀ B' σ' H', Rep K Γ B' ρ' σ' H' → D.ct σ' H'
  | .exc x ρ' => ∀ B' σ' H', Rep K Γ B' ρ' σ' H' → W.W (xc x) none σ' H'
  | .bad => False
def tZS (c : CS) : TS := fun D σ H => ∃ (Γ : Fm W.J) (B : Hp) (ρ : En), Rep K Γ B ρ σ H ∧ outS K xc W Γ D (c ρ)
end
theorem set_none_at {ρ : En} {i j : Nat} {t : S} (h : (ρ.set i none)[j]? = some (some t)) : i ≠ j ∧ ρ[j]? = some (some t) := by
  by_cases e : i = j
  · subst e
    have hl : i < ρ.length := by
      have := (List.getElem?_eq_some_iff.mp h).1
      simpa using this
    rw [List.getElem?_set_self (by exact hl)] at h
    cases h
  · rw [List.getElem?_set_ne e] at h
    exact ⟨e, h⟩
theorem set_some_at {ρ : En} {i j : Nat} {s t : S} (h : (ρ.set i (some s))[j]? = some (some t)) : (i = j ∧ s = t) ∨ (i ≠ j ∧ ρ[j]? = some (some t)) := by
  by_cases e : i = j
  · subst e
    have hl : i < ρ.length := by
      have := (List.getElem?_eq_some_iff.mp h).1
      simpa using this
    rw [List.getElem?_set_self (by exact hl)] at h
    injection h with h
    injection h with h
    exact .inl ⟨rfl, h⟩
  · rw [List.getElem?_set_ne e] at h
    exact .inr ⟨e, h⟩
theorem some_inj2 {α : Type} {a b : α} (h : some (some a) = some (some b)) : a = b := by injection h with h; injection h
section
variable {K : KF} {J : List Nat} {Γ : Fm J} {B B' : Hp} {ρ : En} {σ : L2.St} {H H' : Hp} {s : S} {v : V}
/-- THE FRAME: the heap changes beside what the slots have -/
theorem Rep.frame (r : Rep K Γ B ρ σ H) (eB : Ex B B') (bh : Ex B' H') (fh : Ex Γ.F H') (fb : ∀ a o, Γ.F a = some o → B' a = none)
    (k : ∀ (i : Nat) s v A, ρ[i]? = some (some s) → σ[i]? = some (some v) → SA K Γ.X B H s v A → ∀ a ∈ A, B' a = none ∧ H' a = H a) : Rep K Γ B' ρ σ H' ∧ ∀ (i : Nat) s v A, ρ[i]? = some (some s) → σ[i]? = some (some v) → SA K Γ.X B' H' s v A → SA K Γ.X B H s v A := by
  have old : ∀ (i : Nat) s v A, ρ[i]? = some (some s) → σ[i]? = some (some v) → SA K Γ.X B' H' s v A → SA K Γ.X B H s v A := fun i s v A h1 h2 h3 => by
    obtain ⟨u, C, g1, g2⟩ := r.at_ i s h1
    have e := some_inj2 (h2.symm.trans g1)
    subst e
    have g3 := SA.move (F' := Γ.X) (H' := H') eB rfl (fun a ha => ⟨(k i s v C h1 h2 g2 a ha).1, (SA.own g2 a ha).2.1, (k i s v C h1 h2 g2 a ha).2⟩) g2
    rw [SA.uniq h3 g3]
    exact g2
  refine ⟨⟨bh, fh, fb, r.b0.trans eB, r.len, fun i s h => ?_, fun i j s t v u A C ne h1 h2 h3 h4 h5 h6 => ?_, r.iot⟩, old⟩
  · obtain ⟨u, C, g1, g2⟩ := r.at_ i s h
    exact ⟨u, C, g1, SA.move eB rfl (fun a ha => ⟨(k i s u C h g1 g2 a ha).1, (SA.own g2 a ha).2.1, (k i s u C h g1 g2 a ha).2⟩) g2⟩
  · exact r.sep i j s t v u A C ne h1 h2 h3 h4 (old i s v A h1 h3 h5) (old j t u C h2 h4 h6)
/-- new data at p -/
theorem Rep.new (r : Rep K Γ B ρ σ H) {p : Addr} {o : HO} (hp : H p = none) : Rep K Γ (upd B p o) ρ σ (upd H p o) ∧ Ex B (upd B p o) ∧ Γ.F p = none ∧ B p = none := by
  have hb : B p = none := Evl.fresh_back r.bh hp
  have hf : Γ.F p = none := Evl.fresh_back r.fh hp
  have eb : Ex B (upd B p o) := Ex.new hb
  have eh : Ex H (upd H p o) := Ex.new hp
  refine ⟨(r.frame eb ?_ (r.fh.trans eh) ?_ ?_).1, eb, hf, hb⟩
  · intro a u h
    by_cases e : a = p
    · subst e
      rw [upd_same] at h
      rw [upd_same]
      exact h
    · rw [upd_ne e] at h
      rw [upd_ne e]
      exact r.bh a u h
  · intro a u h
    rw [upd_ne (ne_of_none h hf)]
    exact r.fb a u h
  · intro i s v A _ _ h3 a ha
    obtain ⟨g1, _, o, g2⟩ := SA.own h3 a ha
    have ne : a ≠ p := ne_of_none g2 hp
    rw [upd_ne ne, upd_ne ne]
    exact ⟨g1, rfl⟩
/-- a new thing of nobody's at p -/
theorem Rep.newX (r : Rep K Γ B ρ σ H) {p : Addr} {o : HO} (hp : H p = none) : Rep K Γ B ρ σ (upd H p o) ∧ Own Γ.X B p ∧ ∀ s, s.nh = true → SA K Γ.X B (upd H p o) s (.ref p) [p] → SRes K Γ B ρ σ (upd H p o) s (.ref p) := by
  have hb : B p = none := Evl.fresh_back r.bh hp
  have hf : Γ.F p = none := Evl.fresh_back r.fh hp
  have eh : Ex H (upd H p o) := Ex.new hp
  obtain ⟨r2, old⟩ := r.frame (B' := B) (H' := upd H p o) (Ex.refl B) (r.bh.trans eh) (r.fh.trans eh) r.fb fun i s v A _ _ h3 a ha => by
    obtain ⟨g1, _, o, g2⟩ := SA.own h3 a ha
    rw [upd_ne (ne_of_none g2 hp)]
    exact ⟨g1, rfl⟩
  refine ⟨r2, ⟨hb, hf⟩, fun s n h => ⟨n, [p], h, fun i t u C h1 h2 h3 a ha hc => ?_⟩⟩
  have e : a = p := by simpa using ha
  subst e
  obtain ⟨_, _, o, g⟩ := SA.own (old i t u C h1 h2 h3) a hc
  rw [hp] at g
  cases g
theorem Rep.newL (r : Rep K Γ B ρ σ H) {p : Addr} {xs : List V} {l : List PyData} (hp : H p = none) (hx : DpAll K B xs l) :
    Rep K Γ B ρ σ (upd H p (.lst xs)) ∧ SRes K Γ B ρ σ (upd H p (.lst xs)) (.lst l) (.ref p) := by
  obtain ⟨r2, o, h⟩ := r.newX (o := .lst xs) hp
  exact ⟨r2, h _ rfl ⟨p, xs, rfl, rfl, o, upd_same, hx⟩⟩
/-- a thing of one's own turns data: the world grows by it -/
theorem freeze (r : Rep K Γ B ρ σ H) (h : SRes K Γ B ρ σ H s v) : ∃ B', Ex B B' ∧ Rep K Γ B' ρ σ H ∧ Dp K B' v s.d := by
  classical
  obtain ⟨nh, A, h1, h2⟩ := h
  have own := SA.own h1
  have eb : Ex B (fun b => if b ∈ A then H b else B b) := fun b o hb => by
    have n : b ∉ A := fun m => by rw [(own b m).1] at hb; cases hb
    simp only [if_neg n]
    exact hb
  refine ⟨fun b => if b ∈ A then H b else B b, eb, (r.frame eb ?_ r.fh ?_ ?_).1, SA.froz eb nh (fun a ha => by simp only [if_pos ha]) h1⟩
  · intro b o hb
    by_cases m : b ∈ A
    · simp only [if_pos m] at hb
      exact hb
    · simp only [if_neg m] at hb
      exact r.bh b o hb
  · intro b o hb
    have n : b ∉ A := fun m => by rw [show Γ.F b = none from (own b m).2.1] at hb; cases hb
    simp only [if_neg n]
    exact r.fb b o hb
  · intro i t u C g1 g2 g3 a ha
    have n : a ∉ A := fun m => h2 i t u C g1 g2 g3 a m ha
    simp only [if_neg n]
    exact ⟨(SA.own g3 a ha).1, trivial⟩
theorem SRes.data (r : Rep K Γ B ρ σ H) (h : SRes K Γ B ρ σ H s v) : ∃ B', Ex B B' ∧ Rep K Γ B' ρ σ H ∧ Dp K B' v s.d := freeze r h
theorem sres_dat {d : PyData} (h : Dp K B v d) : SRes K Γ B ρ σ H (.dat d) v := ⟨rfl, [], ⟨rfl, h⟩, fun _ _ _ _ _ _ _ _ ha => nomatch ha⟩
theorem sa_dat {F : Fx} {d : PyData} {A : List Addr} (h : SA K F B H (.dat d) v A) : Dp K B v d := h.2
theorem SRes.dp {d : PyData} (h : SRes K Γ B ρ σ H (.dat d) v) : Dp K B v d := by
  obtain ⟨_, A, h1, _⟩ := h
  exact h1.2
/-- the slots' and values' lists change at i: what holds of the new ones -/
theorem Rep.put' (r : Rep K Γ B ρ σ H) (i : Nat) {σ' : L2.St} (hl : σ'.length = σ.length) (hv : i < σ.length → σ'[i]? = some (some v)) (ho : ∀ j, i ≠ j → σ'[j]? = σ[j]?) (h : ∃ A, SA K Γ.X B H s v A ∧ Apart K Γ B (ρ.set i none) σ H A) (hi : ∀ (k j : Nat) v, J[k]? = some j → Γ.io[k]? = some v → σ'[j]? = some (some v)) : Rep K Γ B (ρ.set i (some s)) σ' H := by
  obtain ⟨A, h1, h2⟩ := h
  have lt : ∀ {j : Nat} {t : S}, (ρ.set i (some s))[j]? = some (some t) → j < σ.length := fun {j t} hj => by
    have := (List.getElem?_eq_some_iff.mp hj).1
    rw [List.length_set, r.len] at this
    exact this
  have no : ∀ {j : Nat} {t : S}, i ≠ j → ρ[j]? = some (some t) → (ρ.set i none)[j]? = some (some t) := fun {j t} ne hj => by rw [List.getElem?_set_ne ne]; exact hj
  refine ⟨r.bh, r.fh, r.fb, r.b0, by rw [List.length_set, hl]; exact r.len, fun j t hj => ?_, fun j k s1 t1 v1 u1 A1 C1 ne hj hk ej ek g1 g2 => ?_, hi⟩
  · rcases set_some_at hj with ⟨e, e2⟩ | ⟨e, hj'⟩
    · subst e e2
      exact ⟨v, A, hv (lt hj), h1⟩
    · rw [ho j e]
      exact r.at_ j t hj'
  · rcases set_some_at hj with ⟨e, e2⟩ | ⟨e, hj'⟩
    · subst e e2
      rcases set_some_at hk with ⟨f, _⟩ | ⟨f, hk'⟩
      · exact absurd f ne
      · rw [hv (lt hj)] at ej
        have ev := some_inj2 ej
        subst ev
        rw [ho k f] at ek
        rw [SA.uniq g1 h1]
        exact h2 k t1 u1 C1 (no f hk') ek g2
    · rw [ho j e] at ej
      rcases set_some_at hk with ⟨f, f2⟩ | ⟨f, hk'⟩
      · subst f f2
        rw [hv (lt hk)] at ek
        have ev := some_inj2 ek
        subst ev
        intro a ha hc
        rw [SA.uniq g2 h1] at hc
        exact h2 j s1 v1 A1 (no e hj') ej g1 a hc ha
      · rw [ho k f] at ek
        exact r.sep j k s1 t1 v1 u1 A1 C1 ne hj' hk' ej ek g1 g2
theorem Rep.slot (r : Rep K Γ B ρ σ H) (i : Nat) (hi : i ∉ J) (h : SRes K Γ B (ρ.set i none) σ H s v) : Rep K Γ B (ρ.set i (some s)) (σ.set i (some v)) H := by
  refine r.put' i List.length_set (fun hl => List.getElem?_set_self (by exact hl)) (fun j ne => List.getElem?_set_ne ne) h.2 fun k j v hk hv => ?_
  rw [List.getElem?_set_ne (fun e => hi (by rw [e]; exact List.mem_of_getElem? hk))]
  exact r.iot k j v hk hv
theorem Rep.put (r : Rep K Γ B ρ σ H) {i : Nat} (hv : σ[i]? = some (some v)) (h : ∃ A, SA K Γ.X B H s v A ∧ Apart K Γ B (ρ.set i none) σ H A) : Rep K Γ B (ρ.set i (some s)) σ H :=
  r.put' i rfl (fun _ => hv) (fun _ _ => rfl) h r.iot
/-- a slot is forgotten in the mirror -/
theorem Rep.drop (r : Rep K Γ B ρ σ H) (i : Nat) : Rep K Γ B (ρ.set i none) σ H :=
  ⟨r.bh, r.fh, r.fb, r.b0, by rw [List.length_set]; exact r.len, fun j t hj => r.at_ j t (set_none_at hj).2, fun j k s1 t1 v u A C ne hj hk => r.sep j k s1 t1 v u A C ne (set_none_at hj).2 (set_none_at hk).2, r.iot⟩
theorem Apart.drop {A : List Addr} (h : Apart K Γ B ρ σ H A) (i : Nat) : Apart K Γ B (ρ.set i none) σ H A := fun j t u C hj => h j t u C (set_none_at hj).2
theorem SRes.drop (h : SRes K Γ B ρ σ H s v) (i : Nat) : SRes K Γ B (ρ.set i none) σ H s v := by
  obtain ⟨n, A, h1, h2⟩ := h
  exact ⟨n, A, h1, h2.drop i⟩
/-- a slot's content, taken out -/
theorem Rep.take (r : Rep K Γ B ρ σ H) {i : Nat} (hi : ρ[i]? = some (some s)) : ∃ v, σ[i]? = some (some v) ∧ Rep K Γ B (ρ.set i none) σ H ∧ ∃ A, SA K Γ.X B H s v A ∧ Apart K Γ B (ρ.set i none) σ H A := by
  obtain ⟨v, A, h1, h2⟩ := r.at_ i _ hi
  refine ⟨v, h1, r.drop i, A, h2, fun j t u C hj ej g => ?_⟩
  obtain ⟨ne, hj⟩ := set_none_at hj
  exact r.sep i j s t v u A C ne hi hj h1 ej h2 g
/-- what a slot has changes in place -/
theorem Rep.mut (r : Rep K Γ B ρ σ H) {i : Nat} {A A' : List Addr} {s' : S} (hi : ρ[i]? = some (some s)) (hv : σ[i]? = some (some v)) (hA : SA K Γ.X B H s v A) (hk : ∀ a, a ∉ A → ∀ o, H a = some o → H' a = some o)
    (hn : SA K Γ.X B H' s' v A') (hs : ∀ a ∈ A', a ∈ A ∨ H a = none) : Rep K Γ B (ρ.set i (some s')) σ H' := by
  obtain ⟨v', h1, r1, _, q1, q2⟩ := r.take hi
  have ev := some_inj2 (h1.symm.trans hv)
  subst ev
  have eA := SA.uniq hA q1
  subst eA
  have out : ∀ {G : Hp}, Ex G H → (∀ a ∈ A, G a = none) → Ex G H' := fun {G} e n a o h => hk a (fun m => by rw [n a m] at h; cases h) o (e a o h)
  obtain ⟨r2, old⟩ := r1.frame (B' := B) (H' := H') (Ex.refl B) (out r.bh fun a m => (SA.own hA a m).1) (out r.fh fun a m => (SA.own hA a m).2.1) r.fb fun j t u C g1 g2 g3 a ha => by
    obtain ⟨k1, _, o, k2⟩ := SA.own g3 a ha
    exact ⟨k1, by rw [k2]; exact hk a (fun m => q2 j t u C g1 g2 g3 a m ha) o k2⟩
  have h3 : Rep K Γ B ((ρ.set i none).set i (some s')) σ H' := by
    refine r2.put hv ?_
    rw [List.set_set]
    refine ⟨A', hn, fun j t u C g1 g2 g3 a ha hc => ?_⟩
    have g4 := old j t u C g1 g2 g3
    rcases hs a ha with m | m
    · exact q2 j t u C g1 g2 g4 a m hc
    · obtain ⟨_, _, o, g5⟩ := SA.own g4 a hc
      rw [m] at g5
      cases g5
  rw [List.set_set] at h3
  exact h3
end
end Z
set_option maxHeartbeats 2000000
/-! Z: expressions. -/
namespace Z
open PySem PySem.Spec PyProof.Rows L2
open Evl (Ex ex_l ex_t ex_rd)
/-! ### joining outcomes -/
/-- go on with the value as data -/
def R.bd : R → (PyData → En → R) → R
  | .ok s ρ, k => k s.d ρ
  | .exc x ρ, _ => .exc x ρ
  | .bad, _ => .bad
def R.lift (o : Option S) (ρ : En) : R := match o with
  | some s => .ok s ρ
  | none => .bad
inductive RA where
  | ok (ds : List PyData) (ρ : En)
  | exc (x : Str) (ρ : En)
  | bad
abbrev CA := En → RA
def RA.bd : RA → (List PyData → En → R) → R
  | .ok ds ρ, k => k ds ρ
  | .exc x ρ, _ => .exc x ρ
  | .bad, _ => .bad
def R.ba : R → (PyData → En → RA) → RA
  | .ok s ρ, k => k s.d ρ
  | .exc x ρ, _ => .exc x ρ
  | .bad, _ => .bad
def RA.ba : RA → (List PyData → En → RA) → RA
  | .ok s ρ, k => k s ρ
  | .exc x ρ, _ => .exc x ρ
  | .bad, _ => .bad
section
variable (K : KF) (xc : Str → Value) (W : Ww)
def outA (Γ : Fm W.J) (B : Hp) (σ : L2.St) (Q : List V → Hp → Prop) : RA → Prop
  | .ok ds ρ' => ∀ vs B' H', Ex B B' → Rep K Γ B' ρ' σ H' → DpAll K B' vs ds → Q vs H'
  | .exc x ρ' => ∀ B' H', Ex B B' → Rep K Γ B' ρ' σ H' → W.W (xc x) none σ H'
  | .bad => False
def tZA (c : CA) : TA := fun σ H Q => ∃ (Γ : Fm W.J) (B : Hp) (ρ : En), Rep K Γ B ρ σ H ∧ outA K xc W Γ B σ Q (c ρ)
end
section
variable {K : KF} {xc : Str → Value} {W : Ww} {Γ : Fm W.J} {B B' : Hp} {ρ : En} {σ : L2.St} {H : Hp} {s : S} {v : V}
theorem outZ_mono {Q : VK} (e : Ex B B') : ∀ {r : R}, outZ K xc W Γ B σ Q r → outZ K xc W Γ B' σ Q r
  | .ok s ρ', h => fun v B2 H2 e2 r2 q => h v B2 H2 (e.trans e2) r2 q
  | .exc x ρ', h => fun B2 H2 e2 r2 => h B2 H2 (e.trans e2) r2
  | .bad, h => h
theorem outT_mono {Q : Bool → Hp → Prop} (e : Ex B B') : ∀ {r : R}, outT K xc W Γ B σ Q r → outT K xc W Γ B' σ Q r
  | .ok s ρ', ⟨b, h1, h⟩ => ⟨b, h1, fun B2 H2 e2 r2 => h B2 H2 (e.trans e2) r2⟩
  | .exc x ρ', h => fun B2 H2 e2 r2 => h B2 H2 (e.trans e2) r2
  | .bad, h => h
theorem outA_mono {Q : List V → Hp → Prop} (e : Ex B B') : ∀ {r : RA}, outA K xc W Γ B σ Q r → outA K xc W Γ B' σ Q r
  | .ok s ρ', h => fun v B2 H2 e2 r2 q => h v B2 H2 (e.trans e2) r2 q
  | .exc x ρ', h => fun B2 H2 e2 r2 => h B2 H2 (e.trans e2) r2
  | .bad, h => h
/-- an expression is evaluated, its value seen as data; then the rest -/
theorem tz_bd {c : CE} {k : PyData → En → R} {Q Q' : VK} (rep : Rep K Γ B ρ σ H) (h : outZ K xc W Γ B σ Q ((c ρ).bd k))
    (next : ∀ v B' H' d ρ', Ex B B' → Rep K Γ B' ρ' σ H' → Dp K B' v d → outZ K xc W Γ B' σ Q (k d ρ') → Q' v H') : tZ K xc W c σ H Q' := by
  refine ⟨Γ, B, ρ, rep, ?_⟩
  cases hc : c ρ with
  | ok s ρ1 =>
    rw [hc] at h
    intro v B1 H1 e1 r1 q1
    obtain ⟨B2, e2, r2, q2⟩ := SRes.data r1 q1
    exact next v B2 H1 s.d ρ1 (e1.trans e2) r2 q2 (outZ_mono (e1.trans e2) h)
  | exc x ρ1 =>
    rw [hc] at h
    exact h
  | bad =>
    rw [hc] at h
    exact h
/-- .. where a test is wanted in the end -/
theorem tz_bdT {c : CE} {k : PyData → En → R} {Q : Bool → Hp → Prop} {Q' : VK} (rep : Rep K Γ B ρ σ H) (h : outT K xc W Γ B σ Q ((c ρ).bd k))
    (next : ∀ v B' H' d ρ', Ex B B' → Rep K Γ B' ρ' σ H' → Dp K B' v d → outT K xc W Γ B' σ Q (k d ρ') → Q' v H') : tZ K xc W c σ H Q' := by
  refine ⟨Γ, B, ρ, rep, ?_⟩
  cases hc : c ρ with
  | ok s ρ1 =>
    rw [hc] at h
    intro v B1 H1 e1 r1 q1
    obtain ⟨B2, e2, r2, q2⟩ := SRes.data r1 q1
    exact next v B2 H1 s.d ρ1 (e1.trans e2) r2 q2 (outT_mono (e1.trans e2) h)
  | exc x ρ1 =>
    rw [hc] at h
    exact h
  | bad =>
    rw [hc] at h
    exact h
theorem tz_ba {c : CE} {k : PyData → En → RA} {Q : List V → Hp → Prop} {Q' : VK} (rep : Rep K Γ B ρ σ H) (h : outA K xc W Γ B σ Q ((c ρ).ba k))
    (next : ∀ v B' H' d ρ', Ex B B' → Rep K Γ B' ρ' σ H' → Dp K B' v d → outA K xc W Γ B' σ Q (k d ρ') → Q' v H') : tZ K xc W c σ H Q' := by
  refine ⟨Γ, B, ρ, rep, ?_⟩
  cases hc : c ρ with
  | ok s ρ1 =>
    rw [hc] at h
    intro v B1 H1 e1 r1 q1
    obtain ⟨B2, e2, r2, q2⟩ := SRes.data r1 q1
    exact next v B2 H1 s.d ρ1 (e1.trans e2) r2 q2 (outA_mono (e1.trans e2) h)
  | exc x ρ1 =>
    rw [hc] at h
    exact h
  | bad =>
    rw [hc] at h
    exact h
theorem tza_bd {c : CA} {k : List PyData → En → R} {Q : VK} {Q' : List V → Hp → Prop} (rep : Rep K Γ B ρ σ H) (h : outZ K xc W Γ B σ Q ((c ρ).bd k))
    (next : ∀ vs B' H' ds ρ', Ex B B' → Rep K Γ B' ρ' σ H' → DpAll K B' vs ds → outZ K xc W Γ B' σ Q (k ds ρ') → Q' vs H') : tZA K xc W c σ H Q' := by
  refine ⟨Γ, B, ρ, rep, ?_⟩
  cases hc : c ρ with
  | ok s ρ1 =>
    rw [hc] at h
    intro v B1 H1 e1 r1 q1
    exact next v B1 H1 s ρ1 e1 r1 q1 (outZ_mono e1 h)
  | exc x ρ1 =>
    rw [hc] at h
    exact h
  | bad =>
    rw [hc] at h
    exact h
theorem tza_ba {c : CA} {k : List PyData → En → RA} {Q Q' : List V → Hp → Prop} (rep : Rep K Γ B ρ σ H) (h : outA K xc W Γ B σ Q ((c ρ).ba k))
    (next : ∀ vs B' H' ds ρ', Ex B B' → Rep K Γ B' ρ' σ H' → DpAll K B' vs ds → outA K xc W Γ B' σ Q (k ds ρ') → Q' vs H') : tZA K xc W c σ H Q' := by
  refine ⟨Γ, B, ρ, rep, ?_⟩
  cases hc : c ρ with
  | ok s ρ1 =>
    rw [hc] at h
    intro v B1 H1 e1 r1 q1
    exact next v B1 H1 s ρ1 e1 r1 q1 (outA_mono e1 h)
  | exc x ρ1 =>
    rw [hc] at h
    exact h
  | bad =>
    rw [hc] at h
    exact h
end
/-! ### operations on data -/
section
variable (K : KF)
/-- what follows a result -/
abbrev After {J : List Nat} (Γ : Fm J) (B : Hp) (ρ : En) (σ : L2.St) (s : S) (Q : VK) : Prop := ∀ v B' H', Ex B B' → Rep K Γ B' ρ σ H' → SRes K Γ B' ρ σ H' s v → Q v H'
def Op1 (r : V → Hp → VK → Prop) (g : PyData → Option S) : Prop :=
  ∀ (J : List Nat) (Γ : Fm J) (B : Hp) (ρ : En) (σ : L2.St) (H : Hp) x d s Q, Rep K Γ B ρ σ H → Dp K B x d → g d = some s → After K Γ B ρ σ s Q → r x H Q
def Op2 (r : R2) (g : PyData → PyData → Option S) : Prop :=
  ∀ (J : List Nat) (Γ : Fm J) (B : Hp) (ρ : En) (σ : L2.St) (H : Hp) x y d e s Q, Rep K Γ B ρ σ H → Dp K B x d → Dp K B y e → g d e = some s → After K Γ B ρ σ s Q → r x y H Q
def OpN (r : List V → Hp → VK → Prop) (g : List PyData → Option S) : Prop :=
  ∀ (J : List Nat) (Γ : Fm J) (B : Hp) (ρ : En) (σ : L2.St) (H : Hp) xs ds s Q, Rep K Γ B ρ σ H → DpAll K B xs ds → g ds = some s → After K Γ B ρ σ s Q → r xs H Q
/-- read in place: data, or a thing of one's own -/
def Pk (B H : Hp) (x : V) (d : PyData) : Prop := ∃ F s A, S.d s = d ∧ s.nh = true ∧ SA K F B H s x A
def Op2P (r : R2) (g : PyData → PyData → Option S) : Prop :=
  ∀ (J : List Nat) (Γ : Fm J) (B : Hp) (ρ : En) (σ : L2.St) (H : Hp) x y d e s Q, Rep K Γ B ρ σ H → Pk K B H x d → Dp K B y e → g d e = some s → After K Γ B ρ σ s Q → r x y H Q
end
section
variable {K : KF} {J : List Nat} {Γ : Fm J} {B : Hp} {ρ : En} {σ : L2.St} {H : Hp} {s : S} {v : V} {d : PyData} {Q : VK}
theorem After.now (r : Rep K Γ B ρ σ H) (a : After K Γ B ρ σ (.dat d) Q) (h : Dp K B v d) : Q v H := a v B H (Ex.refl B) r (sres_dat h)
theorem After.tup (r : Rep K Γ B ρ σ H) {xs : List V} {ds : List PyData} (a : After K Γ B ρ σ (.dat (.tuple ds)) Q) (h : DpAll K B xs ds) {p : Addr} (hp : H p = none) : Q (.ref p) (upd H p (.tup xs)) := by
  obtain ⟨r2, e2, _, _⟩ := r.new (o := .tup xs) hp
  exact a _ _ _ e2 r2 (sres_dat (.tup (.inl (.inl upd_same)) (dpAll_mono e2 h)))
theorem After.lst (r : Rep K Γ B ρ σ H) {xs : List V} {ds : List PyData} (a : After K Γ B ρ σ (.lst ds) Q) (h : DpAll K B xs ds) {p : Addr} (hp : H p = none) : Q (.ref p) (upd H p (.lst xs)) := by
  obtain ⟨r2, q2⟩ := r.newL hp h
  exact a _ _ _ (Ex.refl B) r2 q2
theorem Op2.or {r r' : R2} {g : PyData → PyData → Option S} (g1 g2 : PyData → PyData → Option S) (h1 : Op2 K r g1) (h2 : Op2 K r' g2) (hg : ∀ d e s, g d e = some s → g1 d e = some s ∨ g2 d e = some s) : Op2 K (fun x y H Q => r x y H Q ∨ r' x y H Q) g := by
  intro J Γ B ρ σ H x y d e s Q rep hx hy hs a
  rcases hg d e s hs with h | h
  · exact .inl (h1 J Γ B ρ σ H x y d e s Q rep hx hy h a)
  · exact .inr (h2 J Γ B ρ σ H x y d e s Q rep hx hy h a)
theorem Pk.of (h : Dp K B v d) : Pk K B H v d := ⟨⟨fun _ => none, .non⟩, .dat d, [], rfl, rfl, rfl, h⟩
theorem Pk.list {a : Addr} {ds : List PyData} (rep : Rep K Γ B ρ σ H) (h : Pk K B H (.ref a) (.list ds)) : ∃ xs, SqL K H a xs ∧ DpAll K B xs ds := by
  obtain ⟨F, s, A, e, nh, h⟩ := h
  cases s with
  | dat d =>
    have e' : d = .list ds := e
    subst e'
    obtain ⟨b, xs, e, h1, h2⟩ := dp_list (sa_dat h)
    cases e
    exact ⟨xs, ex_l rep.bh h1, h2⟩
  | lst l =>
    obtain ⟨b, xs, e2, _, _, h1, h2⟩ := h
    cases e2
    cases e
    exact ⟨xs, .inl (.inl h1), h2⟩
  | hole => cases nh
  | dic l | obj c fs => cases e
theorem Pk.refL {ds : List PyData} (h : Pk K B H v (.list ds)) : ∃ a, v = .ref a := by
  obtain ⟨F, s, A, e, nh, h⟩ := h
  cases s with
  | dat d =>
    have e' : d = .list ds := e
    subst e'
    obtain ⟨b, xs, e, _⟩ := dp_list (sa_dat h)
    exact ⟨b, e⟩
  | lst l =>
    obtain ⟨b, xs, e2, _⟩ := h
    exact ⟨b, e2⟩
  | hole => cases nh
  | dic l | obj c fs => cases e
theorem Pk.dp (h : Pk K B H v d) (n : ∀ l, d ≠ .list l) (n2 : ∀ l, d ≠ .dict l := by intro l e; cases e) : Dp K B v d := by
  obtain ⟨F, s, A, e, nh, h⟩ := h
  cases s with
  | dat d' =>
    have e' : d' = d := e
    subst e'
    exact sa_dat h
  | lst l => exact absurd e.symm (n l)
  | hole => cases nh
  | dic l | obj c fs => exact absurd e.symm (n2 _)
end
/-! ### judgements -/
section
variable (X : Cx) (xc : Str → Value) (W : Ww)
abbrev ZE (e : Expr) (c : CE) : Prop := PE X e (tZ X.kf xc W c)
abbrev ZT (e : Expr) (c : CE) : Prop := PT X e (tZT X.kf xc W c)
abbrev ZW (e : Expr) (c : CE) : Prop := PW X e (tZT X.kf xc W c)
abbrev ZS (st : Stmt) (c : CS) : Prop := PS X st (tZS X.kf xc W c)
abbrev ZSs (st : List Stmt) (c : CS) : Prop := PSs X st (tZS X.kf xc W c)
structure ZA (es : List Expr) (c : CA) : Prop where
  run : PA X es (tZA X.kf xc W c)
  len : ∀ ρ ds ρ', c ρ = .ok ds ρ' → ds.length = es.length
end
section
variable {X : Cx} {e : Expr} {st : Stmt} {sts : List Stmt} {es : List Expr}
theorem PE.imp {t t' : TE} (h : PE X e t) (m : ∀ σ H Q, t' σ H Q → t σ H Q) : PE X e t' := ⟨fun pins s σ H Q I q => h.run pins s σ H Q I (m σ H Q q)⟩
theorem PT.imp {t t' : TT} (h : PT X e t) (m : ∀ σ H Q, t' σ H Q → t σ H Q) : PT X e t' := ⟨fun pins s σ H Q I q => h.run pins s σ H Q I (m σ H Q q)⟩
theorem PW.imp {t t' : TT} (h : PW X e t) (m : ∀ σ H Q, t' σ H Q → t σ H Q) : PW X e t' := ⟨fun wh pins s σ H Q I q => h.run wh pins s σ H Q I (m σ H Q q)⟩
theorem PA.imp {t t' : TA} (h : PA X es t) (m : ∀ σ H Q, t' σ H Q → t σ H Q) : PA X es t' := ⟨fun pos pins s σ H Q I q => h.run pos pins s σ H Q I (m σ H Q q)⟩
theorem PS.imp {t t' : TS} (h : PS X st t) (m : ∀ D σ H, t' D σ H → t D σ H) : PS X st t' := ⟨fun pins s σ H D I q => h.run pins s σ H D I (m D σ H q)⟩
theorem PSs.imp {t t' : TS} (h : PSs X sts t) (m : ∀ D σ H, t' D σ H → t D σ H) : PSs X sts t' := ⟨fun pins s σ H D I q => h.run pins s σ H D I (m D σ H q)⟩
end
section
variable {X : Cx} {xc : Str → Value} {W : Ww} {a b e : Expr} {es : List Expr} {pos : Pos} {ca cb cc : CE} {cas : CA}
/-! ### constants, names -/
def cK (d : PyData) : CE := fun ρ => .ok (.dat d) ρ
theorem ze_of {t : TE} {v : V} {d : PyData} (h : PE X e t) (ht : ∀ σ H Q, Q v H → t σ H Q) (hd : ∀ B, Dp X.kf B v d) : ZE X xc W e (cK d) := PE.imp h fun σ H Q ⟨Γ, B, ρ, rep, k⟩ => ht σ H Q (k v B H (Ex.refl B) rep (sres_dat (hd B)))
theorem ze_int {i : Int} {j : Nat} : ZE X xc W (.Constant (.int i) j pos) (cK (.int i)) := ze_of pe_int (fun _ _ _ q => q) fun _ => .int i
theorem ze_bool {i : Bool} {j : Nat} : ZE X xc W (.Constant (.bool i) j pos) (cK (.bool i)) := ze_of pe_bl (fun _ _ _ q => q) fun _ => .bl i
theorem ze_none {j : Nat} : ZE X xc W (.Constant .none j pos) (cK .none) := ze_of pe_non (fun _ _ _ q => q) fun _ => .non
theorem ze_str {x : Str} {j : Nat} : ZE X xc W (.Constant (.str x) j pos) (cK (.str x)) := ze_of pe_str (fun _ _ _ q => q) fun _ => .str x
/-- a name's value; a list of its own turns data -/
def cV (i : Nat) : CE := fun ρ => match ρ[i]? with
  | some (some s) => bif s.nh then .ok (.dat s.d) (ρ.set i (some (.dat s.d))) else .bad
  | _ => .bad
theorem ze_var {i : Nat} (h : PE X e (tVar i)) : ZE X xc W e (cV i) := PE.imp h fun σ H Q ⟨Γ, B, ρ, rep, k⟩ => by
  unfold cV at k
  cases hi : ρ[i]? with
  | none => rw [hi] at k; exact k.elim
  | some o =>
    cases o with
    | none => rw [hi] at k; exact k.elim
    | some s =>
      rw [hi] at k
      have k' : outZ X.kf xc W Γ B σ Q (bif s.nh then .ok (.dat s.d) (ρ.set i (some (.dat s.d))) else .bad) := k
      cases hn : s.nh with
      | false => rw [hn] at k'; exact k'.elim
      | true =>
      rw [hn, cond_true] at k'
      obtain ⟨v, h1, r1, q1⟩ := rep.take hi
      obtain ⟨B2, e2, r2, q2⟩ := freeze r1 ⟨hn, q1⟩
      refine ⟨v, h1, ?_⟩
      have r3 := Rep.put (s := .dat s.d) (i := i) (v := v) r2 h1 (sres_dat q2).2
      rw [List.set_set] at r3
      exact k' v B2 H e2 r3 (sres_dat q2)
/-- a name's list handed on as it is (behind a return) -/
def cVm (i : Nat) : CE := fun ρ => match ρ[i]? with
  | some (some s) => bif s.nh then .ok s (ρ.set i none) else .bad
  | _ => .bad
theorem ze_varm {i : Nat} (h : PE X e (tVar i)) : ZE X xc W e (cVm i) := PE.imp h fun σ H Q ⟨Γ, B, ρ, rep, k⟩ => by
  unfold cVm at k
  cases hi : ρ[i]? with
  | none => rw [hi] at k; exact k.elim
  | some o =>
    cases o with
    | none => rw [hi] at k; exact k.elim
    | some s =>
      rw [hi] at k
      have k' : outZ X.kf xc W Γ B σ Q (bif s.nh then .ok s (ρ.set i none) else .bad) := k
      cases hn : s.nh with
      | false => rw [hn] at k'; exact k'.elim
      | true =>
      rw [hn, cond_true] at k'
      obtain ⟨v, h1, r1, q1⟩ := rep.take hi
      exact ⟨v, h1, k' v B H (Ex.refl B) r1 ⟨hn, q1⟩⟩
/-! ### operators -/
def c1 (g : PyData → Option S) (ca : CE) : CE := fun ρ => (ca ρ).bd fun d ρ => R.lift (g d) ρ
def c2 (g : PyData → PyData → Option S) (ca cb : CE) : CE := fun ρ => (ca ρ).bd fun d ρ => (cb ρ).bd fun e ρ => R.lift (g d e) ρ
def cN (g : List PyData → Option S) (cas : CA) : CE := fun ρ => (cas ρ).bd fun ds ρ => R.lift (g ds) ρ
theorem out_lift {K : KF} {Γ : Fm W.J} {B : Hp} {ρ : En} {σ : L2.St} {Q : VK} {o : Option S} (h : outZ K xc W Γ B σ Q (R.lift o ρ)) : ∃ s, o = some s ∧ After K Γ B ρ σ s Q := by
  cases o with
  | none => exact h.elim
  | some s => exact ⟨s, rfl, h⟩
theorem tz_op2 {K : KF} {r : R2} {g : PyData → PyData → Option S} (hr : Op2 K r g) {σ : L2.St} {H : Hp} {Q : VK} (h : tZ K xc W (c2 g ca cb) σ H Q) : tOp r (tZ K xc W ca) (tZ K xc W cb) σ H Q := by
  obtain ⟨Γ, B, ρ, rep, k⟩ := h
  refine tz_bd rep k fun x B1 H1 d ρ1 e1 r1 q1 k1 => ?_
  refine tz_bd r1 k1 fun y B2 H2 e ρ2 e2 r2 q2 k2 => ?_
  obtain ⟨s, hs, af⟩ := out_lift k2
  exact hr W.J Γ B2 ρ2 σ H2 x y d e s Q r2 (dp_mono e2 q1) q2 hs af
theorem ze_op {op : Operator} {r : R2} {g : PyData → PyData → Option S} (ho : OpR X (binaryOp op) r) (hr : Op2 X.kf r g) (ha : ZE X xc W a ca) (hb : ZE X xc W b cb) : ZE X xc W (.BinOp a op b pos) (c2 g ca cb) :=
  PE.imp (pe_op ho ha hb) fun _ _ _ h => tz_op2 hr h
theorem ze_cmp {op : CmpOp} {r : R2} {g : PyData → PyData → Option S} (ho : OpR X (compareOp op) r) (hr : Op2 X.kf r g) (hm : behindInMarks op b = false) (ha : ZE X xc W a ca) (hb : ZE X xc W b cb) : ZE X xc W (.Compare a [op] [b] pos) (c2 g ca cb) :=
  PE.imp (pe_cmpR ho ha hb hm) fun _ _ _ h => tz_op2 hr h
theorem ze_un {op : UnaryOp} {r : V → Hp → VK → Prop} {g : PyData → Option S} (ho : UnR X (unaryOp op) r) (hr : Op1 X.kf r g) (ha : ZE X xc W a ca) : ZE X xc W (.UnaryOp op a pos) (c1 g ca) :=
  PE.imp (pe_un ho ha) fun σ H Q ⟨Γ, B, ρ, rep, k⟩ => tz_bd rep k fun x B1 H1 d ρ1 e1 r1 q1 k1 => by
    obtain ⟨s, hs, af⟩ := out_lift k1
    exact hr W.J Γ B1 ρ1 σ H1 x d s Q r1 q1 hs af
/-- a value that is a bool, from an out for tests: the value's test -/
theorem tzt_of {K : KF} {σ : L2.St} {H : Hp} {Q : Bool → Hp → Prop} (h : tZT K xc W ca σ H Q) : tZ K xc W ca σ H fun x H' => ∃ k, x = .bl k ∧ Q k H' := by
  obtain ⟨Γ, B, ρ, rep, k⟩ := h
  refine ⟨Γ, B, ρ, rep, ?_⟩
  cases hc : ca ρ with
  | ok s ρ1 =>
    rw [hc] at k
    obtain ⟨b, hb, k⟩ := k
    intro v B1 H1 e1 r1 q1
    cases s with
    | dat d =>
      have hd : d = .bool b := hb
      subst hd
      exact ⟨b, dp_bool q1.dp, k B1 H1 e1 r1⟩
    | lst l | dic l | obj c fs | hole => cases hb
  | exc x ρ1 =>
    rw [hc] at k
    exact k
  | bad =>
    rw [hc] at k
    exact k
theorem zt_cmp {op : CmpOp} {r : R2} {g : PyData → PyData → Option S} (ho : OpR X (compareOp op) r) (hr : Op2 X.kf r g) (hm : behindInMarks op b = false) (ha : ZE X xc W a ca) (hb : ZE X xc W b cb) : ZT X xc W (.Compare a [op] [b] pos) (c2 g ca cb) :=
  PT.imp (pt_cmpR ho ha hb hm) fun _ _ _ h => tz_op2 hr (tzt_of h)
/-! ### and, or, not -/
def cAnd (ca cb : CE) : CE := fun ρ => (ca ρ).bd fun d ρ => match d with
  | .bool true => cb ρ
  | .bool false => .ok (.dat (.bool false)) ρ
  | _ => .bad
def cOr (ca cb : CE) : CE := fun ρ => (ca ρ).bd fun d ρ => match d with
  | .bool true => .ok (.dat (.bool true)) ρ
  | .bool false => cb ρ
  | _ => .bad
def gNot : PyData → Option S
  | .bool b => some (.dat (.bool (!b)))
  | _ => none
def cIf (ct ca cb : CE) : CE := fun ρ => (ct ρ).bd fun d ρ => match d with
  | .bool true => ca ρ
  | .bool false => cb ρ
  | _ => .bad
theorem ze_and {rest : List Expr} (ha : ZE X xc W a ca) (hb : ZE X xc W (.BoolOp .And (b :: rest) pos) cb) : ZE X xc W (.BoolOp .And (a :: b :: rest) pos) (cAnd ca cb) :=
  PE.imp (pe_and ha hb) fun σ H Q ⟨Γ, B, ρ, rep, k⟩ => tz_bd rep k fun x B1 H1 d ρ1 e1 r1 q1 k1 => by
    cases d with
    | bool t =>
      refine ⟨t, dp_bool q1, ?_⟩
      cases t with
      | true => exact iteT ⟨Γ, B1, ρ1, r1, k1⟩
      | false => exact iteF (k1 _ B1 H1 (Ex.refl _) r1 (sres_dat (.bl false)))
    | none | int _ | str _ | list _ | tuple _ | dict _ => exact k1.elim
theorem ze_or {rest : List Expr} (ha : ZE X xc W a ca) (hb : ZE X xc W (.BoolOp .Or (b :: rest) pos) cb) : ZE X xc W (.BoolOp .Or (a :: b :: rest) pos) (cOr ca cb) :=
  PE.imp (pe_or ha hb) fun σ H Q ⟨Γ, B, ρ, rep, k⟩ => tz_bd rep k fun x B1 H1 d ρ1 e1 r1 q1 k1 => by
    cases d with
    | bool t =>
      refine ⟨t, dp_bool q1, ?_⟩
      cases t with
      | true => exact iteT (k1 _ B1 H1 (Ex.refl _) r1 (sres_dat (.bl true)))
      | false => exact iteF ⟨Γ, B1, ρ1, r1, k1⟩
    | none | int _ | str _ | list _ | tuple _ | dict _ => exact k1.elim
theorem ze_one {op : BoolOp} (h : ZE X xc W a ca) : ZE X xc W (.BoolOp op [a] pos) ca := pe_one h
theorem ze_not (ha : ZE X xc W a ca) : ZE X xc W (.UnaryOp .Not a pos) (c1 gNot ca) :=
  PE.imp (pe_not ha) fun σ H Q ⟨Γ, B, ρ, rep, k⟩ => tz_bd rep k fun x B1 H1 d ρ1 e1 r1 q1 k1 => by
    obtain ⟨s, hs, af⟩ := out_lift k1
    cases d with
    | bool t =>
      have e : S.dat (.bool (!t)) = s := Option.some.inj hs
      subst e
      exact ⟨t, dp_bool q1, af _ B1 H1 (Ex.refl _) r1 (sres_dat (.bl _))⟩
    | none | int _ | str _ | list _ | tuple _ | dict _ => cases hs
/-- a test, then one of two ways -/
theorem tzt_bd {K : KF} {Γ : Fm W.J} {B : Hp} {ρ : En} {σ : L2.St} {H : Hp} {c : CE} {k : PyData → En → R} {Q : VK} {Q' : Bool → Hp → Prop} (rep : Rep K Γ B ρ σ H)
    (h : outZ K xc W Γ B σ Q ((c ρ).bd k)) (hk : ∀ d ρ', (∀ b, d ≠ .bool b) → k d ρ' = .bad)
    (next : ∀ b B' H' ρ', Ex B B' → Rep K Γ B' ρ' σ H' → outZ K xc W Γ B' σ Q (k (.bool b) ρ') → Q' b H') : tZT K xc W c σ H Q' := by
  refine ⟨Γ, B, ρ, rep, ?_⟩
  cases hc : c ρ with
  | ok s ρ1 =>
    rw [hc] at h
    have h' : outZ K xc W Γ B σ Q (k s.d ρ1) := h
    by_cases e : ∃ b, s.d = .bool b
    · obtain ⟨b, e⟩ := e
      rw [e] at h'
      exact ⟨b, e, fun B1 H1 e1 r1 => next b B1 H1 ρ1 e1 r1 (outZ_mono e1 h')⟩
    · rw [hk s.d ρ1 fun b z => e ⟨b, z⟩] at h'
      exact h'.elim
  | exc x ρ1 =>
    rw [hc] at h
    exact h
  | bad =>
    rw [hc] at h
    exact h
theorem tzt_bdT {K : KF} {Γ : Fm W.J} {B : Hp} {ρ : En} {σ : L2.St} {H : Hp} {c : CE} {k : PyData → En → R} {Q Q' : Bool → Hp → Prop} (rep : Rep K Γ B ρ σ H)
    (h : outT K xc W Γ B σ Q ((c ρ).bd k)) (hk : ∀ d ρ', (∀ b, d ≠ .bool b) → k d ρ' = .bad)
    (next : ∀ b B' H' ρ', Ex B B' → Rep K Γ B' ρ' σ H' → outT K xc W Γ B' σ Q (k (.bool b) ρ') → Q' b H') : tZT K xc W c σ H Q' := by
  refine ⟨Γ, B, ρ, rep, ?_⟩
  cases hc : c ρ with
  | ok s ρ1 =>
    rw [hc] at h
    have h' : outT K xc W Γ B σ Q (k s.d ρ1) := h
    by_cases e : ∃ b, s.d = .bool b
    · obtain ⟨b, e⟩ := e
      rw [e] at h'
      exact ⟨b, e, fun B1 H1 e1 r1 => next b B1 H1 ρ1 e1 r1 (outT_mono e1 h')⟩
    · rw [hk s.d ρ1 fun b z => e ⟨b, z⟩] at h'
      exact h'.elim
  | exc x ρ1 =>
    rw [hc] at h
    exact h
  | bad =>
    rw [hc] at h
    exact h
theorem ze_if {c : Expr} {ct : CE} (hc : ZT X xc W c ct) (ha : ZE X xc W a ca) (hb : ZE X xc W b cb) : ZE X xc W (.IfExp c a b pos) (cIf ct ca cb) :=
  PE.imp (pe_ifExp hc ha hb) fun σ H Q ⟨Γ, B, ρ, rep, k⟩ => tzt_bd rep k (fun d ρ' hd => by cases d with | bool b => exact absurd rfl (hd b) | none | int _ | str _ | list _ | tuple _ | dict _ => rfl) fun b B1 H1 ρ1 e1 r1 k1 => by
    cases b with
    | true => exact iteT ⟨Γ, B1, ρ1, r1, k1⟩
    | false => exact iteF ⟨Γ, B1, ρ1, r1, k1⟩
theorem zt_not (ha : ZT X xc W a ca) : ZT X xc W (.UnaryOp .Not a pos) (c1 gNot ca) :=
  PT.imp (pt_not ha) fun σ H Q ⟨Γ, B, ρ, rep, k⟩ => tzt_bdT rep k (fun d ρ' hd => by cases d with | bool b => exact absurd rfl (hd b) | none | int _ | str _ | list _ | tuple _ | dict _ => rfl) fun b B1 H1 ρ1 e1 r1 k1 => by
    obtain ⟨b', hb, k2⟩ := k1
    have e : (!b) = b' := by injection hb
    rw [e]
    exact k2 B1 H1 (Ex.refl _) r1
theorem zw_and1 (ha : ZT X xc W a ca) : ZW X xc W (.BoolOp .And [a] pos) ca := pw_and1 ha
theorem zw_or1 (ha : ZT X xc W a ca) : ZW X xc W (.BoolOp .Or [a] pos) ca := pw_or1 ha
theorem zw_and {rest : List Expr} (ha : ZT X xc W a ca) (hb : ZW X xc W (.BoolOp .And (b :: rest) pos) cb) : ZW X xc W (.BoolOp .And (a :: b :: rest) pos) (cAnd ca cb) :=
  PW.imp (pw_and ha hb) fun σ H Q ⟨Γ, B, ρ, rep, k⟩ => tzt_bdT rep k (fun d ρ' hd => by cases d with | bool b => exact absurd rfl (hd b) | none | int _ | str _ | list _ | tuple _ | dict _ => rfl) fun b B1 H1 ρ1 e1 r1 k1 => by
    cases b with
    | true => exact iteT ⟨Γ, B1, ρ1, r1, k1⟩
    | false =>
      obtain ⟨b', hb, k2⟩ := k1
      have e : false = b' := by injection hb
      rw [← e] at k2
      exact iteF (k2 B1 H1 (Ex.refl _) r1)
theorem zw_or {rest : List Expr} (ha : ZT X xc W a ca) (hb : ZW X xc W (.BoolOp .Or (b :: rest) pos) cb) : ZW X xc W (.BoolOp .Or (a :: b :: rest) pos) (cOr ca cb) :=
  PW.imp (pw_or ha hb) fun σ H Q ⟨Γ, B, ρ, rep, k⟩ => tzt_bdT rep k (fun d ρ' hd => by cases d with | bool b => exact absurd rfl (hd b) | none | int _ | str _ | list _ | tuple _ | dict _ => rfl) fun b B1 H1 ρ1 e1 r1 k1 => by
    cases b with
    | true =>
      obtain ⟨b', hb, k2⟩ := k1
      have e : true = b' := by injection hb
      rw [← e] at k2
      exact iteT (k2 B1 H1 (Ex.refl _) r1)
    | false => exact iteF ⟨Γ, B1, ρ1, r1, k1⟩
theorem zt_w (h : ZW X xc W e ca) : ZT X xc W e ca := h.pt
/-- a value's truth -/
def gTru : PyData → Option S
  | .none => some (.dat (.bool false))
  | .bool b => some (.dat (.bool b))
  | .int i => some (.dat (.bool (i != 0)))
  | .str x => if x.length ≤ sizeLine then some (.dat (.bool ((x.length : Int) != 0))) else none
  | .list l => some (.dat (.bool (!l.isEmpty)))
  | .tuple l => some (.dat (.bool (!l.isEmpty)))
  | .dict _ => none
theorem isEmpty_len {α β : Type} {l : List α} {m : List β} (h : l.length = m.length) : l.isEmpty = m.isEmpty := by
  cases l <;> cases m <;> simp_all
theorem zt_truth (ha : ZE X xc W a ca) (he : ∀ whole, isTrue a X.env whole = (do let v ← whole; standAt a.pos; holding [v] (truthy v))) : ZT X xc W a (c1 gTru ca) :=
  PT.imp (pt_truth ha he) fun σ H Q ⟨Γ, B, ρ, rep, k⟩ => tz_bdT rep k fun x B1 H1 d ρ1 e1 r1 q1 k1 => by
    cases d with
    | none =>
      obtain ⟨b, hb, k2⟩ := k1
      have e : false = b := by injection hb
      rw [dp_none q1]
      exact ⟨b, by rw [← e]; rfl, k2 B1 H1 (Ex.refl _) r1⟩
    | bool t =>
      obtain ⟨b, hb, k2⟩ := k1
      have e : t = b := by injection hb
      rw [dp_bool q1]
      exact ⟨b, by rw [← e]; rfl, k2 B1 H1 (Ex.refl _) r1⟩
    | int t =>
      obtain ⟨b, hb, k2⟩ := k1
      have e : (t != 0) = b := by injection hb
      rw [dp_int q1]
      exact ⟨b, by rw [← e]; rfl, k2 B1 H1 (Ex.refl _) r1⟩
    | str t =>
      unfold gTru at k1
      by_cases hz : t.length ≤ sizeLine
      · simp only [if_pos hz] at k1
        obtain ⟨b, hb, k2⟩ := k1
        have e : ((t.length : Int) != 0) = b := by injection hb
        rw [dp_str q1]
        exact ⟨b, ⟨hz, by rw [← e]⟩, k2 B1 H1 (Ex.refl _) r1⟩
      · simp only [if_neg hz] at k1
        exact k1.elim
    | list l =>
      obtain ⟨b, hb, k2⟩ := k1
      have e : (!l.isEmpty) = b := by injection hb
      obtain ⟨p, xs, rfl, h1, h2⟩ := dp_list q1
      exact ⟨b, .inl ⟨xs, ex_l r1.bh h1, by rw [← e, isEmpty_len (dpAll_len h2)]⟩, k2 B1 H1 (Ex.refl _) r1⟩
    | tuple l =>
      obtain ⟨b, hb, k2⟩ := k1
      have e : (!l.isEmpty) = b := by injection hb
      obtain ⟨p, xs, rfl, h1, h2⟩ := dp_tup q1
      exact ⟨b, .inr (.inl ⟨xs, ex_t r1.bh h1, by rw [← e, isEmpty_len (dpAll_len h2)]⟩), k2 B1 H1 (Ex.refl _) r1⟩
    | dict _ => exact k1.elim
/-- a bool's test -/
theorem zt_val (h : ZE X xc W e ca) (he : ∀ whole, isTrue e X.env whole = (do let v ← whole; standAt e.pos; holding [v] (truthy v)) := by intro _; rfl) : ZT X xc W e ca := PT.imp (pt_val h he) fun _ _ _ h => tzt_of h
/-! ### argument lists, displays -/
def caNil : CA := fun ρ => .ok [] ρ
def caCons (ca : CE) (cs : CA) : CA := fun ρ => (ca ρ).ba fun d ρ => (cs ρ).ba fun ds ρ => .ok (d :: ds) ρ
theorem za_nil : ZA X xc W [] caNil := ⟨PA.imp pa_nil fun σ H Q ⟨Γ, B, ρ, rep, k⟩ => k [] B H (Ex.refl _) rep .nil, fun ρ ds ρ' h => by cases h; rfl⟩
theorem za_cons (ha : ZE X xc W e ca) (hr : ZA X xc W es cas) (hs : starEach (e :: es) X.env = (false, eval e X.env) :: starEach es X.env := by rfl) : ZA X xc W (e :: es) (caCons ca cas) := by
  refine ⟨PA.imp (pa_cons ha hr.run hs) fun σ H Q ⟨Γ, B, ρ, rep, k⟩ => ?_, fun ρ ds ρ' h => ?_⟩
  · refine tz_ba rep k fun x B1 H1 d ρ1 e1 r1 q1 k1 => ?_
    refine tza_ba r1 k1 fun xs B2 H2 ds ρ2 e2 r2 q2 k2 => ?_
    exact k2 _ B2 H2 (Ex.refl _) r2 (.cons (dp_mono e2 q1) q2)
  · unfold caCons at h
    cases h1 : ca ρ with
    | ok s ρ1 =>
      rw [h1] at h
      cases h2 : cas ρ1 with
      | ok es' ρ2 =>
        have h' : (RA.ba (cas ρ1) fun ds ρ => .ok (s.d :: ds) ρ) = .ok ds ρ' := h
        rw [h2] at h'
        have h3 : RA.ok (s.d :: es') ρ2 = .ok ds ρ' := h'
        have h4 := hr.len _ _ _ h2
        injection h3 with h5 h6
        rw [← h5, List.length_cons, List.length_cons, h4]
      | exc x ρ2 =>
        have h' : (RA.ba (cas ρ1) fun ds ρ => .ok (s.d :: ds) ρ) = .ok ds ρ' := h
        rw [h2] at h'
        cases h'
      | bad =>
        have h' : (RA.ba (cas ρ1) fun ds ρ => .ok (s.d :: ds) ρ) = .ok ds ρ' := h
        rw [h2] at h'
        cases h'
    | exc x ρ1 =>
      rw [h1] at h
      cases h
    | bad =>
      rw [h1] at h
      cases h
def cTup (cas : CA) : CE := fun ρ => (cas ρ).bd fun ds ρ => .ok (.dat (.tuple ds)) ρ
def cLst (cas : CA) : CE := fun ρ => (cas ρ).bd fun ds ρ => .ok (.lst ds) ρ
theorem small_es {n : Nat} (h : n ≤ 1000) : n ≤ sizeLine := Nat.le_of_lt (small1000 h)
/-- as tza_bd, with the length -/
theorem tza_len {K : KF} {Γ : Fm W.J} {B : Hp} {ρ : En} {σ : L2.St} {H : Hp} {n : Nat} {k : List PyData → En → R} {Q : VK} {Q' : List V → Hp → Prop} (hl : ∀ ρ ds ρ', cas ρ = .ok ds ρ' → ds.length = n) (rep : Rep K Γ B ρ σ H)
    (h : outZ K xc W Γ B σ Q ((cas ρ).bd k))
    (next : ∀ vs B' H' ds ρ', Ex B B' → Rep K Γ B' ρ' σ H' → DpAll K B' vs ds → ds.length = n → outZ K xc W Γ B' σ Q (k ds ρ') → Q' vs H') : tZA K xc W cas σ H Q' := by
  refine ⟨Γ, B, ρ, rep, ?_⟩
  cases hc : cas ρ with
  | ok s ρ1 =>
    rw [hc] at h
    intro v B1 H1 e1 r1 q1
    exact next v B1 H1 s ρ1 e1 r1 q1 (hl _ _ _ hc) (outZ_mono e1 h)
  | exc x ρ1 =>
    rw [hc] at h
    exact h
  | bad =>
    rw [hc] at h
    exact h
theorem ze_tup {k1 : Nat} (h : ZA X xc W es cas) (hz : es.length ≤ 1000 := by decide) : ZE X xc W (.Tuple es k1 pos) (cTup cas) :=
  PE.imp (pe_tup h.run) fun σ H Q ⟨Γ, B, ρ, rep, k⟩ => tza_len h.len rep k fun xs B1 H1 ds ρ1 e1 r1 q1 hl k1 =>
    ⟨by rw [dpAll_len q1, hl]; exact small_es hz, fun p hp => After.tup r1 k1 q1 hp⟩
theorem ze_lst (h : ZA X xc W es cas) (hz : es.length ≤ 1000 := by decide) : ZE X xc W (.List es pos) (cLst cas) :=
  PE.imp (pe_lst h.run) fun σ H Q ⟨Γ, B, ρ, rep, k⟩ => tza_len h.len rep k fun xs B1 H1 ds ρ1 e1 r1 q1 hl k1 =>
    ⟨by rw [dpAll_len q1, hl]; exact small_es hz, fun p hp => After.lst r1 k1 q1 hp⟩
end
end Z
set_option maxHeartbeats 2000000
/-! Z: places within things of one's own. -/
namespace Z
open PySem PySem.Spec PyProof.Rows L2
open Evl (Ex ex_l ex_t ex_rd)
def Fs.get : Fs → Str → Option S
  | .nil, _ => none
  | .cons f s fs, g => bif f == g then some s else fs.get g
def Fs.set : Fs → Str → S → Fs
  | .nil, g, t => .cons g t .nil
  | .cons f s fs, g, t => bif f == g then .cons f t fs else .cons f s (fs.set g t)
def S.at : List Str → S → Option S
  | [], s => some s
  | f :: p, .obj _ fs => match fs.get f with
    | some s => S.at p s
    | none => none
  | _ :: _, _ => none
def S.up : List Str → S → S → S
  | [], _, t => t
  | f :: p, .obj c fs, t => match fs.get f with
    | some s => .obj c (fs.set f (S.up p s t))
    | none => .obj c fs
  | _ :: _, s, _ => s
/-- the value at a place -/
def VAt (H : Hp) : List Str → V → V → Prop
  | [], v, u => u = v
  | f :: p, v, u => ∃ a C dx vs w, v = .ref a ∧ H a = some (.ins C dx vs) ∧ vs.lookup f = some w ∧ VAt H p w u
theorem VAt.inj {H : Hp} : ∀ {p : List Str} {v u u' : V}, VAt H p v u → VAt H p v u' → u = u'
  | [], v, u, u', h, g => h.trans (show u' = v from g).symm
  | f :: p, v, u, u', ⟨a, C, dx, vs, w, e, h1, h2, h3⟩, ⟨b, D, dy, us, z, e', g1, g2, g3⟩ => by
    subst e
    cases e'
    rw [h1] at g1
    cases g1
    rw [h2] at g2
    cases g2
    exact VAt.inj h3 g3
section
variable {K : KF} {F : Fx} {B H : Hp}
theorem SF.field : ∀ {fs : Fs} {vs : List (Str × V)} {A : List Addr} {f : Str} {s : S}, SF K F B H fs vs A → fs.get f = some s → ∃ (w : V) (A1 A0 : List Addr), vs.lookup f = some w ∧ SA K F B H s w A1 ∧ (∀ a, a ∈ A ↔ a ∈ A0 ∨ a ∈ A1) ∧ (∀ a ∈ A0, a ∉ A1) ∧
    ∀ (F' : Fx) (B' H' : Hp) (s' : S) (w' : V) (A1' : List Addr), Ex B B' → F'.hv = F.hv → (∀ a ∈ A0, B' a = none ∧ F'.F a = none ∧ H' a = H a) → (∀ a ∈ A0, a ∉ A1') → SA K F' B' H' s' w' A1' → ∃ A', SF K F' B' H' (fs.set f s') (putF f w' vs) A' ∧ ∀ a, a ∈ A' ↔ a ∈ A0 ∨ a ∈ A1'
  | .nil, vs, A, f, s, h, hg => by cases hg
  | .cons g t fs, vs, A, f, s, h, hg => by
    obtain ⟨v, vs', A1, A2, rfl, rfl, dj, h1, h2⟩ := h
    unfold Fs.get at hg
    cases e : (g == f) with
    | true =>
      rw [e, cond_true] at hg
      cases hg
      have e' := eq_of_beq e
      subst e'
      refine ⟨v, A1, A2, by simp [List.lookup], h1, fun a => by rw [List.mem_append]; exact Or.comm, fun a ha hb => dj a hb ha, fun F' B' H' s' w' A1' eB hv k dk hs => ⟨A1' ++ A2, ?_, fun a => by rw [List.mem_append]; exact Or.comm⟩⟩
      have e1 : Fs.set (.cons g t fs) g s' = .cons g s' fs := by unfold Fs.set; rw [e]; rfl
      have e2 : putF g w' ((g, v) :: vs') = (g, w') :: vs' := by unfold putF; rw [if_pos rfl]
      rw [e1, e2]
      exact ⟨w', vs', A1', A2, rfl, rfl, fun a ha hb => dk a hb ha, hs, SF.move eB hv k h2⟩
    | false =>
      rw [e, cond_false] at hg
      obtain ⟨w, C1, C0, g1, g2, g3, g4, g5⟩ := SF.field h2 hg
      have ne : ¬ g = f := fun z => by rw [z] at e; simp at e
      have fne : (f == g) = false := beq_eq_false_iff_ne.mpr fun z => ne z.symm
      refine ⟨w, C1, A1 ++ C0, by simp [List.lookup, fne, g1], g2, fun a => by rw [List.mem_append, List.mem_append, g3]; exact or_assoc.symm, fun a ha hb => ?_, fun F' B' H' s' w' A1' eB hv k dk hs => ?_⟩
      · rcases List.mem_append.mp ha with ha | ha
        · exact dj a ha ((g3 a).mpr (.inr hb))
        · exact g4 a ha hb
      · obtain ⟨A', k1, k2⟩ := g5 F' B' H' s' w' A1' eB hv (fun a ha => k a (List.mem_append_right _ ha)) (fun a ha => dk a (List.mem_append_right _ ha)) hs
        refine ⟨A1 ++ A', ?_, fun a => by rw [List.mem_append, List.mem_append, k2]; exact or_assoc.symm⟩
        have e1 : Fs.set (.cons g t fs) f s' = .cons g t (fs.set f s') := by conv => lhs; unfold Fs.set; rw [e, cond_false]
        have e2 : putF f w' ((g, v) :: vs') = (g, v) :: putF f w' vs' := by conv => lhs; unfold putF; rw [if_neg ne]
        rw [e1, e2]
        refine ⟨v, _, A1, A', rfl, rfl, fun a ha hb => ?_, SA.move eB hv (fun a ha => k a (List.mem_append_left _ ha)) h1, k1⟩
        rcases (k2 a).mp hb with hb | hb
        · exact dj a ha ((g3 a).mpr (.inl hb))
        · exact dk a (List.mem_append_left _ ha) hb
theorem putF_same : ∀ {vs : List (Str × V)} {f : Str} {w : V}, vs.lookup f = some w → putF f w vs = vs
  | [], f, w, h => by cases h
  | (g, x) :: vs, f, w, h => by
    unfold putF
    by_cases e : g = f
    · subst e
      simp [List.lookup] at h
      rw [if_pos rfl, h]
    · have e2 : (f == g) = false := beq_eq_false_iff_ne.mpr fun z => e z.symm
      simp [List.lookup, e2] at h
      rw [if_neg e, putF_same h]
/-- a thing at a place: what it has; how it is put back -/
theorem SA.path : ∀ {p : List Str} {s t : S} {v : V} {A : List Addr}, SA K F B H s v A → S.at p s = some t → ∃ (u : V) (A1 A0 : List Addr), VAt H p v u ∧ SA K F B H t u A1 ∧ (∀ a, a ∈ A ↔ a ∈ A0 ∨ a ∈ A1) ∧ (∀ a ∈ A0, a ∉ A1) ∧
    ∀ (F' : Fx) (B' H' : Hp) (t' : S) (A1' : List Addr), Ex B B' → F'.hv = F.hv → (∀ a ∈ A0, B' a = none ∧ F'.F a = none ∧ H' a = H a) → (∀ a ∈ A0, a ∉ A1') → SA K F' B' H' t' u A1' → VAt H' p v u ∧ ∃ A', SA K F' B' H' (S.up p s t') v A' ∧ ∀ a, a ∈ A' ↔ a ∈ A0 ∨ a ∈ A1'
  | [], s, t, v, A, h, hg => by
    have e : s = t := Option.some.inj hg
    subst e
    exact ⟨v, A, [], rfl, h, fun a => by simp, fun a ha => absurd ha (by simp), fun F' B' H' t' A1' _ _ _ _ ht => ⟨rfl, A1', ht, fun a => by simp⟩⟩
  | f :: p, .obj c fs, t, v, A, h, hg => by
    obtain ⟨a, C, dx, vs, A', rfl, rfl, na, ho, hc, h2, h3⟩ := h
    unfold S.at at hg
    cases e : fs.get f with
    | none => rw [e] at hg; cases hg
    | some s =>
      rw [e] at hg
      obtain ⟨w, C1, C0, g1, g2, g3, g4, g5⟩ := SF.field h3 e
      obtain ⟨u, D1, D0, k1, k2, k3, k4, k5⟩ := SA.path g2 hg
      have inC : ∀ b, b ∈ D0 ∨ b ∈ D1 → b ∈ A' := fun b hb => (g3 b).mpr (.inr ((k3 b).mpr hb))
      refine ⟨u, D1, a :: (C0 ++ D0), ⟨a, C, dx, vs, w, rfl, h2, g1, k1⟩, k2, fun b => ?_, fun b hb hd => ?_, fun F' B' H' t' A1' eB hv k dk ht => ?_⟩
      · rw [List.mem_cons, List.mem_cons, List.mem_append, g3, k3, or_assoc, or_assoc]
      · rcases List.mem_cons.mp hb with rfl | hb
        · exact na (inC b (.inr hd))
        · rcases List.mem_append.mp hb with hb | hb
          · exact g4 b hb ((k3 b).mpr (.inr hd))
          · exact k4 b hb hd
      · obtain ⟨m0, E', m1, m2⟩ := k5 F' B' H' t' A1' eB hv (fun b hb => k b (by simp [hb])) (fun b hb => dk b (by simp [hb])) ht
        obtain ⟨G', n1, n2⟩ := g5 F' B' H' _ w E' eB hv (fun b hb => k b (by simp [hb])) (fun b hb hb' => by
          rcases (m2 b).mp hb' with hb' | hb'
          · exact g4 b hb ((k3 b).mpr (.inl hb'))
          · exact dk b (by simp [hb]) hb') m1
        rw [putF_same g1] at n1
        have ka := k a (by simp)
        refine ⟨⟨a, C, dx, vs, w, rfl, by rw [ka.2.2]; exact h2, g1, m0⟩, a :: G', ?_, fun b => ?_⟩
        · unfold S.up
          rw [e]
          refine ⟨a, C, dx, vs, G', rfl, rfl, fun hm => ?_, ⟨ka.1, ka.2.1⟩, hc, by rw [ka.2.2]; exact h2, n1⟩
          rcases (n2 a).mp hm with hm | hm
          · exact na ((g3 a).mpr (.inl hm))
          · rcases (m2 a).mp hm with hm | hm
            · exact na (inC a (.inl hm))
            · exact dk a (by simp) hm
        · rw [List.mem_cons, List.mem_cons, List.mem_append, n2, m2, or_assoc, or_assoc]
  | f :: p, .dat _, t, v, A, h, hg => by cases hg
  | f :: p, .lst _, t, v, A, h, hg => by cases hg
  | f :: p, .dic _, t, v, A, h, hg => by cases hg
  | f :: p, .hole, t, v, A, h, hg => by cases hg
end
end Z
set_option maxHeartbeats 2000000
/-! Z: defs and their calls. -/
namespace Z
open PySem PySem.Spec PyProof.Rows L2
open Evl (Ex ex_l ex_t ex_rd)
/-! ### arguments: data, or a place that is handed on, or a thing that is nobody's yet -/
inductive Ar where
  | d (d : PyData)
  | s (i : Nat) (p : List Str)
  | t (s : S)
inductive RX where
  | ok (as : List Ar) (ρ : En)
  | exc (x : Str) (ρ : En)
  | bad
abbrev CX' := En → RX
def RX.bx : RX → (List Ar → En → RX) → RX
  | .ok s ρ, k => k s ρ
  | .exc x ρ, _ => .exc x ρ
  | .bad, _ => .bad
def R.bx : R → (PyData → En → RX) → RX
  | .ok s ρ, k => k s.d ρ
  | .exc x ρ, _ => .exc x ρ
  | .bad, _ => .bad
section
variable (K : KF) (xc : Str → Value) (W : Ww)
def ArAt (B : Hp) (σ : L2.St) (v : V) : Ar → Prop
  | .d d => Dp K B v d
  | .s i p => p = [] ∧ σ[i]? = some (some v)
  | .t _ => False
abbrev ArsAt (B : Hp) (σ : L2.St) (vs : List V) (as : List Ar) : Prop := Paired (fun v a => ArAt K B σ v a) vs as
def outX (Γ : Fm W.J) (B : Hp) (σ : L2.St) (Q : List V → Hp → Prop) : RX → Prop
  | .ok as ρ' => ∀ vs B' H', Ex B B' → Rep K Γ B' ρ' σ H' → ArsAt K B' σ vs as → Q vs H'
  | .exc x ρ' => ∀ B' H', Ex B B' → Rep K Γ B' ρ' σ H' → W.W (xc x) none σ H'
  | .bad => False
def tZX (c : CX') : TA := fun σ H Q => ∃ (Γ : Fm W.J) (B : Hp) (ρ : En), Rep K Γ B ρ σ H ∧ outX K xc W Γ B σ Q (c ρ)
end
section
variable {K : KF} {xc : Str → Value} {W : Ww} {Γ : Fm W.J} {B B' : Hp} {ρ : En} {σ : L2.St} {H : Hp}
theorem ArAt.mono {v : V} {a : Ar} (e : Ex B B') (h : ArAt K B σ v a) : ArAt K B' σ v a := by
  cases a with
  | d d => exact dp_mono e h
  | s i p => exact h
  | t s => exact h
theorem ArsAt.mono {vs : List V} {as : List Ar} (e : Ex B B') (h : ArsAt K B σ vs as) : ArsAt K B' σ vs as := Paired.mapP h fun _ _ q => q.mono e
theorem outX_mono {Q : List V → Hp → Prop} (e : Ex B B') : ∀ {r : RX}, outX K xc W Γ B σ Q r → outX K xc W Γ B' σ Q r
  | .ok s ρ', h => fun v B2 H2 e2 r2 q => h v B2 H2 (e.trans e2) r2 q
  | .exc x ρ', h => fun B2 H2 e2 r2 => h B2 H2 (e.trans e2) r2
  | .bad, h => h
end
section
variable {X : Cx} {xc : Str → Value} {W : Ww} {a b e : Expr} {es : List Expr} {pos : Pos} {ca : CE} {cx : CX'}
abbrev ZX (X : Cx) (xc : Str → Value) (W : Ww) (es : List Expr) (c : CX') : Prop := PA X es (tZX X.kf xc W c)
def cxNil : CX' := fun ρ => .ok [] ρ
def cxD (ca : CE) (cs : CX') : CX' := fun ρ => (ca ρ).bx fun d ρ => (cs ρ).bx fun as ρ => .ok (.d d :: as) ρ
def cxS (i : Nat) (cs : CX') : CX' := fun ρ => match ρ[i]? with
  | some (some _) => (cs ρ).bx fun as ρ => .ok (.s i [] :: as) ρ
  | _ => .bad
theorem zx_nil : ZX X xc W [] cxNil := PA.imp pa_nil fun σ H Q ⟨Γ, B, ρ, rep, k⟩ => k [] B H (Ex.refl _) rep .nil
theorem tzx_bx {K : KF} {Γ : Fm W.J} {B : Hp} {ρ : En} {σ : L2.St} {H : Hp} {k : List Ar → En → RX} {Q Q' : List V → Hp → Prop} (rep : Rep K Γ B ρ σ H) (h : outX K xc W Γ B σ Q ((cx ρ).bx k))
    (next : ∀ vs B' H' ds ρ', Ex B B' → Rep K Γ B' ρ' σ H' → ArsAt K B' σ vs ds → outX K xc W Γ B' σ Q (k ds ρ') → Q' vs H') : tZX K xc W cx σ H Q' := by
  refine ⟨Γ, B, ρ, rep, ?_⟩
  cases hc : cx ρ with
  | ok s ρ1 =>
    rw [hc] at h
    intro v B1 H1 e1 r1 q1
    exact next v B1 H1 s ρ1 e1 r1 q1 (outX_mono e1 h)
  | exc x ρ1 =>
    rw [hc] at h
    exact h
  | bad =>
    rw [hc] at h
    exact h
theorem zx_d (ha : ZE X xc W e ca) (hr : ZX X xc W es cx) (hs : starEach (e :: es) X.env = (false, eval e X.env) :: starEach es X.env := by rfl) : ZX X xc W (e :: es) (cxD ca cx) :=
  PA.imp (pa_cons ha hr hs) fun σ H Q ⟨Γ, B, ρ, rep, k⟩ => by
    refine ⟨Γ, B, ρ, rep, ?_⟩
    unfold cxD at k
    cases hc : ca ρ with
    | ok s ρ1 =>
      rw [hc] at k
      intro v B1 H1 e1 r1 q1
      obtain ⟨B2, e2, r2, q2⟩ := SRes.data r1 q1
      refine tzx_bx r2 (outX_mono (e1.trans e2) k) fun vs B3 H3 as ρ3 e3 r3 q3 k3 => ?_
      exact k3 _ B3 H3 (Ex.refl _) r3 (.cons (dp_mono e3 q2) q3)
    | exc x ρ1 =>
      rw [hc] at k
      exact k
    | bad =>
      rw [hc] at k
      exact k
theorem zx_s {i : Nat} (ha : PE X e (tVar i)) (hr : ZX X xc W es cx) (hs : starEach (e :: es) X.env = (false, eval e X.env) :: starEach es X.env := by rfl) : ZX X xc W (e :: es) (cxS i cx) :=
  PA.imp (pa_cons ha hr hs) fun σ H Q ⟨Γ, B, ρ, rep, k⟩ => by
    unfold cxS at k
    cases hi : ρ[i]? with
    | none => rw [hi] at k; exact k.elim
    | some o =>
      cases o with
      | none => rw [hi] at k; exact k.elim
      | some s =>
        rw [hi] at k
        obtain ⟨v, _, h1, _⟩ := rep.at_ i _ hi
        exact ⟨v, h1, tzx_bx rep k fun vs B3 H3 as ρ3 e3 r3 q3 k3 => k3 _ B3 H3 (Ex.refl _) r3 (.cons ⟨rfl, h1⟩ q3)⟩
end
/-! ### what a def promises -/
section
variable (K : KF) (xc : Str → Value)
def outF (Γ : Fm []) (B : Hp) (vs : List V) (Q : VK) (E : XK) : FR → Prop
  | .ok s ss' => ∀ v B' H', Ex B B' → Rep K Γ B' (ss'.map some) (vs.map some) H' → SRes K Γ B' (ss'.map some) (vs.map some) H' s v → Q v H'
  | .exc x ss' => ∀ B' H', Ex B B' → Rep K Γ B' (ss'.map some) (vs.map some) H' → E (xc x) none H'
  | .bad => False
def spZ (n : Nat) (F : Fn) : Sp := fun vs H Q E => vs.length = n ∧ ∃ (Γ : Fm []) (B : Hp) (ss : List S), Rep K Γ B (ss.map some) (vs.map some) H ∧ outF K xc Γ B vs Q E (F ss)
end
def slotsOf : List Ar → List Nat
  | [] => []
  | .d _ :: as => slotsOf as
  | .s i _ :: as => i :: slotsOf as
  | .t _ :: as => slotsOf as
def tmps : List Ar → Nat
  | [] => 0
  | .d _ :: as => tmps as
  | .s _ _ :: as => tmps as
  | .t _ :: as => tmps as + 1
def ssOf (ρ : En) : List Ar → Option (List S)
  | [] => some []
  | .d d :: as => match ssOf ρ as with
    | some ss => some (.dat d :: ss)
    | none => none
  | .s i p :: as => match ρ[i]?, ssOf ρ as with
    | some (some s), some ss => match S.at p s with
      | some t => some (t :: ss)
      | none => none
    | _, _ => none
  | .t s :: as => match ssOf ρ as with
    | some ss => some (s :: ss)
    | none => none
def putBack (ρ : En) : List Ar → List S → En
  | .d _ :: as, _ :: ss => putBack ρ as ss
  | .s i p :: as, s :: ss => match ρ[i]? with
    | some (some s0) => (putBack ρ as ss).set i (some (S.up p s0 s))
    | _ => putBack ρ as ss
  | .t _ :: as, _ :: ss => putBack ρ as ss
  | _, _ => ρ
def dist : List Nat → Bool
  | [] => true
  | i :: is => !is.contains i && dist is
def cCall (F : Fn) (cx : CX') : CE := fun ρ => match cx ρ with
  | .ok as ρ1 => match ssOf ρ1 as with
    | some ss => bif dist (slotsOf as) then (match F ss with
      | .ok s ss' => .ok s (putBack ρ1 as ss')
      | .exc x ss' => .exc x (putBack ρ1 as ss')
      | .bad => .bad) else .bad
    | none => .bad
  | .exc x ρ1 => .exc x ρ1
  | .bad => .bad
theorem slots_mem : ∀ {as : List Ar} {i k : Nat} {p : List Str}, as[k]? = some (.s i p) → i ∈ slotsOf as
  | [], i, k, p, h => by simp at h
  | .d d :: as, i, 0, p, h => by simp at h
  | .d d :: as, i, k + 1, p, h => slots_mem (as := as) (k := k) (p := p) (by simpa using h)
  | .t d :: as, i, 0, p, h => by simp at h
  | .t d :: as, i, k + 1, p, h => slots_mem (as := as) (k := k) (p := p) (by simpa using h)
  | .s j _ :: as, i, 0, p, h => by
    simp at h
    rw [h.1]
    exact List.mem_cons_self
  | .s j _ :: as, i, k + 1, p, h => List.mem_cons_of_mem _ (slots_mem (as := as) (k := k) (p := p) (by simpa using h))
theorem dist_inj : ∀ {as : List Ar} {i k m : Nat} {p q : List Str}, dist (slotsOf as) = true → as[k]? = some (.s i p) → as[m]? = some (.s i q) → k = m
  | [], i, k, m, p, q, _, h, _ => by simp at h
  | .d d :: as, i, 0, m, p, q, _, h, _ => by simp at h
  | .d d :: as, i, k + 1, 0, p, q, _, _, h => by simp at h
  | .d d :: as, i, k + 1, m + 1, p, q, hd, h1, h2 => congrArg (· + 1) (dist_inj (as := as) hd (by simpa using h1) (by simpa using h2))
  | .t d :: as, i, 0, m, p, q, _, h, _ => by simp at h
  | .t d :: as, i, k + 1, 0, p, q, _, _, h => by simp at h
  | .t d :: as, i, k + 1, m + 1, p, q, hd, h1, h2 => congrArg (· + 1) (dist_inj (as := as) hd (by simpa using h1) (by simpa using h2))
  | .s j _ :: as, i, 0, 0, p, q, _, _, _ => rfl
  | .s j _ :: as, i, 0, m + 1, p, q, hd, h1, h2 => by
    simp at h1
    have h3 := slots_mem (as := as) (k := m) (by simpa using h2)
    have h4 := (Bool.and_eq_true_iff.mp hd).1
    rw [h1.1, List.contains_iff_mem.mpr h3] at h4
    cases h4
  | .s j _ :: as, i, k + 1, 0, p, q, hd, h1, h2 => by
    simp at h2
    have h3 := slots_mem (as := as) (k := k) (by simpa using h1)
    have h4 := (Bool.and_eq_true_iff.mp hd).1
    rw [h2.1, List.contains_iff_mem.mpr h3] at h4
    cases h4
  | .s j _ :: as, i, k + 1, m + 1, p, q, hd, h1, h2 => congrArg (· + 1) (dist_inj (as := as) (Bool.and_eq_true_iff.mp hd).2 (by simpa using h1) (by simpa using h2))
theorem tmps_inj : ∀ {as : List Ar} {k m : Nat} {s t : S}, tmps as ≤ 1 → as[k]? = some (.t s) → as[m]? = some (.t t) → k = m
  | [], k, m, s, t, _, h, _ => by simp at h
  | .d d :: as, 0, m, s, t, _, h, _ => by simp at h
  | .d d :: as, k + 1, 0, s, t, _, _, h => by simp at h
  | .d d :: as, k + 1, m + 1, s, t, hd, h1, h2 => congrArg (· + 1) (tmps_inj (as := as) hd (by simpa using h1) (by simpa using h2))
  | .s j _ :: as, 0, m, s, t, _, h, _ => by simp at h
  | .s j _ :: as, k + 1, 0, s, t, _, _, h => by simp at h
  | .s j _ :: as, k + 1, m + 1, s, t, hd, h1, h2 => congrArg (· + 1) (tmps_inj (as := as) hd (by simpa using h1) (by simpa using h2))
  | .t u :: as, 0, 0, s, t, _, _, _ => rfl
  | .t u :: as, 0, m + 1, s, t, hd, _, h2 => by
    have z : tmps as = 0 := by unfold tmps at hd; omega
    have n : ∀ {as : List Ar} {m : Nat} {t : S}, tmps as = 0 → as[m]? = some (.t t) → False := fun {as} => by
      induction as with
      | nil => intro m t _ h; simp at h
      | cons a as ih =>
        intro m t hz h
        cases a with
        | t u => unfold tmps at hz; omega
        | d u =>
          cases m with
          | zero => simp at h
          | succ m => exact ih hz (by simpa using h)
        | s u _ =>
          cases m with
          | zero => simp at h
          | succ m => exact ih hz (by simpa using h)
    exact (n (as := as) (m := m) (t := t) z (by simpa using h2)).elim
  | .t u :: as, k + 1, 0, s, t, hd, h1, _ => by
    have z : tmps as = 0 := by unfold tmps at hd; omega
    have n : ∀ {as : List Ar} {m : Nat} {t : S}, tmps as = 0 → as[m]? = some (.t t) → False := fun {as} => by
      induction as with
      | nil => intro m t _ h; simp at h
      | cons a as ih =>
        intro m t hz h
        cases a with
        | t u => unfold tmps at hz; omega
        | d u =>
          cases m with
          | zero => simp at h
          | succ m => exact ih hz (by simpa using h)
        | s u _ =>
          cases m with
          | zero => simp at h
          | succ m => exact ih hz (by simpa using h)
    exact (n (as := as) (m := k) (t := s) z (by simpa using h1)).elim
  | .t u :: as, k + 1, m + 1, s, t, hd, h1, h2 => congrArg (· + 1) (tmps_inj (as := as) (by unfold tmps at hd; omega) (by simpa using h1) (by simpa using h2))
theorem putBack_len {ρ : En} : ∀ {as : List Ar} {ss : List S}, (putBack ρ as ss).length = ρ.length
  | [], ss => by cases ss <;> rfl
  | .d _ :: as, [] => rfl
  | .s _ _ :: as, [] => rfl
  | .t _ :: as, [] => rfl
  | .d _ :: as, s :: ss => putBack_len (as := as)
  | .t _ :: as, s :: ss => putBack_len (as := as)
  | .s i p :: as, s :: ss => by
    unfold putBack
    split
    · rw [List.length_set, putBack_len (as := as)]
    · exact putBack_len (as := as)
theorem putBack_at {ρ : En} : ∀ {as : List Ar} {ss : List S}, ss.length = as.length → ∀ {j : Nat} {s : S}, (putBack ρ as ss)[j]? = some (some s) →
    (∃ (k : Nat) (p : List Str) (s0 t : S), as[k]? = some (.s j p) ∧ ss[k]? = some t ∧ ρ[j]? = some (some s0) ∧ s = S.up p s0 t) ∨ ((∀ (k : Nat) p, as[k]? = some (.s j p) → ∀ s0, ρ[j]? ≠ some (some s0)) ∧ ρ[j]? = some (some s))
  | [], [], _, j, s, h => .inr ⟨fun k p h => by simp at h, h⟩
  | .d d :: as, t :: ss, hl, j, s, h => by
    rcases putBack_at (as := as) (ss := ss) (by simpa using hl) (show (putBack ρ as ss)[j]? = some (some s) from h) with ⟨k, p, s0, t', h1, h2⟩ | ⟨h1, h2⟩
    · exact .inl ⟨k + 1, p, s0, t', by simpa using h1, by simpa using h2⟩
    · refine .inr ⟨fun k p hk => ?_, h2⟩
      cases k with
      | zero => simp at hk
      | succ k => exact h1 k p (by simpa using hk)
  | .t d :: as, t :: ss, hl, j, s, h => by
    rcases putBack_at (as := as) (ss := ss) (by simpa using hl) (show (putBack ρ as ss)[j]? = some (some s) from h) with ⟨k, p, s0, t', h1, h2⟩ | ⟨h1, h2⟩
    · exact .inl ⟨k + 1, p, s0, t', by simpa using h1, by simpa using h2⟩
    · refine .inr ⟨fun k p hk => ?_, h2⟩
      cases k with
      | zero => simp at hk
      | succ k => exact h1 k p (by simpa using hk)
  | .s i q :: as, t :: ss, hl, j, s, h => by
    unfold putBack at h
    split at h
    · rename_i s0 hi
      rcases set_some_at h with ⟨e, e2⟩ | ⟨e, h'⟩
      · subst e
        exact .inl ⟨0, q, s0, t, by simp, by simp, hi, e2.symm⟩
      · rcases putBack_at (as := as) (ss := ss) (by simpa using hl) h' with ⟨k, p, s1, t', h1, h2⟩ | ⟨h1, h2⟩
        · exact .inl ⟨k + 1, p, s1, t', by simpa using h1, by simpa using h2⟩
        · refine .inr ⟨fun k p hk => ?_, h2⟩
          cases k with
          | zero =>
            simp at hk
            exact absurd hk.1 e
          | succ k => exact h1 k p (by simpa using hk)
    · rename_i hn
      rcases putBack_at (as := as) (ss := ss) (by simpa using hl) h with ⟨k, p, s1, t', h1, h2⟩ | ⟨h1, h2⟩
      · exact .inl ⟨k + 1, p, s1, t', by simpa using h1, by simpa using h2⟩
      · refine .inr ⟨fun k p hk => ?_, h2⟩
        cases k with
        | zero =>
          simp at hk
          rw [hk.1] at hn
          exact fun s0 => hn s0
        | succ k => exact h1 k p (by simpa using hk)
theorem map_some_at {α : Type} {l : List α} {k : Nat} {s : α} : (l.map some)[k]? = some (some s) ↔ l[k]? = some s := by
  rw [List.getElem?_map]
  cases l[k]? <;> simp
section
variable {K : KF} {J : List Nat} (Γ : Fm J) (B : Hp) (ρ : En) (σ : L2.St) (H : Hp)
/-- what an argument hands over -/
def Hand1 (K : KF) (v : V) (s : S) (A : List Addr) : Ar → Prop
  | .d d => s = .dat d ∧ SA K Γ.X B H s v A
  | .s i p => SA K Γ.X B H s v A ∧ ∃ s0 u, ρ[i]? = some (some s0) ∧ σ[i]? = some (some u) ∧ S.at p s0 = some s ∧ VAt H p u v
  | .t t => s = t ∧ SA K Γ.X B H s v A ∧ Apart K Γ B ρ σ H A
inductive Hand (K : KF) : List V → List Ar → List S → List (List Addr) → Prop
  | nil : Hand K [] [] [] []
  | cons {v : V} {a : Ar} {s : S} {A : List Addr} {vs : List V} {as : List Ar} {ss : List S} {AA : List (List Addr)} : Hand1 Γ B ρ σ H K v s A a → Hand K vs as ss AA → Hand K (v :: vs) (a :: as) (s :: ss) (A :: AA)
/-- what stays behind at a call -/
def Stays (K : KF) (AA : List (List Addr)) (a : Addr) : Prop := (∃ (i : Nat) (s : S) (v : V) (A : List Addr), ρ[i]? = some (some s) ∧ σ[i]? = some (some v) ∧ SA K Γ.X B H s v A ∧ a ∈ A) ∧ ∀ A ∈ AA, a ∉ A
open Classical in
noncomputable def FmCall (K : KF) (AA : List (List Addr)) : Fm [] := ⟨fun a => if Stays Γ B ρ σ H K AA a then H a else Γ.F a, B, [], Γ.hv⟩
end
section
variable {K : KF} {J : List Nat} {Γ : Fm J} {B : Hp} {ρ : En} {σ : L2.St} {H : Hp} {as : List Ar} {vs : List V} {ss : List S} {AA : List (List Addr)}
theorem Hand.get : ∀ {vs : List V} {as : List Ar} {ss : List S} {AA : List (List Addr)}, Hand Γ B ρ σ H K vs as ss AA → vs.length = as.length ∧ ss.length = as.length ∧ (∀ (k : Nat) a, as[k]? = some a → ∃ v s A, vs[k]? = some v ∧ ss[k]? = some s ∧ AA[k]? = some A ∧ Hand1 Γ B ρ σ H K v s A a) ∧ ∀ A ∈ AA, ∃ k : Nat, k < as.length ∧ AA[k]? = some A
  | _, _, _, _, .nil => ⟨rfl, rfl, fun k a h => by simp at h, fun A h => by simp at h⟩
  | v :: vs, a :: as, s :: ss, A :: AA, .cons h t => by
    obtain ⟨h1, h2, h3, h4⟩ := Hand.get t
    refine ⟨by simp [h1], by simp [h2], fun k b hk => ?_, fun C hC => ?_⟩
    · cases k with
      | zero =>
        simp at hk
        subst hk
        exact ⟨v, s, A, rfl, rfl, rfl, h⟩
      | succ k => simpa using h3 k b (by simpa using hk)
    · rcases List.mem_cons.mp hC with rfl | hC
      · exact ⟨0, by simp, rfl⟩
      · obtain ⟨k, k1, k2⟩ := h4 C hC
        exact ⟨k + 1, by simp; exact k1, by simpa using k2⟩
theorem Hand1.sa {v : V} {s : S} {A : List Addr} {a : Ar} (h : Hand1 Γ B ρ σ H K v s A a) : SA K Γ.X B H s v A := by
  cases a with
  | d d => exact h.2
  | s i p => exact h.1
  | t t => exact h.2.1
theorem fmCall_yes {a : Addr} (h : Stays Γ B ρ σ H K AA a) : (FmCall Γ B ρ σ H K AA).F a = H a := if_pos h
theorem fmCall_no {a : Addr} (h : ¬ Stays Γ B ρ σ H K AA a) : (FmCall Γ B ρ σ H K AA).F a = Γ.F a := if_neg h
theorem Stays.own {a : Addr} (h : Stays Γ B ρ σ H K AA a) : B a = none ∧ Γ.F a = none ∧ ∃ o, H a = some o := by
  obtain ⟨⟨i, s, v, A, h1, h2, h3, h4⟩, _⟩ := h
  exact SA.own h3 a h4
theorem fm_none {a : Addr} (h : (FmCall Γ B ρ σ H K AA).F a = none) : Γ.F a = none ∧ ¬ Stays Γ B ρ σ H K AA a := by
  by_cases e : Stays Γ B ρ σ H K AA a
  · rw [fmCall_yes e] at h
    obtain ⟨_, _, o, ho⟩ := e.own
    rw [ho] at h
    cases h
  · rw [fmCall_no e] at h
    exact ⟨h, e⟩
/-- two arguments have nothing in common -/
theorem Hand.apart (rep : Rep K Γ B ρ σ H) (hv : Hand Γ B ρ σ H K vs as ss AA) (hd : dist (slotsOf as) = true) (ht : tmps as ≤ 1) {k m : Nat} {v u : V} {s t : S} {A C : List Addr} {a b : Ar} (ne : k ≠ m) (ha : as[k]? = some a) (hb : as[m]? = some b)
    (h1 : Hand1 Γ B ρ σ H K v s A a) (h2 : Hand1 Γ B ρ σ H K u t C b) : ∀ x ∈ A, x ∉ C := by
  cases a with
  | d d =>
    obtain ⟨e, h⟩ := h1
    subst e
    rw [h.1]
    exact fun x hx => absurd hx (by simp)
  | s i p =>
    obtain ⟨q1, s0, u0, g1, g2, g3, g4⟩ := h1
    obtain ⟨v1, A1, e1, e2⟩ := rep.at_ i s0 g1
    have ev := some_inj2 (g2.symm.trans e1)
    subst ev
    obtain ⟨w, D1, D0, k1, k2, k3, k4, _⟩ := SA.path e2 g3
    have ew := VAt.inj g4 k1
    subst ew
    have eA := SA.uniq q1 k2
    subst eA
    cases b with
    | d d =>
      obtain ⟨e, h⟩ := h2
      subst e
      rw [h.1]
      exact fun x _ hx => absurd hx (by simp)
    | s j q =>
      obtain ⟨r1, t0, w0, f1, f2, f3, f4⟩ := h2
      obtain ⟨v2, A2, e3, e4⟩ := rep.at_ j t0 f1
      have ev := some_inj2 (f2.symm.trans e3)
      subst ev
      obtain ⟨z, E1, E0, l1, l2, l3, l4, _⟩ := SA.path e4 f3
      have ew := VAt.inj f4 l1
      subst ew
      have eA := SA.uniq r1 l2
      subst eA
      have nij : i ≠ j := fun e => by
        subst e
        exact ne (dist_inj hd ha hb)
      exact fun x hx hc => rep.sep i j s0 t0 _ _ _ _ nij g1 f1 g2 f2 e2 e4 x ((k3 x).mpr (.inr hx)) ((l3 x).mpr (.inr hc))
    | t t =>
      obtain ⟨_, r1, r2⟩ := h2
      exact fun x hx hc => r2 i s0 _ _ g1 g2 e2 x hc ((k3 x).mpr (.inr hx))
  | t t0 =>
    obtain ⟨e0, q1, q2⟩ := h1
    cases b with
    | d d =>
      obtain ⟨e, h⟩ := h2
      subst e
      rw [h.1]
      exact fun x _ hx => absurd hx (by simp)
    | s j q =>
      obtain ⟨r1, t0, w0, f1, f2, f3, f4⟩ := h2
      obtain ⟨v2, A2, e3, e4⟩ := rep.at_ j t0 f1
      have ev := some_inj2 (f2.symm.trans e3)
      subst ev
      obtain ⟨z, E1, E0, l1, l2, l3, l4, _⟩ := SA.path e4 f3
      have ew := VAt.inj f4 l1
      subst ew
      have eA := SA.uniq r1 l2
      subst eA
      exact fun x hx hc => q2 j t0 _ _ f1 f2 e4 x hx ((l3 x).mpr (.inr hc))
    | t t1 => exact absurd (tmps_inj ht ha hb) ne
theorem Rep.enter (rep : Rep K Γ B ρ σ H) (hv : Hand Γ B ρ σ H K vs as ss AA) (hd : dist (slotsOf as) = true) (ht : tmps as ≤ 1) : Rep K (FmCall Γ B ρ σ H K AA) B (ss.map some) (vs.map some) H := by
  obtain ⟨l1, l2, a1, _⟩ := hv.get
  have sa : ∀ {v : V} {s : S} {A : List Addr} {a : Ar} {k : Nat}, AA[k]? = some A → Hand1 Γ B ρ σ H K v s A a → SA K (FmCall Γ B ρ σ H K AA).X B H s v A := fun {v s A a k} hA h => by
    refine SA.move (F := Γ.X) (H := H) (Ex.refl B) (show (FmCall Γ B ρ σ H K AA).X.hv = Γ.X.hv from rfl) (fun x hx => ?_) h.sa
    have q := SA.own h.sa x hx
    refine ⟨q.1, ?_, rfl⟩
    show (FmCall Γ B ρ σ H K AA).F x = none
    rw [fmCall_no fun st => st.2 A (List.mem_of_getElem? hA) hx]
    exact q.2.1
  refine ⟨rep.bh, fun a o h => ?_, fun a o h => ?_, Ex.refl B, by rw [List.length_map, List.length_map, l1, l2], fun k s h => ?_, fun k m s t v u A C ne hk hm ek em g1 g2 => ?_, fun k j v h => by simp [FmCall] at h⟩
  · by_cases e : Stays Γ B ρ σ H K AA a
    · rw [fmCall_yes e] at h
      exact h
    · rw [fmCall_no e] at h
      exact rep.fh a o h
  · by_cases e : Stays Γ B ρ σ H K AA a
    · exact e.own.1
    · rw [fmCall_no e] at h
      exact rep.fb a o h
  · rw [map_some_at] at h
    have hk : k < as.length := by rw [← l2]; exact (List.getElem?_eq_some_iff.mp h).1
    obtain ⟨v, s', A, h1, h2, h3, h4⟩ := a1 k _ (List.getElem?_eq_getElem hk)
    rw [h] at h2
    cases h2
    exact ⟨v, A, map_some_at.mpr h1, sa h3 h4⟩
  · rw [map_some_at] at hk hm ek em
    have lk : k < as.length := by rw [← l2]; exact (List.getElem?_eq_some_iff.mp hk).1
    have lm : m < as.length := by rw [← l2]; exact (List.getElem?_eq_some_iff.mp hm).1
    obtain ⟨v', s', A', h1, h2, h3, h4⟩ := a1 k _ (List.getElem?_eq_getElem lk)
    obtain ⟨u', t', C', k1, k2, k3, k4⟩ := a1 m _ (List.getElem?_eq_getElem lm)
    rw [hk] at h2
    cases h2
    rw [ek] at h1
    cases h1
    rw [hm] at k2
    cases k2
    rw [em] at k1
    cases k1
    rw [SA.uniq g1 (sa h3 h4), SA.uniq g2 (sa k3 k4)]
    exact Hand.apart rep hv hd ht ne (List.getElem?_eq_getElem lk) (List.getElem?_eq_getElem lm) h4 k4
theorem Rep.back (rep : Rep K Γ B ρ σ H) (hv : Hand Γ B ρ σ H K vs as ss AA) (hd : dist (slotsOf as) = true) {B' : Hp} {H' : Hp} {ss' : List S} (eb : Ex B B') (r' : Rep K (FmCall Γ B ρ σ H K AA) B' (ss'.map some) (vs.map some) H') :
    Rep K Γ B' (putBack ρ as ss') σ H' ∧ (∀ {s : S} {v : V}, SRes K (FmCall Γ B ρ σ H K AA) B' (ss'.map some) (vs.map some) H' s v → SRes K Γ B' (putBack ρ as ss') σ H' s v) ∧
      ∀ {k : Nat} {t s : S} {v : V}, as[k]? = some (.t t) → ss'[k]? = some s → vs[k]? = some v → ∃ A, SA K Γ.X B' H' s v A ∧ Apart K Γ B' (putBack ρ as ss') σ H' A := by
  obtain ⟨l1, l2, a1, a2⟩ := hv.get
  have l3 : ss'.length = as.length := by
    have := r'.len
    rw [List.length_map, List.length_map, l1] at this
    exact this
  have conv : ∀ {s : S} {v : V} {A : List Addr}, SA K (FmCall Γ B ρ σ H K AA).X B' H' s v A → SA K Γ.X B' H' s v A := fun {s v A} h =>
    SA.move (F := (FmCall Γ B ρ σ H K AA).X) (H := H') (Ex.refl B') (show Γ.X.hv = (FmCall Γ B ρ σ H K AA).X.hv from rfl) (fun a ha => ⟨(SA.own h a ha).1, (fm_none (SA.own h a ha).2.1).1, rfl⟩) h
  have vnoc : ∀ {s : S} {v : V} {A : List Addr} {a : Addr}, SA K (FmCall Γ B ρ σ H K AA).X B' H' s v A → a ∈ A → ¬ Stays Γ B ρ σ H K AA a := fun {s v A a} h ha => (fm_none (SA.own h a ha).2.1).2
  have stay : ∀ {a : Addr}, Stays Γ B ρ σ H K AA a → B' a = none ∧ Γ.F a = none ∧ H' a = H a := fun {a} st => by
    obtain ⟨_, q2, o, q3⟩ := st.own
    have fa : (FmCall Γ B ρ σ H K AA).F a = some o := by rw [fmCall_yes st]; exact q3
    exact ⟨r'.fb a o fa, q2, by rw [r'.fh a o fa, q3]⟩
  -- an address of a slot's, not of the place that is handed on, stays
  have stays : ∀ {j : Nat} {s : S} {v : V} {A : List Addr} {a : Addr}, ρ[j]? = some (some s) → σ[j]? = some (some v) → SA K Γ.X B H s v A → a ∈ A → (∀ (k : Nat) p u t C, as[k]? = some (.s j p) → S.at p s = some t → VAt H p v u → SA K Γ.X B H t u C → a ∉ C) → Stays Γ B ρ σ H K AA a := fun {j s v A a} h1 h2 h3 h4 h5 => by
    refine ⟨⟨j, s, v, A, h1, h2, h3, h4⟩, fun C hC hc => ?_⟩
    obtain ⟨k, lk, hk⟩ := a2 C hC
    obtain ⟨u, t, C', g1, g2, g3, g4⟩ := a1 k _ (List.getElem?_eq_getElem lk)
    rw [hk] at g3
    cases g3
    generalize ha : as[k] = b at g4
    have hb : as[k]? = some b := by rw [List.getElem?_eq_getElem lk, ha]
    cases b with
    | d d =>
      obtain ⟨e, h⟩ := g4
      subst e
      rw [h.1] at hc
      exact absurd hc (by simp)
    | s i p =>
      obtain ⟨q1, s0, u0, f1, f2, f3, f4⟩ := g4
      by_cases e : i = j
      · subst e
        rw [h1] at f1
        cases f1
        rw [h2] at f2
        cases f2
        exact h5 k p u t C hb f3 f4 q1 hc
      · obtain ⟨v1, A1, e1, e2⟩ := rep.at_ i s0 f1
        have ev := some_inj2 (f2.symm.trans e1)
        subst ev
        obtain ⟨w, D1, D0, k1, k2, k3, k4, _⟩ := SA.path e2 f3
        have ew := VAt.inj f4 k1
        subst ew
        have eA := SA.uniq q1 k2
        subst eA
        exact rep.sep i j s0 s _ _ _ _ e f1 h1 f2 h2 e2 h3 a ((k3 a).mpr (.inr hc)) h4
    | t t0 =>
      obtain ⟨_, q1, q2⟩ := g4
      exact q2 j s v A h1 h2 h3 a hc h4
  -- what is in a slot behind the call
  have slot : ∀ {j : Nat} {s : S}, (putBack ρ as ss')[j]? = some (some s) → ∃ v A, σ[j]? = some (some v) ∧ SA K Γ.X B' H' s v A ∧ ∀ a ∈ A, (Stays Γ B ρ σ H K AA a ∧ ∃ s0 A0, ρ[j]? = some (some s0) ∧ SA K Γ.X B H s0 v A0 ∧ a ∈ A0) ∨
      ∃ (k : Nat) (p : List Str) (t : S) (u : V) (C : List Addr), as[k]? = some (.s j p) ∧ (ss'.map some)[k]? = some (some t) ∧ (vs.map some)[k]? = some (some u) ∧ SA K (FmCall Γ B ρ σ H K AA).X B' H' t u C ∧ a ∈ C := fun {j s} h => by
    rcases putBack_at l3 h with ⟨k, p, s0, t, h1, h2, h3, rfl⟩ | ⟨h1, h2⟩
    · obtain ⟨u, t0, A1, g1, g2, g3, q1, s0', u0, f1, f2, f3, f4⟩ := a1 k _ h1
      rw [h3] at f1
      cases f1
      obtain ⟨v1, A, e1, e2⟩ := rep.at_ j s0 h3
      have ev := some_inj2 (f2.symm.trans e1)
      subst ev
      obtain ⟨w, D1, D0, k1, k2, k3, k4, k5⟩ := SA.path e2 f3
      have ew := VAt.inj f4 k1
      subst ew
      have eA := SA.uniq q1 k2
      subst eA
      have st : ∀ a ∈ D0, Stays Γ B ρ σ H K AA a := fun a ha => stays h3 f2 e2 ((k3 a).mpr (.inl ha)) fun m q u' t' C hm hq hu hC hc => by
        have em : m = k := dist_inj hd hm h1
        subst em
        rw [h1] at hm
        injection hm with hm
        injection hm with _ hm
        subst hm
        rw [f3] at hq
        cases hq
        have eu := VAt.inj f4 hu
        subst eu
        rw [SA.uniq hC q1] at hc
        exact k4 a ha hc
      obtain ⟨v', A1', m1, m2⟩ := r'.at_ k t (map_some_at.mpr h2)
      rw [map_some_at, g1] at m1
      cases m1
      obtain ⟨_, A', n1, n2⟩ := k5 Γ.X B' H' t A1' eb rfl (fun a ha => stay (st a ha)) (fun a ha hc => vnoc m2 hc (st a ha)) (conv m2)
      refine ⟨_, A', f2, n1, fun a ha => ?_⟩
      rcases (n2 a).mp ha with ha | ha
      · exact .inl ⟨st a ha, s0, A, h3, e2, (k3 a).mpr (.inl ha)⟩
      · exact .inr ⟨k, p, t, u, A1', h1, map_some_at.mpr h2, map_some_at.mpr g1, m2, ha⟩
    · obtain ⟨v, A, e1, e2⟩ := rep.at_ j s h2
      have st : ∀ a ∈ A, Stays Γ B ρ σ H K AA a := fun a ha => stays h2 e1 e2 ha fun m q u' t' C hm hq hu hC hc => h1 m q hm s h2
      exact ⟨v, A, e1, SA.move eb rfl (fun a ha => stay (st a ha)) e2, fun a ha => .inl ⟨st a ha, s, A, h2, e2, ha⟩⟩
  have apart : ∀ {A : List Addr}, (∀ a ∈ A, ¬ Stays Γ B ρ σ H K AA a) → Apart K (FmCall Γ B ρ σ H K AA) B' (ss'.map some) (vs.map some) H' A → Apart K Γ B' (putBack ρ as ss') σ H' A := fun {A} n h j s v C h1 h2 h3 a ha hc => by
    obtain ⟨v', C', g1, g2, g3⟩ := slot h1
    rw [h2] at g1
    cases g1
    rw [SA.uniq h3 g2] at hc
    rcases g3 a hc with ⟨st, _⟩ | ⟨k, p, t, u, D, q1, q2, q3, q4, q5⟩
    · exact n a ha st
    · exact h k t u D q2 q3 q4 a ha q5
  refine ⟨⟨r'.bh, fun a o h => ?_, fun a o h => ?_, rep.b0.trans eb, by rw [putBack_len]; exact rep.len, fun j s h => ?_, fun j m s t v u A C ne hj hm ej em gj gm => ?_, rep.iot⟩, fun {s v} h => ?_, fun {k t s v} hk hs hvk => ?_⟩
  · refine r'.fh a o ?_
    rw [fmCall_no fun st => by rw [st.own.2.1] at h; cases h]
    exact h
  · refine r'.fb a o ?_
    rw [fmCall_no fun st => by rw [st.own.2.1] at h; cases h]
    exact h
  · obtain ⟨v, A, g1, g2, _⟩ := slot h
    exact ⟨v, A, g1, g2⟩
  · obtain ⟨v1, A1, g1, g2, g3⟩ := slot hj
    rw [ej] at g1
    cases g1
    obtain ⟨u1, C1, k1, k2, k3⟩ := slot hm
    rw [em] at k1
    cases k1
    rw [SA.uniq gj g2, SA.uniq gm k2]
    intro a ha hc
    rcases g3 a ha with ⟨st, s0, A0, p1, p2, p3⟩ | ⟨k, p, t1, w1, D, q1, q2, q3, q4, q5⟩
    · rcases k3 a hc with ⟨_, t0, C0, l1, l2, l3⟩ | ⟨k', p', t', w', D', n1, n2, n3, n4, n5⟩
      · exact rep.sep j m s0 t0 _ _ _ _ ne p1 l1 ej em p2 l2 a p3 l3
      · exact vnoc n4 n5 st
    · rcases k3 a hc with ⟨st, _⟩ | ⟨k', p', t', w', D', n1, n2, n3, n4, n5⟩
      · exact vnoc q4 q5 st
      · have nk : k ≠ k' := fun e => by
          subst e
          rw [q1] at n1
          injection n1 with n1
          injection n1 with n1 _
          exact ne n1
        exact r'.sep k k' t1 t' w1 w' D D' nk q2 n2 q3 n3 q4 n4 a q5 n5
  · obtain ⟨nh, A, h1, h2⟩ := h
    exact ⟨nh, A, conv h1, apart (fun a ha => vnoc h1 ha) h2⟩
  · obtain ⟨v', A, g1, g2⟩ := r'.at_ k s (map_some_at.mpr hs)
    rw [map_some_at, hvk] at g1
    cases g1
    refine ⟨A, conv g2, fun j s1 v1 C h1 h2 h3 a ha hc => ?_⟩
    obtain ⟨v2, C', k1, k2, k3⟩ := slot h1
    rw [h2] at k1
    cases k1
    rw [SA.uniq h3 k2] at hc
    rcases k3 a hc with ⟨st, _⟩ | ⟨m, p, t', u, D, q1, q2, q3, q4, q5⟩
    · exact vnoc g2 ha st
    · have nk : k ≠ m := fun e => by
        subst e
        rw [hk] at q1
        cases q1
      exact r'.sep k m s t' v u A D nk (map_some_at.mpr hs) q2 (map_some_at.mpr hvk) q3 g2 q4 a ha q5
end
end Z
set_option maxHeartbeats 2000000
/-! Z: defs and their calls, continued. -/
namespace Z
open PySem PySem.Spec PyProof.Rows L2
open Evl (Ex ex_l ex_t ex_rd)
section
variable {K : KF} {J : List Nat} {Γ : Fm J} {B : Hp} {ρ : En} {σ : L2.St} {H : Hp}
theorem hand_of (rep : Rep K Γ B ρ σ H) : ∀ {vs : List V} {as : List Ar} {ss : List S}, ArsAt K B σ vs as → ssOf ρ as = some ss → tmps as = 0 ∧ ∃ AA, Hand Γ B ρ σ H K vs as ss AA
  | _, _, _, .nil, h => by
    cases h
    exact ⟨rfl, [], .nil⟩
  | v :: vs, .d d :: as, ss, .cons h1 t, h => by
    unfold ssOf at h
    cases e : ssOf ρ as with
    | none => rw [e] at h; cases h
    | some r =>
      rw [e] at h
      cases h
      obtain ⟨k1, AA, k2⟩ := hand_of rep t e
      exact ⟨k1, [] :: AA, .cons ⟨rfl, rfl, h1⟩ k2⟩
  | v :: vs, .s i p :: as, ss, .cons h1 t, h => by
    obtain ⟨rfl, hi⟩ := h1
    unfold ssOf at h
    cases er : ρ[i]? with
    | none => rw [er] at h; cases h
    | some o =>
      cases o with
      | none => rw [er] at h; cases h
      | some s =>
        rw [er] at h
        cases e : ssOf ρ as with
        | none => rw [e] at h; cases h
        | some r =>
          rw [e] at h
          have h' : (some (s :: r)) = some ss := h
          cases h'
          obtain ⟨k1, AA, k2⟩ := hand_of rep t e
          obtain ⟨u, A, g1, g2⟩ := rep.at_ i s er
          have ev := some_inj2 (hi.symm.trans g1)
          subst ev
          exact ⟨k1, A :: AA, .cons ⟨g2, s, v, er, g1, rfl, rfl⟩ k2⟩
  | v :: vs, .t s :: as, ss, .cons h1 t, h => h1.elim
end
section
variable {X : Cx} {xc : Str → Value} {W : Ww} {e : Expr} {es : List Expr} {pos p apos : Pos} {cx : CX'} {k n : Nat} {f : Addr} {fd : FuncData} {ps : List Str} {F : Fn} {x : Str}
/-- how many arguments a list of them gives -/
def CX'.Len (c : CX') (n : Nat) : Prop := ∀ {as : List Ar} {ρ ρ' : En}, c ρ = .ok as ρ' → as.length = n
theorem len_nil : CX'.Len cxNil 0 := fun h => by cases h; rfl
theorem len_d {ca : CE} {m : Nat} (h : CX'.Len cx m) : CX'.Len (cxD ca cx) (m + 1) := fun {as ρ ρ'} e => by
  unfold cxD at e
  cases h1 : ca ρ with
  | ok s ρ1 =>
    have e' : ((cx ρ1).bx fun as ρ => .ok (.d s.d :: as) ρ) = .ok as ρ' := by rw [h1] at e; exact e
    cases h2 : cx ρ1 with
    | ok bs ρ2 =>
      rw [h2] at e'
      have e2 : RX.ok (.d s.d :: bs) ρ2 = .ok as ρ' := e'
      injection e2 with e3 e4
      rw [← e3, List.length_cons, h h2]
    | exc y ρ2 => rw [h2] at e'; cases e'
    | bad => rw [h2] at e'; cases e'
  | exc y ρ2 => rw [h1] at e; cases e
  | bad => rw [h1] at e; cases e
theorem len_s {i : Nat} {m : Nat} (h : CX'.Len cx m) : CX'.Len (cxS i cx) (m + 1) := fun {as ρ ρ'} e => by
  unfold cxS at e
  cases hi : ρ[i]? with
  | none => rw [hi] at e; cases e
  | some o =>
    cases o with
    | none => rw [hi] at e; cases e
    | some t =>
      have e' : ((cx ρ).bx fun as ρ => .ok (.s i [] :: as) ρ) = .ok as ρ' := by rw [hi] at e; exact e
      cases h2 : cx ρ with
      | ok bs ρ2 =>
        rw [h2] at e'
        have e2 : RX.ok (.s i [] :: bs) ρ2 = .ok as ρ' := e'
        injection e2 with e3 e4
        rw [← e3, List.length_cons, h h2]
      | exc y ρ2 => rw [h2] at e'; cases e'
      | bad => rw [h2] at e'; cases e'
theorem arsAt_len {K : KF} {B : Hp} {σ : L2.St} {vs : List V} {as : List Ar} (h : ArsAt K B σ vs as) : vs.length = as.length := Paired.length h
/-- the outcome of a call -/
def callR (r : FR) (as : List Ar) (ρ : En) : R := match r with
  | .ok s ss' => .ok s (putBack ρ as ss')
  | .exc x ss' => .exc x (putBack ρ as ss')
  | .bad => .bad
theorem spz_call {K : KF} {J : List Nat} {Γ : Fm W.J} {B : Hp} {ρ : En} {σ : L2.St} {H : Hp} {Q : VK} {vs : List V} {as : List Ar} {ss : List S} {AA : List (List Addr)} (rep : Rep K Γ B ρ σ H) (hv : Hand Γ B ρ σ H K vs as ss AA) (hd : dist (slotsOf as) = true) (ht : tmps as ≤ 1) (hn : as.length = n)
    (h : outZ K xc W Γ B σ Q (callR (F ss) as ρ)) : spZ K xc n F vs H Q (WE W.W σ) := by
  refine ⟨by rw [hv.get.1, hn], FmCall Γ B ρ σ H K AA, B, ss, rep.enter hv hd ht, ?_⟩
  cases hF : F ss with
  | bad =>
    rw [hF] at h
    exact h.elim
  | ok s ss' =>
    rw [hF] at h
    intro v B2 H2 e2 r2 q2
    obtain ⟨r3, c3, _⟩ := rep.back hv hd e2 r2
    exact h v B2 H2 e2 r3 (c3 q2)
  | exc y ss' =>
    rw [hF] at h
    intro B2 H2 e2 r2
    obtain ⟨r3, c3, _⟩ := rep.back hv hd e2 r2
    exact h B2 H2 e2 r3
theorem tz_call {K : KF} {σ : L2.St} {H : Hp} {Q : VK} (hn : es.length = n) (h : tZ K xc W (cCall F cx) σ H Q) (hl : ∀ {vs : List V} {as : List Ar} {ρ ρ' : En}, cx ρ = .ok as ρ' → as.length = n) :
    tZX K xc W cx σ H fun vs H1 => spZ K xc n F vs H1 Q (WE W.W σ) := by
  obtain ⟨Γ, B, ρ, rep, h⟩ := h
  refine ⟨Γ, B, ρ, rep, ?_⟩
  unfold cCall at h
  cases hc : cx ρ with
  | exc x ρ1 =>
    rw [hc] at h
    exact h
  | bad =>
    rw [hc] at h
    exact h
  | ok as ρ1 =>
    rw [hc] at h
    intro vs B1 H1 e1 r1 q1
    have hlen := hl (vs := vs) hc
    cases hs : ssOf ρ1 as with
    | none =>
      simp only [hs] at h
      exact h.elim
    | some ss =>
      simp only [hs] at h
      cases hd : dist (slotsOf as) with
      | false =>
        rw [hd] at h
        exact h.elim
      | true =>
        rw [hd] at h
        obtain ⟨ht, AA, hv⟩ := hand_of r1 q1 hs
        exact spz_call (J := W.J) r1 hv hd (by omega) hlen (outZ_mono e1 h)
/-- f(e, ..), f a def of the text -/
theorem ze_call (G : FnOk X.prog X.w X.K X.mg X.base (L2.CX X.prog X.w) k f fd ps (spZ X.kf xc n F)) (hr : Room k X.A) (hm : X.mg x = some (.ref f)) (hk : PySem.W.keepIn X.K (.ref f) = true) (hb : Binds X.K fd ps []) (tk : Takes X W.W)
    (ha : ZX X xc W (e :: es) cx) (hl : CX'.Len cx n) (hn : (e :: es).length = n := by rfl) (hg : Gl X x := by rfl) (hdb : (x == ("__debug__" : Str)) = false := by decide) (he : starEach (e :: es) X.env = (false, eval e X.env) :: starEach es X.env := by rfl)
    (hpl : (backTo pos (starEach es X.env)).any (·.1) = false := by rfl) : ZE X xc W (.Call (.Name x p) (e :: es) [] pos) (cCall F cx) :=
  PE.imp (pe_callS G hr hg hm hk hb (fun σ => passAt tk σ) ha hdb he hpl) fun σ H Q h => tz_call (es := e :: es) hn h (fun {vs as ρ ρ'} q => hl q)
end
/-! ### a body -/
def outs (J : List Nat) (ρ : En) : Nat → List S → Option (List S)
  | _, [] => some []
  | k, s :: ss => match (bif J.contains k then (match ρ[k]? with
      | some (some s') => some s'
      | _ => none) else (match s with
      | .dat d => some (.dat d)
      | _ => none)), outs J ρ (k + 1) ss with
    | some s', some r => some (s' :: r)
    | _, _ => none
def finish (J : List Nat) (ss : List S) : O → FR
  | .nx ρ => match outs J ρ 0 ss with
    | some r => .ok (.dat .none) r
    | none => .bad
  | .rt s ρ => match outs J ρ 0 ss with
    | some r => .ok s r
    | none => .bad
  | .exc x ρ => match outs J ρ 0 ss with
    | some r => .exc x r
    | none => .bad
  | _ => .bad
/-- n parameters, m names in all, J the slots handed on -/
def mkF (n m : Nat) (J : List Nat) (c : CS) : Fn := fun ss => bif ss.length == n then finish J ss (c (ss.map some ++ List.replicate (m - n) none)) else .bad
theorem outs_at {J : List Nat} {ρ : En} : ∀ {k : Nat} {ss r : List S}, outs J ρ k ss = some r → r.length = ss.length ∧ ∀ (i : Nat) s, r[i]? = some s → (k + i ∈ J ∧ ρ[k + i]? = some (some s)) ∨ (k + i ∉ J ∧ ∃ d, s = .dat d ∧ ss[i]? = some (.dat d))
  | k, [], r, h => by
    cases h
    exact ⟨rfl, fun i s h => by simp at h⟩
  | k, t :: ss, r, h => by
    unfold outs at h
    cases e : outs J ρ (k + 1) ss with
    | none =>
      rw [e] at h
      split at h
      · rename_i h1 h2
        cases h2
      · cases h
    | some r' =>
      rw [e] at h
      obtain ⟨h1, h2⟩ := outs_at e
      split at h
      · rename_i s' r'' g1 g2
        cases g2
        cases h
        refine ⟨by simp [h1], fun i s hi => ?_⟩
        cases i with
        | zero =>
          simp at hi
          subst hi
          cases hJ : J.contains k with
          | true =>
            rw [hJ] at g1
            refine .inl ⟨List.contains_iff_mem.mp hJ, ?_⟩
            simp only [cond_true] at g1
            split at g1
            · rename_i q hq
              cases g1
              exact hq
            · cases g1
          | false =>
            rw [hJ] at g1
            refine .inr ⟨fun hm => absurd (List.contains_iff_mem.mpr (show k ∈ J from hm)) (by rw [hJ]; exact Bool.false_ne_true), ?_⟩
            simp only [cond_false] at g1
            cases t with
            | dat d =>
              cases g1
              exact ⟨d, rfl, rfl⟩
            | lst l | dic l | obj c fs | hole => cases g1
        | succ i =>
          have e2 : k + (i + 1) = k + 1 + i := by omega
          rw [e2]
          simpa using h2 i s (by simpa using hi)
      · cases h
theorem start_eq {N : List Str} {vs : List V} : start N vs = vs.map some ++ List.replicate (N.length - vs.length) none := rfl
theorem app_some {α β : Type} {l : List α} {m : Nat} {k : Nat} {s : α} : (l.map some ++ List.replicate m none)[k]? = some (some s) ↔ l[k]? = some s := by
  rw [List.getElem?_append]
  by_cases h : k < (l.map some).length
  · rw [if_pos h, map_some_at]
  · rw [if_neg h, List.getElem?_replicate]
    rw [List.length_map] at h
    have e : l[k]? = none := List.getElem?_eq_none (by omega)
    rw [e]
    split <;> simp
section
variable {P : Program} {w : World} {K : PySem.W.Frag} {mg : Str → Option Value} {base : Heap} {xc : Str → Value}
abbrev Fm.body {J : List Nat} (Γ : Fm []) (B : Hp) (vs : List V) : Fm J := ⟨Γ.F, B, J.map fun j => vs[j]?.getD .non, Γ.hv⟩
theorem zfn_read {K : KF} {J : List Nat} {n : Nat} {N : List Str} {c : CS} {vs : List V} {H : Hp} {Q : VK} {E : XK} (hNn : n ≤ N.length) (hJ : ∀ j ∈ J, j < n) (h : spZ K xc n (mkF n N.length J c) vs H Q E) :
    tZS K xc ⟨fun cls d _ H => E cls d H, J⟩ c { nx := fun _ H' => Q .non H', rt := Q } (start N vs) H := by
  obtain ⟨hl, Γ, B, ss, rep, h⟩ := h
  have hls : ss.length = n := by
    have := rep.len
    rw [List.length_map, List.length_map, hl] at this
    exact this
  have h0 : outF K xc Γ B vs Q E (finish J ss (c (ss.map some ++ List.replicate (N.length - n) none))) := by
    unfold mkF at h
    rw [hls, beq_self_eq_true] at h
    exact h
  have back : ∀ {B' : Hp} {ρ' : En} {σ' : L2.St} {H' : Hp} {r : List S}, Rep K (Fm.body (J := J) Γ B vs) B' ρ' σ' H' → outs J ρ' 0 ss = some r →
      Rep K Γ B' (r.map some) (vs.map some) H' ∧ ∀ {s : S} {v : V}, SRes K (Fm.body (J := J) Γ B vs) B' ρ' σ' H' s v → SRes K Γ B' (r.map some) (vs.map some) H' s v := fun {B' ρ' σ' H' r} r' ho => by
    obtain ⟨o1, o2⟩ := outs_at ho
    have at1 : ∀ (k : Nat) s, r[k]? = some s → k ∈ J → ρ'[k]? = some (some s) ∧ ∃ v, vs[k]? = some v ∧ σ'[k]? = some (some v) := fun k s hk hm => by
      rcases o2 k s hk with ⟨h1, h2⟩ | ⟨h1, _⟩
      · rw [Nat.zero_add] at h2
        refine ⟨h2, ?_⟩
        have hk' : k < vs.length := by rw [hl]; exact hJ k hm
        refine ⟨vs[k], List.getElem?_eq_getElem hk', ?_⟩
        obtain ⟨i, hi, ei⟩ := List.getElem_of_mem hm
        refine r'.iot i k _ (by rw [List.getElem?_eq_getElem hi, ei]) ?_
        show (J.map fun j => vs[j]?.getD .non)[i]? = _
        rw [List.getElem?_map, List.getElem?_eq_getElem hi, ei]
        simp [List.getElem?_eq_getElem hk']
      · rw [Nat.zero_add] at h1
        exact absurd hm h1
    -- a parameter's content with something of its own is a slot's
    have own : ∀ (k : Nat) s v A a, r[k]? = some s → vs[k]? = some v → SA K Γ.X B' H' s v A → a ∈ A → ρ'[k]? = some (some s) ∧ σ'[k]? = some (some v) := fun k s v A a hk hv hs ha => by
      by_cases hm : k ∈ J
      · obtain ⟨h1, u, h2, h3⟩ := at1 k s hk hm
        rw [hv] at h2
        cases h2
        exact ⟨h1, h3⟩
      · rcases o2 k s hk with ⟨h1, _⟩ | ⟨_, d, rfl, h2⟩
        · rw [Nat.zero_add] at h1
          exact absurd h1 hm
        · rw [hs.1] at ha
          exact absurd ha (by simp)
    refine ⟨⟨r'.bh, r'.fh, r'.fb, rep.b0.trans r'.b0, by rw [List.length_map, List.length_map, o1, hls, hl], fun k s hk => ?_, fun k m s t v u A C ne hk hm ek em g1 g2 a ha hc => ?_, fun k j v hk => by simp at hk⟩, fun {s v} h => ?_⟩
    · rw [map_some_at] at hk
      by_cases hm : k ∈ J
      · obtain ⟨h1, v, h2, h3⟩ := at1 k s hk hm
        obtain ⟨v', A, h4, h5⟩ := r'.at_ k s h1
        rw [h3] at h4
        cases h4
        exact ⟨v, A, map_some_at.mpr h2, h5⟩
      · rcases o2 k s hk with ⟨h1, _⟩ | ⟨_, d, rfl, h2⟩
        · rw [Nat.zero_add] at h1
          exact absurd h1 hm
        · obtain ⟨v, A, h3, h4⟩ := rep.at_ k _ (map_some_at.mpr h2)
          exact ⟨v, [], h3, rfl, dp_mono r'.b0 h4.2⟩
    · rw [map_some_at] at hk hm ek em
      obtain ⟨k1, k2⟩ := own k s v A a hk ek g1 ha
      obtain ⟨m1, m2⟩ := own m t u C a hm em g2 hc
      exact r'.sep k m s t v u A C ne k1 m1 k2 m2 g1 g2 a ha hc
    · obtain ⟨nh, A, h1, h2⟩ := h
      refine ⟨nh, A, h1, fun j t u C hj ej g a ha hc => ?_⟩
      rw [map_some_at] at hj ej
      obtain ⟨k1, k2⟩ := own j t u C a hj ej g hc
      exact h2 j t u C k1 k2 g a ha hc
  have hpad : start N vs = vs.map some ++ List.replicate (N.length - n) none := by rw [start_eq, hl]
  refine ⟨Fm.body (J := J) Γ B vs, B, ss.map some ++ List.replicate (N.length - n) none, ⟨rep.bh, rep.fh, rep.fb, Ex.refl B, by rw [hpad]; simp [hls, hl], fun i s hi => ?_, fun i j s t v u A C ne hi hj ei ej => ?_, fun k j v hk hv => ?_⟩, ?_⟩
  · rw [app_some (β := Unit)] at hi
    obtain ⟨v, A, h1, h2⟩ := rep.at_ i s (map_some_at.mpr hi)
    rw [map_some_at] at h1
    exact ⟨v, A, by rw [hpad, app_some (β := Unit)]; exact h1, h2⟩
  · rw [app_some (β := Unit)] at hi hj
    rw [hpad, app_some (β := Unit)] at ei ej
    exact rep.sep i j s t v u A C ne (map_some_at.mpr hi) (map_some_at.mpr hj) (map_some_at.mpr ei) (map_some_at.mpr ej)
  · have hj : j < vs.length := by rw [hl]; exact hJ j (List.mem_of_getElem? hk)
    rw [hpad, app_some (β := Unit)]
    have hv' : (J.map fun j => vs[j]?.getD .non)[k]? = some v := hv
    rw [List.getElem?_map, hk] at hv'
    simp [List.getElem?_eq_getElem hj] at hv'
    rw [List.getElem?_eq_getElem hj, hv']
  · cases hc : c (ss.map some ++ List.replicate (N.length - n) none) with
    | nx ρ' =>
      rw [hc] at h0
      unfold finish at h0
      cases ho : outs J ρ' 0 ss with
      | none => simp only [ho] at h0; exact h0.elim
      | some r =>
        simp only [ho] at h0
        intro B' σ' H' r'
        obtain ⟨r2, c2⟩ := back r' ho
        exact h0 .non B' H' r'.b0 r2 (sres_dat .non)
    | rt s ρ' =>
      rw [hc] at h0
      unfold finish at h0
      cases ho : outs J ρ' 0 ss with
      | none => simp only [ho] at h0; exact h0.elim
      | some r =>
        simp only [ho] at h0
        intro v B' σ' H' r' q'
        obtain ⟨r2, c2⟩ := back r' ho
        exact h0 v B' H' r'.b0 r2 (c2 q')
    | exc x ρ' =>
      rw [hc] at h0
      unfold finish at h0
      cases ho : outs J ρ' 0 ss with
      | none => simp only [ho] at h0; exact h0.elim
      | some r =>
        simp only [ho] at h0
        intro B' σ' H' r'
        obtain ⟨r2, c2⟩ := back r' ho
        exact h0 B' H' r'.b0 r2
    | bk ρ' => rw [hc] at h0; exact h0.elim
    | ct ρ' => rw [hc] at h0; exact h0.elim
    | bad => rw [hc] at h0; exact h0.elim
/-- THE RULE: a def keeps its mirror's promise -/
theorem zfn {x qual : Str} {st : Stmt} {f : Addr} {fd : FuncData} {N ps : List Str} {k n : Nat} {J : List Nat} {c : CS} (F : Fun K x qual st f fd) (S : FnScope N ps (defScope st)) (hn : ps.length = n) (hNn : n ≤ N.length) (hJ : ∀ j ∈ J, j < n)
    (hbody : ∀ (X : Cx) (E : XK) (cdv : Value) (A : Around) (outer : List Env) (s : Shared) (H : Hp), X = cxOf (L2.CX P w) P w K mg base N qual (defScope st) f cdv A outer s H E → Room k X.A → Takes X (fun cls d _ H => E cls d H) → PassesOwn (model X.prog X.w) X.A X.env X.xe →
      ZSs X xc ⟨fun cls d _ H => E cls d H, J⟩ (defBody st) c) : FnOk P w K mg base (L2.CX P w) (k + 1) f fd ps (spZ ⟨K, P, w⟩ xc n (mkF n N.length J c)) := by
  refine F.okX S (fun vs H Q E h => by rw [h.1, hn]) (fun cdv A outer s H vs Q E hr h => ?_)
  exact ⟨_, hbody _ E cdv A outer s H rfl hr (takes_of rfl rfl rfl rfl) (passes_of rfl), zfn_read hNn hJ h⟩
end
/-! ### defs by name -/
/-- the def of that name keeps the promise of F, at level k -/
def Has (P : Program) (w : World) (K : PySem.W.Frag) (mg : Str → Option Value) (base : Heap) (xc : Str → Value) (x : Str) (k n : Nat) (ps : List Str) (F : Fn) : Prop :=
  ∃ (f : Addr) (fd : FuncData), FnOk P w K mg base (L2.CX P w) k f fd ps (spZ ⟨K, P, w⟩ xc n F) ∧ mg x = some (.ref f) ∧ PySem.W.keepIn K (.ref f) = true ∧ Binds K fd ps []
section
variable {P : Program} {w : World} {K : PySem.W.Frag} {mg : Str → Option Value} {base : Heap} {xc : Str → Value}
theorem Has.mk {x : Str} {k n : Nat} {ps : List Str} {F : Fn} {st : Stmt} {f : Addr} {fd : FuncData} {q : Str} (U : Fun K x q st f fd) (hm : mg x = some (.ref f)) (b : Binds K fd ps []) (h : FnOk P w K mg base (L2.CX P w) k f fd ps (spZ ⟨K, P, w⟩ xc n F)) : Has P w K mg base xc x k n ps F := ⟨f, fd, h, hm, U.kp, b⟩
end
section
variable {X : Cx} {xc : Str → Value} {W : Ww} {e : Expr} {es : List Expr} {pos p : Pos} {cx : CX'} {j k n : Nat} {ps : List Str} {F : Fn} {x : Str}
theorem ze_callH (G : Has X.prog X.w X.K X.mg X.base xc x j n ps F) (hr : Room k X.A) (tk : Takes X W.W) (ha : ZX X xc W (e :: es) cx) (hl : CX'.Len cx n) (hjk : j ≤ k := by first | decide | omega) (hn : (e :: es).length = n := by rfl) (hg : Gl X x := by rfl) (hdb : (x == ("__debug__" : Str)) = false := by decide)
    (he : starEach (e :: es) X.env = (false, eval e X.env) :: starEach es X.env := by rfl) (hpl : (backTo pos (starEach es X.env)).any (·.1) = false := by rfl) : ZE X xc W (.Call (.Name x p) (e :: es) [] pos) (cCall F cx) := by
  obtain ⟨f, fd, h, hm, hk, hb⟩ := G
  exact ze_call h (hr.mono hjk) hm hk hb tk ha hl hn hg hdb he hpl
theorem zss_bad {sts : List Stmt} : ZSs X xc W sts (fun _ => .bad) := PSs.imp pss_never fun D σ H ⟨Γ, B, ρ, rep, k⟩ => k
theorem Has.mono {P : Program} {w : World} {K : PySem.W.Frag} {mg : Str → Option Value} {base : Heap} {i j : Nat} (G : Has P w K mg base xc x i n ps F) (h : i ≤ j) : Has P w K mg base xc x j n ps F := by
  obtain ⟨f, fd, h1, h2⟩ := G
  exact ⟨f, fd, h1.mono h, h2⟩
theorem hu64 {A : Around} (hr : Room k A) : A.units + 64 < cLine := hr.units
theorem hu65 {A : Around} (hr : Room k A) : A.units + 65 < cLine := Nat.lt_of_le_of_lt (Nat.add_le_add_left (by omega : 65 ≤ 16 * k + 200) _) (by have := hr.un; omega)
end
end Z
set_option maxHeartbeats 2000000
/-! Z: statements, loops, comprehensions. -/
namespace Z
open PySem PySem.Spec PyProof.Rows L2
open Evl (Ex ex_l ex_t ex_rd)
/-! ### statements -/
theorem notin {l : List Nat} {i : Nat} (h : l.contains i = false) : i ∉ l := fun m => by rw [List.contains_iff_mem.mpr m] at h; cases h
def R.bs : R → (S → En → O) → O
  | .ok s ρ, k => k s ρ
  | .exc x ρ, _ => .exc x ρ
  | .bad, _ => .bad
def RA.bs : RA → (List PyData → En → O) → O
  | .ok s ρ, k => k s ρ
  | .exc x ρ, _ => .exc x ρ
  | .bad, _ => .bad
def O.sq : O → CS → O
  | .nx ρ, c => c ρ
  | o, _ => o
def cNext : CS := fun ρ => .nx ρ
def cSeq (a b : CS) : CS := fun ρ => (a ρ).sq b
def cRet (c : CE) : CS := fun ρ => (c ρ).bs fun s ρ => .rt s ρ
def cRetN : CS := fun ρ => .rt (.dat .none) ρ
def cDrop (c : CE) : CS := fun ρ => (c ρ).bs fun _ ρ => .nx ρ
def cSet (i : Nat) (c : CE) : CS := fun ρ => (c ρ).bs fun s ρ => .nx (ρ.set i (some s))
def cIfS (ct : CE) (a b : CS) : CS := fun ρ => (ct ρ).bs fun s ρ => match s with
  | .dat (.bool true) => a ρ
  | .dat (.bool false) => b ρ
  | _ => .bad
section
variable {K : KF} {xc : Str → Value} {W : Ww} {Γ : Fm W.J} {B B' : Hp} {ρ : En} {σ : L2.St} {H : Hp}
/-- the frame whose data are those of now -/
abbrev Fm.now {J : List Nat} (Γ : Fm J) (B : Hp) : Fm J := ⟨Γ.F, B, Γ.io, Γ.hv⟩
theorem Rep.now {J : List Nat} {Γ : Fm J} (r : Rep K Γ B ρ σ H) : Rep K (Γ.now B) B ρ σ H := ⟨r.bh, r.fh, r.fb, Ex.refl B, r.len, r.at_, r.sep, r.iot⟩
theorem Rep.old {J : List Nat} {Γ : Fm J} (e : Ex Γ.B0 B) (r : Rep K (Γ.now B) B' ρ σ H) : Rep K Γ B' ρ σ H ∧ Ex B B' := ⟨⟨r.bh, r.fh, r.fb, e.trans r.b0, r.len, r.at_, r.sep, r.iot⟩, r.b0⟩
theorem SRes.old {J : List Nat} {Γ : Fm J} {s : S} {v : V} (r : SRes K (Γ.now B) B' ρ σ H s v) : SRes K Γ B' ρ σ H s v := r
theorem outS_now {D : Ends} (e : Ex Γ.B0 B) : ∀ {o : O}, outS K xc W Γ D o → outS K xc W (Γ.now B) D o
  | .nx ρ', h => fun B' σ' H' r => h B' σ' H' (Rep.old e r).1
  | .rt s ρ', h => fun v B' σ' H' r q => h v B' σ' H' (Rep.old e r).1 q.old
  | .bk ρ', h => fun B' σ' H' r => h B' σ' H' (Rep.old e r).1
  | .ct ρ', h => fun B' σ' H' r => h B' σ' H' (Rep.old e r).1
  | .exc x ρ', h => fun B' σ' H' r => h B' σ' H' (Rep.old e r).1
  | .bad, h => h
/-- an expression within a statement -/
theorem tz_bs {c : CE} {k : S → En → O} {D : Ends} {Q' : VK} (rep : Rep K Γ B ρ σ H) (h : outS K xc W Γ D ((c ρ).bs k))
    (next : ∀ v B' H' s ρ', Ex B B' → Rep K Γ B' ρ' σ H' → SRes K Γ B' ρ' σ H' s v → outS K xc W Γ D (k s ρ') → Q' v H') : tZ K xc W c σ H Q' := by
  refine ⟨Γ, B, ρ, rep, ?_⟩
  cases hc : c ρ with
  | ok s ρ1 =>
    rw [hc] at h
    intro v B1 H1 e1 r1 q1
    exact next v B1 H1 s ρ1 e1 r1 q1 h
  | exc x ρ1 =>
    rw [hc] at h
    exact fun B' H' e r => h B' σ H' r
  | bad =>
    rw [hc] at h
    exact h
theorem tza_bs {c : CA} {k : List PyData → En → O} {D : Ends} {Q' : List V → Hp → Prop} (rep : Rep K Γ B ρ σ H) (h : outS K xc W Γ D ((c ρ).bs k))
    (next : ∀ vs B' H' ds ρ', Ex B B' → Rep K Γ B' ρ' σ H' → DpAll K B' vs ds → outS K xc W Γ D (k ds ρ') → Q' vs H') : tZA K xc W c σ H Q' := by
  refine ⟨Γ, B, ρ, rep, ?_⟩
  cases hc : c ρ with
  | ok s ρ1 =>
    rw [hc] at h
    intro v B1 H1 e1 r1 q1
    exact next v B1 H1 s ρ1 e1 r1 q1 h
  | exc x ρ1 =>
    rw [hc] at h
    exact fun B' H' e r => h B' σ H' r
  | bad =>
    rw [hc] at h
    exact h
theorem tzt_bs {c : CE} {k : S → En → O} {D : Ends} {Q' : Bool → Hp → Prop} (rep : Rep K Γ B ρ σ H) (h : outS K xc W Γ D ((c ρ).bs k)) (hk : ∀ s ρ', (∀ b, s ≠ .dat (.bool b)) → k s ρ' = .bad)
    (next : ∀ b B' H' ρ', Ex B B' → Rep K Γ B' ρ' σ H' → outS K xc W Γ D (k (.dat (.bool b)) ρ') → Q' b H') : tZT K xc W c σ H Q' := by
  refine ⟨Γ, B, ρ, rep, ?_⟩
  cases hc : c ρ with
  | ok s ρ1 =>
    rw [hc] at h
    have h' : outS K xc W Γ D (k s ρ1) := h
    by_cases e : ∃ b, s = .dat (.bool b)
    · obtain ⟨b, rfl⟩ := e
      exact ⟨b, rfl, fun B1 H1 e1 r1 => next b B1 H1 ρ1 e1 r1 h'⟩
    · rw [hk s ρ1 fun b z => e ⟨b, z⟩] at h'
      exact h'.elim
  | exc x ρ1 =>
    rw [hc] at h
    exact fun B' H' e r => h B' σ H' r
  | bad =>
    rw [hc] at h
    exact h
theorem outS_sq {D : Ends} {c : CS} {o : O} (h : outS K xc W Γ D (o.sq c)) : outS K xc W Γ { D with nx := fun σ' H' => tZS K xc W c D σ' H' } o := by
  cases o with
  | nx ρ' => exact fun B' σ' H' r => ⟨Γ, B', ρ', r, h⟩
  | rt s ρ' => exact h
  | bk ρ' => exact h
  | ct ρ' => exact h
  | exc x ρ' => exact h
  | bad => exact h
end
section
variable {X : Cx} {xc : Str → Value} {W : Ww} {e : Expr} {es : List Expr} {st : Stmt} {rest : List Stmt} {pos : Pos} {ca : CE} {c d : CS}
theorem zss_nil : ZSs X xc W [] cNext := PSs.imp pss_nil fun D σ H ⟨Γ, B, ρ, rep, k⟩ => k B σ H rep
theorem zss_cons (h1 : ZS X xc W st c) (h2 : ZSs X xc W rest d) : ZSs X xc W (st :: rest) (cSeq c d) := PSs.imp (pss_cons h1 h2) fun D σ H ⟨Γ, B, ρ, rep, k⟩ => ⟨Γ, B, ρ, rep, outS_sq k⟩
theorem zss_one (h1 : ZS X xc W st c) : ZSs X xc W [st] c := pss_one h1
theorem zs_pass : ZS X xc W (.Pass pos) cNext := PS.imp ps_pass fun D σ H ⟨Γ, B, ρ, rep, k⟩ => k B σ H rep
def cBrk : CS := fun ρ => .bk ρ
def cCnt : CS := fun ρ => .ct ρ
theorem zs_break : ZS X xc W (.Break pos) cBrk := PS.imp ps_break fun D σ H ⟨Γ, B, ρ, rep, k⟩ => k B σ H rep
theorem zs_continue : ZS X xc W (.Continue pos) cCnt := PS.imp ps_continue fun D σ H ⟨Γ, B, ρ, rep, k⟩ => k B σ H rep
theorem zs_ret (he : ZE X xc W e ca) : ZS X xc W (.Return (some e) pos) (cRet ca) := PS.imp (ps_ret he) fun D σ H ⟨Γ, B, ρ, rep, k⟩ => tz_bs rep k fun v B' H' s ρ' e1 r1 q1 k1 => k1 v B' σ H' r1 q1
theorem zs_retN : ZS X xc W (.Return none pos) cRetN := PS.imp ps_retN fun D σ H ⟨Γ, B, ρ, rep, k⟩ => k .non B σ H rep (sres_dat .non)
theorem zs_expr (he : ZE X xc W e ca) (hs : swapsWith e none pos.line X.env = pure false := by rfl) : ZS X xc W (.Expr e pos) (cDrop ca) := PS.imp (ps_expr he hs) fun D σ H ⟨Γ, B, ρ, rep, k⟩ => tz_bs rep k fun v B' H' s ρ' e1 r1 q1 k1 => k1 B' σ H' r1
theorem zs_set {i : Nat} {x : Str} {pos' : Pos} (hN : X.N.Nodup) (hi : X.N[i]? = some x) (hx : Loc X.env.scope x) (he : ZE X xc W e ca) (hJ : W.J.contains i = false := by rfl) (hs : swapsWith e (some (.Name x pos')) pos.line X.env = pure false := by rfl)
    (hf : X.fn x = true ∨ X.env.scope.names.lookup x = some .local := by first | exact .inl rfl | exact .inr rfl | assumption) : ZS X xc W (.Assign [.Name x pos'] e pos) (cSet i ca) :=
  PS.imp (ps_set hN hi hx he hs hf) fun D σ H ⟨Γ, B, ρ, rep, k⟩ => tz_bs rep k fun v B' H' s ρ' e1 r1 q1 k1 => k1 B' _ H' (r1.slot i (notin hJ) (q1.drop i))
theorem zs_if {t : Expr} {a b : List Stmt} (hc : ZT X xc W t ca) (ha : ZSs X xc W a c) (hb : ZSs X xc W b d) : ZS X xc W (.If t a b pos) (cIfS ca c d) :=
  PS.imp (ps_if hc ha hb) fun D σ H ⟨Γ, B, ρ, rep, k⟩ => tzt_bs rep k (fun s ρ' hd => by
    cases s with
    | lst l | dic l | obj c fs | hole => rfl
    | dat d => cases d with
      | bool b => exact absurd rfl (hd b)
      | none | int _ | str _ | list _ | tuple _ | dict _ => rfl) fun b B1 H1 ρ1 e1 r1 k1 => by
    cases b with
    | true => exact iteT ⟨Γ, B1, ρ1, r1, k1⟩
    | false => exact iteF ⟨Γ, B1, ρ1, r1, k1⟩
/-! ### targets -/
abbrev CG := PyData → En → Option En
/-- only the slots gs have changed -/
def Diff (gs : List Nat) (σ σ' : L2.St) : Prop := σ'.length = σ.length ∧ ∀ i, i ∉ gs → σ'[i]? = σ[i]?
def gZ (K : KF) (J : List Nat) (gs : List Nat) (cg : CG) : TG := fun v σ H Q => ∃ (Γ : Fm J) (B : Hp) (ρ ρ' : En) (d : PyData), Rep K Γ B ρ σ H ∧ Dp K B v d ∧ cg d ρ = some ρ' ∧ ∀ σ', Rep K Γ B ρ' σ' H → Diff gs σ σ' → Q σ' H
def gsZ (K : KF) (J : List Nat) (gs : List Nat) (cg : List PyData → En → Option En) : TGs := fun vs σ H Q => ∃ (Γ : Fm J) (B : Hp) (ρ ρ' : En) (ds : List PyData), Rep K Γ B ρ σ H ∧ DpAll K B vs ds ∧ cg ds ρ = some ρ' ∧ ∀ σ', Rep K Γ B ρ' σ' H → Diff gs σ σ' → Q σ' H
abbrev ZG (X : Cx) (W : Ww) (tg : Expr) (gs : List Nat) (cg : CG) : Prop := PG X tg (gZ X.kf W.J gs cg)
abbrev ZGs (X : Cx) (W : Ww) (tgs : List Expr) (gs : List Nat) (cg : List PyData → En → Option En) : Prop := PGs X tgs (gsZ X.kf W.J gs cg)
theorem Diff.refl (gs : List Nat) (σ : L2.St) : Diff gs σ σ := ⟨rfl, fun _ _ => rfl⟩
theorem Diff.set {i : Nat} {v : Option V} (σ : L2.St) : Diff [i] σ (σ.set i v) := ⟨List.length_set, fun j hj => List.getElem?_set_ne (fun e => hj (by rw [e]; exact List.mem_cons_self))⟩
theorem Diff.trans {g1 g2 : List Nat} {σ σ1 σ2 : L2.St} (a : Diff g1 σ σ1) (b : Diff g2 σ1 σ2) : Diff (g1 ++ g2) σ σ2 := ⟨b.1.trans a.1, fun j hj => by
  rw [List.mem_append] at hj
  exact (b.2 j fun z => hj (.inr z)).trans (a.2 j fun z => hj (.inl z))⟩
theorem PG.imp {X : Cx} {tg : Expr} {t t' : TG} (h : PG X tg t) (m : ∀ v σ H Q, t' v σ H Q → t v σ H Q) : PG X tg t' := ⟨fun pins s σ H v u Q I r q => h.run pins s σ H v u Q I r (m v σ H Q q)⟩
theorem PGs.imp {X : Cx} {tg : List Expr} {t t' : TGs} (h : PGs X tg t) (m : ∀ v σ H Q, t' v σ H Q → t v σ H Q) : PGs X tg t' := ⟨fun pins s σ H v u Q I r q => h.run pins s σ H v u Q I r (m v σ H Q q)⟩
def cgName (i : Nat) : CG := fun d ρ => some (ρ.set i (some (.dat d)))
theorem zg_name {i : Nat} {x : Str} (hN : X.N.Nodup) (hi : X.N[i]? = some x) (hx : Loc X.env.scope x) (hJ : W.J.contains i = false := by rfl) (hf : X.fn x = true ∨ X.env.scope.names.lookup x = some .local := by first | exact .inl rfl | exact .inr rfl | assumption) : ZG X W (.Name x pos) [i] (cgName i) :=
  PG.imp (pg_name hN hi hx hf) fun v σ H Q ⟨Γ, B, ρ, ρ', d, rep, hd, h1, h⟩ => by
    have e : ρ.set i (some (.dat d)) = ρ' := Option.some.inj h1
    subst e
    exact h _ (rep.slot i (notin hJ) (sres_dat hd)) (Diff.set σ)
def cgNil : List PyData → En → Option En
  | [], ρ => some ρ
  | _, _ => none
def cgCons (a : CG) (b : List PyData → En → Option En) : List PyData → En → Option En
  | d :: ds, ρ => match a d ρ with
    | some ρ1 => b ds ρ1
    | none => none
  | _, _ => none
theorem zgs_nil : ZGs X W [] [] cgNil := PGs.imp pgs_nil fun vs σ H Q ⟨Γ, B, ρ, ρ', ds, rep, hd, h1, h⟩ => by
  cases hd with
  | nil =>
    have e : ρ = ρ' := Option.some.inj h1
    subst e
    exact ⟨rfl, h σ rep (Diff.refl _ _)⟩
  | cons _ _ => cases h1
theorem zgs_cons {g1 g2 : List Nat} {a : CG} {b : List PyData → En → Option En} (h1 : ZG X W e g1 a) (h2 : ZGs X W es g2 b) (hs : (assignEach (e :: es) X.env).map (·.2) = assign e X.env :: (assignEach es X.env).map (·.2) := by rfl) : ZGs X W (e :: es) (g1 ++ g2) (cgCons a b) :=
  PGs.imp (pgs_cons h1 h2 hs) fun vs σ H Q ⟨Γ, B, ρ, ρ', ds, rep, hd, h1, h⟩ => by
    cases hd with
    | nil => cases h1
    | @cons v vs d ds hd hds =>
      have h1' : (match a d ρ with
        | some ρ1 => b ds ρ1
        | none => none) = some ρ' := h1
      cases ha : a d ρ with
      | none => rw [ha] at h1'; cases h1'
      | some ρ1 =>
        rw [ha] at h1'
        exact ⟨v, vs, rfl, Γ, B, ρ, ρ1, d, rep, hd, ha, fun σ1 r1 d1 => ⟨Γ, B, ρ1, ρ', ds, r1, hds, h1', fun σ2 r2 d2 => h σ2 r2 (d1.trans d2)⟩⟩
def cgTup (n : Nat) (b : List PyData → En → Option En) : CG := fun d ρ => match d with
  | .tuple ds => bif ds.length == n then b ds ρ else none
  | _ => none
theorem zg_tup {gs : List Nat} {b : List PyData → En → Option En} {k n : Nat} (hc : X.calm = true) (h : ZGs X W es gs b) (hn : (assignEach es X.env).length = n := by rfl) (hst : (assignEach es X.env).findIdx? (·.1) = none := by rfl) : ZG X W (.Tuple es k pos) gs (cgTup n b) :=
  PG.imp (pg_tup hc h hn hst) fun v σ H Q ⟨Γ, B, ρ, ρ', d, rep, hd, h1, h⟩ => by
    unfold cgTup at h1
    cases d with
    | tuple ds =>
      obtain ⟨a, xs, rfl, k1, k2⟩ := dp_tup hd
      simp only at h1
      cases hl : (ds.length == n) with
      | false => rw [hl] at h1; cases h1
      | true =>
        rw [hl] at h1
        exact ⟨a, xs, rfl, ex_t rep.bh k1, by rw [dpAll_len k2]; exact eq_of_beq hl, Γ, B, ρ, ρ', ds, rep, k2, h1, h⟩
    | none | bool _ | int _ | str _ | list _ | dict _ => cases h1
def cgLst (n : Nat) (b : List PyData → En → Option En) : CG := fun d ρ => match d with
  | .list ds => bif ds.length == n then b ds ρ else none
  | _ => none
theorem zg_lst {gs : List Nat} {b : List PyData → En → Option En} {k n : Nat} (hc : X.calm = true) (h : ZGs X W es gs b) (hn : (assignEach es X.env).length = n := by rfl) (hst : (assignEach es X.env).findIdx? (·.1) = none := by rfl) : ZG X W (.Tuple es k pos) gs (cgLst n b) :=
  PG.imp (pg_lst hc h hn hst) fun v σ H Q ⟨Γ, B, ρ, ρ', d, rep, hd, h1, h⟩ => by
    unfold cgLst at h1
    cases d with
    | list ds =>
      obtain ⟨a, xs, rfl, k1, k2⟩ := dp_list hd
      simp only at h1
      cases hl : (ds.length == n) with
      | false => rw [hl] at h1; cases h1
      | true =>
        rw [hl] at h1
        exact ⟨a, xs, rfl, ex_l rep.bh k1, by rw [dpAll_len k2]; exact eq_of_beq hl, Γ, B, ρ, ρ', ds, rep, k2, h1, h⟩
    | none | bool _ | int _ | str _ | tuple _ | dict _ => cases h1
/-- targets = a value that is unpacked -/
def cAsg (g : CG) (c : CE) : CS := fun ρ => (c ρ).bs fun s ρ => match g s.d ρ with
  | some ρ' => .nx ρ'
  | none => .bad
theorem zs_asg {gs : List Nat} {tg : Expr} {g : CG} (he : ZE X xc W e ca) (hg : ZG X W tg gs g) (hs : swapsWithSole [tg] e pos.line X.env = pure false := by rfl) (hw : swappedStores [tg] e X.env = pure none := by rfl)
    (h1 : (assignEach [tg] X.env).map (·.2) = [assign tg X.env] := by rfl) : ZS X xc W (.Assign [tg] e pos) (cAsg g ca) :=
  PS.imp (ps_asg he hg hs hw h1) fun D σ H ⟨Γ, B, ρ, rep, k⟩ => tz_bs rep k fun v B1 H1 s ρ1 e1 r1 q1 k1 => by
    obtain ⟨B2, e2, r2, q2⟩ := SRes.data r1 q1
    cases hg' : g s.d ρ1 with
    | none => rw [hg'] at k1; exact k1.elim
    | some ρ2 =>
      rw [hg'] at k1
      exact ⟨Γ, B2, ρ1, ρ2, s.d, r2, q2, hg', fun σ' r3 _ => k1 B2 σ' H1 r3⟩
/-- a, b = x, y -/
def cPar (i j : Nat) (c : CA) : CS := fun ρ => (c ρ).bs fun ds ρ => match ds with
  | [a, b] => .nx ((ρ.set i (some (.dat a))).set j (some (.dat b)))
  | _ => .bad
theorem zs_par {i j : Nat} {x y : Str} {a b : Expr} {cas : CA} {px py pt pt2 : Pos} {kt k2 : Nat} (hc : X.calm = true) (hN : X.N.Nodup) (hi : X.N[i]? = some x) (hj : X.N[j]? = some y) (hij : i ≠ j)
    (hx : X.env.scope.names.lookup x = some .local) (hy : X.env.scope.names.lookup y = some .local) (ha : ZA X xc W [a, b] cas)
    (hw : swappedStores [.Tuple [.Name x px, .Name y py] kt pt] (.Tuple [a, b] k2 pt2) X.env = pure (some [x, y])) (hJi : W.J.contains i = false := by rfl) (hJj : W.J.contains j = false := by rfl)
    (hs : swapsWithSole [.Tuple [.Name x px, .Name y py] kt pt] (.Tuple [a, b] k2 pt2) pos.line X.env = pure false := by rfl) :
    ZS X xc W (.Assign [.Tuple [.Name x px, .Name y py] kt pt] (.Tuple [a, b] k2 pt2) pos) (cPar i j cas) :=
  PS.imp (ps_par hc hN hi hj hij hx hy ha.run hw hs) fun D σ H ⟨Γ, B, ρ, rep, k⟩ => tza_bs rep k fun vs B1 H1 ds ρ1 e1 r1 q1 k1 => by
    cases q1 with
    | nil => exact k1.elim
    | cons h1 t1 =>
      cases t1 with
      | nil => exact k1.elim
      | cons h2 t2 =>
        cases t2 with
        | cons _ _ => exact k1.elim
        | nil => exact ⟨_, _, rfl, k1 B1 _ H1 ((r1.slot i (notin hJi) (sres_dat h1)).slot j (notin hJj) (sres_dat h2))⟩
end
/-! ### a list of one's own is changed -/
section
variable {K : KF} {J : List Nat} {Γ : Fm J} {B : Hp} {ρ : En} {σ : L2.St} {H : Hp}
theorem Rep.own (rep : Rep K Γ B ρ σ H) {i : Nat} {l : List PyData} (hi : ρ[i]? = some (some (.lst l))) : ∃ a xs, σ[i]? = some (some (.ref a)) ∧ H a = some (.lst xs) ∧ DpAll K B xs l ∧
    ∀ (ys : List V) (m : List PyData), DpAll K B ys m → Rep K Γ B (ρ.set i (some (.lst m))) σ (upd H a (.lst ys)) := by
  obtain ⟨v, A, h1, h2⟩ := rep.at_ i _ hi
  obtain ⟨a, xs, rfl, rfl, k1, k2, k3⟩ := id h2
  refine ⟨a, xs, h1, k2, k3, fun ys m hm => rep.mut (A' := [a]) hi h1 h2 (fun b hb o ho => ?_) ⟨a, ys, rfl, rfl, k1, upd_same, hm⟩ fun b hb => .inl hb⟩
  rw [upd_ne (by simpa using hb)]
  exact ho
end
section
variable {X : Cx} {xc : Str → Value} {W : Ww} {o e ix : Expr} {pos tpos cpos apos : Pos} {ca ci : CE}
/-- name.append(e) -/
def cApp (i : Nat) (c : CE) : CS := fun ρ => match ρ[i]? with
  | some (some (.lst _)) => (c ρ).bs fun s ρ => match ρ[i]? with
    | some (some (.lst l)) => bif decide (l.length < sizeLine) then .nx (ρ.set i (some (.lst (l ++ [s.d])))) else .bad
    | _ => .bad
  | _ => .bad
theorem zs_append {i : Nat} (ho : PE X o (tVar i)) (he : ZE X xc W e ca)
    (hbase : attributeBase o "append" X.env (eval o X.env) = eval o X.env := by rfl)
    (hfew : ((backTo cpos (starEach [e] X.env)).all (fun x => !x.1) && (backToKw cpos (keywordEach [] X.env)).all (fun x => x.1.isSome)
      && decide ([e].length + ([] : List Keyword).length + (if ([] : List Keyword).isEmpty then 0 else 1) < 30)) = true := by rfl)
    (hline : (apos.endLine == cpos.line) = true := by rfl) (hs : starEach [e] X.env = (false, eval e X.env) :: starEach [] X.env := by rfl) (hplain : (backTo cpos (starEach [] X.env)).any (·.1) = false := by rfl)
    (hsw : swapsWith (.Call (.Attribute o "append" apos) [e] [] cpos) none pos.line X.env = pure false := by rfl) :
    ZS X xc W (.Expr (.Call (.Attribute o "append" apos) [e] [] cpos) pos) (cApp i ca) :=
  PS.imp (ps_expr (pe_bm PySem.F.plainAttrs_list PySem.F.slot_list_append PySem.F.type_list_append mt_append ho (pa_cons he pa_nil hs) hbase hfew hline hs hplain) hsw) fun D σ H ⟨Γ, B, ρ, rep, k⟩ => by
    unfold cApp at k
    split at k
    · rename_i l0 hi
      obtain ⟨a, xs, h1, h2, h3, _⟩ := rep.own hi
      refine ⟨_, h1, .inl ⟨rfl, xs, .inl (.inl h2)⟩, ?_⟩
      refine tz_bs rep k fun v B1 H1 s ρ1 e1 r1 q1 k1 => ?_
      obtain ⟨B2, e2, r2, q2⟩ := SRes.data r1 q1
      split at k1
      · rename_i l hl
        cases hd : decide (l.length < sizeLine) with
        | false => rw [hd] at k1; exact k1.elim
        | true =>
          rw [hd] at k1
          obtain ⟨b, ys, g1, g2, g3, g4⟩ := r2.own hl
          rw [h1] at g1
          cases g1
          exact ⟨a, ys, v, rfl, rfl, g2, by rw [dpAll_len g3]; exact of_decide_eq_true hd, k1 B2 σ _ (g4 _ _ (dpAll_app g3 (.cons q2 .nil)))⟩
      · exact k1.elim
    · exact k.elim
/-- name[ix] = e, a list of one's own -/
def cSetIx (i : Nat) (ci c : CE) : CS := fun ρ => (c ρ).bs fun s ρ => match ρ[i]? with
  | some (some (.lst _)) => (ci ρ).bs fun t ρ => match ρ[i]?, t.d with
    | some (some (.lst l)), .int k => match ixN l.length k with
      | some j => .nx (ρ.set i (some (.lst (l.set j s.d))))
      | none => .bad
    | _, _ => .bad
  | _ => .bad
theorem zs_setIx {i : Nat} (ho : PE X o (tVar i)) (hix : ZE X xc W ix ci) (he : ZE X xc W e ca)
    (ha : ∀ v, assign (.Subscript o ix tpos) X.env v = (do
      let ov ← holding [v] (eval o X.env)
      let iv ← holding [v, ov] (eval ix X.env)
      standAt tpos
      holding [v, ov, iv] (setItem ov iv v)
      release [v, ov, iv] []) := by intro _; rfl) (hs : swapsWithSole [.Subscript o ix tpos] e pos.line X.env = pure false := by rfl) (hw : swappedStores [.Subscript o ix tpos] e X.env = pure none := by rfl)
    (h1 : (assignEach [.Subscript o ix tpos] X.env).map (·.2) = [assign (.Subscript o ix tpos) X.env] := by rfl) : ZS X xc W (.Assign [.Subscript o ix tpos] e pos) (cSetIx i ci ca) :=
  PS.imp (ps_asg he (pg_sub ho hix set_list ha) hs hw h1) fun D σ H ⟨Γ, B, ρ, rep, k⟩ => tz_bs rep k fun v B1 H1 s ρ1 e1 r1 q1 k1 => by
    obtain ⟨B2, e2, r2, q2⟩ := SRes.data r1 q1
    split at k1
    · rename_i l0 hi
      obtain ⟨a, xs, h1, h2, h3, _⟩ := r2.own hi
      refine ⟨_, h1, ?_⟩
      refine tz_bs r2 k1 fun iv B3 H3 t ρ3 e3 r3 q3 k3 => ?_
      obtain ⟨B4, e4, r4, q4⟩ := SRes.data r3 q3
      split at k3
      · rename_i l kk hl ht
        rw [ht] at q4
        rw [dp_int q4]
        obtain ⟨b, ys, g1, g2, g3, g4⟩ := r4.own hl
        rw [h1] at g1
        cases g1
        cases hj : ixN l.length kk with
        | none => rw [hj] at k3; exact k3.elim
        | some j =>
          rw [hj] at k3
          exact ⟨a, ys, kk, j, rfl, rfl, g2, by rw [dpAll_len g3]; exact hj, k3 B4 σ _ (g4 _ _ (dpAll_set j (dp_mono (e3.trans e4) q2) g3))⟩
      · exact k3.elim
    · exact k1.elim
end
/-! ### what a loop walks -/
/-- an iterator over these items -/
def ItOk (K : KF) (B1 : Hp) (It : L2.It) (ds : List PyData) : Prop := ∀ {J : List Nat} {Γ : Fm J} {B : Hp} {ρ : En} {σ : L2.St} {H : Hp}, Rep K Γ B ρ σ H → Ex B1 B →
  (∀ (i : Nat) d, ds[i]? = some d → It.go i H ∧ ∀ x H', It.yld i H x H' → ∃ B', Ex B B' ∧ Rep K Γ B' ρ σ H' ∧ Dp K B' x d ∧ (∀ a o, H a = some o → H' a = some o)) ∧ It.stop ds.length H
section
variable (K : KF) (xc : Str → Value) (W : Ww)
def outI (Γ : Fm W.J) (B : Hp) (σ : L2.St) (Q : L2.It → Hp → Prop) : RA → Prop
  | .ok ds ρ' => ∀ It B' H', Ex B B' → Rep K Γ B' ρ' σ H' → ItOk K B' It ds → Q It H'
  | .exc x ρ' => ∀ B' H', Ex B B' → Rep K Γ B' ρ' σ H' → W.W (xc x) none σ H'
  | .bad => False
def iZ (c : CA) : TI := fun σ H Q => ∃ (Γ : Fm W.J) (B : Hp) (ρ : En), Rep K Γ B ρ σ H ∧ outI K xc W Γ B σ Q (c ρ)
end
abbrev ZI (X : Cx) (xc : Str → Value) (W : Ww) (tg iter : Expr) (c : CA) : Prop := PI X tg iter (iZ X.kf xc W c)
section
variable {X : Cx} {xc : Str → Value} {W : Ww} {tg e iter : Expr} {pos p : Pos} {ca : CE} {cas : CA}
theorem PI.imp {t t' : TI} (h : PI X tg iter t) (m : ∀ σ H Q, t' σ H Q → t σ H Q) : PI X tg iter t' := ⟨fun pins s σ H R I q => h.run pins s σ H R I (m σ H R q)⟩
/-- a list, a tuple or a text -/
theorem pi_seq {l : Expr} {tl : TE} (hl : PE X l tl) : PI X tg l (fun σ H R => tl σ H fun x H1 => (∃ z, x = .str z ∧ R (Its z) H1) ∨ ∃ a, x = .ref a ∧ (((∃ xs, SqL X.kf H1 a xs) ∧ R (Itl X.K a) H1) ∨ ((∃ xs, SqT X.kf H1 a xs) ∧ R (Itt X.K a) H1))) := by
  refine ⟨fun pins s σ H R I h => ?_⟩
  refine thn (hl.run pins s σ H _ I h) fun v s1 ⟨x, H1, I1, r1, q1⟩ => ?_
  rcases q1 with ⟨z, ex, q⟩ | ⟨a, e, q⟩
  · subst ex
    obtain ⟨t, rfl⟩ := r1
    cases ha : z.cps.all (· < 128)
    · exact wpAny_pyIter_wide ha (pi_one (tk := s1.toks) I1 _ (turn_str _ z t "str_iterator" (.inr rfl)) ⟨_, Heap.get?_push_size _ rfl, rfl, rfl⟩ q)
    · exact wpAny_pyIter_ascii ha (pi_one (tk := s1.toks) I1 _ (turn_str _ z t "str_ascii_iterator" (.inl rfl)) ⟨_, Heap.get?_push_size _ rfl, rfl, rfl⟩ q)
  subst e
  cases r1
  rcases q with ⟨⟨xs, hq⟩, q⟩ | ⟨⟨xs, hq⟩, q⟩
  · obtain ⟨its, rv, p, hz⟩ := I1.list hq
    refine wpAny_pyIter_list p.isList ?_
    refine ⟨s1.heap.objs.size, [s1.heap.objs.size], _, _, H1, rfl, I1.kept (t' := s1.toks) fun b o e => Heap.get?_push_of_some _ e, turn_list a _, ⟨_, Heap.get?_push_size _ rfl, rfl, rfl⟩, fun b hb => ?_, q⟩
    have e : b = s1.heap.objs.size := by simpa using hb
    subst e
    exact I1.fpOk (Nat.le_refl _) (I1.hok.fresh (Nat.le_refl _))
  · obtain ⟨its, rv, p, hz⟩ := I1.tuple hq
    refine wpAny_pyIter_tuple (show s1.heap.IsTuple a its.toArray from p) ?_
    refine ⟨s1.heap.objs.size, [s1.heap.objs.size], _, _, H1, rfl, I1.kept (t' := s1.toks) fun b o e => Heap.get?_push_of_some _ e, turn_tuple a _, ⟨_, Heap.get?_push_size _ rfl, rfl, rfl⟩, fun b hb => ?_, q⟩
    have e : b = s1.heap.objs.size := by simpa using hb
    subst e
    exact I1.fpOk (Nat.le_refl _) (I1.hok.fresh (Nat.le_refl _))
def R.bi : R → (PyData → En → RA) → RA := R.ba
/-- the signs of a text -/
def strL (z : Str) : List PyData := z.cps.toList.map fun c => .str ⟨#[c]⟩
theorem its_ok {K : KF} {B : Hp} (z : Str) : ItOk K B (Its z) (strL z) := fun {J Γ B' ρ σ H} rep e => by
  refine ⟨fun i d hd => ?_, show z.cps.size ≤ (strL z).length by simp [strL]⟩
  unfold strL at hd
  rw [List.getElem?_map] at hd
  by_cases hi : i < z.cps.size
  · refine ⟨hi, fun x H' ⟨eH, c, hc, hx⟩ => ?_⟩
    subst eH
    subst hx
    rw [Array.getElem?_toList, hc] at hd
    have hd' : PyData.str ⟨#[c]⟩ = d := Option.some.inj hd
    subst hd'
    exact ⟨B', Ex.refl _, rep, .str _, fun _ _ h => h⟩
  · rw [Array.getElem?_toList, Array.getElem?_eq_none (by omega)] at hd
    cases hd
/-- the items of a list, of a tuple, of a text -/
def ciSeq (c : CE) : CA := fun ρ => (c ρ).ba fun d ρ => match d with
  | .list l => .ok l ρ
  | .tuple l => .ok l ρ
  | .str z => .ok (strL z) ρ
  | _ => .bad
theorem itl_ok {K : KF} {B : Hp} {a : Addr} {xs : List V} {ds : List PyData} (h1 : SqL K B a xs) (h2 : DpAll K B xs ds) : ItOk K B (Itl K.K a) ds := fun {J Γ B' ρ σ H} rep e => by
  have hH := ex_l (e.trans rep.bh) h1
  refine ⟨fun i d hd => ?_, xs, hH, by rw [dpAll_len h2]; exact Nat.le_refl _⟩
  obtain ⟨v, g1, g2⟩ := dpAll_get h2 hd
  refine ⟨⟨xs, v, hH, g1⟩, fun x H' ⟨eH, hx⟩ => ?_⟩
  subst eH
  have := hx xs hH
  rw [g1] at this
  cases this
  exact ⟨B', Ex.refl _, rep, dp_mono e g2, fun _ _ h => h⟩
theorem itt_ok {K : KF} {B : Hp} {a : Addr} {xs : List V} {ds : List PyData} (h1 : SqT K B a xs) (h2 : DpAll K B xs ds) : ItOk K B (Itt K.K a) ds := fun {J Γ B' ρ σ H} rep e => by
  have hH := ex_t (e.trans rep.bh) h1
  refine ⟨fun i d hd => ?_, xs, hH, by rw [dpAll_len h2]; exact Nat.le_refl _⟩
  obtain ⟨v, g1, g2⟩ := dpAll_get h2 hd
  refine ⟨⟨xs, v, hH, g1⟩, fun x H' ⟨eH, hx⟩ => ?_⟩
  subst eH
  have := hx xs hH
  rw [g1] at this
  cases this
  exact ⟨B', Ex.refl _, rep, dp_mono e g2, fun _ _ h => h⟩
/-- the same as tz_ba, where items are wanted -/
theorem tz_bi {K : KF} {Γ : Fm W.J} {B : Hp} {ρ : En} {σ : L2.St} {H : Hp} {c : CE} {k : PyData → En → RA} {Q : L2.It → Hp → Prop} {Q' : VK} (rep : Rep K Γ B ρ σ H) (h : outI K xc W Γ B σ Q ((c ρ).ba k))
    (next : ∀ v B' H' d ρ', Ex B B' → Rep K Γ B' ρ' σ H' → Dp K B' v d → outI K xc W Γ B' σ Q (k d ρ') → Q' v H') : tZ K xc W c σ H Q' := by
  refine ⟨Γ, B, ρ, rep, ?_⟩
  have mono : ∀ {B' : Hp} {r : RA}, Ex B B' → outI K xc W Γ B σ Q r → outI K xc W Γ B' σ Q r := fun {B' r} e h => by
    cases r with
    | ok ds ρ' => exact fun It B2 H2 e2 r2 q => h It B2 H2 (e.trans e2) r2 q
    | exc x ρ' => exact fun B2 H2 e2 r2 => h B2 H2 (e.trans e2) r2
    | bad => exact h
  cases hc : c ρ with
  | ok s ρ1 =>
    rw [hc] at h
    intro v B1 H1 e1 r1 q1
    obtain ⟨B2, e2, r2, q2⟩ := SRes.data r1 q1
    exact next v B2 H1 s.d ρ1 (e1.trans e2) r2 q2 (mono (e1.trans e2) h)
  | exc x ρ1 =>
    rw [hc] at h
    exact h
  | bad =>
    rw [hc] at h
    exact h
theorem zi_seq (h : ZE X xc W iter ca) : ZI X xc W tg iter (ciSeq ca) := PI.imp (pi_seq h) fun σ H Q ⟨Γ, B, ρ, rep, k⟩ => tz_bi rep k fun v B1 H1 d ρ1 e1 r1 q1 k1 => by
  cases d with
  | list l =>
    obtain ⟨a, xs, rfl, h1, h2⟩ := dp_list q1
    exact .inr ⟨a, rfl, .inl ⟨⟨xs, ex_l r1.bh h1⟩, k1 _ B1 H1 (Ex.refl _) r1 (itl_ok h1 h2)⟩⟩
  | tuple l =>
    obtain ⟨a, xs, rfl, h1, h2⟩ := dp_tup q1
    exact .inr ⟨a, rfl, .inr ⟨⟨xs, ex_t r1.bh h1⟩, k1 _ B1 H1 (Ex.refl _) r1 (itt_ok h1 h2)⟩⟩
  | str z =>
    cases dp_str q1
    exact .inl ⟨z, rfl, k1 _ B1 H1 (Ex.refl _) r1 (its_ok z)⟩
  | none | bool _ | int _ | dict _ => exact k1.elim
def rangeL (lo : Int) (n : Nat) : List PyData := (List.range n).map fun (k : Nat) => .int (lo + k)
theorem itr_ok {K : KF} {B : Hp} (lo : Int) (n : Nat) : ItOk K B (Itr lo n) (rangeL lo n) := fun {J Γ B' ρ σ H} rep e => by
  refine ⟨fun i d hd => ?_, show n ≤ (rangeL lo n).length by simp [rangeL]⟩
  unfold rangeL at hd
  rw [List.getElem?_map] at hd
  by_cases hi : i < n
  · rw [List.getElem?_range hi] at hd
    have hd' : PyData.int (lo + i) = d := Option.some.inj hd
    subst hd'
    refine ⟨hi, fun x H' ⟨eH, hx⟩ => ?_⟩
    subst eH
    subst hx
    exact ⟨B', Ex.refl _, rep, .int _, fun _ _ h => h⟩
  · rw [List.getElem?_eq_none (by rw [List.length_range]; omega)] at hd
    cases hd
def ciRange1 (c : CA) : CA := fun ρ => (c ρ).ba fun ds ρ => match ds with
  | [.int j] => bif decide (-(2 ^ 62) ≤ j ∧ j < 2 ^ 62) then .ok (rangeL 0 j.toNat) ρ else .bad
  | _ => .bad
def ciRange2 (c : CA) : CA := fun ρ => (c ρ).ba fun ds ρ => match ds with
  | [.int i, .int j] => bif decide (-(2 ^ 62) ≤ i ∧ i < 2 ^ 62 ∧ -(2 ^ 62) ≤ j ∧ j < 2 ^ 62) then .ok (rangeL i (j - i).toNat) ρ else .bad
  | _ => .bad
theorem tza_bi {K : KF} {Γ : Fm W.J} {B : Hp} {ρ : En} {σ : L2.St} {H : Hp} {c : CA} {k : List PyData → En → RA} {Q : L2.It → Hp → Prop} {Q' : List V → Hp → Prop} (rep : Rep K Γ B ρ σ H) (h : outI K xc W Γ B σ Q ((c ρ).ba k))
    (next : ∀ v B' H' d ρ', Ex B B' → Rep K Γ B' ρ' σ H' → DpAll K B' v d → outI K xc W Γ B' σ Q (k d ρ') → Q' v H') : tZA K xc W c σ H Q' := by
  refine ⟨Γ, B, ρ, rep, ?_⟩
  have mono : ∀ {B' : Hp} {r : RA}, Ex B B' → outI K xc W Γ B σ Q r → outI K xc W Γ B' σ Q r := fun {B' r} e h => by
    cases r with
    | ok ds ρ' => exact fun It B2 H2 e2 r2 q => h It B2 H2 (e.trans e2) r2 q
    | exc x ρ' => exact fun B2 H2 e2 r2 => h B2 H2 (e.trans e2) r2
    | bad => exact h
  cases hc : c ρ with
  | ok s ρ1 =>
    rw [hc] at h
    intro v B1 H1 e1 r1 q1
    exact next v B1 H1 s ρ1 e1 r1 q1 (mono e1 h)
  | exc x ρ1 =>
    rw [hc] at h
    exact h
  | bad =>
    rw [hc] at h
    exact h
theorem zi_range1 {a : Expr} (hg : Gl X "range") (hm : X.mg "range" = none) (ha : ZA X xc W [a] cas) (hs : starEach [a] X.env = [(false, eval a X.env)] := by rfl) : ZI X xc W tg (.Call (.Name "range" p) [a] [] pos) (ciRange1 cas) :=
  PI.imp (pi_range1 hg hm ha.run hs) fun σ H Q ⟨Γ, B, ρ, rep, k⟩ => tza_bi rep k fun vs B1 H1 ds ρ1 e1 r1 q1 k1 => by
    split at k1
    · rename_i j
      cases q1 with
      | cons h t =>
        cases t
        rw [dp_int h]
        cases hd : decide (-(2 ^ 62) ≤ j ∧ j < 2 ^ 62) with
        | false => rw [hd] at k1; exact k1.elim
        | true =>
          rw [hd] at k1
          have hb := of_decide_eq_true hd
          exact ⟨j, rfl, hb.1, hb.2, k1 _ B1 H1 (Ex.refl _) r1 (itr_ok 0 j.toNat)⟩
    · exact k1.elim
theorem zi_range2 {a b : Expr} (hg : Gl X "range") (hm : X.mg "range" = none) (ha : ZA X xc W [a, b] cas) (hs : starEach [a, b] X.env = [(false, eval a X.env), (false, eval b X.env)] := by rfl) (hs2 : starEach [b] X.env = [(false, eval b X.env)] := by rfl) :
    ZI X xc W tg (.Call (.Name "range" p) [a, b] [] pos) (ciRange2 cas) :=
  PI.imp (pi_range2 hg hm ha.run hs hs2) fun σ H Q ⟨Γ, B, ρ, rep, k⟩ => tza_bi rep k fun vs B1 H1 ds ρ1 e1 r1 q1 k1 => by
    split at k1
    · rename_i i j
      cases q1 with
      | cons h t =>
        cases t with
        | cons h2 t2 =>
          cases t2
          rw [dp_int h, dp_int h2]
          cases hd : decide (-(2 ^ 62) ≤ i ∧ i < 2 ^ 62 ∧ -(2 ^ 62) ≤ j ∧ j < 2 ^ 62) with
          | false => rw [hd] at k1; exact k1.elim
          | true =>
            rw [hd] at k1
            have hb := of_decide_eq_true hd
            exact ⟨i, j, rfl, hb, k1 _ B1 H1 (Ex.refl _) r1 (itr_ok i (j - i).toNat)⟩
    · exact k1.elim
end
/-! ### for, while -/
def forL (g : CG) (body : CS) : List PyData → En → O
  | [], ρ => .nx ρ
  | d :: ds, ρ => match g d ρ with
    | none => .bad
    | some ρ1 => match body ρ1 with
      | .nx ρ2 => forL g body ds ρ2
      | .ct ρ2 => forL g body ds ρ2
      | .bk ρ2 => .nx ρ2
      | .rt s ρ2 => .rt s ρ2
      | .exc x ρ2 => .exc x ρ2
      | .bad => .bad
def cFor (src : CA) (g : CG) (body : CS) : CS := fun ρ => (src ρ).bs fun ds ρ => forL g body ds ρ
def whileL (t : CE) (body : CS) : Nat → En → O
  | 0, _ => .bad
  | n + 1, ρ => (t ρ).bs fun s ρ => match s with
    | .dat (.bool false) => .nx ρ
    | .dat (.bool true) => match body ρ with
      | .nx ρ2 => whileL t body n ρ2
      | .ct ρ2 => whileL t body n ρ2
      | .bk ρ2 => .nx ρ2
      | .rt s ρ2 => .rt s ρ2
      | .exc x ρ2 => .exc x ρ2
      | .bad => .bad
    | _ => .bad
section
variable {X : Cx} {xc : Str → Value} {W : Ww} {tg t iter : Expr} {body : List Stmt} {pos : Pos} {ct : CE} {cas : CA} {g : CG} {gs : List Nat} {cb : CS}
theorem zs_for (hp : PassesOwn (model X.prog X.w) X.A X.env X.xe) (hc : X.calm = true) (hi : ZI X xc W tg iter cas) (hg : ZG X W tg gs g) (hb : ZSs X xc W body cb)
    (hs : ∀ x, foldedSetIterable iter X.env x = pure x := by intro _; rfl) : ZS X xc W (.For tg iter body [] pos) (cFor cas g cb) :=
  PS.imp (ps_for hp hc hi hg hb hs) fun D σ H ⟨Γ, B, ρ, rep, k⟩ => by
    refine ⟨Γ, B, ρ, rep, ?_⟩
    unfold cFor at k
    cases hcs : cas ρ with
    | exc x ρ1 =>
      rw [hcs] at k
      exact fun B' H' e r => k B' σ H' r
    | bad => rw [hcs] at k; exact k
    | ok ds ρ1 =>
      rw [hcs] at k
      intro It B1 H1 e1 r1 hit
      refine ⟨fun i m σ H => m = ds.length - i ∧ i ≤ ds.length ∧ ∃ (B : Hp) (ρ : En), Rep X.kf Γ B ρ σ H ∧ Ex B1 B ∧ outS X.kf xc W Γ D (forL g cb (ds.drop i) ρ), ⟨ds.length, by simp, Nat.zero_le _, B1, ρ1, r1, Ex.refl _, k⟩, ?_⟩
      rintro i m σ H ⟨rfl, hi, B2, ρ2, r2, e2, k2⟩
      obtain ⟨h1, h2⟩ := hit r2 e2
      by_cases hlt : i < ds.length
      · obtain ⟨go, yl⟩ := h1 i ds[i] (List.getElem?_eq_getElem hlt)
        rw [List.drop_eq_getElem_cons hlt] at k2
        refine .inr ⟨go, fun σ' H' => ∃ (B : Hp) (ρ : En), Rep X.kf Γ B ρ σ' H' ∧ Ex B1 B ∧ outS X.kf xc W Γ D (forL g cb (ds.drop (i + 1)) ρ), fun σ' H' hN => ⟨ds.length - (i + 1), by omega, rfl, hlt, hN⟩, fun x H' hy => ?_⟩
        obtain ⟨B3, e3, r3, q3, _⟩ := yl x H' hy
        unfold forL at k2
        cases hg' : g ds[i] ρ2 with
        | none => rw [hg'] at k2; exact k2.elim
        | some ρ3 =>
          rw [hg'] at k2
          refine ⟨Γ, B3, ρ2, ρ3, _, r3, q3, hg', fun σ4 r4 _ => ?_⟩
          refine ⟨Γ.now B3, B3, ρ3, r4.now, ?_⟩
          have eb : Ex Γ.B0 B3 := r4.b0
          cases hb' : cb ρ3 with
          | nx ρ5 =>
            simp only [hb'] at k2
            intro B' σ' H' r'
            obtain ⟨r6, e6⟩ := Rep.old eb r'
            exact ⟨B', ρ5, r6, (e2.trans e3).trans e6, k2⟩
          | ct ρ5 =>
            simp only [hb'] at k2
            intro B' σ' H' r'
            obtain ⟨r6, e6⟩ := Rep.old eb r'
            exact ⟨B', ρ5, r6, (e2.trans e3).trans e6, k2⟩
          | bk ρ5 =>
            simp only [hb'] at k2
            intro B' σ' H' r'
            exact k2 B' σ' H' (Rep.old eb r').1
          | rt s ρ5 =>
            simp only [hb'] at k2
            intro v B' σ' H' r' q'
            exact k2 v B' σ' H' (Rep.old eb r').1 q'.old
          | exc x ρ5 =>
            simp only [hb'] at k2
            intro B' σ' H' r'
            exact k2 B' σ' H' (Rep.old eb r').1
          | bad => simp only [hb'] at k2; exact k2.elim
      · have e : i = ds.length := by omega
        subst e
        rw [List.drop_length] at k2
        exact .inl ⟨h2, k2 B2 σ H r2⟩
theorem zs_while {n : Nat} (hp : PassesOwn (model X.prog X.w) X.A X.env X.xe) (ht : ZT X xc W t ct) (hb : ZSs X xc W body cb) : ZS X xc W (.While t body [] pos) (whileL ct cb n) :=
  PS.imp (ps_while hp ht hb) fun D σ H ⟨Γ, B, ρ, rep, k⟩ => by
    refine ⟨fun m σ H => ∃ (B : Hp) (ρ : En), Rep X.kf Γ B ρ σ H ∧ outS X.kf xc W Γ D (whileL ct cb m ρ), ⟨n, B, ρ, rep, k⟩, ?_⟩
    rintro m σ H ⟨B1, ρ1, r1, k1⟩
    cases m with
    | zero => exact k1.elim
    | succ m =>
      unfold whileL at k1
      refine tzt_bs r1 k1 (fun s ρ' hd => by
        cases s with
        | lst l | dic l | obj c fs | hole => rfl
        | dat d => cases d with
          | bool b => exact absurd rfl (hd b)
          | none | int _ | str _ | list _ | tuple _ | dict _ => rfl) fun b B2 H2 ρ2 e2 r2 k2 => ?_
      cases b with
      | false => exact iteF (k2 B2 σ H2 r2)
      | true =>
        refine iteT ⟨fun σ' H' => ∃ (B : Hp) (ρ : En), Rep X.kf Γ B ρ σ' H' ∧ outS X.kf xc W Γ D (whileL ct cb m ρ), fun σ' H' hN => ⟨m, Nat.lt_succ_self m, hN⟩, Γ, B2, ρ2, r2, ?_⟩
        cases hb' : cb ρ2 with
        | nx ρ5 =>
          simp only [hb'] at k2
          exact fun B' σ' H' r' => ⟨B', ρ5, r', k2⟩
        | ct ρ5 =>
          simp only [hb'] at k2
          exact fun B' σ' H' r' => ⟨B', ρ5, r', k2⟩
        | bk ρ5 =>
          simp only [hb'] at k2
          exact fun B' σ' H' r' => k2 B' σ' H' r'
        | rt s ρ5 =>
          simp only [hb'] at k2
          exact k2
        | exc x ρ5 =>
          simp only [hb'] at k2
          exact k2
        | bad => simp only [hb'] at k2; exact k2.elim
end
end Z
set_option maxHeartbeats 2000000
/-! Z: comprehensions, subscripts, operators, built-ins. -/
namespace Z
open PySem PySem.Spec PyProof.Rows L2
open Evl (Ex ex_l ex_t ex_rd)
/-! ### comprehensions -/
def wipeE (ρ : En) : List Nat → En
  | [] => ρ
  | v :: vs => (wipeE ρ vs).set v none
def noOwn (ρ : En) : List Nat → Bool
  | [] => true
  | v :: vs => (match ρ[v]? with
    | some (some (.dat _)) => true
    | some (some _) => false
    | _ => true) && noOwn ρ vs
def restoreE (ρ0 ρ : En) : List Nat → En
  | [] => ρ
  | v :: vs => match ρ0[v]? with
    | some o => (restoreE ρ0 ρ vs).set v o
    | none => restoreE ρ0 ρ vs
def lcL (vs : List Nat) (g : CG) (ct ce : CE) : List PyData → En → List PyData → RA
  | [], ρ, acc => .ok acc ρ
  | d :: ds, ρ, acc => match g d (wipeE ρ vs) with
    | none => .bad
    | some ρ1 => match ct ρ1 with
      | .ok (.dat (.bool true)) ρ2 => match ce ρ2 with
        | .ok s ρ3 => bif decide (acc.length < sizeLine) then lcL vs g ct ce ds ρ3 (acc ++ [s.d]) else .bad
        | _ => .bad
      | .ok (.dat (.bool false)) ρ2 => lcL vs g ct ce ds ρ2 acc
      | _ => .bad
def cLc (vs : List Nat) (src : CA) (g : CG) (ct ce : CE) : CE := fun ρ => match src ρ with
  | .ok ds ρ1 => bif noOwn ρ1 vs then (match lcL vs g ct ce ds ρ1 [] with
    | .ok acc ρ2 => .ok (.lst acc) (restoreE ρ1 ρ2 vs)
    | _ => .bad) else .bad
  | .exc x ρ1 => .exc x ρ1
  | .bad => .bad
theorem wipe_len' {σ : L2.St} {vs : List Nat} : (wipe σ vs).length = σ.length := wipe_length σ vs
theorem wipe_in {σ : L2.St} {i : Nat} : ∀ {vs : List Nat}, i ∈ vs → i < σ.length → (wipe σ vs)[i]? = some none
  | v :: vs, h, hl => by
    show ((wipe σ vs).set v none)[i]? = _
    by_cases e : v = i
    · subst e
      rw [List.getElem?_set_self (by rw [wipe_length]; exact hl)]
    · rw [List.getElem?_set_ne e]
      exact wipe_in ((List.mem_cons.mp h).resolve_left fun z => e z.symm) hl
theorem wipeE_out {ρ : En} {i : Nat} : ∀ {vs : List Nat}, i ∉ vs → (wipeE ρ vs)[i]? = ρ[i]?
  | [], _ => rfl
  | v :: vs, h => by
    show ((wipeE ρ vs).set v none)[i]? = _
    rw [List.getElem?_set_ne (fun e => h (by rw [e]; exact List.mem_cons_self))]
    exact wipeE_out fun z => h (List.mem_cons_of_mem _ z)
theorem wipeE_len {ρ : En} : ∀ {vs : List Nat}, (wipeE ρ vs).length = ρ.length
  | [] => rfl
  | v :: vs => by
    show ((wipeE ρ vs).set v none).length = _
    rw [List.length_set]
    exact wipeE_len
theorem wipeE_some {ρ : En} {i : Nat} {s : S} : ∀ {vs : List Nat}, (wipeE ρ vs)[i]? = some (some s) → i ∉ vs ∧ ρ[i]? = some (some s)
  | [], h => ⟨by simp, h⟩
  | v :: vs, h => by
    have h' : ((wipeE ρ vs).set v none)[i]? = some (some s) := h
    by_cases e : v = i
    · subst e
      have hl : v < (wipeE ρ vs).length := by
        have := (List.getElem?_eq_some_iff.mp h').1
        simpa using this
      rw [List.getElem?_set_self hl] at h'
      cases h'
    · rw [List.getElem?_set_ne e] at h'
      obtain ⟨h1, h2⟩ := wipeE_some h'
      exact ⟨fun z => (List.mem_cons.mp z).elim (fun q => e q.symm) h1, h2⟩
theorem wipe_diff {σ σ' : L2.St} {vs gs : List Nat} (h : ∀ i ∈ gs, i ∈ vs) (d : Diff gs (wipe σ vs) σ') : wipe σ' vs = wipe σ vs := by
  have hl : σ'.length = σ.length := by rw [d.1, wipe_length]
  apply List.ext_getElem?
  intro i
  by_cases hi : i ∈ vs
  · by_cases hlt : i < σ.length
    · rw [wipe_in hi hlt, wipe_in hi (by rw [hl]; exact hlt)]
    · rw [List.getElem?_eq_none (by rw [wipe_length, hl]; omega), List.getElem?_eq_none (by rw [wipe_length]; omega)]
  · rw [wipe_out hi, d.2 i fun z => hi (h i z)]
theorem noOwn_at {ρ : En} {i : Nat} {s : S} : ∀ {vs : List Nat}, noOwn ρ vs = true → i ∈ vs → ρ[i]? = some (some s) → ∃ d, s = .dat d
  | v :: vs, h, hi, e => by
    have h' := Bool.and_eq_true_iff.mp h
    rcases List.mem_cons.mp hi with rfl | hi
    · cases s with
      | dat d => exact ⟨d, rfl⟩
      | lst l | dic l | obj c fs | hole =>
        have := h'.1
        rw [e] at this
        cases this
    · exact noOwn_at h'.2 hi e
theorem restoreE_in {ρ0 ρ : En} {i : Nat} (hl : ρ0.length = ρ.length) : ∀ {vs : List Nat}, (restoreE ρ0 ρ vs).length = ρ.length ∧ (i ∈ vs → (restoreE ρ0 ρ vs)[i]? = ρ0[i]?) ∧ (i ∉ vs → (restoreE ρ0 ρ vs)[i]? = ρ[i]?)
  | [] => ⟨rfl, fun h => by simp at h, fun _ => rfl⟩
  | v :: vs => by
    obtain ⟨h1, h2, h3⟩ := restoreE_in (vs := vs) (i := i) hl
    unfold restoreE
    cases hv : ρ0[v]? with
    | none =>
      have hge : ρ0.length ≤ v := List.getElem?_eq_none_iff.mp hv
      refine ⟨h1, fun h => ?_, fun h => h3 fun z => h (List.mem_cons_of_mem _ z)⟩
      rcases List.mem_cons.mp h with rfl | h
      · show (restoreE ρ0 ρ vs)[i]? = ρ0[i]?
        rw [List.getElem?_eq_none (by rw [h1]; omega), hv]
      · exact h2 h
    | some o =>
      have hlt : v < ρ0.length := (List.getElem?_eq_some_iff.mp hv).1
      refine ⟨by show ((restoreE ρ0 ρ vs).set v o).length = _; rw [List.length_set, h1], fun h => ?_, fun h => ?_⟩
      · show ((restoreE ρ0 ρ vs).set v o)[i]? = _
        by_cases e : v = i
        · subst e
          rw [List.getElem?_set_self (by rw [h1]; omega), hv]
        · rw [List.getElem?_set_ne e]
          exact h2 ((List.mem_cons.mp h).resolve_left fun z => e z.symm)
      · show ((restoreE ρ0 ρ vs).set v o)[i]? = _
        rw [List.getElem?_set_ne (fun e => h (by rw [e]; exact List.mem_cons_self))]
        exact h3 fun z => h (List.mem_cons_of_mem _ z)
section
variable {K : KF} {J : List Nat} {Γ : Fm J} {B B1 : Hp} {ρ ρ1 : En} {σ : L2.St} {H H1 : Hp} {vs : List Nat} {D : Addr}
theorem Rep.wiped (hJ : ∀ j ∈ J, j ∉ vs) (r : Rep K Γ B ρ σ H) : Rep K Γ B (wipeE ρ vs) (wipe σ vs) H := by
  refine ⟨r.bh, r.fh, r.fb, r.b0, by rw [wipeE_len, wipe_length]; exact r.len, fun i s h => ?_, fun i j s t v u A C ne hi hj ei ej => ?_, fun k j v hk hv => ?_⟩
  · obtain ⟨h1, h2⟩ := wipeE_some h
    rw [wipe_out h1]
    exact r.at_ i s h2
  · obtain ⟨h1, h2⟩ := wipeE_some hi
    obtain ⟨g1, g2⟩ := wipeE_some hj
    rw [wipe_out h1] at ei
    rw [wipe_out g1] at ej
    exact r.sep i j s t v u A C ne h2 g2 ei ej
  · rw [wipe_out (hJ j (List.mem_of_getElem? hk))]
    exact r.iot k j v hk hv
/-- the frame with one more thing in it -/
abbrev Fm.plus {J : List Nat} (Γ : Fm J) (D : Addr) (o : HO) : Fm J := ⟨upd Γ.F D o, Γ.B0, Γ.io, Γ.hv⟩
/-- another frame: the slots' things are in none of both -/
theorem Rep.refm {Γ' : Fm J} {H' : Hp} (r : Rep K Γ B ρ σ H) (bh : Ex B H') (fh : Ex Γ'.F H') (fb : ∀ a o, Γ'.F a = some o → B a = none) (h0 : Γ'.B0 = Γ.B0) (hio : Γ'.io = Γ.io) (hv : Γ'.hv = Γ.hv)
    (k : ∀ (i : Nat) s v A, ρ[i]? = some (some s) → σ[i]? = some (some v) → SA K Γ.X B H s v A → ∀ a ∈ A, Γ'.F a = none ∧ H' a = H a) : Rep K Γ' B ρ σ H' := by
  have new : ∀ (i : Nat) s v A, ρ[i]? = some (some s) → σ[i]? = some (some v) → SA K Γ.X B H s v A → SA K Γ'.X B H' s v A := fun i s v A h1 h2 h3 =>
    SA.move (F := Γ.X) (F' := Γ'.X) (Ex.refl B) hv (fun a ha => ⟨(SA.own h3 a ha).1, k i s v A h1 h2 h3 a ha⟩) h3
  have old : ∀ (i : Nat) s v A, ρ[i]? = some (some s) → σ[i]? = some (some v) → SA K Γ'.X B H' s v A → SA K Γ.X B H s v A := fun i s v A h1 h2 h3 => by
    obtain ⟨u, C, g1, g2⟩ := r.at_ i s h1
    have e := some_inj2 (h2.symm.trans g1)
    subst e
    rw [SA.uniq h3 (new i s v C h1 h2 g2)]
    exact g2
  refine ⟨bh, fh, fb, by rw [h0]; exact r.b0, r.len, fun i s h => ?_, fun i j s t v u A C ne h1 h2 h3 h4 h5 h6 => r.sep i j s t v u A C ne h1 h2 h3 h4 (old i s v A h1 h3 h5) (old j t u C h2 h4 h6), by rw [hio]; exact r.iot⟩
  obtain ⟨u, C, g1, g2⟩ := r.at_ i s h
  exact ⟨u, C, g1, new i s u C h g1 g2⟩
theorem Rep.plus (r : Rep K Γ B ρ σ H) {o : HO} (hD : H D = none) : Rep K (Γ.plus D o) B ρ σ (upd H D o) := by
  have hb : B D = none := Evl.fresh_back r.bh hD
  have eh : Ex H (upd H D o) := Ex.new hD
  refine r.refm (r.bh.trans eh) (fun a u h => ?_) (fun a u h => ?_) rfl rfl rfl fun i s v A _ _ h3 a ha => ?_
  · have h' : upd Γ.F D o a = some u := h
    by_cases e : a = D
    · subst e
      rw [upd_same] at h' ⊢
      exact h'
    · rw [upd_ne e] at h' ⊢
      exact r.fh a u h'
  · by_cases e : a = D
    · subst e
      exact hb
    · have h' : upd Γ.F D o a = some u := h
      rw [upd_ne e] at h'
      exact r.fb a u h'
  · obtain ⟨_, g2, u, g3⟩ := SA.own h3 a ha
    have ne : a ≠ D := ne_of_none g3 hD
    exact ⟨by show upd Γ.F D o a = none; rw [upd_ne ne]; exact g2, by rw [upd_ne ne]⟩
theorem Rep.bump {o o' : HO} (r : Rep K (Γ.plus D o) B ρ σ H) : Rep K (Γ.plus D o') B ρ σ (upd H D o') := by
  have hb : B D = none := r.fb D o upd_same
  refine r.refm (fun a u h => ?_) (fun a u h => ?_) (fun a u h => ?_) rfl rfl rfl fun i s v A _ _ h3 a ha => ?_
  · rw [upd_ne (ne_of_none h hb)]
    exact r.bh a u h
  · have h' : upd Γ.F D o' a = some u := h
    by_cases e : a = D
    · subst e
      rw [upd_same] at h' ⊢
      exact h'
    · rw [upd_ne e] at h' ⊢
      exact r.fh a u (by show upd Γ.F D o a = some u; rw [upd_ne e]; exact h')
  · by_cases e : a = D
    · subst e
      exact hb
    · have h' : upd Γ.F D o' a = some u := h
      rw [upd_ne e] at h'
      exact r.fb a u (by show upd Γ.F D o a = some u; rw [upd_ne e]; exact h')
  · obtain ⟨_, g2, u, g3⟩ := SA.own h3 a ha
    have g2' : upd Γ.F D o a = none := g2
    have ne : a ≠ D := fun e => by
      subst e
      rw [upd_same] at g2'
      cases g2'
    rw [upd_ne ne] at g2'
    exact ⟨by show upd Γ.F D o' a = none; rw [upd_ne ne]; exact g2', by rw [upd_ne ne]⟩
/-- the frame's thing is handed out -/
theorem Rep.minus {o : HO} (r : Rep K (Γ.plus D o) B ρ σ H) (fD : Γ.F D = none) : Rep K Γ B ρ σ H ∧ Own Γ.X B D ∧ H D = some o ∧ ∀ s, s.nh = true → SA K Γ.X B H s (.ref D) [D] → SRes K Γ B ρ σ H s (.ref D) := by
  have sub : ∀ a, upd Γ.F D o a = none → Γ.F a = none ∧ a ≠ D := fun a h => by
    have ne : a ≠ D := fun e => by
      subst e
      rw [upd_same] at h
      cases h
    rw [upd_ne ne] at h
    exact ⟨h, ne⟩
  have r2 : Rep K Γ B ρ σ H := r.refm r.bh (fun a u h => r.fh a u (by show upd Γ.F D o a = some u; rw [upd_ne (ne_of_none h fD)]; exact h)) (fun a u h => r.fb a u (by show upd Γ.F D o a = some u; rw [upd_ne (ne_of_none h fD)]; exact h)) rfl rfl rfl fun i s v A _ _ h3 a ha => ⟨(sub a (SA.own h3 a ha).2.1).1, rfl⟩
  refine ⟨r2, ⟨r.fb D o upd_same, fD⟩, r.fh D o upd_same, fun s n h => ⟨n, [D], h, fun i t u C h1 h2 h3 a ha hc => ?_⟩⟩
  have e : a = D := by simpa using ha
  subst e
  obtain ⟨u', C', g1, g2⟩ := r.at_ i t h1
  have ev := some_inj2 (h2.symm.trans g1)
  subst ev
  rw [SA.uniq h3 g2] at hc
  exact (sub a (SA.own g2 a hc).2.1).2 rfl
/-- behind a comprehension: the names of its block are as they were -/
theorem Rep.unwipe (r1 : Rep K Γ B1 ρ1 σ H1) (no : noOwn ρ1 vs = true) (e : Ex B1 B) (r : Rep K Γ B (wipeE ρ vs) (wipe σ vs) H) : Rep K Γ B (restoreE ρ1 ρ vs) σ H ∧ ∀ {s : S} {v : V}, SRes K Γ B (wipeE ρ vs) (wipe σ vs) H s v → SRes K Γ B (restoreE ρ1 ρ vs) σ H s v := by
  have hl : ρ1.length = ρ.length := by
    have := r.len
    rw [wipeE_len, wipe_length] at this
    rw [r1.len, this]
  have at1 : ∀ {i : Nat} {s : S}, (restoreE ρ1 ρ vs)[i]? = some (some s) → (i ∈ vs ∧ ρ1[i]? = some (some s)) ∨ (i ∉ vs ∧ (wipeE ρ vs)[i]? = some (some s)) := fun {i s} h => by
    obtain ⟨_, h2, h3⟩ := restoreE_in (ρ0 := ρ1) (ρ := ρ) (i := i) (vs := vs) hl
    by_cases hi : i ∈ vs
    · rw [h2 hi] at h
      exact .inl ⟨hi, h⟩
    · rw [h3 hi] at h
      exact .inr ⟨hi, by rw [wipeE_out hi]; exact h⟩
  have own : ∀ {i : Nat} {s : S} {v : V} {A : List Addr} {a : Addr}, (restoreE ρ1 ρ vs)[i]? = some (some s) → σ[i]? = some (some v) → SA K Γ.X B H s v A → a ∈ A → (wipeE ρ vs)[i]? = some (some s) ∧ (wipe σ vs)[i]? = some (some v) := fun {i s v A a} h hv hs ha => by
    rcases at1 h with ⟨hi, h2⟩ | ⟨hi, h2⟩
    · obtain ⟨d, rfl⟩ := noOwn_at no hi h2
      rw [hs.1] at ha
      exact absurd ha (by simp)
    · exact ⟨h2, by rw [wipe_out hi]; exact hv⟩
  refine ⟨⟨r.bh, r.fh, r.fb, r1.b0.trans e, by rw [(restoreE_in (i := 0) hl).1, ← hl]; exact r1.len, fun i s h => ?_, fun i j s t v u A C ne hi hj ei ej g1 g2 a ha hc => ?_, r1.iot⟩, fun {s v} h => ?_⟩
  · rcases at1 h with ⟨hi, h2⟩ | ⟨hi, h2⟩
    · obtain ⟨d, rfl⟩ := noOwn_at no hi h2
      obtain ⟨v, A, g1, g2⟩ := r1.at_ i _ h2
      exact ⟨v, [], g1, rfl, dp_mono e g2.2⟩
    · obtain ⟨v, A, g1, g2⟩ := r.at_ i s h2
      rw [wipe_out hi] at g1
      exact ⟨v, A, g1, g2⟩
  · obtain ⟨k1, k2⟩ := own hi ei g1 ha
    obtain ⟨m1, m2⟩ := own hj ej g2 hc
    exact r.sep i j s t v u A C ne k1 m1 k2 m2 g1 g2 a ha hc
  · obtain ⟨nh, A, h1, h2⟩ := h
    refine ⟨nh, A, h1, fun i t u C hi ei g a ha hc => ?_⟩
    obtain ⟨k1, k2⟩ := own hi ei g hc
    exact h2 i t u C k1 k2 g a ha hc
theorem Rep.done {accV : List V} {acc : List PyData} (r1 : Rep K Γ B1 ρ1 σ H1) (hD : H1 D = none) (no : noOwn ρ1 vs = true) (e : Ex B1 B) (r : Rep K (Γ.plus D (.lst accV)) B (wipeE ρ vs) (wipe σ vs) H) (ha : DpAll K B accV acc) :
    Rep K Γ B (restoreE ρ1 ρ vs) σ H ∧ SRes K Γ B (restoreE ρ1 ρ vs) σ H (.lst acc) (.ref D) := by
  obtain ⟨r2, o, hh, q⟩ := r.minus (Evl.fresh_back r1.fh hD)
  obtain ⟨r3, q3⟩ := Rep.unwipe r1 no e r2
  exact ⟨r3, q3 (q _ rfl ⟨D, accV, rfl, rfl, o, hh, ha⟩)⟩
end
section
variable {X : Cx} {xc : Str → Value} {W : Ww} {elt tg iter : Expr} {ifs : List Expr} {scope : Scope} {own : List (Str × Nat)} {pos spos : Pos} {cas : CA} {g : CG} {gs : List Nat} {ct ce : CE}
/-- inside a comprehension no exception is let out -/
abbrev W0 (W : Ww) : Ww := ⟨fun _ _ _ _ => False, W.J⟩
abbrev tcT (K : KF) (xc : Str → Value) (W : Ww) (ct : CE) : TT := tZT K xc (W0 W) ct
theorem lc_read {K : KF} {σ : L2.St} {H : Hp} {Q : VK} {vs : List Nat} {wi : TI} (hvs : ∀ i ∈ gs, i ∈ vs) (hJ : ∀ j ∈ W.J, j ∉ vs) (hwi : wi = iZ K xc W cas) (h : tZ K xc W (cLc vs cas g ct ce) σ H Q) :
    tLc wi (gZ K W.J gs g) (tZT K xc (W0 W) ct) (tZ K xc (W0 W) ce) vs σ H Q := by
  subst hwi
  obtain ⟨Γ, B, ρ, rep, k⟩ := h
  refine ⟨Γ, B, ρ, rep, ?_⟩
  unfold cLc at k
  cases hcs : cas ρ with
  | exc x ρ1 => rw [hcs] at k; exact k
  | bad => rw [hcs] at k; exact k
  | ok ds ρ1 =>
    rw [hcs] at k
    intro It B1 H1 e1 r1 hit D hD
    simp only at k
    cases no : noOwn ρ1 vs with
    | false => rw [no] at k; exact k.elim
    | true =>
      rw [no, cond_true] at k
      cases hl : lcL vs g ct ce ds ρ1 [] with
      | exc x ρF => rw [hl] at k; exact k.elim
      | bad => rw [hl] at k; exact k.elim
      | ok accF ρF =>
        rw [hl] at k
        refine ⟨fun i m H => m = ds.length - i ∧ i ≤ ds.length ∧ ∃ (B : Hp) (ρ : En) (acc : List PyData) (accV : List V), Rep K (Γ.plus D (.lst accV)) B (wipeE ρ vs) (wipe σ vs) H ∧ Ex B1 B ∧ DpAll K B accV acc ∧ lcL vs g ct ce (ds.drop i) ρ acc = .ok accF ρF,
          ⟨ds.length, by simp, Nat.zero_le _, B1, ρ1, [], [], (r1.wiped hJ).plus hD, Ex.refl _, .nil, hl⟩, ?_⟩
        rintro i m H ⟨rfl, hi, B2, ρ2, acc, accV, r2, e2, ha, k2⟩
        obtain ⟨h1, h2⟩ := hit r2 e2
        by_cases hlt : i < ds.length
        · obtain ⟨go, yl⟩ := h1 i ds[i] (List.getElem?_eq_getElem hlt)
          rw [List.drop_eq_getElem_cons hlt] at k2
          refine .inr ⟨go, fun H' => ∃ (B : Hp) (ρ : En) (acc : List PyData) (accV : List V), Rep K (Γ.plus D (.lst accV)) B (wipeE ρ vs) (wipe σ vs) H' ∧ Ex B1 B ∧ DpAll K B accV acc ∧ lcL vs g ct ce (ds.drop (i + 1)) ρ acc = .ok accF ρF, fun H' hN => ⟨ds.length - (i + 1), by omega, rfl, hlt, hN⟩, fun x H' hy => ?_⟩
          obtain ⟨B3, e3, r3, q3, _⟩ := yl x H' hy
          unfold lcL at k2
          cases hg' : g ds[i] (wipeE ρ2 vs) with
          | none => rw [hg'] at k2; cases k2
          | some ρ3 =>
            rw [hg'] at k2
            simp only at k2
            refine ⟨Γ.plus D (.lst accV), B3, wipeE ρ2 vs, ρ3, _, r3, q3, hg', fun σ4 r4 d4 => ?_⟩
            have ew : wipe σ4 vs = wipe σ vs := wipe_diff hvs d4
            refine ⟨ew, Γ.plus D (.lst accV), B3, ρ3, r4, ?_⟩
            cases hct : ct ρ3 with
            | exc x ρ5 => rw [hct] at k2; cases k2
            | bad => rw [hct] at k2; cases k2
            | ok s ρ5 =>
              rw [hct] at k2
              cases s with
              | lst l | dic l | obj c fs | hole => cases k2
              | dat d =>
                cases d with
                | none | int _ | str _ | list _ | tuple _ | dict _ => cases k2
                | bool b =>
                  refine ⟨b, rfl, fun B6 H6 e6 r6 => ?_⟩
                  cases b with
                  | false =>
                    refine iteF ⟨B6, ρ5, acc, accV, ?_, (e2.trans e3).trans e6, dpAll_mono (e3.trans e6) ha, k2⟩
                    have := r6.wiped hJ
                    rw [ew] at this
                    exact this
                  | true =>
                    refine iteT ⟨Γ.plus D (.lst accV), B6, ρ5, r6, ?_⟩
                    simp only at k2
                    cases hce : ce ρ5 with
                    | exc x ρ7 => rw [hce] at k2; cases k2
                    | bad => rw [hce] at k2; cases k2
                    | ok s7 ρ7 =>
                      rw [hce] at k2
                      simp only at k2
                      intro y B8 H8 e8 r8 q8
                      obtain ⟨B9, e9, r9, q9⟩ := SRes.data r8 q8
                      have haz := dpAll_mono (e3.trans (e6.trans (e8.trans e9))) ha
                      cases hz : decide (acc.length < sizeLine) with
                      | false => rw [hz] at k2; cases k2
                      | true =>
                        rw [hz, cond_true] at k2
                        refine ⟨accV, r9.fh D _ upd_same, by rw [dpAll_len haz]; exact of_decide_eq_true hz, B9, ρ7, acc ++ [s7.d], accV ++ [y], ?_, (e2.trans e3).trans (e6.trans (e8.trans e9)), dpAll_app haz (.cons q9 .nil), k2⟩
                        have := (r9.wiped hJ).bump (o' := .lst (accV ++ [y]))
                        rw [ew] at this
                        exact this
        · have e : i = ds.length := by omega
          subst e
          rw [List.drop_length] at k2
          have k3 : RA.ok acc ρ2 = .ok accF ρF := k2
          cases k3
          obtain ⟨r9, q9⟩ := Rep.done r1 hD no e2 r2 ha
          exact .inl ⟨h2, k (.ref D) B2 H (e1.trans e2) r9 q9⟩
theorem all_in {l m : List Nat} (h : (l.all fun i => m.contains i) = true) : ∀ i ∈ l, i ∈ m := fun i hi => List.contains_iff_mem.mp (List.all_eq_true.mp h i hi)
theorem all_out {l m : List Nat} (h : (l.all fun j => !m.contains j) = true) : ∀ j ∈ l, j ∉ m := fun j hj hm => by
  have h1 := List.all_eq_true.mp h j hj
  rw [List.contains_iff_mem.mpr hm] at h1
  cases h1
/-- no condition -/
theorem pts_yes {X : Cx} : PTs X [] (tZT X.kf xc (W0 W) (cK (.bool true))) := by
  refine ⟨fun pins s σ H Q I h => (pts_nil (X := X)).run pins s σ H Q I ?_⟩
  obtain ⟨Γ, B, ρ, rep, b, hb, k⟩ := h
  have e : true = b := by injection hb
  rw [← e] at k
  exact k B H (Ex.refl _) rep
theorem ze_lc (hc : X.calm = true) (hN : X.N.Nodup) (hi : ZI X xc W tg iter cas) (ok : BlkOk X.N X.env.scope scope own) (hvs : (gs.all fun i => (own.map (·.2)).contains i) = true) (hJ : (W.J.all fun j => !(own.map (·.2)).contains j) = true)
    (hg : ∀ (s : Shared) (H : Hp) (C : Addr) (cl : List (Str × Addr)) (fp : List Addr), PG (X.blk s H scope (compEnvC scope cl C X.env) fp) tg (gZ X.kf W.J gs g))
    (ht : ∀ (s : Shared) (H : Hp) (C : Addr) (cl : List (Str × Addr)) (fp : List Addr), PTs (X.blk s H scope (compEnvC scope cl C X.env) fp) ifs (tZT X.kf xc (W0 W) ct))
    (he : ∀ (s : Shared) (H : Hp) (C : Addr) (cl : List (Str × Addr)) (fp : List Addr), PE (X.blk s H scope (compEnvC scope cl C X.env) fp) elt (tZ X.kf xc (W0 W) ce)) (hs : ∀ x, foldedSetIterable iter X.env x = pure x := by intro _; rfl) :
    ZE X xc W (.ListComp elt [⟨tg, iter, ifs, 0⟩] scope pos) (cLc (own.map (·.2)) cas g ct ce) := PE.imp (pe_lc hc hN hi ok hg ht he hs) fun σ H Q h => lc_read (all_in hvs) (all_out hJ) rfl h
/-- name = [..] on one line -/
theorem zs_setLc {i : Nat} {y : Str} {py : Pos} (hc : X.calm = true) (hN : X.N.Nodup) (hy : X.N[i]? = some y) (hyl : X.env.scope.names.lookup y = some .local)
    (hsw : swapsWith (.ListComp elt [⟨tg, iter, ifs, 0⟩] scope pos) (some (.Name y py)) spos.line X.env = pure true) (hi : ZI X xc W tg iter cas) (ok : BlkOk X.N X.env.scope scope own) (hvs : (gs.all fun i => (own.map (·.2)).contains i) = true) (hJ : (W.J.all fun j => !(own.map (·.2)).contains j) = true)
    (hg : ∀ (s : Shared) (H : Hp) (C : Addr) (cl : List (Str × Addr)) (fp : List Addr), PG (X.blk s H scope (compEnvC scope cl C X.env) fp) tg (gZ X.kf W.J gs g))
    (ht : ∀ (s : Shared) (H : Hp) (C : Addr) (cl : List (Str × Addr)) (fp : List Addr), PTs (X.blk s H scope (compEnvC scope cl C X.env) fp) ifs (tZT X.kf xc (W0 W) ct))
    (he : ∀ (s : Shared) (H : Hp) (C : Addr) (cl : List (Str × Addr)) (fp : List Addr), PE (X.blk s H scope (compEnvC scope cl C X.env) fp) elt (tZ X.kf xc (W0 W) ce)) (hJi : W.J.contains i = false := by rfl) (hs : ∀ x, foldedSetIterable iter X.env x = pure x := by intro _; rfl) :
    ZS X xc W (.Assign [.Name y py] (.ListComp elt [⟨tg, iter, ifs, 0⟩] scope pos) spos) (cSet i (cLc (own.map (·.2)) cas g ct ce)) :=
  PS.imp (ps_setLc hc hN hy hyl hsw hi ok hg ht he hs) fun D σ H ⟨Γ, B, ρ, rep, k⟩ => by
    have h : tZ X.kf xc W (cLc (own.map (·.2)) cas g ct ce) σ H fun x H1 => gName i x σ H1 D.nx := tz_bs rep k fun v B' H' s ρ' e1 r1 q1 k1 => k1 B' _ H' (r1.slot i (notin hJi) (q1.drop i))
    exact lc_read (all_in hvs) (all_out hJ) rfl h
end
/-! ### what is read in place -/
section
variable (K : KF) (xc : Str → Value) (W : Ww)
inductive RB where
  | ok (a : Ar) (ρ : En)
  | exc (x : Str) (ρ : En)
  | bad
abbrev CB := En → RB
def outB (Γ : Fm W.J) (B : Hp) (σ : L2.St) (Q : VK) : RB → Prop
  | .ok a ρ' => ∀ v B' H', Ex B B' → Rep K Γ B' ρ' σ H' → ArAt K B' σ v a → Q v H'
  | .exc x ρ' => ∀ B' H', Ex B B' → Rep K Γ B' ρ' σ H' → W.W (xc x) none σ H'
  | .bad => False
def tZB (c : CB) : TE := fun σ H Q => ∃ (Γ : Fm W.J) (B : Hp) (ρ : En), Rep K Γ B ρ σ H ∧ outB K xc W Γ B σ Q (c ρ)
end
def resolve (ρ : En) : Ar → Option PyData
  | .d d => some d
  | .s i _ => match ρ[i]? with
    | some (some s) => bif s.nh then some s.d else none
    | _ => none
  | .t _ => none
def cbN (i : Nat) : CB := fun ρ => match ρ[i]? with
  | some (some _) => .ok (.s i []) ρ
  | _ => .bad
def cbD (c : CE) : CB := fun ρ => match c ρ with
  | .ok s ρ => .ok (.d s.d) ρ
  | .exc x ρ => .exc x ρ
  | .bad => .bad
def RB.bd : RB → (Ar → En → R) → R
  | .ok a ρ, k => k a ρ
  | .exc x ρ, _ => .exc x ρ
  | .bad, _ => .bad
section
variable {X : Cx} {xc : Str → Value} {W : Ww} {a b e : Expr} {es : List Expr} {pos p2 : Pos} {ca ci : CE} {cb : CB} {cas : CA}
abbrev ZB (X : Cx) (xc : Str → Value) (W : Ww) (e : Expr) (c : CB) : Prop := PE X e (tZB X.kf xc W c)
theorem zb_n {i : Nat} (h : PE X e (tVar i)) : ZB X xc W e (cbN i) := PE.imp h fun σ H Q ⟨Γ, B, ρ, rep, k⟩ => by
  unfold cbN at k
  cases hi : ρ[i]? with
  | none => rw [hi] at k; exact k.elim
  | some o =>
    cases o with
    | none => rw [hi] at k; exact k.elim
    | some s =>
      rw [hi] at k
      obtain ⟨v, _, h1, _⟩ := rep.at_ i _ hi
      exact ⟨v, h1, k v B H (Ex.refl _) rep ⟨rfl, h1⟩⟩
theorem zb_d (h : ZE X xc W e ca) : ZB X xc W e (cbD ca) := PE.imp h fun σ H Q ⟨Γ, B, ρ, rep, k⟩ => by
  refine ⟨Γ, B, ρ, rep, ?_⟩
  unfold cbD at k
  cases hc : ca ρ with
  | ok s ρ1 =>
    rw [hc] at k
    intro v B1 H1 e1 r1 q1
    obtain ⟨B2, e2, r2, q2⟩ := SRes.data r1 q1
    exact k v B2 H1 (e1.trans e2) r2 q2
  | exc x ρ1 => rw [hc] at k; exact k
  | bad => rw [hc] at k; exact k
theorem resolve_pk {K : KF} {J : List Nat} {Γ : Fm J} {B B1 : Hp} {ρ : En} {σ : L2.St} {H : Hp} {v : V} {ar : Ar} {d : PyData} (rep : Rep K Γ B ρ σ H) (eb : Ex B1 B) (h : ArAt K B1 σ v ar) (hr : resolve ρ ar = some d) : Pk K B H v d := by
  cases ar with
  | t s => cases hr
  | d d' =>
    cases hr
    exact .of (dp_mono eb h)
  | s i p =>
    unfold resolve at hr
    cases hi : ρ[i]? with
    | none => simp only [hi] at hr; cases hr
    | some o =>
      cases o with
      | none => simp only [hi] at hr; cases hr
      | some s =>
        simp only [hi] at hr
        cases hn : s.nh with
        | false => rw [hn] at hr; cases hr
        | true =>
          rw [hn, cond_true] at hr
          cases hr
          obtain ⟨u, A, h1, h2⟩ := rep.at_ i _ hi
          have ev := some_inj2 (h.2.symm.trans h1)
          subst ev
          exact ⟨Γ.X, s, A, rfl, hn, h2⟩
theorem tzb_bd {K : KF} {Γ : Fm W.J} {B : Hp} {ρ : En} {σ : L2.St} {H : Hp} {k : Ar → En → R} {Q Q' : VK} (rep : Rep K Γ B ρ σ H) (h : outZ K xc W Γ B σ Q ((cb ρ).bd k))
    (next : ∀ v B' H' ar ρ', Ex B B' → Rep K Γ B' ρ' σ H' → ArAt K B' σ v ar → outZ K xc W Γ B' σ Q (k ar ρ') → Q' v H') : tZB K xc W cb σ H Q' := by
  refine ⟨Γ, B, ρ, rep, ?_⟩
  cases hc : cb ρ with
  | ok s ρ1 =>
    rw [hc] at h
    intro v B1 H1 e1 r1 q1
    exact next v B1 H1 s ρ1 e1 r1 q1 (outZ_mono e1 h)
  | exc x ρ1 => rw [hc] at h; exact h
  | bad => rw [hc] at h; exact h
/-- an operation on a thing read in place -/
def cB1 (g : PyData → Option S) (cb : CB) : CE := fun ρ => (cb ρ).bd fun ar ρ => match resolve ρ ar with
  | some d => R.lift (g d) ρ
  | none => .bad
def cB2 (g : PyData → PyData → Option S) (cb : CB) (ci : CE) : CE := fun ρ => (cb ρ).bd fun ar ρ => (ci ρ).bd fun e ρ => match resolve ρ ar with
  | some d => R.lift (g d e) ρ
  | none => .bad
theorem ze_ix {r : R2} {g : PyData → PyData → Option S} (hr : IxR X r) (ho : Op2P X.kf r g) (ha : ZB X xc W a cb) (hb : ZE X xc W b ci) (hs : PlainIx b) : ZE X xc W (.Subscript a b pos) (cB2 g cb ci) :=
  PE.imp (pe_ix hr ha hb hs) fun σ H Q ⟨Γ, B, ρ, rep, k⟩ => tzb_bd rep k fun x B1 H1 ar ρ1 e1 r1 q1 k1 => tz_bd r1 k1 fun y B2 H2 e ρ2 e2 r2 q2 k2 => by
    cases hres : resolve ρ2 ar with
    | none => rw [hres] at k2; exact k2.elim
    | some d =>
      rw [hres] at k2
      obtain ⟨s, hs, af⟩ := out_lift k2
      exact ho W.J Γ B2 ρ2 σ H2 x y d e s Q r2 (resolve_pk r2 e2 q1 hres) q2 hs af
def gIx : PyData → PyData → Option S
  | .list l, .int k => (atI l k).map .dat
  | .tuple l, .int k => (atI l k).map .dat
  | .str z, .int k => bif decide (z.length ≤ sizeLine) then (atI z.cps.toList k).map fun c => .dat (.str ⟨#[c]⟩) else none
  | _, _ => none
theorem dpAll_atI {K : KF} {B : Hp} {xs : List V} {ds : List PyData} (h : DpAll K B xs ds) {k : Int} {d : PyData} (e : atI ds k = some d) : ∃ v, atI xs k = some v ∧ Dp K B v d := by
  unfold atI at e ⊢
  rw [dpAll_len h]
  cases hj : ixN ds.length k with
  | none => rw [hj] at e; cases e
  | some j =>
    rw [hj] at e
    exact dpAll_get h e
theorem op_ix {K : KF} : Op2P K (rIx K.K) gIx := by
  intro J Γ B ρ σ H x y d e s Q rep hx hy hs af
  unfold gIx at hs
  split at hs
  · rename_i l k
    obtain ⟨a, rfl⟩ := hx.refL
    obtain ⟨xs, h1, h2⟩ := hx.list rep
    cases hv : atI l k with
    | none => rw [hv] at hs; cases hs
    | some v =>
      rw [hv] at hs
      cases hs
      obtain ⟨u, g1, g2⟩ := dpAll_atI h2 hv
      exact .inl ⟨a, xs, k, u, rfl, dp_int hy, h1, g1, After.now rep af g2⟩
  · rename_i l k
    obtain ⟨a, xs, rfl, h1, h2⟩ := dp_tup (hx.dp fun l e => by cases e)
    cases hv : atI l k with
    | none => rw [hv] at hs; cases hs
    | some v =>
      rw [hv] at hs
      cases hs
      obtain ⟨u, g1, g2⟩ := dpAll_atI h2 hv
      exact .inr (.inl ⟨a, xs, k, u, rfl, dp_int hy, ex_t rep.bh h1, g1, After.now rep af g2⟩)
  · rename_i z k
    have hz := dp_str (hx.dp fun l e => by cases e)
    cases hd : decide (z.length ≤ sizeLine) with
    | false => rw [hd] at hs; cases hs
    | true =>
      rw [hd, cond_true] at hs
      cases hv : atI z.cps.toList k with
      | none => rw [hv] at hs; cases hs
      | some c =>
        rw [hv] at hs
        cases hs
        exact .inr (.inr ⟨z, k, c, hz, dp_int hy, of_decide_eq_true hd, hv, After.now rep af (.str _)⟩)
  · cases hs
theorem ze_item (ha : ZB X xc W a cb) (hb : ZE X xc W b ci) (hs : PlainIx b) : ZE X xc W (.Subscript a b pos) (cB2 gIx cb ci) := ze_ix ix_seq op_ix ha hb hs
/-! ### slices -/
def R.bo : R → (Int → En → R) → R
  | .ok s ρ, k => match s.d with
    | .int i => k i ρ
    | _ => .bad
  | .exc x ρ, _ => .exc x ρ
  | .bad, _ => .bad
/-- a part of a slice -/
def cOpt (c : Option CE) (k : Option Int → En → R) : CE := fun ρ => match c with
  | none => k none ρ
  | some c => (c ρ).bo fun i ρ => k (some i) ρ
def tZO (K : KF) (xc : Str → Value) (W : Ww) (c : Option CE) : TO := match c with
  | none => tNoPart
  | some c => tPart (tZ K xc W c)
abbrev ZO (X : Cx) (xc : Str → Value) (W : Ww) (e : Option Expr) (c : Option CE) : Prop := PO X e (tZO X.kf xc W c)
theorem zo_none : ZO X xc W none none := po_none
theorem zo_some (h : ZE X xc W e ca) : ZO X xc W (some e) (some ca) := po_some h
theorem tzo {K : KF} {Γ : Fm W.J} {B : Hp} {ρ : En} {σ : L2.St} {H : Hp} {c : Option CE} {k : Option Int → En → R} {Q : VK} {Q' : Option Int → Hp → Prop} (rep : Rep K Γ B ρ σ H) (h : outZ K xc W Γ B σ Q (cOpt c k ρ))
    (next : ∀ o B' H' ρ', Ex B B' → Rep K Γ B' ρ' σ H' → outZ K xc W Γ B' σ Q (k o ρ') → Q' o H') : tZO K xc W c σ H Q' := by
  cases c with
  | none => exact next none B H ρ (Ex.refl _) rep h
  | some c =>
    refine ⟨Γ, B, ρ, rep, ?_⟩
    unfold cOpt at h
    simp only at h
    cases hc : c ρ with
    | ok s ρ1 =>
      rw [hc] at h
      intro v B1 H1 e1 r1 q1
      obtain ⟨B2, e2, r2, q2⟩ := SRes.data r1 q1
      unfold R.bo at h
      simp only at h
      split at h
      · rename_i i hi
        rw [hi] at q2
        exact ⟨i, dp_int q2, next (some i) B2 H1 ρ1 (e1.trans e2) r2 (outZ_mono (e1.trans e2) h)⟩
      · exact h.elim
    | exc x ρ1 => rw [hc] at h; exact h
    | bad => rw [hc] at h; exact h
def cutD {α : Type} (xs : List α) (lo hi : Option Int) : List α := (xs.drop (HT.sIx xs.length 0 lo)).take (HT.sIx xs.length xs.length hi - HT.sIx xs.length 0 lo)
def gSl (d : PyData) (lo hi : Option Int) : Option S := match d with
  | .list l => some (.lst (cutD l lo hi))
  | .tuple l => some (.dat (.tuple (cutD l lo hi)))
  | _ => none
def cSl (g : PyData → Option Int → Option Int → Option S) (cb : CB) (lo hi : Option CE) : CE := fun ρ => (cb ρ).bd fun ar ρ => cOpt lo (fun l ρ => cOpt hi (fun u ρ => match resolve ρ ar with
  | some d => R.lift (g d l u) ρ
  | none => .bad) ρ) ρ
theorem cutV_whole {xs : List V} {lo hi : Option Int} (h : HT.sIx xs.length 0 lo = 0 ∧ HT.sIx xs.length xs.length hi = xs.length) : cutV xs lo hi = xs := by
  unfold cutV
  rw [h.1, h.2]
  simp
theorem ze_slice {lo hi : Option Expr} {cl ch : Option CE} (ha : ZB X xc W a cb) (hl : ZO X xc W lo cl) (hh : ZO X xc W hi ch) : ZE X xc W (.Subscript a (.Slice lo hi none p2) pos) (cSl gSl cb cl ch) :=
  PE.imp (pe_slice (SlR.or sl_list sl_tupA) ha hl hh) fun σ H Q ⟨Γ, B, ρ, rep, k⟩ => tzb_bd rep k fun x B1 H1 ar ρ1 e1 r1 q1 k1 => tzo r1 k1 fun l B2 H2 ρ2 e2 r2 k2 => tzo r2 k2 fun u B3 H3 ρ3 e3 r3 k3 => by
    cases hres : resolve ρ3 ar with
    | none => rw [hres] at k3; exact k3.elim
    | some d =>
      rw [hres] at k3
      obtain ⟨s, hs, af⟩ := out_lift k3
      have pk := resolve_pk r3 (e2.trans e3) q1 hres
      unfold gSl at hs
      split at hs
      · rename_i ds
        cases hs
        obtain ⟨c, rfl⟩ := pk.refL
        obtain ⟨xs, h1, h2⟩ := pk.list r3
        exact .inl ⟨c, xs, rfl, h1, fun p hp => After.lst r3 af (dpAll_cut h2 l u) hp⟩
      · rename_i ds
        cases hs
        obtain ⟨c, xs, rfl, h1, h2⟩ := dp_tup (pk.dp fun l e => by cases e)
        refine .inr ⟨c, xs, rfl, ex_t r3.bh h1, fun hw => ?_, fun hw p hp => After.tup r3 af (dpAll_cut h2 l u) hp⟩
        have h3 := dpAll_cut h2 l u
        rw [cutV_whole hw] at h3
        exact After.now r3 af (.tup h1 h3)
      · cases hs
end
end Z
set_option maxHeartbeats 2000000
/-! Z: operators, built-ins. -/
namespace Z
open PySem PySem.Spec PyProof.Rows L2
open Evl (Ex ex_l ex_t ex_rd)
/-! ### numbers -/
def CFd (_ j : Int) : Prop := j ≠ 0 ∧ j.natAbs.log2 < 9000
instance (i j : Int) : Decidable (CFd i j) := inferInstanceAs (Decidable (_ ∧ _))
instance (i j : Int) : Decidable (CMulW i j) := inferInstanceAs (Decidable (_ < _))
instance (i j : Int) : Decidable (CPow i j) := inferInstanceAs (Decidable (_ ∧ _ ∧ _))
def gAdd : PyData → PyData → Option S
  | .int i, .int j => some (.dat (.int (i + j)))
  | .str a, .str b => bif decide (a.length + b.length ≤ sizeLine) then some (.dat (.str (a ++ b))) else none
  | .tuple a, .tuple b => bif decide (a.length + b.length ≤ sizeLine) then some (.dat (.tuple (a ++ b))) else none
  | .list a, .list b => bif decide (a.length + b.length ≤ sizeLine) then some (.lst (a ++ b)) else none
  | _, _ => none
def gSub : PyData → PyData → Option S
  | .int i, .int j => some (.dat (.int (i - j)))
  | _, _ => none
def gMul : PyData → PyData → Option S
  | .int i, .int j => bif decide (CMulW i j) then some (.dat (.int (i * j))) else none
  | _, _ => none
def gFd : PyData → PyData → Option S
  | .int i, .int j => bif decide (CFd i j) then some (.dat (.int (i.fdiv j))) else none
  | _, _ => none
def gMod : PyData → PyData → Option S
  | .int i, .int j => bif decide (0 < j) then some (.dat (.int (i % j))) else none
  | _, _ => none
def gPow : PyData → PyData → Option S
  | .int i, .int j => bif decide (CPow i j) then some (.dat (.int (i ^ j.toNat))) else none
  | _, _ => none
def gNeg : PyData → Option S
  | .int i => some (.dat (.int (-i)))
  | _ => none
def gLt : PyData → PyData → Option S
  | .int i, .int j => some (.dat (.bool (decide (i < j))))
  | _, _ => none
def gLe : PyData → PyData → Option S
  | .int i, .int j => some (.dat (.bool (decide (i ≤ j))))
  | _, _ => none
def gGt : PyData → PyData → Option S
  | .int i, .int j => some (.dat (.bool (decide (j < i))))
  | _, _ => none
def gGe : PyData → PyData → Option S
  | .int i, .int j => some (.dat (.bool (decide (j ≤ i))))
  | _, _ => none
/-- data that can be compared -/
def shp (d : PyData) : Bool := plain d && SeqAt.shaped d
def gEq (d e : PyData) : Option S := bif shp d && shp e then some (.dat (.bool (PyData.eqv d e))) else none
def gNe (d e : PyData) : Option S := bif shp d && shp e then some (.dat (.bool (!PyData.eqv d e))) else none
def gIn (d e : PyData) : Option S := match e with
  | .list es => bif shp d && shp (.list es) then some (.dat (.bool (es.any fun z => PyData.eqv z d))) else none
  | .tuple es => bif shp d && shp (.tuple es) then some (.dat (.bool (es.any fun z => PyData.eqv z d))) else none
  | .str z => match d with
    | .str c => bif decide (c.length = 1) then some (.dat (.bool (decide (c.cps.getD 0 0 ∈ z.cps.toList)))) else none
    | _ => none
  | _ => none
def gNotIn (d e : PyData) : Option S := match gIn d e with
  | some (.dat (.bool b)) => some (.dat (.bool (!b)))
  | _ => none
def gIs : PyData → PyData → Option S
  | .bool a, .bool b => some (.dat (.bool (decide (a = b))))
  | .none, .none => some (.dat (.bool true))
  | .int _, .none => some (.dat (.bool false))
  | .bool _, .none => some (.dat (.bool false))
  | .str _, .none => some (.dat (.bool false))
  | .list _, .none => some (.dat (.bool false))
  | .tuple _, .none => some (.dat (.bool false))
  | _, _ => none
def gIsN (d e : PyData) : Option S := match e with
  | .bool b => match d with
    | .bool a => some (.dat (.bool (!decide (a = b))))
    | _ => none
  | .none => match gIs d e with
    | some (.dat (.bool b)) => some (.dat (.bool (!b)))
    | _ => none
  | _ => none
section
variable {X : Cx}
theorem op_fdX : OpR X (binaryOp .FloorDiv) (rI CFd fun i j => .int (i.fdiv j)) := opI fun i j _ _ _ _ _ hc q => floordiv_int hc.1 q (.inl (PyProof.noPylong_of_log2 hc.2))
/-- two ints by a rule -/
theorem o2_I {K : KF} {C : Int → Int → Prop} [∀ i j, Decidable (C i j)] {f : Int → Int → V} {g : PyData → PyData → Option S} {h : Int → Int → PyData} (hv : ∀ B i j, Dp K B (f i j) (h i j))
    (hg : ∀ d e s, g d e = some s → ∃ i j, d = .int i ∧ e = .int j ∧ C i j ∧ s = .dat (h i j)) : Op2 K (rI C f) g := by
  intro J Γ B ρ σ H x y d e s Q rep hx hy hs af
  obtain ⟨i, j, rfl, rfl, hc, rfl⟩ := hg d e s hs
  exact ⟨i, j, dp_int hx, dp_int hy, hc, After.now rep af (hv B i j)⟩
theorem o2_I0 {K : KF} {f : Int → Int → V} {g : PyData → PyData → Option S} {h : Int → Int → PyData} (hv : ∀ B i j, Dp K B (f i j) (h i j))
    (hg : ∀ d e s, g d e = some s → ∃ i j, d = .int i ∧ e = .int j ∧ s = .dat (h i j)) : Op2 K (rI0 f) g := by
  intro J Γ B ρ σ H x y d e s Q rep hx hy hs af
  obtain ⟨i, j, rfl, rfl, rfl⟩ := hg d e s hs
  exact ⟨i, j, dp_int hx, dp_int hy, After.now rep af (hv B i j)⟩
theorem bif_some {b : Bool} {α : Type} {x y : α} (h : (bif b then some x else none) = some y) : b = true ∧ x = y := by
  cases b with
  | true => exact ⟨rfl, Option.some.inj h⟩
  | false => cases h
theorem o_sub {K : KF} : Op2 K (rI0 fun i j => .int (i - j)) gSub := o2_I0 (h := fun i j => .int (i - j)) (fun _ _ _ => .int _) fun d e s h => by
  unfold gSub at h
  split at h
  · exact ⟨_, _, rfl, rfl, (Option.some.inj h).symm⟩
  · cases h
theorem o_mul {K : KF} : Op2 K (rI CMulW fun i j => .int (i * j)) gMul := o2_I (h := fun i j => .int (i * j)) (fun _ _ _ => .int _) fun d e s h => by
  unfold gMul at h
  split at h
  · obtain ⟨h1, h2⟩ := bif_some h
    exact ⟨_, _, rfl, rfl, of_decide_eq_true h1, h2.symm⟩
  · cases h
theorem o_fd {K : KF} : Op2 K (rI CFd fun i j => .int (i.fdiv j)) gFd := o2_I (h := fun i j => .int (i.fdiv j)) (fun _ _ _ => .int _) fun d e s h => by
  unfold gFd at h
  split at h
  · obtain ⟨h1, h2⟩ := bif_some h
    exact ⟨_, _, rfl, rfl, of_decide_eq_true h1, h2.symm⟩
  · cases h
theorem o_mod {K : KF} : Op2 K (rI (fun _ j => 0 < j) fun i j => .int (i % j)) gMod := o2_I (h := fun i j => .int (i % j)) (fun _ _ _ => .int _) fun d e s h => by
  unfold gMod at h
  split at h
  · obtain ⟨h1, h2⟩ := bif_some h
    exact ⟨_, _, rfl, rfl, of_decide_eq_true h1, h2.symm⟩
  · cases h
theorem o_pow {K : KF} : Op2 K (rI CPow fun i j => .int (i ^ j.toNat)) gPow := o2_I (h := fun i j => .int (i ^ j.toNat)) (fun _ _ _ => .int _) fun d e s h => by
  unfold gPow at h
  split at h
  · obtain ⟨h1, h2⟩ := bif_some h
    exact ⟨_, _, rfl, rfl, of_decide_eq_true h1, h2.symm⟩
  · cases h
theorem o_lt {K : KF} : Op2 K (rI0 fun i j => .bl (decide (i < j))) gLt := o2_I0 (h := fun i j => .bool (decide (i < j))) (fun _ _ _ => .bl _) fun d e s h => by
  unfold gLt at h
  split at h
  · exact ⟨_, _, rfl, rfl, (Option.some.inj h).symm⟩
  · cases h
theorem o_le {K : KF} : Op2 K (rI0 fun i j => .bl (decide (i ≤ j))) gLe := o2_I0 (h := fun i j => .bool (decide (i ≤ j))) (fun _ _ _ => .bl _) fun d e s h => by
  unfold gLe at h
  split at h
  · exact ⟨_, _, rfl, rfl, (Option.some.inj h).symm⟩
  · cases h
theorem o_gt {K : KF} : Op2 K (rI0 fun i j => .bl (decide (j < i))) gGt := o2_I0 (h := fun i j => .bool (decide (j < i))) (fun _ _ _ => .bl _) fun d e s h => by
  unfold gGt at h
  split at h
  · exact ⟨_, _, rfl, rfl, (Option.some.inj h).symm⟩
  · cases h
theorem o_ge {K : KF} : Op2 K (rI0 fun i j => .bl (decide (j ≤ i))) gGe := o2_I0 (h := fun i j => .bool (decide (j ≤ i))) (fun _ _ _ => .bl _) fun d e s h => by
  unfold gGe at h
  split at h
  · exact ⟨_, _, rfl, rfl, (Option.some.inj h).symm⟩
  · cases h
theorem o_neg {K : KF} : Op1 K (rU fun i => .int (-i)) gNeg := by
  intro J Γ B ρ σ H x d s Q rep hx hs af
  unfold gNeg at hs
  split at hs
  · rename_i i
    cases hs
    exact ⟨i, dp_int hx, After.now rep af (.int _)⟩
  · cases hs
/-! ### + -/
def rCatL (K : PySem.W.Frag) : R2 := fun x y H Q => ∃ l b xs zs, x = .ref l ∧ y = .ref b ∧ L2.SqL K H l xs ∧ L2.SqL K H b zs ∧ xs.length + zs.length ≤ sizeLine ∧ ∀ p, H p = none → Q (.ref p) (upd H p (.lst (xs ++ zs)))
theorem op_catL : OpR X (binaryOp .Add) (rCatL X.K) := by
  intro pins s σ H x y v u Q I rx ry h
  obtain ⟨l, b, xs, zs, rfl, rfl, hH, hB, hz, q⟩ := h
  cases rx
  cases ry
  obtain ⟨its, r, pl, hl⟩ := I.list hH
  obtain ⟨its2, r2, pl2, hl2⟩ := I.list hB
  obtain ⟨⟨cls, dd, data, sl⟩, ho, hc, n, hd⟩ := id pl.isList
  obtain ⟨⟨cls2, dd2, data2, sl2⟩, ho2, hc2, n2, hd2⟩ := id pl2.isList
  simp only at hc hd hc2 hd2
  subst hc hd hc2 hd2
  have e : its.toArray ++ its2.toArray = (its ++ its2).toArray := by simp
  have e1 := r.length
  have e2 := r2.length
  refine PySem.concat_meets ⟨_, ho, rfl⟩ ⟨_, ho2, rfl⟩ PySem.noFill_list_add PySem.seq_list_add PySem.F.slot_list_add PySem.F.entry_list_add (PySem.F.args_list_add_2 _ _)
    (PyProof.Rows.list_addW l b its.toArray its2.toArray n n2 dd dd2 sl sl2 (by rw [List.size_toArray, List.size_toArray]; omega)) ⟨ho, ho2, ?_⟩
  rw [e]
  exact ⟨.ref _, _, I.lnew (t' := s.toks) (r.append r2) (by rw [List.length_append]; omega), rfl, q _ I.fresh⟩
abbrev rAddI : R2 := rI0 fun i j => .int (i + j)
abbrev rAddS : R2 := fun x y H Q => ∃ i j, x = .str i ∧ y = .str j ∧ i.length + j.length ≤ sizeLine ∧ Q (.str (i ++ j)) H
abbrev rAddZ (K : PySem.W.Frag) : R2 := fun x y H Q => rAddI x y H Q ∨ (rAddS x y H Q ∨ (rCatA K x y H Q ∨ rCatL K x y H Q))
theorem op_addZ : OpR X (binaryOp .Add) (rAddZ X.K) := OpR.or op_add (OpR.or op_add_str (OpR.or op_catA op_catL))
theorem o_add {K : KF} : Op2 K (rAddZ K.K) gAdd := by
  intro J Γ B ρ σ H x y d e s Q rep hx hy hs af
  unfold gAdd at hs
  split at hs
  · rename_i i j
    cases hs
    exact .inl ⟨i, j, dp_int hx, dp_int hy, After.now rep af (.int _)⟩
  · rename_i a b
    obtain ⟨h1, h2⟩ := bif_some hs
    subst h2
    exact .inr (.inl ⟨a, b, dp_str hx, dp_str hy, of_decide_eq_true h1, After.now rep af (.str _)⟩)
  · rename_i a b
    obtain ⟨h1, h2⟩ := bif_some hs
    subst h2
    obtain ⟨l, xs, rfl, k1, k2⟩ := dp_tup hx
    obtain ⟨m, ys, rfl, j1, j2⟩ := dp_tup hy
    have e1 := dpAll_len k2
    have e2 := dpAll_len j2
    refine .inr (.inr (.inl ⟨l, m, xs, ys, rfl, rfl, ex_t rep.bh k1, ex_t rep.bh j1, by rw [e1, e2]; exact of_decide_eq_true h1, fun e => ?_, fun _ e => ?_, fun _ _ p hp => After.tup rep af (dpAll_app k2 j2) hp⟩))
    · subst e
      cases k2
      exact After.now rep af hy
    · subst e
      cases j2
      rw [List.append_nil] at af
      exact After.now rep af hx
  · rename_i a b
    obtain ⟨h1, h2⟩ := bif_some hs
    subst h2
    obtain ⟨l, xs, rfl, k1, k2⟩ := dp_list hx
    obtain ⟨m, ys, rfl, j1, j2⟩ := dp_list hy
    exact .inr (.inr (.inr ⟨l, m, xs, ys, rfl, rfl, ex_l rep.bh k1, ex_l rep.bh j1, by rw [dpAll_len k2, dpAll_len j2]; exact of_decide_eq_true h1, fun p hp => After.lst rep af (dpAll_app k2 j2) hp⟩))
  · cases hs
/-! ### ==, in, is -/
theorem o_eq {K : KF} : Op2 K (rEqD K.K) gEq := by
  intro J Γ B ρ σ H x y d e s Q rep hx hy hs af
  obtain ⟨h1, h2⟩ := bif_some hs
  subst h2
  have h3 := Bool.and_eq_true_iff.mp h1
  have p1 := Bool.and_eq_true_iff.mp h3.1
  have p2 := Bool.and_eq_true_iff.mp h3.2
  exact ⟨d, e, plain_dp (dp_mono rep.bh hx) p1.1, plain_dp (dp_mono rep.bh hy) p2.1, p1.2, p2.2, After.now rep af (.bl _)⟩
theorem o_ne {K : KF} : Op2 K (rNeD K.K) gNe := by
  intro J Γ B ρ σ H x y d e s Q rep hx hy hs af
  obtain ⟨h1, h2⟩ := bif_some hs
  subst h2
  have h3 := Bool.and_eq_true_iff.mp h1
  have p1 := Bool.and_eq_true_iff.mp h3.1
  have p2 := Bool.and_eq_true_iff.mp h3.2
  exact ⟨d, e, plain_dp (dp_mono rep.bh hx) p1.1, plain_dp (dp_mono rep.bh hy) p2.1, p1.2, p2.2, After.now rep af (.bl _)⟩
def rInT (K : PySem.W.Frag) : R2 := fun x y H Q => ∃ d ds, L2.Dp K H x d ∧ L2.Dp K H y (.tuple ds) ∧ SeqAt.shaped d = true ∧ SeqAt.shaped (.tuple ds) = true ∧ Q (.bl (ds.any fun z => PyData.eqv z d)) H
def rNotInT (K : PySem.W.Frag) : R2 := fun x y H Q => ∃ d ds, L2.Dp K H x d ∧ L2.Dp K H y (.tuple ds) ∧ SeqAt.shaped d = true ∧ SeqAt.shaped (.tuple ds) = true ∧ Q (.bl (!ds.any fun z => PyData.eqv z d)) H
theorem op_inT (hu : X.A.units + 65 < cLine) : OpR X (compareOp .In) (rInT X.K) := by
  intro pins s σ H x y v u Q I rx ry h
  obtain ⟨d, ds, hd, he, sd, se, q⟩ := h
  obtain ⟨as, r1⟩ := L2.Dp.reads I d x v hd rx
  obtain ⟨bs, r2⟩ := L2.Dp.reads I (.tuple ds) y u he ry
  exact SeqAt.in_tuple_reads r2 r1 (SeqAt.canLay_of_shaped se) (SeqAt.canLay_of_shaped sd) (room_in_shaped sd hu) ⟨.bl _, H, I, rfl, q⟩
theorem op_notInT (hu : X.A.units + 65 < cLine) : OpR X (compareOp .NotIn) (rNotInT X.K) := by
  intro pins s σ H x y v u Q I rx ry h
  obtain ⟨d, ds, hd, he, sd, se, q⟩ := h
  obtain ⟨as, r1⟩ := L2.Dp.reads I d x v hd rx
  obtain ⟨bs, r2⟩ := L2.Dp.reads I (.tuple ds) y u he ry
  exact SeqAt.notIn_tuple_reads r2 r1 (SeqAt.canLay_of_shaped se) (SeqAt.canLay_of_shaped sd) (room_in_shaped sd hu) ⟨.bl _, H, I, rfl, q⟩
abbrev rInC : R2 := fun x y H Q => ∃ (c : Nat) (z : Str), x = .str ⟨#[c]⟩ ∧ y = .str z ∧ Q (.bl (decide (c ∈ z.cps.toList))) H
abbrev rNotInC : R2 := fun x y H Q => ∃ (c : Nat) (z : Str), x = .str ⟨#[c]⟩ ∧ y = .str z ∧ Q (.bl (!decide (c ∈ z.cps.toList))) H
abbrev rInZ (K : PySem.W.Frag) : R2 := fun x y H Q => rInD K x y H Q ∨ (rInT K x y H Q ∨ rInC x y H Q)
abbrev rNotInZ (K : PySem.W.Frag) : R2 := fun x y H Q => rNotInD K x y H Q ∨ (rNotInT K x y H Q ∨ rNotInC x y H Q)
theorem op_inZ (hu : X.A.units + 65 < cLine) : OpR X (compareOp .In) (rInZ X.K) := OpR.or (op_inD hu) (OpR.or (op_inT hu) op_in_sign)
theorem op_notInZ (hu : X.A.units + 65 < cLine) : OpR X (compareOp .NotIn) (rNotInZ X.K) := OpR.or (op_notInD hu) (OpR.or (op_notInT hu) op_notIn_sign)
theorem one_sign {c : Str} (h : c.length = 1) : c = ⟨#[c.cps.getD 0 0]⟩ := by
  obtain ⟨⟨l⟩⟩ := c
  have h' : l.length = 1 := h
  match l, h' with
  | [a], _ => rfl
theorem o_in {K : KF} : Op2 K (rInZ K.K) gIn := by
  intro J Γ B ρ σ H x y d e s Q rep hx hy hs af
  unfold gIn at hs
  split at hs
  · rename_i es
    obtain ⟨h1, h2⟩ := bif_some hs
    subst h2
    have h3 := Bool.and_eq_true_iff.mp h1
    have p1 := Bool.and_eq_true_iff.mp h3.1
    have p2 := Bool.and_eq_true_iff.mp h3.2
    exact .inl ⟨d, es, plain_dp (dp_mono rep.bh hx) p1.1, plain_dp (dp_mono rep.bh hy) p2.1, p1.2, p2.2, After.now rep af (.bl _)⟩
  · rename_i es
    obtain ⟨h1, h2⟩ := bif_some hs
    subst h2
    have h3 := Bool.and_eq_true_iff.mp h1
    have p1 := Bool.and_eq_true_iff.mp h3.1
    have p2 := Bool.and_eq_true_iff.mp h3.2
    exact .inr (.inl ⟨d, es, plain_dp (dp_mono rep.bh hx) p1.1, plain_dp (dp_mono rep.bh hy) p2.1, p1.2, p2.2, After.now rep af (.bl _)⟩)
  · rename_i z
    split at hs
    · rename_i c
      obtain ⟨h1, h2⟩ := bif_some hs
      subst h2
      exact .inr (.inr ⟨c.cps.getD 0 0, z, by rw [dp_str hx, ← one_sign (of_decide_eq_true h1)], dp_str hy, After.now rep af (.bl _)⟩)
    · cases hs
  · cases hs
theorem o_notIn {K : KF} : Op2 K (rNotInZ K.K) gNotIn := by
  intro J Γ B ρ σ H x y d e s Q rep hx hy hs af
  unfold gNotIn at hs
  split at hs
  · rename_i b hb
    cases hs
    unfold gIn at hb
    split at hb
    · rename_i es
      obtain ⟨h1, h2⟩ := bif_some hb
      cases h2
      have h3 := Bool.and_eq_true_iff.mp h1
      have p1 := Bool.and_eq_true_iff.mp h3.1
      have p2 := Bool.and_eq_true_iff.mp h3.2
      exact .inl ⟨d, es, plain_dp (dp_mono rep.bh hx) p1.1, plain_dp (dp_mono rep.bh hy) p2.1, p1.2, p2.2, After.now rep af (.bl _)⟩
    · rename_i es
      obtain ⟨h1, h2⟩ := bif_some hb
      cases h2
      have h3 := Bool.and_eq_true_iff.mp h1
      have p1 := Bool.and_eq_true_iff.mp h3.1
      have p2 := Bool.and_eq_true_iff.mp h3.2
      exact .inr (.inl ⟨d, es, plain_dp (dp_mono rep.bh hx) p1.1, plain_dp (dp_mono rep.bh hy) p2.1, p1.2, p2.2, After.now rep af (.bl _)⟩)
    · rename_i z
      split at hb
      · rename_i c
        obtain ⟨h1, h2⟩ := bif_some hb
        cases h2
        exact .inr (.inr ⟨c.cps.getD 0 0, z, by rw [dp_str hx, ← one_sign (of_decide_eq_true h1)], dp_str hy, After.now rep af (.bl _)⟩)
      · cases hb
    · cases hb
  · cases hs
abbrev rIsNn : R2 := fun x y H Q => y = .non ∧ Q (.bl (decide (x = .non))) H
abbrev rIsNnN : R2 := fun x y H Q => y = .non ∧ Q (.bl (!decide (x = .non))) H
theorem op_isZ : OpR X (compareOp .Is) (fun x y H Q => rIsNn x y H Q ∨ rIsB x y H Q) := OpR.or op_isN op_isBl
theorem o_is {K : KF} : Op2 K (fun x y H Q => rIsNn x y H Q ∨ rIsB x y H Q) gIs := by
  intro J Γ B ρ σ H x y d e s Q rep hx hy hs af
  unfold gIs at hs
  split at hs
  · rename_i a b
    cases hs
    exact .inr ⟨a, b, dp_bool hx, dp_bool hy, After.now rep af (.bl _)⟩
  · cases hs
    exact .inl ⟨dp_none hy, by rw [dp_none hx]; exact After.now rep af (.bl _)⟩
  · cases hs
    exact .inl ⟨dp_none hy, by rw [dp_int hx]; exact After.now rep af (.bl _)⟩
  · cases hs
    exact .inl ⟨dp_none hy, by rw [dp_bool hx]; exact After.now rep af (.bl _)⟩
  · cases hs
    exact .inl ⟨dp_none hy, by rw [dp_str hx]; exact After.now rep af (.bl _)⟩
  · cases hs
    obtain ⟨a, xs, rfl, _⟩ := dp_list hx
    exact .inl ⟨dp_none hy, After.now rep af (.bl _)⟩
  · cases hs
    obtain ⟨a, xs, rfl, _⟩ := dp_tup hx
    exact .inl ⟨dp_none hy, After.now rep af (.bl _)⟩
  · cases hs
theorem op_notZ : OpR X (compareOp .IsNot) (fun x y H Q => rIsNnN x y H Q ∨ rNotB x y H Q) := OpR.or op_notN op_notBl
theorem o_isN {K : KF} : Op2 K (fun x y H Q => rIsNnN x y H Q ∨ rNotB x y H Q) gIsN := by
  intro J Γ B ρ σ H x y d e s Q rep hx hy hs af
  unfold gIsN at hs
  split at hs
  · split at hs
    · cases hs
      exact .inr ⟨_, _, dp_bool hx, dp_bool hy, After.now rep af (.bl _)⟩
    · cases hs
  · refine .inl ⟨dp_none hy, ?_⟩
    cases d with
    | none =>
      cases hs
      rw [dp_none hx]
      exact After.now rep af (.bl _)
    | bool b =>
      cases hs
      rw [dp_bool hx]
      exact After.now rep af (.bl _)
    | int b =>
      cases hs
      rw [dp_int hx]
      exact After.now rep af (.bl _)
    | str b =>
      cases hs
      rw [dp_str hx]
      exact After.now rep af (.bl _)
    | list l =>
      cases hs
      obtain ⟨a, xs, rfl, _⟩ := dp_list hx
      exact After.now rep af (.bl _)
    | tuple l =>
      cases hs
      obtain ⟨a, xs, rfl, _⟩ := dp_tup hx
      exact After.now rep af (.bl _)
    | dict _ => cases hs
  · cases hs
end
/-! ### chains of two comparisons -/
section
variable {X : Cx} {xc : Str → Value} {W : Ww} {a b c e : Expr} {es : List Expr} {pos p : Pos} {ca cb' cc : CE} {cas : CA}
def cChain (g1 g2 : PyData → PyData → Option S) (ca cb cc : CE) : CE := fun ρ => (ca ρ).bd fun d ρ => (cb ρ).bd fun e ρ => (R.lift (g1 d e) ρ).bd fun t ρ => match t with
  | .bool true => (cc ρ).bd fun f ρ => R.lift (g2 e f) ρ
  | .bool false => .ok (.dat (.bool false)) ρ
  | _ => .bad
theorem tz_chain {K : KF} {r1 r2 : R2} {g1 g2 : PyData → PyData → Option S} (h1 : Op2 K r1 g1) (h2 : Op2 K r2 g2) {σ : L2.St} {H : Hp} {Q : VK} (h : tZ K xc W (cChain g1 g2 ca cb' cc) σ H Q) : tChain r1 r2 (tZ K xc W ca) (tZ K xc W cb') (tZ K xc W cc) σ H Q := by
  obtain ⟨Γ, B, ρ, rep, k⟩ := h
  refine tz_bd rep k fun x B1 H1 d ρ1 e1 r1' q1 k1 => ?_
  refine tz_bd r1' k1 fun y B2 H2 e ρ2 e2 r2' q2 k2 => ?_
  cases hg : g1 d e with
  | none => rw [hg] at k2; exact k2.elim
  | some s =>
    rw [hg] at k2
    have k3 : outZ K xc W Γ B2 σ Q (match s.d with
      | .bool true => (cc ρ2).bd fun f ρ => R.lift (g2 e f) ρ
      | .bool false => .ok (.dat (.bool false)) ρ2
      | _ => .bad) := k2
    refine h1 W.J Γ B2 ρ2 σ H2 x y d e s _ r2' (dp_mono e2 q1) q2 hg fun z B3 H3 e3 r3 q3 => ?_
    cases s with
    | lst l | dic l | obj c fs | hole => exact k3.elim
    | dat t =>
      cases t with
      | none | int _ | str _ | list _ | tuple _ | dict _ => exact k3.elim
      | bool t =>
        refine ⟨t, dp_bool q3.dp, ?_⟩
        cases t with
        | false => exact iteF (k3 _ B3 H3 e3 r3 (sres_dat (.bl _)))
        | true =>
          refine iteT (tz_bd r3 (outZ_mono e3 k3) fun w B4 H4 f ρ4 e4 r4 q4 k4 => ?_)
          obtain ⟨s', hs', af⟩ := out_lift k4
          exact h2 W.J Γ B4 ρ4 σ H4 y w e f s' Q r4 (dp_mono (e3.trans e4) q2) q4 hs' af
theorem ze_chain {op op' : CmpOp} {r r' : R2} {g g' : PyData → PyData → Option S} (ho : OpR X (compareOp op) r) (ho' : OpR X (compareOp op') r') (hg : Op2 X.kf r g) (hg' : Op2 X.kf r' g') (ha : ZE X xc W a ca) (hb : ZE X xc W b cb') (hc : ZE X xc W c cc)
    (hm : lastMarks [op, op'] [b, c] = false := by with_unfolding_all rfl) : ZE X xc W (.Compare a [op, op'] [b, c] pos) (cChain g g' ca cb' cc) :=
  PE.imp (pe_chain ho ho' ha hb hc hm) fun _ _ _ h => tz_chain hg hg' h
theorem zt_chain {op op' : CmpOp} {r r' : R2} {g g' : PyData → PyData → Option S} (ho : OpR X (compareOp op) r) (ho' : OpR X (compareOp op') r') (hg : Op2 X.kf r g) (hg' : Op2 X.kf r' g') (ha : ZE X xc W a ca) (hb : ZE X xc W b cb') (hc : ZE X xc W c cc)
    (hm : lastMarks [op, op'] [b, c] = false := by with_unfolding_all rfl) : ZT X xc W (.Compare a [op, op'] [b, c] pos) (cChain g g' ca cb' cc) :=
  PT.imp (pt_chain ho ho' ha hb hc hm) fun _ _ _ h => tz_chain hg hg' (tzt_of h)
/-! ### built-ins -/
theorem tz_N {K : KF} {r : List V → Hp → VK → Prop} {g : List PyData → Option S} (hr : OpN K r g) {σ : L2.St} {H : Hp} {Q : VK} (h : tZ K xc W (cN g cas) σ H Q) : tCB r (tZA K xc W cas) σ H Q := by
  obtain ⟨Γ, B, ρ, rep, k⟩ := h
  refine tza_bd rep k fun xs B1 H1 ds ρ1 e1 r1 q1 k1 => ?_
  obtain ⟨s, hs, af⟩ := out_lift k1
  exact hr W.J Γ B1 ρ1 σ H1 xs ds s Q r1 q1 hs af
theorem ze_callB {x : Str} {id : String} {r : List V → Hp → VK → Prop} {g : List PyData → Option S} (hc : CallR X (.builtin id) r) (hr : OpN X.kf r g) (hm : X.mg x = none) (hv : bootBuiltins x = some (.builtin id)) (ha : ZA X xc W (e :: es) cas) (hg : Gl X x := by rfl) (hn : x ≠ "__name__" := by decide) (hdb : (x == ("__debug__" : Str)) = false := by decide)
    (he : starEach (e :: es) X.env = (false, eval e X.env) :: starEach es X.env := by rfl) (hpl : (backTo pos (starEach es X.env)).any (·.1) = false := by rfl) : ZE X xc W (.Call (.Name x p) (e :: es) [] pos) (cN g cas) :=
  PE.imp (pe_callB hc hg hm hv ha.run hn hdb he hpl) fun _ _ _ h => tz_N hr h
theorem ze_callT {x : Str} {T : String} {r : List V → Hp → VK → Prop} {g : List PyData → Option S} (hc : CallR X (.type T) r) (hr : OpN X.kf r g) (hm : X.mg x = none) (hv : bootBuiltins x = some (.type T)) (ha : ZA X xc W (e :: es) cas) (hg : Gl X x := by rfl) (hn : x ≠ "__name__" := by decide) (hdb : (x == ("__debug__" : Str)) = false := by decide)
    (he : starEach (e :: es) X.env = (false, eval e X.env) :: starEach es X.env := by rfl) (hpl : (backTo pos (starEach es X.env)).any (·.1) = false := by rfl) : ZE X xc W (.Call (.Name x p) (e :: es) [] pos) (cN g cas) :=
  PE.imp (pe_callTy hc hg hm hv ha.run hn hdb he hpl) fun _ _ _ h => tz_N hr h
theorem ze_callM {x : Str} {id : String} {r : List V → Hp → VK → Prop} {g : List PyData → Option S} (hc : CallR X (.builtin id) r) (hr : OpN X.kf r g) (hm : X.mg x = some (.builtin id)) (ha : ZA X xc W (e :: es) cas) (hg : Gl X x := by rfl) (hdb : (x == ("__debug__" : Str)) = false := by decide)
    (he : starEach (e :: es) X.env = (false, eval e X.env) :: starEach es X.env := by rfl) (hpl : (backTo pos (starEach es X.env)).any (·.1) = false := by rfl) : ZE X xc W (.Call (.Name x p) (e :: es) [] pos) (cN g cas) :=
  PE.imp (pe_callBfun hc hg hm ha.run hdb he hpl) fun _ _ _ h => tz_N hr h
/-- len, in place -/
def gLen : PyData → Option S
  | .list l => some (.dat (.int l.length))
  | .tuple l => some (.dat (.int l.length))
  | .str z => bif decide (z.length ≤ sizeLine) then some (.dat (.int z.length)) else none
  | _ => none
theorem ze_len {cbb : CB} (hm : X.mg "len" = none) (ha : ZB X xc W e cbb) (hg : Gl X "len" := by rfl)
    (he : starEach [e] X.env = (false, eval e X.env) :: starEach [] X.env := by rfl) (hpl : (backTo pos (starEach [] X.env)).any (·.1) = false := by rfl) : ZE X xc W (.Call (.Name "len" p) [e] [] pos) (cB1 gLen cbb) :=
  PE.imp (pe_callB call_len hg hm PySem.boot_len (pa_cons ha pa_nil he) (by decide) (by decide) he hpl) fun σ H Q ⟨Γ, B, ρ, rep, k⟩ => tzb_bd rep k fun x B1 H1 ar ρ1 e1 r1 q1 k1 => by
    cases hres : resolve ρ1 ar with
    | none => rw [hres] at k1; exact k1.elim
    | some d =>
      rw [hres] at k1
      obtain ⟨s, hs, af⟩ := out_lift k1
      have pk := resolve_pk r1 (Ex.refl _) q1 hres
      show ∃ y n, [x] = [y] ∧ LenV X.K y H1 n ∧ Q (.int n) H1
      unfold gLen at hs
      split at hs
      · cases hs
        obtain ⟨c, rfl⟩ := pk.refL
        obtain ⟨xs, h1, h2⟩ := pk.list r1
        refine ⟨.ref c, xs.length, rfl, .inl ⟨xs, h1, rfl⟩, ?_⟩
        rw [dpAll_len h2]
        exact After.now r1 af (.int _)
      · cases hs
        obtain ⟨c, xs, rfl, h1, h2⟩ := dp_tup (pk.dp fun l e => by cases e)
        refine ⟨.ref c, xs.length, rfl, .inr ⟨xs, ex_t r1.bh h1, rfl⟩, ?_⟩
        rw [dpAll_len h2]
        exact After.now r1 af (.int _)
      · rename_i z
        obtain ⟨h1, h2⟩ := bif_some hs
        subst h2
        rw [dp_str (pk.dp fun l e => by cases e)]
        exact ⟨.str z, z.length, rfl, ⟨of_decide_eq_true h1, rfl⟩, After.now r1 af (.int _)⟩
      · cases hs
/-- the truth of a thing read in place -/
theorem zt_truthB {cbb : CB} (ha : ZB X xc W a cbb) (he : ∀ whole, isTrue a X.env whole = (do let v ← whole; standAt a.pos; holding [v] (truthy v))) : ZT X xc W a (cB1 gTru cbb) :=
  PT.imp (pt_truth ha he) fun σ H Q ⟨Γ, B, ρ, rep, k⟩ => by
    refine ⟨Γ, B, ρ, rep, ?_⟩
    unfold cB1 at k
    cases hc : cbb ρ with
    | exc x ρ1 => rw [hc] at k; exact k
    | bad => rw [hc] at k; exact k
    | ok ar ρ1 =>
      rw [hc] at k
      intro x B1 H1 e1 r1 q1
      have k1 : outT X.kf xc W Γ B σ Q (match resolve ρ1 ar with
        | some d => R.lift (gTru d) ρ1
        | none => .bad) := k
      cases hres : resolve ρ1 ar with
      | none => rw [hres] at k1; exact k1.elim
      | some d =>
        rw [hres] at k1
        have pk := resolve_pk r1 (Ex.refl _) q1 hres
        cases d with
        | none =>
          obtain ⟨b, hb, k2⟩ := k1
          have e : false = b := by injection hb
          rw [dp_none (pk.dp fun l e => by cases e)]
          exact ⟨b, by rw [← e]; rfl, k2 B1 H1 e1 r1⟩
        | bool t =>
          obtain ⟨b, hb, k2⟩ := k1
          have e : t = b := by injection hb
          rw [dp_bool (pk.dp fun l e => by cases e)]
          exact ⟨b, by rw [← e]; rfl, k2 B1 H1 e1 r1⟩
        | int t =>
          obtain ⟨b, hb, k2⟩ := k1
          have e : (t != 0) = b := by injection hb
          rw [dp_int (pk.dp fun l e => by cases e)]
          exact ⟨b, by rw [← e]; rfl, k2 B1 H1 e1 r1⟩
        | str t =>
          unfold gTru at k1
          by_cases hz : t.length ≤ sizeLine
          · simp only [if_pos hz] at k1
            obtain ⟨b, hb, k2⟩ := k1
            have e : ((t.length : Int) != 0) = b := by injection hb
            rw [dp_str (pk.dp fun l e => by cases e)]
            exact ⟨b, ⟨hz, by rw [← e]⟩, k2 B1 H1 e1 r1⟩
          · simp only [if_neg hz] at k1
            exact k1.elim
        | list l =>
          obtain ⟨b, hb, k2⟩ := k1
          have e : (!l.isEmpty) = b := by injection hb
          obtain ⟨c, rfl⟩ := pk.refL
          obtain ⟨xs, h1, h2⟩ := pk.list r1
          exact ⟨b, .inl ⟨xs, h1, by rw [← e, isEmpty_len (dpAll_len h2)]⟩, k2 B1 H1 e1 r1⟩
        | tuple l =>
          obtain ⟨b, hb, k2⟩ := k1
          have e : (!l.isEmpty) = b := by injection hb
          obtain ⟨c, xs, rfl, h1, h2⟩ := dp_tup (pk.dp fun l e => by cases e)
          exact ⟨b, .inr (.inl ⟨xs, ex_t r1.bh h1, by rw [← e, isEmpty_len (dpAll_len h2)]⟩), k2 B1 H1 e1 r1⟩
        | dict _ => exact k1.elim
def gAbs : List PyData → Option S
  | [.int i] => some (.dat (.int (if i < 0 then -i else i)))
  | _ => none
def gInt : List PyData → Option S
  | [.int i] => some (.dat (.int i))
  | [.bool b] => some (.dat (.int (if b then 1 else 0)))
  | _ => none
def gMax2 : List PyData → Option S
  | [.int i, .int j] => some (.dat (.int (if j > i then j else i)))
  | _ => none
def gMin2 : List PyData → Option S
  | [.int i, .int j] => some (.dat (.int (if j < i then j else i)))
  | _ => none
def gGcd : List PyData → Option S
  | [.int i, .int j] => some (.dat (.int ((Nat.gcd i.natAbs j.natAbs : Nat) : Int)))
  | _ => none
def gList : List PyData → Option S
  | [.list l] => some (.lst l)
  | [.tuple l] => some (.lst l)
  | _ => none
def gTuple : List PyData → Option S
  | [.list l] => some (.dat (.tuple l))
  | [.tuple l] => some (.dat (.tuple l))
  | _ => none
def boolsOf : List PyData → Option (List Bool)
  | [] => some []
  | .bool b :: ds => (boolsOf ds).map (b :: ·)
  | _ => none
def gAll : List PyData → Option S
  | [.list l] => (boolsOf l).map fun bs => .dat (.bool (bs.all id))
  | _ => none
def gAny : List PyData → Option S
  | [.list l] => (boolsOf l).map fun bs => .dat (.bool (bs.any id))
  | _ => none
theorem boolsOf_map : ∀ {l : List PyData} {bs : List Bool}, boolsOf l = some bs → l = bs.map PyData.bool
  | [], bs, h => by cases h; rfl
  | .bool b :: ds, bs, h => by
    unfold boolsOf at h
    cases e : boolsOf ds with
    | none => rw [e] at h; cases h
    | some r =>
      rw [e] at h
      cases h
      rw [boolsOf_map e]
      rfl
  | .none :: _, _, h => by cases h
  | .int _ :: _, _, h => by cases h
  | .str _ :: _, _, h => by cases h
  | .list _ :: _, _, h => by cases h
  | .tuple _ :: _, _, h => by cases h
  | .dict _ :: _, _, h => by cases h
theorem dpAll_one {K : KF} {B : Hp} {xs : List V} {d : PyData} (h : DpAll K B xs [d]) : ∃ x, xs = [x] ∧ Dp K B x d := by
  cases h with
  | cons h t => cases t; exact ⟨_, rfl, h⟩
theorem dpAll_two {K : KF} {B : Hp} {xs : List V} {d e : PyData} (h : DpAll K B xs [d, e]) : ∃ x y, xs = [x, y] ∧ Dp K B x d ∧ Dp K B y e := by
  cases h with
  | cons h t =>
    cases t with
    | cons h2 t2 => cases t2; exact ⟨_, _, rfl, h, h2⟩
theorem on_abs {K : KF} : OpN K (fun xs H Q => ∃ i, xs = [.int i] ∧ Q (.int (if i < 0 then -i else i)) H) gAbs := by
  intro J Γ B ρ σ H xs ds s Q rep hx hs af
  unfold gAbs at hs
  split at hs
  · rename_i i
    cases hs
    obtain ⟨x, rfl, h1⟩ := dpAll_one hx
    exact ⟨i, by rw [dp_int h1], After.now rep af (.int _)⟩
  · cases hs
theorem on_int {K : KF} : OpN K (fun xs H Q => (∃ i, xs = [.int i] ∧ Q (.int i) H) ∨ ∃ k, xs = [.bl k] ∧ Q (.int (if k then 1 else 0)) H) gInt := by
  intro J Γ B ρ σ H xs ds s Q rep hx hs af
  unfold gInt at hs
  split at hs
  · rename_i i
    cases hs
    obtain ⟨x, rfl, h1⟩ := dpAll_one hx
    exact .inl ⟨i, by rw [dp_int h1], After.now rep af (.int _)⟩
  · rename_i b
    cases hs
    obtain ⟨x, rfl, h1⟩ := dpAll_one hx
    exact .inr ⟨b, by rw [dp_bool h1], After.now rep af (.int _)⟩
  · cases hs
theorem on_max2 {K : KF} : OpN K (fun xs H Q => ∃ i j, xs = [.int i, .int j] ∧ Q (.int (if j > i then j else i)) H) gMax2 := by
  intro J Γ B ρ σ H xs ds s Q rep hx hs af
  unfold gMax2 at hs
  split at hs
  · rename_i i j
    cases hs
    obtain ⟨x, y, rfl, h1, h2⟩ := dpAll_two hx
    exact ⟨i, j, by rw [dp_int h1, dp_int h2], After.now rep af (.int _)⟩
  · cases hs
theorem on_min2 {K : KF} : OpN K (fun xs H Q => ∃ i j, xs = [.int i, .int j] ∧ Q (.int (if j < i then j else i)) H) gMin2 := by
  intro J Γ B ρ σ H xs ds s Q rep hx hs af
  unfold gMin2 at hs
  split at hs
  · rename_i i j
    cases hs
    obtain ⟨x, y, rfl, h1, h2⟩ := dpAll_two hx
    exact ⟨i, j, by rw [dp_int h1, dp_int h2], After.now rep af (.int _)⟩
  · cases hs
theorem on_gcd {K : KF} : OpN K rGcd gGcd := by
  intro J Γ B ρ σ H xs ds s Q rep hx hs af
  unfold gGcd at hs
  split at hs
  · rename_i i j
    cases hs
    obtain ⟨x, y, rfl, h1, h2⟩ := dpAll_two hx
    exact ⟨i, j, by rw [dp_int h1, dp_int h2], After.now rep af (.int _)⟩
  · cases hs
theorem on_list {K : KF} : OpN K (fun xs H Q => ∃ p ys, xs = [.ref p] ∧ (SqL K H p ys ∨ SqT K H p ys) ∧ ∀ l, H l = none → Q (.ref l) (upd H l (.lst ys))) gList := by
  intro J Γ B ρ σ H xs ds s Q rep hx hs af
  unfold gList at hs
  split at hs
  · cases hs
    obtain ⟨x, rfl, h1⟩ := dpAll_one hx
    obtain ⟨a, ys, rfl, k1, k2⟩ := dp_list h1
    exact ⟨a, ys, rfl, .inl (ex_l rep.bh k1), fun p hp => After.lst rep af k2 hp⟩
  · cases hs
    obtain ⟨x, rfl, h1⟩ := dpAll_one hx
    obtain ⟨a, ys, rfl, k1, k2⟩ := dp_tup h1
    exact ⟨a, ys, rfl, .inr (ex_t rep.bh k1), fun p hp => After.lst rep af k2 hp⟩
  · cases hs
theorem on_tuple {K : KF} : OpN K (fun xs H Q => ∃ p ys, xs = [.ref p] ∧ ((SqL K H p ys ∧ ∀ l, H l = none → Q (.ref l) (upd H l (.tup ys))) ∨ (SqT K H p ys ∧ Q (.ref p) H))) gTuple := by
  intro J Γ B ρ σ H xs ds s Q rep hx hs af
  unfold gTuple at hs
  split at hs
  · cases hs
    obtain ⟨x, rfl, h1⟩ := dpAll_one hx
    obtain ⟨a, ys, rfl, k1, k2⟩ := dp_list h1
    exact ⟨a, ys, rfl, .inl ⟨ex_l rep.bh k1, fun p hp => After.tup rep af k2 hp⟩⟩
  · cases hs
    obtain ⟨x, rfl, h1⟩ := dpAll_one hx
    obtain ⟨a, ys, rfl, k1, k2⟩ := dp_tup h1
    exact ⟨a, ys, rfl, .inr ⟨ex_t rep.bh k1, After.now rep af h1⟩⟩
  · cases hs
theorem on_all {K : KF} : OpN K (rAll K.K) gAll := by
  intro J Γ B ρ σ H xs ds s Q rep hx hs af
  unfold gAll at hs
  split at hs
  · rename_i l
    cases hb : boolsOf l with
    | none => rw [hb] at hs; cases hs
    | some bs =>
      rw [hb] at hs
      cases hs
      obtain ⟨x, rfl, h1⟩ := dpAll_one hx
      obtain ⟨a, ys, rfl, k1, k2⟩ := dp_list h1
      rw [boolsOf_map hb] at k2
      exact ⟨a, bs, rfl, by rw [← dpAll_bools k2]; exact ex_l rep.bh k1, After.now rep af (.bl _)⟩
  · cases hs
theorem on_any {K : KF} : OpN K (rAny K.K) gAny := by
  intro J Γ B ρ σ H xs ds s Q rep hx hs af
  unfold gAny at hs
  split at hs
  · rename_i l
    cases hb : boolsOf l with
    | none => rw [hb] at hs; cases hs
    | some bs =>
      rw [hb] at hs
      cases hs
      obtain ⟨x, rfl, h1⟩ := dpAll_one hx
      obtain ⟨a, ys, rfl, k1, k2⟩ := dp_list h1
      rw [boolsOf_map hb] at k2
      exact ⟨a, bs, rfl, by rw [← dpAll_bools k2]; exact ex_l rep.bh k1, After.now rep af (.bl _)⟩
  · cases hs
/-! ### isinstance -/
def tyName : PyData → String
  | .none => "NoneType"
  | .bool _ => "bool"
  | .int _ => "int"
  | .str _ => "str"
  | .list _ => "list"
  | .tuple _ => "tuple"
  | .dict _ => "dict"
def isT (T : String) : PyData → Bool
  | .none => T == "NoneType"
  | .bool _ => T == "bool" || T == "int"
  | .int _ => T == "int"
  | .str _ => T == "str"
  | .list _ => T == "list"
  | .tuple _ => T == "tuple"
  | .dict _ => T == "dict"
theorem tyx_dp {K : KF} {B : Hp} {v : V} {d : PyData} (h : Dp K B v d) (hd : ∀ l, d ≠ .dict l) : TyX K.K B v (.type (tyName d)) := by
  cases h with
  | dic _ _ | dit _ _ | ins _ _ _ => exact absurd rfl (hd _)
  | non => exact .base .non
  | bl b => exact .base (.bl b)
  | int i => exact .base (.int i)
  | str x => exact .base (.str x)
  | lst h1 h2 =>
    rcases h1 with (h1 | ⟨o, h1⟩) | ⟨o, its, n, h1, h3, _⟩
    · exact .base (.lst h1)
    · exact .base (.frz h1)
    · exact .kList h1 h3
  | tup h1 h2 =>
    rcases h1 with (h1 | ⟨o, h1⟩) | ⟨o, its, n, h1, h3, _⟩
    · exact .base (.tup h1)
    · exact .fTuple h1
    · exact .kTuple h1 h3
theorem kit_all : ∀ n ∈ ["NoneType", "bool", "int", "str", "list", "tuple"], ∀ T ∈ ["int", "bool", "str", "list", "tuple", "dict"], kitB n T = some (T == n || (n == "bool" && T == "int")) := by decide +kernel
theorem isT_eq {T : String} (hT : T ∈ ["int", "bool", "str", "list", "tuple", "dict"]) (d : PyData) (hd : ∀ l, d ≠ .dict l) : isT T d = (T == tyName d || (tyName d == "bool" && T == "int")) ∧ tyName d ∈ ["NoneType", "bool", "int", "str", "list", "tuple"] := by
  cases d with
  | none => simp [isT, tyName]
  | bool b => simp [isT, tyName]
  | int i => simp [isT, tyName]
  | str x => simp [isT, tyName]
  | list l => simp [isT, tyName]
  | tuple l => simp [isT, tyName]
  | dict l => exact absurd rfl (hd l)
theorem kit_isT {K : KF} {T : String} (hT : T ∈ ["int", "bool", "str", "list", "tuple", "dict"]) {d : PyData} (hd : ∀ l, d ≠ .dict l) : PySem.W.kitOne K.K (.type (tyName d)) (.type T) = some (isT T d) := by
  obtain ⟨h1, h2⟩ := isT_eq hT d hd
  rw [h1]
  exact kit_ty (kit_all _ h2 _ hT)
def gIsi (T : String) (d : PyData) : Option S := match d with
  | .dict _ => none
  | d => some (.dat (.bool (isT T d)))
theorem ze_isi {T : String} {x : Str} {p3 : Pos} (hT : T ∈ ["int", "bool", "str", "list", "tuple", "dict"]) (hm : X.mg "isinstance" = none) (hmT : X.mg x = none) (hvT : bootBuiltins x = some (.type T)) (ha : ZE X xc W a ca) (hg : Gl X "isinstance" := by rfl) (hgT : Gl X x := by rfl)
    (hn : x ≠ "__name__" := by decide) (hdb : (x == ("__debug__" : Str)) = false := by decide)
    (he : starEach [a, .Name x p3] X.env = (false, eval a X.env) :: starEach [.Name x p3] X.env := by rfl) (he2 : starEach [.Name x p3] X.env = (false, eval (.Name x p3) X.env) :: starEach [] X.env := by rfl) (hpl : (backTo pos (starEach [.Name x p3] X.env)).any (·.1) = false := by rfl) :
    ZE X xc W (.Call (.Name "isinstance" p) [a, .Name x p3] [] pos) (c1 (gIsi T) ca) :=
  PE.imp (pe_callB call_isi hg hm (by decide +kernel) (pa_cons ha (pa_cons (pe_bltn hgT hmT hvT (v := .ty T) rfl hn hdb) pa_nil he2) he) (by decide) (by decide) he hpl) fun σ H Q ⟨Γ, B, ρ, rep, k⟩ => tz_bd rep k fun x B1 H1 d ρ1 e1 r1 q1 k1 => by
    obtain ⟨s, hs, af⟩ := out_lift k1
    unfold gIsi at hs
    split at hs
    · cases hs
    · rename_i d' hd
      cases hs
      exact ⟨x, .ty T, .type (tyName _), .type T, isT T _, rfl, .ty T, tyx_dp (dp_mono r1.bh q1) hd, kit_isT (K := X.kf) hT hd, After.now r1 af (.bl _)⟩
end
end Z
set_option maxHeartbeats 2000000
/-! Z: constants of a module; more of lists. -/
namespace Z
open PySem PySem.Spec PyProof.Rows L2
open Evl (Ex ex_l ex_t ex_rd)
section
variable {X : Cx} {xc : Str → Value} {W : Ww} {o e : Expr} {es : List Expr} {pos p cpos apos : Pos} {ca : CE} {cas : CA} {x : Str}
/-- what a module's name holds, as data that stands in the written part -/
def ConstOf (K : PySem.W.Frag) (mg : Str → Option Value) (x : Str) (d : PyData) : Prop := ∃ v u, mg x = some u ∧ RelV v u ∧ ∀ P w B, Dp ⟨K, P, w⟩ B v d
theorem ze_const {d : PyData} (h : ConstOf X.K X.mg x d) (hg : Gl X x := by rfl) (hd : (x == ("__debug__" : Str)) = false := by decide) : ZE X xc W (.Name x pos) (cK d) := by
  obtain ⟨v, u, h1, h2, h3⟩ := h
  exact ze_of (pe_glob hg h1 h2 hd) (fun _ _ _ q => q) (h3 X.prog X.w)
theorem const_int {K : PySem.W.Frag} {mg : Str → Option Value} {i : Int} {t : Tok} (h : mg x = some (.int i t)) : ConstOf K mg x (.int i) := ⟨.int i, _, h, ⟨t, rfl⟩, fun _ _ _ => .int i⟩
theorem const_str {K : PySem.W.Frag} {mg : Str → Option Value} {i : Str} {t : Tok} (h : mg x = some (.str i t)) : ConstOf K mg x (.str i) := ⟨.str i, _, h, ⟨t, rfl⟩, fun _ _ _ => .str i⟩
theorem const_pair {K : PySem.W.Frag} {mg : Str → Option Value} {a : Addr} {od : Option Addr} {i j : Int} {t u : Tok} {n : Nat} {sl : Array (Option Value)} (h : mg x = some (.ref a)) (l : K.lookup a = some ⟨.type "tuple", od, .seq #[.int i t, .int j u] n, sl⟩) :
    ConstOf K mg x (.tuple [.int i, .int j]) :=
  ⟨.ref a, _, h, rfl, fun P w B => .tup (xs := [.int i, .int j]) (.inr ⟨_, _, n, l, rfl, rfl, (by show 2 ≤ sizeLine; decide), .cons ⟨t, rfl⟩ (.cons ⟨u, rfl⟩ .nil)⟩) (.cons (.int i) (.cons (.int j) .nil))⟩
/-- a, b, c = x, y, z -/
def cPar3 (i j l : Nat) (c : CA) : CS := fun ρ => (c ρ).bs fun ds ρ => match ds with
  | [a, b, d] => .nx (((ρ.set i (some (.dat a))).set j (some (.dat b))).set l (some (.dat d)))
  | _ => .bad
theorem zs_par3 {i j l : Nat} {x y z : Str} {a b c : Expr} {px py pz pt pt2 : Pos} {kt k2 : Nat} (hc : X.calm = true) (hN : X.N.Nodup) (hi : X.N[i]? = some x) (hj : X.N[j]? = some y) (hl : X.N[l]? = some z) (hij : i ≠ j) (hil : i ≠ l) (hjl : j ≠ l)
    (hx : X.env.scope.names.lookup x = some .local) (hy : X.env.scope.names.lookup y = some .local) (hz : X.env.scope.names.lookup z = some .local) (ha : ZA X xc W [a, b, c] cas)
    (hw : swappedStores [.Tuple [.Name x px, .Name y py, .Name z pz] kt pt] (.Tuple [a, b, c] k2 pt2) X.env = pure (some [x, y, z])) (hJi : W.J.contains i = false := by rfl) (hJj : W.J.contains j = false := by rfl) (hJl : W.J.contains l = false := by rfl)
    (hs : swapsWithSole [.Tuple [.Name x px, .Name y py, .Name z pz] kt pt] (.Tuple [a, b, c] k2 pt2) pos.line X.env = pure false := by rfl) :
    ZS X xc W (.Assign [.Tuple [.Name x px, .Name y py, .Name z pz] kt pt] (.Tuple [a, b, c] k2 pt2) pos) (cPar3 i j l cas) :=
  PS.imp (ps_par3 hc hN hi hj hl hij hil hjl hx hy hz ha.run hw hs) fun D σ H ⟨Γ, B, ρ, rep, k⟩ => tza_bs rep k fun vs B1 H1 ds ρ1 e1 r1 q1 k1 => by
    match ds, k1, q1 with
    | [d1, d2, d3], k1, .cons h1 (.cons h2 (.cons h3 .nil)) => exact ⟨_, _, _, rfl, k1 B1 _ H1 (((r1.slot i (notin hJi) (sres_dat h1)).slot j (notin hJj) (sres_dat h2)).slot l (notin hJl) (sres_dat h3))⟩
    | [], k1, _ => exact k1.elim
    | [_], k1, _ => exact k1.elim
    | [_, _], k1, _ => exact k1.elim
    | _ :: _ :: _ :: _ :: _, k1, _ => exact k1.elim
/-! ### name.pop(), name.extend(e) -/
def cPop (i : Nat) : CE := fun ρ => match ρ[i]? with
  | some (some (.lst l)) => match l[l.length - 1]? with
    | some d => .ok (.dat d) (ρ.set i (some (.lst l.dropLast)))
    | none => .bad
  | _ => .bad
theorem dpAll_dropLast {K : KF} {B : Hp} : ∀ {xs : List V} {ds : List PyData}, DpAll K B xs ds → DpAll K B xs.dropLast ds.dropLast
  | _, _, .nil => .nil
  | _, _, .cons h .nil => .nil
  | _, _, .cons h (.cons h2 t) => .cons h (dpAll_dropLast (.cons h2 t))
theorem ze_pop {i : Nat} (ho : PE X o (tVar i)) (hbase : attributeBase o "pop" X.env (eval o X.env) = eval o X.env := by rfl) (hline : (apos.endLine == cpos.line) = true := by rfl) :
    ZE X xc W (.Call (.Attribute o "pop" apos) [] [] cpos) (cPop i) :=
  PE.imp (pe_bm0 PySem.F.plainAttrs_list PySem.F.slot_list_pop PySem.F.type_list_pop mt_pop ho hbase hline) fun σ H Q ⟨Γ, B, ρ, rep, k⟩ => by
    unfold cPop at k
    split at k
    · rename_i l hi
      obtain ⟨a, xs, h1, h2, h3, h4⟩ := rep.own hi
      cases hl : l[l.length - 1]? with
      | none => rw [hl] at k; exact k.elim
      | some d =>
        rw [hl] at k
        obtain ⟨v, g1, g2⟩ := dpAll_get h3 hl
        refine ⟨_, h1, .inl ⟨rfl, xs, .inl (.inl h2)⟩, a, xs, v, rfl, rfl, h2, by rw [dpAll_len h3]; exact g1, ?_⟩
        exact k v B _ (Ex.refl _) (h4 _ _ (dpAll_dropLast h3)) (sres_dat g2)
    · exact k.elim
def cExt (i : Nat) (c : CE) : CS := fun ρ => match ρ[i]? with
  | some (some (.lst _)) => (c ρ).bs fun s ρ => match ρ[i]?, s with
    | some (some (.lst l)), .lst m => bif decide (l.length + m.length ≤ sizeLine) then .nx (ρ.set i (some (.lst (l ++ m)))) else .bad
    | _, _ => .bad
  | _ => .bad
theorem zs_extend {i : Nat} (ho : PE X o (tVar i)) (he : ZE X xc W e ca)
    (hbase : attributeBase o "extend" X.env (eval o X.env) = eval o X.env := by rfl)
    (hfew : ((backTo cpos (starEach [e] X.env)).all (fun x => !x.1) && (backToKw cpos (keywordEach [] X.env)).all (fun x => x.1.isSome)
      && decide ([e].length + ([] : List Keyword).length + (if ([] : List Keyword).isEmpty then 0 else 1) < 30)) = true := by rfl)
    (hline : (apos.endLine == cpos.line) = true := by rfl) (hs : starEach [e] X.env = (false, eval e X.env) :: starEach [] X.env := by rfl) (hplain : (backTo cpos (starEach [] X.env)).any (·.1) = false := by rfl)
    (hsw : swapsWith (.Call (.Attribute o "extend" apos) [e] [] cpos) none pos.line X.env = pure false := by rfl) :
    ZS X xc W (.Expr (.Call (.Attribute o "extend" apos) [e] [] cpos) pos) (cExt i ca) :=
  PS.imp (ps_expr (pe_bm PySem.F.plainAttrs_list PySem.F.slot_list_extend PySem.F.type_list_extend mt_extend ho (pa_cons he pa_nil hs) hbase hfew hline hs hplain) hsw) fun D σ H ⟨Γ, B, ρ, rep, k⟩ => by
    unfold cExt at k
    split at k
    · rename_i l0 hi
      obtain ⟨a, xs, h1, h2, h3, _⟩ := rep.own hi
      refine ⟨_, h1, .inl ⟨rfl, xs, .inl (.inl h2)⟩, ?_⟩
      refine tz_bs rep k fun v B1 H1 s ρ1 e1 r1 q1 k1 => ?_
      split at k1
      · rename_i l m hl
        cases hd : decide (l.length + m.length ≤ sizeLine) with
        | false => rw [hd] at k1; exact k1.elim
        | true =>
          rw [hd] at k1
          obtain ⟨_, _, ⟨c, zs, rfl, _, _, m3, m5⟩, _⟩ := q1
          obtain ⟨b, ys, g1, g2, g3, g4⟩ := r1.own hl
          rw [h1] at g1
          cases g1
          exact ⟨a, c, ys, zs, rfl, rfl, g2, m3, by rw [dpAll_len g3, dpAll_len m5]; exact of_decide_eq_true hd, k1 B1 σ _ (g4 _ _ (dpAll_app g3 m5))⟩
      · exact k1.elim
    · exact k.elim
/-! ### min, max, sum of a list of ints -/
def intsOf : List PyData → Option (List Int)
  | [] => some []
  | .int b :: ds => (intsOf ds).map (b :: ·)
  | _ => none
theorem intsOf_map : ∀ {l : List PyData} {bs : List Int}, intsOf l = some bs → l = bs.map PyData.int
  | [], bs, h => by cases h; rfl
  | .int b :: ds, bs, h => by
    unfold intsOf at h
    cases e : intsOf ds with
    | none => rw [e] at h; cases h
    | some r =>
      rw [e] at h
      cases h
      rw [intsOf_map e]
      rfl
  | .none :: _, _, h => by cases h
  | .bool _ :: _, _, h => by cases h
  | .str _ :: _, _, h => by cases h
  | .list _ :: _, _, h => by cases h
  | .tuple _ :: _, _, h => by cases h
  | .dict _ :: _, _, h => by cases h
def maxOf : List Int → Option Int
  | [] => none
  | a :: as => some (as.foldl max a)
def minOf : List Int → Option Int
  | [] => none
  | a :: as => some (as.foldl min a)
theorem foldl_max : ∀ (as : List Int) (a : Int), (as.foldl max a = a ∨ as.foldl max a ∈ as) ∧ a ≤ as.foldl max a ∧ ∀ y ∈ as, y ≤ as.foldl max a
  | [], a => ⟨.inl rfl, Int.le_refl _, fun y h => by simp at h⟩
  | b :: as, a => by
    obtain ⟨h1, h2, h3⟩ := foldl_max as (max a b)
    have e : (b :: as).foldl max a = as.foldl max (max a b) := rfl
    rw [e]
    refine ⟨?_, by omega, fun y hy => ?_⟩
    · rcases h1 with h1 | h1
      · rcases Int.le_total a b with h | h
        · exact .inr (by rw [h1, Int.max_eq_right h]; exact List.mem_cons_self)
        · exact .inl (by rw [h1, Int.max_eq_left h])
      · exact .inr (List.mem_cons_of_mem _ h1)
    · rcases List.mem_cons.mp hy with rfl | hy
      · omega
      · exact h3 y hy
theorem foldl_min : ∀ (as : List Int) (a : Int), (as.foldl min a = a ∨ as.foldl min a ∈ as) ∧ as.foldl min a ≤ a ∧ ∀ y ∈ as, as.foldl min a ≤ y
  | [], a => ⟨.inl rfl, Int.le_refl _, fun y h => by simp at h⟩
  | b :: as, a => by
    obtain ⟨h1, h2, h3⟩ := foldl_min as (min a b)
    have e : (b :: as).foldl min a = as.foldl min (min a b) := rfl
    rw [e]
    refine ⟨?_, by omega, fun y hy => ?_⟩
    · rcases h1 with h1 | h1
      · rcases Int.le_total a b with h | h
        · exact .inl (by rw [h1, Int.min_eq_left h])
        · exact .inr (by rw [h1, Int.min_eq_right h]; exact List.mem_cons_self)
      · exact .inr (List.mem_cons_of_mem _ h1)
    · rcases List.mem_cons.mp hy with rfl | hy
      · omega
      · exact h3 y hy
theorem maxOf_spec {l : List Int} {m : Int} (h : maxOf l = some m) : m ∈ l ∧ ∀ y ∈ l, y ≤ m := by
  cases l with
  | nil => cases h
  | cons a as =>
    cases h
    obtain ⟨h1, h2, h3⟩ := foldl_max as a
    refine ⟨?_, fun y hy => (List.mem_cons.mp hy).elim (fun e => by rw [e]; exact h2) (h3 y)⟩
    rcases h1 with h1 | h1
    · rw [h1]; exact List.mem_cons_self
    · exact List.mem_cons_of_mem _ h1
theorem minOf_spec {l : List Int} {m : Int} (h : minOf l = some m) : m ∈ l ∧ ∀ y ∈ l, m ≤ y := by
  cases l with
  | nil => cases h
  | cons a as =>
    cases h
    obtain ⟨h1, h2, h3⟩ := foldl_min as a
    refine ⟨?_, fun y hy => (List.mem_cons.mp hy).elim (fun e => by rw [e]; exact h2) (h3 y)⟩
    rcases h1 with h1 | h1
    · rw [h1]; exact List.mem_cons_self
    · exact List.mem_cons_of_mem _ h1
def gMax1 : List PyData → Option S
  | [.list l] => match intsOf l with
    | some ns => (maxOf ns).map fun m => .dat (.int m)
    | none => none
  | _ => none
def gMin1 : List PyData → Option S
  | [.list l] => match intsOf l with
    | some ns => (minOf ns).map fun m => .dat (.int m)
    | none => none
  | _ => none
def gSum1 : List PyData → Option S
  | [.list l] => match intsOf l with
    | some ns => some (.dat (.int ns.sum))
    | none => none
  | _ => none
theorem on_max1 {K : KF} : OpN K (rMax K.K) gMax1 := by
  intro J Γ B ρ σ H xs ds s Q rep hx hs af
  unfold gMax1 at hs
  split at hs
  · rename_i l
    cases hb : intsOf l with
    | none => rw [hb] at hs; cases hs
    | some ns =>
      rw [hb] at hs
      cases hm : maxOf ns with
      | none => simp only [hm] at hs; cases hs
      | some m =>
        simp only [hm] at hs
        cases hs
        obtain ⟨h1, h2⟩ := maxOf_spec hm
        obtain ⟨x, rfl, g1⟩ := dpAll_one hx
        obtain ⟨a, ys, rfl, k1, k2⟩ := dp_list g1
        rw [intsOf_map hb] at k2
        refine ⟨a, ns, rfl, by rw [← dpAll_ints k2]; exact ex_l rep.bh k1, List.length_pos_of_mem h1, fun m' g1 g2 => ?_⟩
        have e : m' = m := Int.le_antisymm (h2 m' g1) (g2 m h1)
        subst e
        exact After.now rep af (.int _)
  · cases hs
theorem on_min1 {K : KF} : OpN K (rMin K.K) gMin1 := by
  intro J Γ B ρ σ H xs ds s Q rep hx hs af
  unfold gMin1 at hs
  split at hs
  · rename_i l
    cases hb : intsOf l with
    | none => rw [hb] at hs; cases hs
    | some ns =>
      rw [hb] at hs
      cases hm : minOf ns with
      | none => simp only [hm] at hs; cases hs
      | some m =>
        simp only [hm] at hs
        cases hs
        obtain ⟨h1, h2⟩ := minOf_spec hm
        obtain ⟨x, rfl, g1⟩ := dpAll_one hx
        obtain ⟨a, ys, rfl, k1, k2⟩ := dp_list g1
        rw [intsOf_map hb] at k2
        refine ⟨a, ns, rfl, by rw [← dpAll_ints k2]; exact ex_l rep.bh k1, List.length_pos_of_mem h1, fun m' g1 g2 => ?_⟩
        have e : m' = m := Int.le_antisymm (g2 m h1) (h2 m' g1)
        subst e
        exact After.now rep af (.int _)
  · cases hs
theorem on_sum1 {K : KF} : OpN K (rSum K.K) gSum1 := by
  intro J Γ B ρ σ H xs ds s Q rep hx hs af
  unfold gSum1 at hs
  split at hs
  · rename_i l
    cases hb : intsOf l with
    | none => rw [hb] at hs; cases hs
    | some ns =>
      rw [hb] at hs
      cases hs
      obtain ⟨x, rfl, g1⟩ := dpAll_one hx
      obtain ⟨a, ys, rfl, k1, k2⟩ := dp_list g1
      rw [intsOf_map hb] at k2
      exact ⟨a, ns, rfl, by rw [← dpAll_ints k2]; exact ex_l rep.bh k1, After.now rep af (.int _)⟩
  · cases hs
/-! ### xs[::-1] -/
def gRev : PyData → Option S
  | .list l => some (.lst l.reverse)
  | _ => none
end
end Z
set_option maxHeartbeats 2000000
/-! Z: the end of a law. -/
namespace Z
open PySem PySem.Spec PyProof.Rows L2
open Evl (Ex ex_l ex_t ex_rd)
def spLaw (K : PySem.W.Frag) : Sp := fun vs H Q _ => ∃ (a : Addr) (ns : List Int), vs = [.ref a] ∧ L2.SqL K H a (ns.map V.int) ∧ ns.length ≤ 63 ∧ (∀ z ∈ ns, Builtin.Int.intBits z ≤ 1048576) ∧ ∀ H', Q (.bl true) H'
/-- what a law is, over its mirror -/
def LawTrue (F : Fn) : Prop := ∀ ns : List Int, ns.length ≤ 63 → (∀ z ∈ ns, Builtin.Int.intBits z ≤ 1048576) → ∃ ss, F [.dat (.list (ns.map PyData.int))] = .ok (.dat (.bool true)) ss
theorem law_imp {K : KF} {xc : Str → Value} {F : Fn} (h : LawTrue F) (vs : List V) (H : Hp) (Q : VK) (E : XK) (p : spLaw K.K vs H Q E) : spZ K xc 1 F vs H Q E := by
  obtain ⟨a, ns, rfl, hS, hl, hb, q⟩ := p
  obtain ⟨ss, e⟩ := h ns hl hb
  refine ⟨rfl, (⟨fun _ => none, H, [], .non⟩ : Fm []), H, [.dat (.list (ns.map PyData.int))], ?_, ?_⟩
  · refine ⟨Ex.refl H, fun a o h => (by cases h), fun a o h => (by cases h), Ex.refl H, rfl, fun i s h => ?_, fun i j s t v u A C ne h h2 h3 h4 g1 g2 a ha => ?_, fun k j v h => by simp at h⟩
    · cases i with
      | zero =>
        simp at h
        subst h
        exact ⟨.ref a, [], rfl, rfl, .lst hS (ints_dpAll ns)⟩
      | succ i => simp at h
    · cases i with
      | zero =>
        simp at h
        subst h
        rw [g1.1] at ha
        exact absurd ha (by simp)
      | succ i => simp at h
  · rw [e]
    intro v B' H' _ _ q'
    rw [dp_bool q'.dp]
    exact q H'
theorem z_walk {l : PySem.W.OpenLaw} {k : Nat} {q : Program} {loose : List Str} {XP : (Str → Option Value) → Heap → Prop} {YP : World → Heap → Prop} {d : DefRec} {K : Params → PySem.W.Frag} {x : Str}
    (hn : l.most = some 63) (hdf : d.params.defaults = []) (hr : Room k callerA)
    (hY : ∀ (w : World) (h : Heap), YP w h → (K w.params).In h)
    (F : ∀ (w : World) (mg : Str → Option Value) (fa : Addr) (h : Heap), (K w.params).In h → h.Ns mainGlobals mg → mg d.name = some (.ref fa) →
      ∃ fd : FuncData, (∀ (s : Shared) (u : Value), BindsTo s fd ⟨[u], []⟩ [(x, u)]) ∧
        ∀ base : Heap, (K w.params).In base → base.Ns mainGlobals mg → FnOk l.prog w (K w.params) mg base (L2.CX l.prog w) k fa fd [x] (spLaw (K w.params))) :
    PySem.W.WalkO q loose XP YP l.row.toRowW d [] (fun f vs => PySem.call f vs) :=
  L2.walk_ofB (n := 63) (k := k) (x := x) (CX := fun w => L2.CX l.prog w) (sp := fun w => spLaw (K w.params)) hn (by decide) hdf hr hY F
    (fun w H a ns hl hb _ hS => ⟨a, ns, rfl, hS, hl, hb, fun _ => rfl⟩) fun w H s e s' h => by
      obtain ⟨_, _, _, _, _, _, _, _, _, _, _, _, z⟩ := h
      exact z
end Z
set_option maxHeartbeats 2000000
/-! Z: reckoning with mirrors. -/
namespace Z
open PySem PySem.Spec PyProof.Rows L2
section
variable {α : Type} {a b c d e f : α} {l : List α}
theorem atI_0 : atI (a :: l) 0 = some a := atI_nat (j := 0) rfl
theorem atI_1 : atI (a :: b :: l) 1 = some b := atI_nat (j := 1) rfl
theorem atI_2 : atI (a :: b :: c :: l) 2 = some c := atI_nat (j := 2) rfl
theorem atI_3 : atI (a :: b :: c :: d :: l) 3 = some d := atI_nat (j := 3) rfl
theorem ixN_0 {n : Nat} : ixN (n + 1) 0 = some 0 := by unfold ixN; rw [if_pos (by decide), if_pos (by omega)]; rfl
theorem ixN_1 {n : Nat} : ixN (n + 2) 1 = some 1 := by unfold ixN; rw [if_pos (by decide), if_pos (by omega)]; rfl
theorem ixN_2 {n : Nat} : ixN (n + 3) 2 = some 2 := by unfold ixN; rw [if_pos (by decide), if_pos (by omega)]; rfl
theorem ixN_3 {n : Nat} : ixN (n + 4) 3 = some 3 := by unfold ixN; rw [if_pos (by decide), if_pos (by omega)]; rfl
theorem ixL_1 : ixN [a, b, c, d].length 1 = some 1 := ixN_1
theorem ixL_2 : ixN [a, b, c, d].length 2 = some 2 := ixN_2
theorem ixL_3 : ixN [a, b, c, d].length 3 = some 3 := ixN_3
theorem atI_lt {xs : List α} {i : Nat} (h : i < xs.length) : atI xs (i : Int) = some xs[i] := atI_nat (List.getElem?_eq_getElem h)
end
theorem gEq_ii {i j : Int} : gEq (.int i) (.int j) = some (.dat (.bool (i == j))) := rfl
theorem gNe_ii {i j : Int} : gNe (.int i) (.int j) = some (.dat (.bool (!(i == j)))) := rfl
theorem bd_ok {s : S} {ρ : En} {k : PyData → En → R} : (R.ok s ρ).bd k = k s.d ρ := rfl
theorem ba_ok {s : S} {ρ : En} {k : PyData → En → RA} : (R.ok s ρ).ba k = k s.d ρ := rfl
theorem bs_ok {s : S} {ρ : En} {k : S → En → O} : (R.ok s ρ).bs k = k s ρ := rfl
theorem bx_ok {s : S} {ρ : En} {k : PyData → En → RX} : (R.ok s ρ).bx k = k s.d ρ := rfl
theorem abd_ok {s : List PyData} {ρ : En} {k : List PyData → En → R} : (RA.ok s ρ).bd k = k s ρ := rfl
theorem aba_ok {s : List PyData} {ρ : En} {k : List PyData → En → RA} : (RA.ok s ρ).ba k = k s ρ := rfl
theorem abs_ok {s : List PyData} {ρ : En} {k : List PyData → En → O} : (RA.ok s ρ).bs k = k s ρ := rfl
theorem xbx_ok {s : List Ar} {ρ : En} {k : List Ar → En → RX} : (RX.ok s ρ).bx k = k s ρ := rfl
theorem bbd_ok {s : Ar} {ρ : En} {k : Ar → En → R} : (RB.ok s ρ).bd k = k s ρ := rfl
theorem lift_some {s : S} {ρ : En} : R.lift (some s) ρ = .ok s ρ := rfl
theorem sq_nx {ρ : En} {c : CS} : (O.nx ρ).sq c = c ρ := rfl
theorem sq_rt {s : S} {ρ : En} {c : CS} : (O.rt s ρ).sq c = .rt s ρ := rfl
theorem S_d {d : PyData} : (S.dat d).d = d := rfl
theorem S_l {l : List PyData} : (S.lst l).d = .list l := rfl
theorem ixN_41 : ixN 4 1 = some 1 := ixN_1 (n := 2)
theorem ixN_42 : ixN 4 2 = some 2 := ixN_2 (n := 1)
theorem ixN_43 : ixN 4 3 = some 3 := ixN_3 (n := 0)
theorem fin_nx {J : List Nat} {ss : List S} {ρ : En} : finish J ss (.nx ρ) = match outs J ρ 0 ss with
    | some r => .ok (.dat .none) r
    | none => .bad := rfl
theorem fin_rt {J : List Nat} {ss : List S} {s : S} {ρ : En} : finish J ss (.rt s ρ) = match outs J ρ 0 ss with
    | some r => .ok s r
    | none => .bad := rfl
theorem fin_exc {J : List Nat} {ss : List S} {x : Str} {ρ : En} : finish J ss (.exc x ρ) = match outs J ρ 0 ss with
    | some r => .exc x r
    | none => .bad := rfl
theorem sq_bad {c : CS} : O.bad.sq c = .bad := rfl
theorem sq_bk {ρ : En} {c : CS} : (O.bk ρ).sq c = .bk ρ := rfl
theorem sq_ct {ρ : En} {c : CS} : (O.ct ρ).sq c = .ct ρ := rfl
theorem sq_exc {x : Str} {ρ : En} {c : CS} : (O.exc x ρ).sq c = .exc x ρ := rfl
theorem dz0 : decide (0 < sizeLine) = true := by decide
theorem dz1 : decide (1 < sizeLine) = true := by decide
theorem dz2 : decide (2 < sizeLine) = true := by decide
theorem dz3 : decide (3 < sizeLine) = true := by decide
theorem dz4 : decide (4 < sizeLine) = true := by decide
theorem dz5 : decide (5 < sizeLine) = true := by decide
theorem dz6 : decide (6 < sizeLine) = true := by decide
theorem dz7 : decide (7 < sizeLine) = true := by decide
theorem dz8 : decide (8 < sizeLine) = true := by decide
theorem dz9 : decide (9 < sizeLine) = true := by decide
theorem dz10 : decide (10 < sizeLine) = true := by decide
theorem dz11 : decide (11 < sizeLine) = true := by decide
theorem dz12 : decide (12 < sizeLine) = true := by decide
theorem dz13 : decide (13 < sizeLine) = true := by decide
theorem dz14 : decide (14 < sizeLine) = true := by decide
theorem dz15 : decide (15 < sizeLine) = true := by decide
theorem dz16 : decide (16 < sizeLine) = true := by decide
theorem ic0 : ((0 : Nat) : Int) = 0 := rfl
theorem ic1 : ((1 : Nat) : Int) = 1 := rfl
theorem ic2 : ((2 : Nat) : Int) = 2 := rfl
theorem ic3 : ((3 : Nat) : Int) = 3 := rfl
theorem ic4 : ((4 : Nat) : Int) = 4 := rfl
theorem isi_int_n  : gIsi "int" .none = some (.dat (.bool false)) := rfl
theorem isi_int_b {x : Bool} : gIsi "int" (.bool x) = some (.dat (.bool true)) := rfl
theorem isi_int_i {x : Int} : gIsi "int" (.int x) = some (.dat (.bool true)) := rfl
theorem isi_int_s {x : Str} : gIsi "int" (.str x) = some (.dat (.bool false)) := rfl
theorem isi_int_l {x : List PyData} : gIsi "int" (.list x) = some (.dat (.bool false)) := rfl
theorem isi_int_t {x : List PyData} : gIsi "int" (.tuple x) = some (.dat (.bool false)) := rfl
theorem isi_bool_n  : gIsi "bool" .none = some (.dat (.bool false)) := rfl
theorem isi_bool_b {x : Bool} : gIsi "bool" (.bool x) = some (.dat (.bool true)) := rfl
theorem isi_bool_i {x : Int} : gIsi "bool" (.int x) = some (.dat (.bool false)) := rfl
theorem isi_bool_s {x : Str} : gIsi "bool" (.str x) = some (.dat (.bool false)) := rfl
theorem isi_bool_l {x : List PyData} : gIsi "bool" (.list x) = some (.dat (.bool false)) := rfl
theorem isi_bool_t {x : List PyData} : gIsi "bool" (.tuple x) = some (.dat (.bool false)) := rfl
theorem isi_str_n  : gIsi "str" .none = some (.dat (.bool false)) := rfl
theorem isi_str_b {x : Bool} : gIsi "str" (.bool x) = some (.dat (.bool false)) := rfl
theorem isi_str_i {x : Int} : gIsi "str" (.int x) = some (.dat (.bool false)) := rfl
theorem isi_str_s {x : Str} : gIsi "str" (.str x) = some (.dat (.bool true)) := rfl
theorem isi_str_l {x : List PyData} : gIsi "str" (.list x) = some (.dat (.bool false)) := rfl
theorem isi_str_t {x : List PyData} : gIsi "str" (.tuple x) = some (.dat (.bool false)) := rfl
theorem isi_list_n  : gIsi "list" .none = some (.dat (.bool false)) := rfl
theorem isi_list_b {x : Bool} : gIsi "list" (.bool x) = some (.dat (.bool false)) := rfl
theorem isi_list_i {x : Int} : gIsi "list" (.int x) = some (.dat (.bool false)) := rfl
theorem isi_list_s {x : Str} : gIsi "list" (.str x) = some (.dat (.bool false)) := rfl
theorem isi_list_l {x : List PyData} : gIsi "list" (.list x) = some (.dat (.bool true)) := rfl
theorem isi_list_t {x : List PyData} : gIsi "list" (.tuple x) = some (.dat (.bool false)) := rfl
theorem isi_tuple_n  : gIsi "tuple" .none = some (.dat (.bool false)) := rfl
theorem isi_tuple_b {x : Bool} : gIsi "tuple" (.bool x) = some (.dat (.bool false)) := rfl
theorem isi_tuple_i {x : Int} : gIsi "tuple" (.int x) = some (.dat (.bool false)) := rfl
theorem isi_tuple_s {x : Str} : gIsi "tuple" (.str x) = some (.dat (.bool false)) := rfl
theorem isi_tuple_l {x : List PyData} : gIsi "tuple" (.list x) = some (.dat (.bool false)) := rfl
theorem isi_tuple_t {x : List PyData} : gIsi "tuple" (.tuple x) = some (.dat (.bool true)) := rfl
theorem isi_dict_n  : gIsi "dict" .none = some (.dat (.bool false)) := rfl
theorem isi_dict_b {x : Bool} : gIsi "dict" (.bool x) = some (.dat (.bool false)) := rfl
theorem isi_dict_i {x : Int} : gIsi "dict" (.int x) = some (.dat (.bool false)) := rfl
theorem isi_dict_s {x : Str} : gIsi "dict" (.str x) = some (.dat (.bool false)) := rfl
theorem isi_dict_l {x : List PyData} : gIsi "dict" (.list x) = some (.dat (.bool false)) := rfl
theorem isi_dict_t {x : List PyData} : gIsi "dict" (.tuple x) = some (.dat (.bool false)) := rfl
/-! ### loops -/
theorem forL_wp {g : CG} {body : CS} (I : List PyData → En → Prop) (P : O → Prop)
    (hs : ∀ d ds ρ, I (d :: ds) ρ → ∃ ρ1, g d ρ = some ρ1 ∧ ((∃ ρ2, body ρ1 = .nx ρ2 ∧ I ds ρ2) ∨ (∃ ρ2, body ρ1 = .ct ρ2 ∧ I ds ρ2) ∨ (∃ ρ2, body ρ1 = .bk ρ2 ∧ P (.nx ρ2)) ∨ (∃ s ρ2, body ρ1 = .rt s ρ2 ∧ P (.rt s ρ2)) ∨ (∃ x ρ2, body ρ1 = .exc x ρ2 ∧ P (.exc x ρ2))))
    (he : ∀ ρ, I [] ρ → P (.nx ρ)) : ∀ (ds : List PyData) (ρ : En), I ds ρ → P (forL g body ds ρ)
  | [], ρ, h => he ρ h
  | d :: ds, ρ, h => by
    obtain ⟨ρ1, h1, h2⟩ := hs d ds ρ h
    unfold forL
    rw [h1]
    simp only
    rcases h2 with ⟨ρ2, e, i⟩ | ⟨ρ2, e, i⟩ | ⟨ρ2, e, i⟩ | ⟨s, ρ2, e, i⟩ | ⟨s, ρ2, e, i⟩
    · rw [e]; exact forL_wp I P hs he ds ρ2 i
    · rw [e]; exact forL_wp I P hs he ds ρ2 i
    · rw [e]; exact i
    · rw [e]; exact i
    · rw [e]; exact i
/-- a loop that runs through -/
theorem forL_nx {g : CG} {body : CS} (I : List PyData → En → Prop) (hs : ∀ d ds ρ, I (d :: ds) ρ → ∃ ρ1 ρ2, g d ρ = some ρ1 ∧ body ρ1 = .nx ρ2 ∧ I ds ρ2) (ds : List PyData) (ρ : En) (h : I ds ρ) : ∃ ρ', forL g body ds ρ = .nx ρ' ∧ I [] ρ' :=
  forL_wp I (fun o => ∃ ρ', o = .nx ρ' ∧ I [] ρ') (fun d ds ρ h => by
    obtain ⟨ρ1, ρ2, h1, h2, h3⟩ := hs d ds ρ h
    exact ⟨ρ1, h1, .inl ⟨ρ2, h2, h3⟩⟩) (fun ρ h => ⟨ρ, rfl, h⟩) ds ρ h
theorem rangeL_length (lo : Int) (n : Nat) : (rangeL lo n).length = n := by simp [rangeL]
/-! ### tests as values -/
section
variable {ρ : En} {b c : Bool} {ca cb : CE} {x y : CS} {d : PyData}
def tAnd (r : R) (cb : CE) : R := r.bd fun d ρ => match d with
  | .bool true => cb ρ
  | .bool false => .ok (.dat (.bool false)) ρ
  | _ => .bad
def tOr (r : R) (cb : CE) : R := r.bd fun d ρ => match d with
  | .bool true => .ok (.dat (.bool true)) ρ
  | .bool false => cb ρ
  | _ => .bad
def tIf (r : R) (ca cb : CE) : R := r.bd fun d ρ => match d with
  | .bool true => ca ρ
  | .bool false => cb ρ
  | _ => .bad
def tIfS (r : R) (a b : CS) : O := r.bs fun s ρ => match s with
  | .dat (.bool true) => a ρ
  | .dat (.bool false) => b ρ
  | _ => .bad
theorem cAnd_t : cAnd ca cb ρ = tAnd (ca ρ) cb := rfl
theorem cOr_t : cOr ca cb ρ = tOr (ca ρ) cb := rfl
theorem cIf_t {cc : CE} : cIf cc ca cb ρ = tIf (cc ρ) ca cb := rfl
theorem cIfS_t : cIfS ca x y ρ = tIfS (ca ρ) x y := rfl
theorem cChain_t {g1 g2 : PyData → PyData → Option S} {cc : CE} : cChain g1 g2 ca cb cc ρ = (ca ρ).bd fun d ρ => (cb ρ).bd fun e ρ => tAnd (R.lift (g1 d e) ρ) (fun ρ => (cc ρ).bd fun f ρ => R.lift (g2 e f) ρ) := rfl
theorem tAnd_ok : tAnd (.ok (.dat (.bool b)) ρ) cb = bif b then cb ρ else .ok (.dat (.bool false)) ρ := by cases b <;> rfl
theorem tOr_ok : tOr (.ok (.dat (.bool b)) ρ) cb = bif b then .ok (.dat (.bool true)) ρ else cb ρ := by cases b <;> rfl
theorem tIf_ok : tIf (.ok (.dat (.bool b)) ρ) ca cb = bif b then ca ρ else cb ρ := by cases b <;> rfl
theorem tIfS_ok : tIfS (.ok (.dat (.bool b)) ρ) x y = bif b then x ρ else y ρ := by cases b <;> rfl
theorem tAnd_exc {z : Str} : tAnd (.exc z ρ) cb = .exc z ρ := rfl
theorem tOr_exc {z : Str} : tOr (.exc z ρ) cb = .exc z ρ := rfl
theorem tIf_exc {z : Str} : tIf (.exc z ρ) ca cb = .exc z ρ := rfl
theorem tIfS_exc {z : Str} : tIfS (.exc z ρ) x y = .exc z ρ := rfl
theorem co_and : (bif b then R.ok (.dat (.bool c)) ρ else R.ok (.dat (.bool false)) ρ) = .ok (.dat (.bool (b && c))) ρ := by cases b <;> rfl
theorem co_or : (bif b then R.ok (.dat (.bool true)) ρ else R.ok (.dat (.bool c)) ρ) = .ok (.dat (.bool (b || c))) ρ := by cases b <;> rfl
theorem tAnd_cond {r1 r2 : R} : tAnd (bif b then r1 else r2) cb = bif b then tAnd r1 cb else tAnd r2 cb := by cases b <;> rfl
theorem tOr_cond {r1 r2 : R} : tOr (bif b then r1 else r2) cb = bif b then tOr r1 cb else tOr r2 cb := by cases b <;> rfl
theorem tIfS_cond {r1 r2 : R} : tIfS (bif b then r1 else r2) x y = bif b then tIfS r1 x y else tIfS r2 x y := by cases b <;> rfl
theorem bd_cond {r1 r2 : R} {k : PyData → En → R} : (bif b then r1 else r2).bd k = bif b then r1.bd k else r2.bd k := by cases b <;> rfl
theorem ba_cond {r1 r2 : R} {k : PyData → En → RA} : (bif b then r1 else r2).ba k = bif b then r1.ba k else r2.ba k := by cases b <;> rfl
theorem bs_cond {r1 r2 : R} {k : S → En → O} : (bif b then r1 else r2).bs k = bif b then r1.bs k else r2.bs k := by cases b <;> rfl
theorem bx_cond {r1 r2 : R} {k : PyData → En → RX} : (bif b then r1 else r2).bx k = bif b then r1.bx k else r2.bx k := by cases b <;> rfl
theorem sq_cond {r1 r2 : O} {k : CS} : (bif b then r1 else r2).sq k = bif b then r1.sq k else r2.sq k := by cases b <;> rfl
theorem fin_cond {J : List Nat} {ss : List S} {r1 r2 : O} : finish J ss (bif b then r1 else r2) = bif b then finish J ss r1 else finish J ss r2 := by cases b <;> rfl
theorem tru_b : gTru (.bool b) = some (.dat (.bool b)) := rfl
theorem gIs_bb : gIs (.bool b) (.bool c) = some (.dat (.bool (decide (b = c)))) := rfl
theorem gIsN_bb : gIsN (.bool b) (.bool c) = some (.dat (.bool (!decide (b = c)))) := rfl
theorem rangeL_2 : rangeL 0 2 = [.int 0, .int 1] := rfl
theorem rangeL_3 : rangeL 0 3 = [.int 0, .int 1, .int 2] := rfl
/-! ### comprehensions -/
theorem lcL_nil {vs : List Nat} {g : CG} {ct ce : CE} {acc : List PyData} : lcL vs g ct ce [] ρ acc = .ok acc ρ := rfl
def oG (o : Option En) (k : En → RA) : RA := match o with
  | none => .bad
  | some ρ => k ρ
def tLc (r : R) (k1 k0 : En → RA) : RA := match r with
  | .ok (.dat (.bool true)) ρ2 => k1 ρ2
  | .ok (.dat (.bool false)) ρ2 => k0 ρ2
  | _ => .bad
def eLc (r : R) (acc : List PyData) (k : List PyData → En → RA) : RA := match r with
  | .ok s ρ3 => bif decide (acc.length < sizeLine) then k (acc ++ [s.d]) ρ3 else .bad
  | _ => .bad
theorem lcL_cons {vs : List Nat} {g : CG} {ct ce : CE} {ds acc : List PyData} : lcL vs g ct ce (d :: ds) ρ acc = oG (g d (wipeE ρ vs)) fun ρ1 => tLc (ct ρ1) (fun ρ2 => eLc (ce ρ2) acc fun a ρ3 => lcL vs g ct ce ds ρ3 a) (fun ρ2 => lcL vs g ct ce ds ρ2 acc) := by
  rw [lcL]
  cases g d (wipeE ρ vs) with
  | none => rfl
  | some ρ1 =>
    simp only [oG]
    cases h : ct ρ1 with
    | bad => rfl
    | exc x ρ => rfl
    | ok s ρ2 =>
      cases s with
      | lst l | dic l | obj c fs | hole => rfl
      | dat d =>
        cases d with
        | bool b =>
          cases b
          · rfl
          · simp only [tLc]
            cases ce ρ2 <;> rfl
        | _ => rfl
theorem oG_some {k : En → RA} : oG (some ρ) k = k ρ := rfl
theorem tLc_t {k1 k0 : En → RA} : tLc (.ok (.dat (.bool true)) ρ) k1 k0 = k1 ρ := rfl
theorem tLc_f {k1 k0 : En → RA} : tLc (.ok (.dat (.bool false)) ρ) k1 k0 = k0 ρ := rfl
theorem tLc_b {k1 k0 : En → RA} : tLc (.ok (.dat (.bool b)) ρ) k1 k0 = bif b then k1 ρ else k0 ρ := by cases b <;> rfl
theorem eLc_ok {s : S} {acc : List PyData} {k : List PyData → En → RA} : eLc (.ok s ρ) acc k = bif decide (acc.length < sizeLine) then k (acc ++ [s.d]) ρ else .bad := rfl
def fLc (r : RA) (k : List PyData → En → R) : R := match r with
  | .ok acc ρ2 => k acc ρ2
  | _ => .bad
def sLc (r : RA) (k : List PyData → En → R) : R := match r with
  | .ok ds ρ1 => k ds ρ1
  | .exc x ρ1 => .exc x ρ1
  | .bad => .bad
theorem cLc_t {vs : List Nat} {src : CA} {g : CG} {ct ce : CE} : cLc vs src g ct ce ρ = sLc (src ρ) fun ds ρ1 => bif noOwn ρ1 vs then fLc (lcL vs g ct ce ds ρ1 []) (fun acc ρ2 => .ok (.lst acc) (restoreE ρ1 ρ2 vs)) else .bad := by
  unfold cLc sLc
  cases src ρ with
  | ok ds ρ1 =>
    simp only
    cases noOwn ρ1 vs
    · rfl
    · simp only [cond_true]
      cases lcL vs g ct ce ds ρ1 [] <;> rfl
  | exc x ρ1 => rfl
  | bad => rfl
theorem sLc_ok {ds : List PyData} {k : List PyData → En → R} : sLc (.ok ds ρ) k = k ds ρ := rfl
theorem fLc_ok {ds : List PyData} {k : List PyData → En → R} : fLc (.ok ds ρ) k = k ds ρ := rfl
theorem bools_nil : boolsOf [] = some [] := rfl
theorem bools_cons {ds : List PyData} : boolsOf (.bool b :: ds) = (boolsOf ds).map (b :: ·) := rfl
end
/-! ### sizes -/
abbrev Bd (k : Nat) (i : Int) : Prop := i.natAbs < 2 ^ k
theorem Bd.mul {a b : Nat} {i j : Int} (h : Bd a i) (g : Bd b j) : Bd (a + b) (i * j) := wide_lt h g
theorem Bd.add {a : Nat} {i j : Int} (h : Bd a i) (g : Bd a j) : Bd (a + 1) (i + j) := by
  have : (2 : Nat) ^ (a + 1) = 2 ^ a + 2 ^ a := by rw [Nat.pow_succ]; omega
  unfold Bd at *
  omega
theorem Bd.sub {a : Nat} {i j : Int} (h : Bd a i) (g : Bd a j) : Bd (a + 1) (i - j) := by
  have : (2 : Nat) ^ (a + 1) = 2 ^ a + 2 ^ a := by rw [Nat.pow_succ]; omega
  unfold Bd at *
  omega
theorem Bd.mono {a b : Nat} {i : Int} (h : Bd a i) (hab : a ≤ b) : Bd b i := Nat.lt_of_lt_of_le h (Nat.pow_le_pow_right (by decide) hab)
theorem Bd.ok {a b : Nat} {i j : Int} (h : Bd a i) (g : Bd b j) (h0 : 0 < a := by decide) (h1 : 0 < b := by decide) (hs : a + b ≤ 1000000 := by decide) : decide (CMulW i j) = true := decide_eq_true (wide_mul h g h0 h1 hs)
theorem Bd.fd {a : Nat} {i j : Int} (g : Bd a j) (hj : j ≠ 0) (h0 : 0 < a := by decide) (hs : a ≤ 9000 := by decide) : decide (CFd i j) = true := decide_eq_true ⟨hj, Nat.lt_of_lt_of_le (PySem.Flt.log2_lt_of h0 g) hs⟩
theorem Bd.neg {a : Nat} {i : Int} (h : Bd a i) : Bd a (-i) := by unfold Bd at *; omega
theorem Bd.add2 {a b : Nat} {i j : Int} (h : Bd a i) (g : Bd b j) : Bd (Nat.max a b + 1) (i + j) := (h.mono (Nat.le_max_left a b)).add (g.mono (Nat.le_max_right a b))
theorem Bd.sub2 {a b : Nat} {i j : Int} (h : Bd a i) (g : Bd b j) : Bd (Nat.max a b + 1) (i - j) := (h.mono (Nat.le_max_left a b)).sub (g.mono (Nat.le_max_right a b))
/-- not too wide -/
def Bdx (i : Int) : Prop := Bd 5000 i
theorem Bdx.of {a : Nat} {i : Int} (h : Bd a i) (g : a ≤ 5000) : Bdx i := h.mono g
theorem Bd.lit {i : Int} (h : decide (i.natAbs < 18446744073709551616) = true) : Bd 64 i := of_decide_eq_true h
theorem cmulW_t {i j : Int} (h : Bdx i) (g : Bdx j) : decide (CMulW i j) = true := Bd.ok (a := 5000) (b := 5000) h g
theorem cfd_t {i j : Int} (h : Bdx j) (g : j ≠ 0) : decide (CFd i j) = true := Bd.fd (a := 5000) h g
theorem mpos_t {j : Int} (g : 0 < j) : decide (0 < j) = true := decide_eq_true g
theorem Bdx.id {i : Int} (h : Bdx i) : Bdx i := h
/-- a small number -/
def Sml (j : Int) : Prop := -1000000 ≤ j ∧ j ≤ 1000000
theorem Sml.id {i : Int} (h : Sml i) : Sml i := h
theorem Sml.lit {i : Int} (h : decide (-1000000 ≤ i ∧ i ≤ 1000000) = true) : Sml i := by unfold Sml; exact of_decide_eq_true h
theorem rng1_t {j : Int} (h : Sml j) : decide (-(2 ^ 62) ≤ j ∧ j < 2 ^ 62) = true := decide_eq_true (by unfold Sml at h; omega)
theorem rng2_t {i j : Int} (g : Sml i) (h : Sml j) : decide (-(2 ^ 62) ≤ i ∧ i < 2 ^ 62 ∧ -(2 ^ 62) ≤ j ∧ j < 2 ^ 62) = true := decide_eq_true (by unfold Sml at h g; omega)
/-- a number as data -/
abbrev Nu (p q : Int) : PyData := .tuple [.int p, .int q]
end Z
set_option maxHeartbeats 2000000
/-! Z: mirrors as a machine: rules without continuations that simp could look into. -/
namespace Z
open PySem PySem.Spec PyProof.Rows L2
section
variable {ρ : En} {b : Bool}
def k1 (r : R) (g : PyData → Option S) : R := r.bd fun d ρ => R.lift (g d) ρ
theorem k1_0 {s : S} {g : PyData → Option S} : k1 (.ok s ρ) g = R.lift (g s.d) ρ := rfl
theorem k1_e {x : Str} {g : PyData → Option S} : k1 (.exc x ρ) g = .exc x ρ := rfl
theorem k1_c {r1 r2 : R} {g : PyData → Option S} : k1 (bif b then r1 else r2) g = bif b then k1 r1 g else k1 r2 g := by cases b <;> rfl
theorem c1_r {g : PyData → Option S} {ca : CE} : c1 g ca ρ = k1 (ca ρ) g := rfl
def k2b (r : R) (g : PyData → PyData → Option S) (d : PyData) : R := r.bd fun e ρ => R.lift (g d e) ρ
theorem k2b_0 {s : S} {g : PyData → PyData → Option S} {d : PyData} : k2b (.ok s ρ) g d = R.lift (g d s.d) ρ := rfl
theorem k2b_e {x : Str} {g : PyData → PyData → Option S} {d : PyData} : k2b (.exc x ρ) g d = .exc x ρ := rfl
theorem k2b_c {r1 r2 : R} {g : PyData → PyData → Option S} {d : PyData} : k2b (bif b then r1 else r2) g d = bif b then k2b r1 g d else k2b r2 g d := by cases b <;> rfl
def k2a (r : R) (g : PyData → PyData → Option S) (cb : CE) : R := r.bd fun d ρ => k2b (cb ρ) g d
theorem k2a_0 {s : S} {g : PyData → PyData → Option S} {cb : CE} : k2a (.ok s ρ) g cb = k2b (cb ρ) g s.d := rfl
theorem k2a_e {x : Str} {g : PyData → PyData → Option S} {cb : CE} : k2a (.exc x ρ) g cb = .exc x ρ := rfl
theorem k2a_c {r1 r2 : R} {g : PyData → PyData → Option S} {cb : CE} : k2a (bif b then r1 else r2) g cb = bif b then k2a r1 g cb else k2a r2 g cb := by cases b <;> rfl
theorem c2_r {g : PyData → PyData → Option S} {ca cb : CE} : c2 g ca cb ρ = k2a (ca ρ) g cb := rfl
def kN (r : RA) (g : List PyData → Option S) : R := r.bd fun ds ρ => R.lift (g ds) ρ
theorem kN_0 {s : List PyData} {g : List PyData → Option S} : kN (.ok s ρ) g = R.lift (g s) ρ := rfl
theorem kN_e {x : Str} {g : List PyData → Option S} : kN (.exc x ρ) g = .exc x ρ := rfl
theorem kN_c {r1 r2 : RA} {g : List PyData → Option S} : kN (bif b then r1 else r2) g = bif b then kN r1 g else kN r2 g := by cases b <;> rfl
theorem cN_r {g : List PyData → Option S} {ca : CA} : cN g ca ρ = kN (ca ρ) g := rfl
def kTup (r : RA)  : R := r.bd fun ds ρ => .ok (.dat (.tuple ds)) ρ
theorem kTup_0 {s : List PyData}  : kTup (.ok s ρ)  = .ok (.dat (.tuple s)) ρ := rfl
theorem kTup_e {x : Str}  : kTup (.exc x ρ)  = .exc x ρ := rfl
theorem kTup_c {r1 r2 : RA}  : kTup (bif b then r1 else r2)  = bif b then kTup r1  else kTup r2  := by cases b <;> rfl
theorem cTup_r {ca : CA} : cTup ca ρ = kTup (ca ρ) := rfl
def kLst (r : RA)  : R := r.bd fun ds ρ => .ok (.lst ds) ρ
theorem kLst_0 {s : List PyData}  : kLst (.ok s ρ)  = .ok (.lst s) ρ := rfl
theorem kLst_e {x : Str}  : kLst (.exc x ρ)  = .exc x ρ := rfl
theorem kLst_c {r1 r2 : RA}  : kLst (bif b then r1 else r2)  = bif b then kLst r1  else kLst r2  := by cases b <;> rfl
theorem cLst_r {ca : CA} : cLst ca ρ = kLst (ca ρ) := rfl
theorem cK_r {d : PyData} : cK d ρ = .ok (.dat d) ρ := rfl
theorem caNil_r  : caNil ρ = .ok [] ρ := rfl
def kcb (r : RA) (d : PyData) : RA := r.ba fun ds ρ => .ok (d :: ds) ρ
theorem kcb_0 {s : List PyData} {d : PyData} : kcb (.ok s ρ) d = .ok (d :: s) ρ := rfl
theorem kcb_e {x : Str} {d : PyData} : kcb (.exc x ρ) d = .exc x ρ := rfl
theorem kcb_c {r1 r2 : RA} {d : PyData} : kcb (bif b then r1 else r2) d = bif b then kcb r1 d else kcb r2 d := by cases b <;> rfl
def kca (r : R) (cs : CA) : RA := r.ba fun d ρ => kcb (cs ρ) d
theorem kca_0 {s : S} {cs : CA} : kca (.ok s ρ) cs = kcb (cs ρ) s.d := rfl
theorem kca_e {x : Str} {cs : CA} : kca (.exc x ρ) cs = .exc x ρ := rfl
theorem kca_c {r1 r2 : R} {cs : CA} : kca (bif b then r1 else r2) cs = bif b then kca r1 cs else kca r2 cs := by cases b <;> rfl
theorem caCons_r {ca : CE} {cs : CA} : caCons ca cs ρ = kca (ca ρ) cs := rfl
theorem cxNil_r  : cxNil ρ = .ok [] ρ := rfl
def kxb (r : RX) (a : Ar) : RX := r.bx fun as ρ => .ok (a :: as) ρ
theorem kxb_0 {s : List Ar} {a : Ar} : kxb (.ok s ρ) a = .ok (a :: s) ρ := rfl
theorem kxb_e {x : Str} {a : Ar} : kxb (.exc x ρ) a = .exc x ρ := rfl
theorem kxb_c {r1 r2 : RX} {a : Ar} : kxb (bif b then r1 else r2) a = bif b then kxb r1 a else kxb r2 a := by cases b <;> rfl
def kxa (r : R) (cs : CX') : RX := r.bx fun d ρ => kxb (cs ρ) (.d d)
theorem kxa_0 {s : S} {cs : CX'} : kxa (.ok s ρ) cs = kxb (cs ρ) (.d s.d) := rfl
theorem kxa_e {x : Str} {cs : CX'} : kxa (.exc x ρ) cs = .exc x ρ := rfl
theorem kxa_c {r1 r2 : R} {cs : CX'} : kxa (bif b then r1 else r2) cs = bif b then kxa r1 cs else kxa r2 cs := by cases b <;> rfl
theorem cxD_r {ca : CE} {cs : CX'} : cxD ca cs ρ = kxa (ca ρ) cs := rfl
def kxs (o : Option (Option S)) (i : Nat) (cs : CX') (ρ : En) : RX := match o with
  | some (some _) => kxb (cs ρ) (.s i [])
  | _ => .bad
theorem cxS_r {i : Nat} {cs : CX'} : cxS i cs ρ = kxs (ρ[i]?) i cs ρ := by
  unfold cxS kxs kxb
  rfl
theorem kxs_0 {s : S} {i : Nat} {cs : CX'} : kxs (some (some s)) i cs ρ = kxb (cs ρ) (.s i []) := rfl
def kc3 (r : FR) (as : List Ar) (ρ : En) : R := match r with
  | .ok s ss' => .ok s (putBack ρ as ss')
  | .exc x ss' => .exc x (putBack ρ as ss')
  | .bad => .bad
def kc2 (o : Option (List S)) (F : Fn) (as : List Ar) (ρ : En) : R := match o with
  | some ss => bif dist (slotsOf as) then kc3 (F ss) as ρ else .bad
  | none => .bad
def kc1 (r : RX) (F : Fn) : R := match r with
  | .ok as ρ => kc2 (ssOf ρ as) F as ρ
  | .exc x ρ => .exc x ρ
  | .bad => .bad
theorem cCall_r {F : Fn} {cx : CX'} : cCall F cx ρ = kc1 (cx ρ) F := by
  unfold cCall kc1 kc2 kc3
  cases cx ρ with
  | ok as ρ1 => cases ssOf ρ1 as <;> rfl
  | exc x ρ1 => rfl
  | bad => rfl
theorem kc1_0 {as : List Ar} {F : Fn} : kc1 (.ok as ρ) F = kc2 (ssOf ρ as) F as ρ := rfl
theorem kc1_e {x : Str} {F : Fn} : kc1 (.exc x ρ) F = .exc x ρ := rfl
theorem kc2_0 {ss : List S} {as : List Ar} {F : Fn} : kc2 (some ss) F as ρ = bif dist (slotsOf as) then kc3 (F ss) as ρ else .bad := rfl
theorem kc3_0 {s : S} {ss : List S} {as : List Ar} : kc3 (.ok s ss) as ρ = .ok s (putBack ρ as ss) := rfl
theorem kc3_e {x : Str} {ss : List S} {as : List Ar} : kc3 (.exc x ss) as ρ = .exc x (putBack ρ as ss) := rfl
theorem kc3_c {r1 r2 : FR} {as : List Ar} : kc3 (bif b then r1 else r2) as ρ = bif b then kc3 r1 as ρ else kc3 r2 as ρ := by cases b <;> rfl
theorem ssOf_n : ssOf ρ [] = some [] := rfl
def ss1 (o : Option (List S)) (s : S) : Option (List S) := match o with
  | some ss => some (s :: ss)
  | none => none
theorem ss1_0 {ss : List S} {s : S} : ss1 (some ss) s = some (s :: ss) := rfl
def ss3 (o : Option S) (ss : List S) : Option (List S) := match o with
  | some t => some (t :: ss)
  | none => none
theorem ss3_0 {ss : List S} {s : S} : ss3 (some s) ss = some (s :: ss) := rfl
def ss2 (o : Option (Option S)) (p : List Str) (q : Option (List S)) : Option (List S) := match o, q with
  | some (some s), some ss => ss3 (S.at p s) ss
  | _, _ => none
theorem ss2_0 {p : List Str} {ss : List S} {s : S} : ss2 (some (some s)) p (some ss) = ss3 (S.at p s) ss := rfl
theorem sat_n {s : S} : S.at [] s = some s := rfl
def sat (o : Option S) (p : List Str) : Option S := match o with
  | some s => S.at p s
  | none => none
theorem sat_0 {p : List Str} {s : S} : sat (some s) p = S.at p s := rfl
theorem sat_c {f : Str} {p : List Str} {c : Str} {fs : Fs} : S.at (f :: p) (.obj c fs) = sat (fs.get f) p := by
  conv => lhs; unfold S.at
  unfold sat
  cases fs.get f <;> rfl
theorem sup_n {s t : S} : S.up [] s t = t := rfl
def supc (o : Option S) (f : Str) (p : List Str) (c : Str) (fs : Fs) (t : S) : S := match o with
  | some s => .obj c (fs.set f (S.up p s t))
  | none => .obj c fs
theorem supc_0 {f : Str} {p : List Str} {c : Str} {fs : Fs} {s t : S} : supc (some s) f p c fs t = .obj c (fs.set f (S.up p s t)) := rfl
theorem sup_c {f : Str} {p : List Str} {c : Str} {fs : Fs} {t : S} : S.up (f :: p) (.obj c fs) t = supc (fs.get f) f p c fs t := by
  conv => lhs; unfold S.up
  unfold supc
  cases fs.get f <;> rfl
theorem fsg_c {f g : Str} {s : S} {fs : Fs} : Fs.get (.cons f s fs) g = bif f == g then some s else fs.get g := rfl
theorem fsg_n {g : Str} : Fs.get .nil g = none := rfl
theorem fss_c {f g : Str} {s t : S} {fs : Fs} : Fs.set (.cons f s fs) g t = bif f == g then .cons f t fs else .cons f s (fs.set g t) := rfl
theorem fss_n {g : Str} {t : S} : Fs.set .nil g t = .cons g t .nil := rfl
theorem ssOf_d {d : PyData} {as : List Ar} : ssOf ρ (.d d :: as) = ss1 (ssOf ρ as) (.dat d) := rfl
theorem ssOf_s {i : Nat} {p : List Str} {as : List Ar} : ssOf ρ (.s i p :: as) = ss2 (ρ[i]?) p (ssOf ρ as) := by
  conv => lhs; unfold ssOf
  unfold ss2 ss3
  rfl
theorem ssOf_t {s : S} {as : List Ar} : ssOf ρ (.t s :: as) = ss1 (ssOf ρ as) s := rfl
theorem pb_n {ss : List S} : putBack ρ [] ss = ρ := by cases ss <;> rfl
theorem pb_d {d : PyData} {as : List Ar} {s : S} {ss : List S} : putBack ρ (.d d :: as) (s :: ss) = putBack ρ as ss := rfl
def pbs (o : Option (Option S)) (i : Nat) (p : List Str) (s : S) (ρ : En) : En := match o with
  | some (some s0) => ρ.set i (some (S.up p s0 s))
  | _ => ρ
theorem pbs_0 {i : Nat} {p : List Str} {s0 s : S} : pbs (some (some s0)) i p s ρ = ρ.set i (some (S.up p s0 s)) := rfl
theorem pb_s {i : Nat} {p : List Str} {as : List Ar} {s : S} {ss : List S} : putBack ρ (.s i p :: as) (s :: ss) = pbs (ρ[i]?) i p s (putBack ρ as ss) := by
  conv => lhs; unfold putBack
  unfold pbs
  rfl
theorem pb_t {t s : S} {as : List Ar} {ss : List S} : putBack ρ (.t t :: as) (s :: ss) = putBack ρ as ss := rfl
theorem so_t {t : S} {as : List Ar} : slotsOf (.t t :: as) = slotsOf as := rfl
theorem so_n : slotsOf [] = [] := rfl
theorem so_d {d : PyData} {as : List Ar} : slotsOf (.d d :: as) = slotsOf as := rfl
theorem so_s {i : Nat} {p : List Str} {as : List Ar} : slotsOf (.s i p :: as) = i :: slotsOf as := rfl
theorem di_n : dist [] = true := rfl
theorem di_1 {i : Nat} : dist [i] = true := rfl
theorem di_c {i j : Nat} {is : List Nat} : dist (i :: j :: is) = (!(j :: is).contains i && dist (j :: is)) := rfl
theorem cSeq_r {x y : CS} : cSeq x y ρ = (x ρ).sq y := rfl
theorem cNext_r  : cNext ρ = .nx ρ := rfl
theorem cRetN_r  : cRetN ρ = .rt (.dat .none) ρ := rfl
theorem cBrk_r  : cBrk ρ = .bk ρ := rfl
theorem cCnt_r  : cCnt ρ = .ct ρ := rfl
def kRet (r : R)  : O := r.bs fun s ρ => .rt s ρ
theorem kRet_0 {s : S}  : kRet (.ok s ρ)  = .rt s ρ := rfl
theorem kRet_e {x : Str}  : kRet (.exc x ρ)  = .exc x ρ := rfl
theorem kRet_c {r1 r2 : R}  : kRet (bif b then r1 else r2)  = bif b then kRet r1  else kRet r2  := by cases b <;> rfl
theorem cRet_r {c : CE} : cRet c ρ = kRet (c ρ) := rfl
def kDrop (r : R)  : O := r.bs fun _ ρ => .nx ρ
theorem kDrop_0 {s : S}  : kDrop (.ok s ρ)  = .nx ρ := rfl
theorem kDrop_e {x : Str}  : kDrop (.exc x ρ)  = .exc x ρ := rfl
theorem kDrop_c {r1 r2 : R}  : kDrop (bif b then r1 else r2)  = bif b then kDrop r1  else kDrop r2  := by cases b <;> rfl
theorem cDrop_r {c : CE} : cDrop c ρ = kDrop (c ρ) := rfl
def kSet (r : R) (i : Nat) : O := r.bs fun s ρ => .nx (ρ.set i (some s))
theorem kSet_0 {s : S} {i : Nat} : kSet (.ok s ρ) i = .nx (ρ.set i (some s)) := rfl
theorem kSet_e {x : Str} {i : Nat} : kSet (.exc x ρ) i = .exc x ρ := rfl
theorem kSet_c {r1 r2 : R} {i : Nat} : kSet (bif b then r1 else r2) i = bif b then kSet r1 i else kSet r2 i := by cases b <;> rfl
theorem cSet_r {i : Nat} {c : CE} : cSet i c ρ = kSet (c ρ) i := rfl
def kAs (o : Option En) : O := match o with
  | some ρ' => .nx ρ'
  | none => .bad
theorem kAs_0 : kAs (some ρ) = .nx ρ := rfl
def kAsg (r : R) (g : CG) : O := r.bs fun s ρ => kAs (g s.d ρ)
theorem kAsg_0 {s : S} {g : CG} : kAsg (.ok s ρ) g = kAs (g s.d ρ) := rfl
theorem kAsg_e {x : Str} {g : CG} : kAsg (.exc x ρ) g = .exc x ρ := rfl
theorem kAsg_c {r1 r2 : R} {g : CG} : kAsg (bif b then r1 else r2) g = bif b then kAsg r1 g else kAsg r2 g := by cases b <;> rfl
theorem cAsg_r {g : CG} {c : CE} : cAsg g c ρ = kAsg (c ρ) g := rfl
theorem cgName_r {i : Nat} {d : PyData} : cgName i d ρ = some (ρ.set i (some (.dat d))) := rfl
theorem cgNil_r  : cgNil [] ρ = some ρ := rfl
def kgc (o : Option En) (b : List PyData → En → Option En) (ds : List PyData) : Option En := match o with
  | some ρ => b ds ρ
  | none => none
theorem kgc_0 {b : List PyData → En → Option En} {ds : List PyData} : kgc (some ρ) b ds = b ds ρ := rfl
theorem cgCons_r {a : CG} {b : List PyData → En → Option En} {d : PyData} {ds : List PyData} : cgCons a b (d :: ds) ρ = kgc (a d ρ) b ds := rfl
theorem cgTup_r {n : Nat} {b : List PyData → En → Option En} {ds : List PyData} : cgTup n b (.tuple ds) ρ = bif ds.length == n then b ds ρ else none := rfl
theorem cgLst_r {n : Nat} {b : List PyData → En → Option En} {ds : List PyData} : cgLst n b (.list ds) ρ = bif ds.length == n then b ds ρ else none := rfl
def kPar (r : RA) (i : Nat) (j : Nat) : O := r.bs fun ds ρ => match ds with
  | [a, b] => .nx ((ρ.set i (some (.dat a))).set j (some (.dat b)))
  | _ => .bad
theorem kPar_0 {x y : PyData} {i : Nat} {j : Nat} : kPar (.ok [x, y] ρ) i j = .nx ((ρ.set i (some (.dat x))).set j (some (.dat y))) := rfl
theorem kPar_e {x : Str} {i : Nat} {j : Nat} : kPar (.exc x ρ) i j = .exc x ρ := rfl
theorem kPar_c {r1 r2 : RA} {i : Nat} {j : Nat} : kPar (bif b then r1 else r2) i j = bif b then kPar r1 i j else kPar r2 i j := by cases b <;> rfl
theorem cPar_r {i j : Nat} {c : CA} : cPar i j c ρ = kPar (c ρ) i j := rfl
def kPar3 (r : RA) (i : Nat) (j : Nat) (l : Nat) : O := r.bs fun ds ρ => match ds with
  | [a, b, d] => .nx (((ρ.set i (some (.dat a))).set j (some (.dat b))).set l (some (.dat d)))
  | _ => .bad
theorem kPar3_0 {x y z : PyData} {i : Nat} {j : Nat} {l : Nat} : kPar3 (.ok [x, y, z] ρ) i j l = .nx (((ρ.set i (some (.dat x))).set j (some (.dat y))).set l (some (.dat z))) := rfl
theorem kPar3_e {x : Str} {i : Nat} {j : Nat} {l : Nat} : kPar3 (.exc x ρ) i j l = .exc x ρ := rfl
theorem kPar3_c {r1 r2 : RA} {i : Nat} {j : Nat} {l : Nat} : kPar3 (bif b then r1 else r2) i j l = bif b then kPar3 r1 i j l else kPar3 r2 i j l := by cases b <;> rfl
theorem cPar3_r {i j l : Nat} {c : CA} : cPar3 i j l c ρ = kPar3 (c ρ) i j l := rfl
def kap3 (o : Option (Option S)) (i : Nat) (d : PyData) (ρ : En) : O := match o with
  | some (some (.lst l)) => bif decide (l.length < sizeLine) then .nx (ρ.set i (some (.lst (l ++ [d])))) else .bad
  | _ => .bad
theorem kap3_0 {l : List PyData} {i : Nat} {d : PyData} : kap3 (some (some (.lst l))) i d ρ = bif decide (l.length < sizeLine) then .nx (ρ.set i (some (.lst (l ++ [d])))) else .bad := rfl
def kap2 (r : R) (i : Nat) : O := r.bs fun s ρ => kap3 (ρ[i]?) i s.d ρ
theorem kap2_0 {s : S} {i : Nat} : kap2 (.ok s ρ) i = kap3 (ρ[i]?) i s.d ρ := rfl
theorem kap2_e {x : Str} {i : Nat} : kap2 (.exc x ρ) i = .exc x ρ := rfl
theorem kap2_c {r1 r2 : R} {i : Nat} : kap2 (bif b then r1 else r2) i = bif b then kap2 r1 i else kap2 r2 i := by cases b <;> rfl
def kap1 (o : Option (Option S)) (i : Nat) (c : CE) (ρ : En) : O := match o with
  | some (some (.lst _)) => kap2 (c ρ) i
  | _ => .bad
theorem kap1_0 {l : List PyData} {i : Nat} {c : CE} : kap1 (some (some (.lst l))) i c ρ = kap2 (c ρ) i := rfl
theorem cApp_r {i : Nat} {c : CE} : cApp i c ρ = kap1 (ρ[i]?) i c ρ := by
  unfold cApp kap1 kap2 kap3
  rfl
def ksi3 (o : Option (Option S)) (d : PyData) (i : Nat) (v : PyData) (ρ : En) : O := match o, d with
  | some (some (.lst l)), .int k => match ixN l.length k with
    | some j => .nx (ρ.set i (some (.lst (l.set j v))))
    | none => .bad
  | _, _ => .bad
def ksi4 (o : Option Nat) (l : List PyData) (i : Nat) (v : PyData) (ρ : En) : O := match o with
  | some j => .nx (ρ.set i (some (.lst (l.set j v))))
  | none => .bad
theorem ksi3_0 {l : List PyData} {k : Int} {i : Nat} {v : PyData} : ksi3 (some (some (.lst l))) (.int k) i v ρ = ksi4 (ixN l.length k) l i v ρ := by
  unfold ksi3 ksi4
  rfl
theorem ksi4_0 {j : Nat} {l : List PyData} {i : Nat} {v : PyData} : ksi4 (some j) l i v ρ = .nx (ρ.set i (some (.lst (l.set j v)))) := rfl
def ksi2 (r : R) (i : Nat) (v : PyData) : O := r.bs fun t ρ => ksi3 (ρ[i]?) t.d i v ρ
theorem ksi2_0 {s : S} {i : Nat} {v : PyData} : ksi2 (.ok s ρ) i v = ksi3 (ρ[i]?) s.d i v ρ := rfl
theorem ksi2_e {x : Str} {i : Nat} {v : PyData} : ksi2 (.exc x ρ) i v = .exc x ρ := rfl
theorem ksi2_c {r1 r2 : R} {i : Nat} {v : PyData} : ksi2 (bif b then r1 else r2) i v = bif b then ksi2 r1 i v else ksi2 r2 i v := by cases b <;> rfl
def ksi1 (o : Option (Option S)) (i : Nat) (ci : CE) (v : PyData) (ρ : En) : O := match o with
  | some (some (.lst _)) => ksi2 (ci ρ) i v
  | _ => .bad
theorem ksi1_0 {l : List PyData} {i : Nat} {ci : CE} {v : PyData} : ksi1 (some (some (.lst l))) i ci v ρ = ksi2 (ci ρ) i v := rfl
def ksi0 (r : R) (i : Nat) (ci : CE) : O := r.bs fun s ρ => ksi1 (ρ[i]?) i ci s.d ρ
theorem ksi0_0 {s : S} {i : Nat} {ci : CE} : ksi0 (.ok s ρ) i ci = ksi1 (ρ[i]?) i ci s.d ρ := rfl
theorem ksi0_e {x : Str} {i : Nat} {ci : CE} : ksi0 (.exc x ρ) i ci = .exc x ρ := rfl
theorem ksi0_c {r1 r2 : R} {i : Nat} {ci : CE} : ksi0 (bif b then r1 else r2) i ci = bif b then ksi0 r1 i ci else ksi0 r2 i ci := by cases b <;> rfl
theorem cSetIx_r {i : Nat} {ci c : CE} : cSetIx i ci c ρ = ksi0 (c ρ) i ci := by
  unfold cSetIx ksi0 ksi1 ksi2 ksi3
  rfl
def kix (d : PyData) (ρ : En) : RA := match d with
  | .list l => .ok l ρ
  | .tuple l => .ok l ρ
  | .str z => .ok (strL z) ρ
  | _ => .bad
theorem kix_l {l : List PyData} : kix (.list l) ρ = .ok l ρ := rfl
theorem kix_t {l : List PyData} : kix (.tuple l) ρ = .ok l ρ := rfl
theorem kix_s {l : Str} : kix (.str l) ρ = .ok (strL l) ρ := rfl
def kSq (r : R)  : RA := r.ba fun d ρ => kix d ρ
theorem kSq_0 {s : S}  : kSq (.ok s ρ)  = kix s.d ρ := rfl
theorem kSq_e {x : Str}  : kSq (.exc x ρ)  = .exc x ρ := rfl
theorem kSq_c {r1 r2 : R}  : kSq (bif b then r1 else r2)  = bif b then kSq r1  else kSq r2  := by cases b <;> rfl
theorem ciSeq_r {c : CE} : ciSeq c ρ = kSq (c ρ) := rfl
def kr1 (r : RA)  : RA := r.ba fun ds ρ => match ds with
  | [.int j] => bif decide (-(2 ^ 62) ≤ j ∧ j < 2 ^ 62) then .ok (rangeL 0 j.toNat) ρ else .bad
  | _ => .bad
theorem kr1_0 {j : Int}  : kr1 (.ok [.int j] ρ)  = bif decide (-(2 ^ 62) ≤ j ∧ j < 2 ^ 62) then .ok (rangeL 0 j.toNat) ρ else .bad := rfl
theorem kr1_e {x : Str}  : kr1 (.exc x ρ)  = .exc x ρ := rfl
theorem kr1_c {r1 r2 : RA}  : kr1 (bif b then r1 else r2)  = bif b then kr1 r1  else kr1 r2  := by cases b <;> rfl
theorem ciRange1_r {c : CA} : ciRange1 c ρ = kr1 (c ρ) := rfl
def kr2 (r : RA)  : RA := r.ba fun ds ρ => match ds with
  | [.int i, .int j] => bif decide (-(2 ^ 62) ≤ i ∧ i < 2 ^ 62 ∧ -(2 ^ 62) ≤ j ∧ j < 2 ^ 62) then .ok (rangeL i (j - i).toNat) ρ else .bad
  | _ => .bad
theorem kr2_0 {i j : Int}  : kr2 (.ok [.int i, .int j] ρ)  = bif decide (-(2 ^ 62) ≤ i ∧ i < 2 ^ 62 ∧ -(2 ^ 62) ≤ j ∧ j < 2 ^ 62) then .ok (rangeL i (j - i).toNat) ρ else .bad := rfl
theorem kr2_e {x : Str}  : kr2 (.exc x ρ)  = .exc x ρ := rfl
theorem kr2_c {r1 r2 : RA}  : kr2 (bif b then r1 else r2)  = bif b then kr2 r1  else kr2 r2  := by cases b <;> rfl
theorem ciRange2_r {c : CA} : ciRange2 c ρ = kr2 (c ρ) := rfl
def kFor (r : RA) (g : CG) (body : CS) : O := r.bs fun ds ρ => forL g body ds ρ
theorem kFor_0 {s : List PyData} {g : CG} {body : CS} : kFor (.ok s ρ) g body = forL g body s ρ := rfl
theorem kFor_e {x : Str} {g : CG} {body : CS} : kFor (.exc x ρ) g body = .exc x ρ := rfl
theorem kFor_c {r1 r2 : RA} {g : CG} {body : CS} : kFor (bif b then r1 else r2) g body = bif b then kFor r1 g body else kFor r2 g body := by cases b <;> rfl
theorem cFor_r {c : CA} {g : CG} {body : CS} : cFor c g body ρ = kFor (c ρ) g body := rfl
def kf2 (o : O) (g : CG) (body : CS) (ds : List PyData) : O := match o with
  | .nx ρ2 => forL g body ds ρ2
  | .ct ρ2 => forL g body ds ρ2
  | .bk ρ2 => .nx ρ2
  | o => o
def kf1 (o : Option En) (g : CG) (body : CS) (ds : List PyData) : O := match o with
  | some ρ1 => kf2 (body ρ1) g body ds
  | none => .bad
theorem forL_c {g : CG} {body : CS} {d : PyData} {ds : List PyData} : forL g body (d :: ds) ρ = kf1 (g d ρ) g body ds := by
  rw [forL]
  cases g d ρ with
  | none => rfl
  | some ρ1 =>
    simp only [kf1, kf2]
    cases body ρ1 <;> rfl
theorem forL_n {g : CG} {body : CS} : forL g body [] ρ = .nx ρ := rfl
theorem kf1_0 {g : CG} {body : CS} {ds : List PyData} : kf1 (some ρ) g body ds = kf2 (body ρ) g body ds := rfl
theorem kf2_nx {g : CG} {body : CS} {ds : List PyData} : kf2 (.nx ρ) g body ds = forL g body ds ρ := rfl
theorem kf2_ct {g : CG} {body : CS} {ds : List PyData} : kf2 (.ct ρ) g body ds = forL g body ds ρ := rfl
theorem kf2_bk {g : CG} {body : CS} {ds : List PyData} : kf2 (.bk ρ) g body ds = .nx ρ := rfl
theorem kf2_rt {s : S} {g : CG} {body : CS} {ds : List PyData} : kf2 (.rt s ρ) g body ds = .rt s ρ := rfl
theorem kf2_exc {x : Str} {g : CG} {body : CS} {ds : List PyData} : kf2 (.exc x ρ) g body ds = .exc x ρ := rfl
theorem kf2_cond {o1 o2 : O} {g : CG} {body : CS} {ds : List PyData} : kf2 (bif b then o1 else o2) g body ds = bif b then kf2 o1 g body ds else kf2 o2 g body ds := by cases b <;> rfl
def kb (o : Option PyData) (g : PyData → Option S) (ρ : En) : R := match o with
  | some d => R.lift (g d) ρ
  | none => .bad
theorem kb_0 {d : PyData} {g : PyData → Option S} : kb (some d) g ρ = R.lift (g d) ρ := rfl
def kbb (o : Option PyData) (g : PyData → PyData → Option S) (e : PyData) (ρ : En) : R := match o with
  | some d => R.lift (g d e) ρ
  | none => .bad
theorem kbb_0 {d e : PyData} {g : PyData → PyData → Option S} : kbb (some d) g e ρ = R.lift (g d e) ρ := rfl
def kb1 (r : RB) (g : PyData → Option S) : R := r.bd fun ar ρ => kb (resolve ρ ar) g ρ
theorem kb1_0 {a : Ar} {g : PyData → Option S} : kb1 (.ok a ρ) g = kb (resolve ρ a) g ρ := rfl
theorem kb1_c {r1 r2 : RB} {g : PyData → Option S} : kb1 (bif b then r1 else r2) g = bif b then kb1 r1 g else kb1 r2 g := by cases b <;> rfl
theorem kb1_e {x : Str} {g : PyData → Option S} : kb1 (.exc x ρ) g = .exc x ρ := rfl
theorem cB1_r {g : PyData → Option S} {cb : CB} : cB1 g cb ρ = kb1 (cb ρ) g := by
  unfold cB1 kb1 kb
  rfl
def kb3 (r : R) (a : Ar) (g : PyData → PyData → Option S) : R := r.bd fun e ρ => kbb (resolve ρ a) g e ρ
theorem kb3_0 {s : S} {a : Ar} {g : PyData → PyData → Option S} : kb3 (.ok s ρ) a g = kbb (resolve ρ a) g s.d ρ := rfl
theorem kb3_e {x : Str} {a : Ar} {g : PyData → PyData → Option S} : kb3 (.exc x ρ) a g = .exc x ρ := rfl
theorem kb3_c {r1 r2 : R} {a : Ar} {g : PyData → PyData → Option S} : kb3 (bif b then r1 else r2) a g = bif b then kb3 r1 a g else kb3 r2 a g := by cases b <;> rfl
def kb2 (r : RB) (g : PyData → PyData → Option S) (ci : CE) : R := r.bd fun ar ρ => kb3 (ci ρ) ar g
theorem kb2_0 {a : Ar} {g : PyData → PyData → Option S} {ci : CE} : kb2 (.ok a ρ) g ci = kb3 (ci ρ) a g := rfl
theorem kb2_c {r1 r2 : RB} {g : PyData → PyData → Option S} {ci : CE} : kb2 (bif b then r1 else r2) g ci = bif b then kb2 r1 g ci else kb2 r2 g ci := by cases b <;> rfl
theorem kb2_e {x : Str} {g : PyData → PyData → Option S} {ci : CE} : kb2 (.exc x ρ) g ci = .exc x ρ := rfl
theorem cB2_r {g : PyData → PyData → Option S} {cb : CB} {ci : CE} : cB2 g cb ci ρ = kb2 (cb ρ) g ci := by
  unfold cB2 kb2 kb3 kbb
  rfl
def kres (o : Option (Option S)) : Option PyData := match o with
  | some (some s) => bif s.nh then some s.d else none
  | _ => none
theorem kres_0 {s : S} : kres (some (some s)) = bif s.nh then some s.d else none := rfl
theorem res_d {d : PyData} : resolve ρ (.d d) = some d := rfl
theorem res_s {i : Nat} {p : List Str} : resolve ρ (.s i p) = kres (ρ[i]?) := rfl
def kbn (o : Option (Option S)) (i : Nat) (ρ : En) : RB := match o with
  | some (some _) => .ok (.s i []) ρ
  | _ => .bad
theorem kbn_0 {s : S} {i : Nat} : kbn (some (some s)) i ρ = .ok (.s i []) ρ := rfl
theorem cbN_r {i : Nat} : cbN i ρ = kbn (ρ[i]?) i ρ := rfl
def kbD (r : R) : RB := match r with
  | .ok s ρ => .ok (.d s.d) ρ
  | .exc x ρ => .exc x ρ
  | .bad => .bad
theorem kbD_0 {s : S} : kbD (.ok s ρ) = .ok (.d s.d) ρ := rfl
theorem kbD_e {x : Str} : kbD (.exc x ρ) = .exc x ρ := rfl
theorem kbD_c {r1 r2 : R} : kbD (bif b then r1 else r2) = bif b then kbD r1 else kbD r2 := by cases b <;> rfl
theorem cbD_r {c : CE} : cbD c ρ = kbD (c ρ) := rfl
def kv (o : Option (Option S)) (i : Nat) (ρ : En) : R := match o with
  | some (some s) => bif s.nh then .ok (.dat s.d) (ρ.set i (some (.dat s.d))) else .bad
  | _ => .bad
theorem kv_0 {s : S} {i : Nat} : kv (some (some s)) i ρ = bif s.nh then .ok (.dat s.d) (ρ.set i (some (.dat s.d))) else .bad := rfl
theorem nh_d {d : PyData} : (S.dat d).nh = true := rfl
theorem nh_l {d : List PyData} : (S.lst d).nh = true := rfl
theorem nh_k {d : List (PyData × PyData)} : (S.dic d).nh = true := rfl
theorem nh_o {c : Str} {fs : Fs} : (S.obj c fs).nh = fs.nh := rfl
theorem nh_fn : Fs.nil.nh = true := rfl
theorem nh_fc {f : Str} {s : S} {fs : Fs} : (Fs.cons f s fs).nh = (s.nh && fs.nh) := rfl
theorem cV_r {i : Nat} : cV i ρ = kv (ρ[i]?) i ρ := rfl
def kvm (o : Option (Option S)) (i : Nat) (ρ : En) : R := match o with
  | some (some s) => bif s.nh then .ok s (ρ.set i none) else .bad
  | _ => .bad
theorem kvm_0 {s : S} {i : Nat} : kvm (some (some s)) i ρ = bif s.nh then .ok s (ρ.set i none) else .bad := rfl
theorem cVm_r {i : Nat} : cVm i ρ = kvm (ρ[i]?) i ρ := rfl
theorem cV_0 {d : PyData} : cV 0 (some (.dat d) :: ρ) = .ok (.dat d) (some (.dat d) :: ρ) := rfl
theorem st_0 {y z : Option S} : List.set (y :: ρ) 0 z = z :: ρ := rfl
theorem gt_0 {y : Option S} : (y :: ρ : En)[0]? = some y := rfl
theorem cV_1 {x0 : Option S} {d : PyData} : cV 1 (x0 :: some (.dat d) :: ρ) = .ok (.dat d) (x0 :: some (.dat d) :: ρ) := rfl
theorem st_1 {x0 : Option S} {y z : Option S} : List.set (x0 :: y :: ρ) 1 z = x0 :: z :: ρ := rfl
theorem gt_1 {x0 : Option S} {y : Option S} : (x0 :: y :: ρ : En)[1]? = some y := rfl
theorem cV_2 {x0 x1 : Option S} {d : PyData} : cV 2 (x0 :: x1 :: some (.dat d) :: ρ) = .ok (.dat d) (x0 :: x1 :: some (.dat d) :: ρ) := rfl
theorem st_2 {x0 x1 : Option S} {y z : Option S} : List.set (x0 :: x1 :: y :: ρ) 2 z = x0 :: x1 :: z :: ρ := rfl
theorem gt_2 {x0 x1 : Option S} {y : Option S} : (x0 :: x1 :: y :: ρ : En)[2]? = some y := rfl
theorem cV_3 {x0 x1 x2 : Option S} {d : PyData} : cV 3 (x0 :: x1 :: x2 :: some (.dat d) :: ρ) = .ok (.dat d) (x0 :: x1 :: x2 :: some (.dat d) :: ρ) := rfl
theorem st_3 {x0 x1 x2 : Option S} {y z : Option S} : List.set (x0 :: x1 :: x2 :: y :: ρ) 3 z = x0 :: x1 :: x2 :: z :: ρ := rfl
theorem gt_3 {x0 x1 x2 : Option S} {y : Option S} : (x0 :: x1 :: x2 :: y :: ρ : En)[3]? = some y := rfl
theorem cV_4 {x0 x1 x2 x3 : Option S} {d : PyData} : cV 4 (x0 :: x1 :: x2 :: x3 :: some (.dat d) :: ρ) = .ok (.dat d) (x0 :: x1 :: x2 :: x3 :: some (.dat d) :: ρ) := rfl
theorem st_4 {x0 x1 x2 x3 : Option S} {y z : Option S} : List.set (x0 :: x1 :: x2 :: x3 :: y :: ρ) 4 z = x0 :: x1 :: x2 :: x3 :: z :: ρ := rfl
theorem gt_4 {x0 x1 x2 x3 : Option S} {y : Option S} : (x0 :: x1 :: x2 :: x3 :: y :: ρ : En)[4]? = some y := rfl
theorem cV_5 {x0 x1 x2 x3 x4 : Option S} {d : PyData} : cV 5 (x0 :: x1 :: x2 :: x3 :: x4 :: some (.dat d) :: ρ) = .ok (.dat d) (x0 :: x1 :: x2 :: x3 :: x4 :: some (.dat d) :: ρ) := rfl
theorem st_5 {x0 x1 x2 x3 x4 : Option S} {y z : Option S} : List.set (x0 :: x1 :: x2 :: x3 :: x4 :: y :: ρ) 5 z = x0 :: x1 :: x2 :: x3 :: x4 :: z :: ρ := rfl
theorem gt_5 {x0 x1 x2 x3 x4 : Option S} {y : Option S} : (x0 :: x1 :: x2 :: x3 :: x4 :: y :: ρ : En)[5]? = some y := rfl
theorem cV_6 {x0 x1 x2 x3 x4 x5 : Option S} {d : PyData} : cV 6 (x0 :: x1 :: x2 :: x3 :: x4 :: x5 :: some (.dat d) :: ρ) = .ok (.dat d) (x0 :: x1 :: x2 :: x3 :: x4 :: x5 :: some (.dat d) :: ρ) := rfl
theorem st_6 {x0 x1 x2 x3 x4 x5 : Option S} {y z : Option S} : List.set (x0 :: x1 :: x2 :: x3 :: x4 :: x5 :: y :: ρ) 6 z = x0 :: x1 :: x2 :: x3 :: x4 :: x5 :: z :: ρ := rfl
theorem gt_6 {x0 x1 x2 x3 x4 x5 : Option S} {y : Option S} : (x0 :: x1 :: x2 :: x3 :: x4 :: x5 :: y :: ρ : En)[6]? = some y := rfl
theorem cV_7 {x0 x1 x2 x3 x4 x5 x6 : Option S} {d : PyData} : cV 7 (x0 :: x1 :: x2 :: x3 :: x4 :: x5 :: x6 :: some (.dat d) :: ρ) = .ok (.dat d) (x0 :: x1 :: x2 :: x3 :: x4 :: x5 :: x6 :: some (.dat d) :: ρ) := rfl
theorem st_7 {x0 x1 x2 x3 x4 x5 x6 : Option S} {y z : Option S} : List.set (x0 :: x1 :: x2 :: x3 :: x4 :: x5 :: x6 :: y :: ρ) 7 z = x0 :: x1 :: x2 :: x3 :: x4 :: x5 :: x6 :: z :: ρ := rfl
theorem gt_7 {x0 x1 x2 x3 x4 x5 x6 : Option S} {y : Option S} : (x0 :: x1 :: x2 :: x3 :: x4 :: x5 :: x6 :: y :: ρ : En)[7]? = some y := rfl
theorem cV_8 {x0 x1 x2 x3 x4 x5 x6 x7 : Option S} {d : PyData} : cV 8 (x0 :: x1 :: x2 :: x3 :: x4 :: x5 :: x6 :: x7 :: some (.dat d) :: ρ) = .ok (.dat d) (x0 :: x1 :: x2 :: x3 :: x4 :: x5 :: x6 :: x7 :: some (.dat d) :: ρ) := rfl
theorem st_8 {x0 x1 x2 x3 x4 x5 x6 x7 : Option S} {y z : Option S} : List.set (x0 :: x1 :: x2 :: x3 :: x4 :: x5 :: x6 :: x7 :: y :: ρ) 8 z = x0 :: x1 :: x2 :: x3 :: x4 :: x5 :: x6 :: x7 :: z :: ρ := rfl
theorem gt_8 {x0 x1 x2 x3 x4 x5 x6 x7 : Option S} {y : Option S} : (x0 :: x1 :: x2 :: x3 :: x4 :: x5 :: x6 :: x7 :: y :: ρ : En)[8]? = some y := rfl
theorem cV_9 {x0 x1 x2 x3 x4 x5 x6 x7 x8 : Option S} {d : PyData} : cV 9 (x0 :: x1 :: x2 :: x3 :: x4 :: x5 :: x6 :: x7 :: x8 :: some (.dat d) :: ρ) = .ok (.dat d) (x0 :: x1 :: x2 :: x3 :: x4 :: x5 :: x6 :: x7 :: x8 :: some (.dat d) :: ρ) := rfl
theorem st_9 {x0 x1 x2 x3 x4 x5 x6 x7 x8 : Option S} {y z : Option S} : List.set (x0 :: x1 :: x2 :: x3 :: x4 :: x5 :: x6 :: x7 :: x8 :: y :: ρ) 9 z = x0 :: x1 :: x2 :: x3 :: x4 :: x5 :: x6 :: x7 :: x8 :: z :: ρ := rfl
theorem gt_9 {x0 x1 x2 x3 x4 x5 x6 x7 x8 : Option S} {y : Option S} : (x0 :: x1 :: x2 :: x3 :: x4 :: x5 :: x6 :: x7 :: x8 :: y :: ρ : En)[9]? = some y := rfl
theorem cV_10 {x0 x1 x2 x3 x4 x5 x6 x7 x8 x9 : Option S} {d : PyData} : cV 10 (x0 :: x1 :: x2 :: x3 :: x4 :: x5 :: x6 :: x7 :: x8 :: x9 :: some (.dat d) :: ρ) = .ok (.dat d) (x0 :: x1 :: x2 :: x3 :: x4 :: x5 :: x6 :: x7 :: x8 :: x9 :: some (.dat d) :: ρ) := rfl
theorem st_10 {x0 x1 x2 x3 x4 x5 x6 x7 x8 x9 : Option S} {y z : Option S} : List.set (x0 :: x1 :: x2 :: x3 :: x4 :: x5 :: x6 :: x7 :: x8 :: x9 :: y :: ρ) 10 z = x0 :: x1 :: x2 :: x3 :: x4 :: x5 :: x6 :: x7 :: x8 :: x9 :: z :: ρ := rfl
theorem gt_10 {x0 x1 x2 x3 x4 x5 x6 x7 x8 x9 : Option S} {y : Option S} : (x0 :: x1 :: x2 :: x3 :: x4 :: x5 :: x6 :: x7 :: x8 :: x9 :: y :: ρ : En)[10]? = some y := rfl
theorem cV_11 {x0 x1 x2 x3 x4 x5 x6 x7 x8 x9 x10 : Option S} {d : PyData} : cV 11 (x0 :: x1 :: x2 :: x3 :: x4 :: x5 :: x6 :: x7 :: x8 :: x9 :: x10 :: some (.dat d) :: ρ) = .ok (.dat d) (x0 :: x1 :: x2 :: x3 :: x4 :: x5 :: x6 :: x7 :: x8 :: x9 :: x10 :: some (.dat d) :: ρ) := rfl
theorem st_11 {x0 x1 x2 x3 x4 x5 x6 x7 x8 x9 x10 : Option S} {y z : Option S} : List.set (x0 :: x1 :: x2 :: x3 :: x4 :: x5 :: x6 :: x7 :: x8 :: x9 :: x10 :: y :: ρ) 11 z = x0 :: x1 :: x2 :: x3 :: x4 :: x5 :: x6 :: x7 :: x8 :: x9 :: x10 :: z :: ρ := rfl
theorem gt_11 {x0 x1 x2 x3 x4 x5 x6 x7 x8 x9 x10 : Option S} {y : Option S} : (x0 :: x1 :: x2 :: x3 :: x4 :: x5 :: x6 :: x7 :: x8 :: x9 :: x10 :: y :: ρ : En)[11]? = some y := rfl
theorem cV_12 {x0 x1 x2 x3 x4 x5 x6 x7 x8 x9 x10 x11 : Option S} {d : PyData} : cV 12 (x0 :: x1 :: x2 :: x3 :: x4 :: x5 :: x6 :: x7 :: x8 :: x9 :: x10 :: x11 :: some (.dat d) :: ρ) = .ok (.dat d) (x0 :: x1 :: x2 :: x3 :: x4 :: x5 :: x6 :: x7 :: x8 :: x9 :: x10 :: x11 :: some (.dat d) :: ρ) := rfl
theorem st_12 {x0 x1 x2 x3 x4 x5 x6 x7 x8 x9 x10 x11 : Option S} {y z : Option S} : List.set (x0 :: x1 :: x2 :: x3 :: x4 :: x5 :: x6 :: x7 :: x8 :: x9 :: x10 :: x11 :: y :: ρ) 12 z = x0 :: x1 :: x2 :: x3 :: x4 :: x5 :: x6 :: x7 :: x8 :: x9 :: x10 :: x11 :: z :: ρ := rfl
theorem gt_12 {x0 x1 x2 x3 x4 x5 x6 x7 x8 x9 x10 x11 : Option S} {y : Option S} : (x0 :: x1 :: x2 :: x3 :: x4 :: x5 :: x6 :: x7 :: x8 :: x9 :: x10 :: x11 :: y :: ρ : En)[12]? = some y := rfl
theorem cV_13 {x0 x1 x2 x3 x4 x5 x6 x7 x8 x9 x10 x11 x12 : Option S} {d : PyData} : cV 13 (x0 :: x1 :: x2 :: x3 :: x4 :: x5 :: x6 :: x7 :: x8 :: x9 :: x10 :: x11 :: x12 :: some (.dat d) :: ρ) = .ok (.dat d) (x0 :: x1 :: x2 :: x3 :: x4 :: x5 :: x6 :: x7 :: x8 :: x9 :: x10 :: x11 :: x12 :: some (.dat d) :: ρ) := rfl
theorem st_13 {x0 x1 x2 x3 x4 x5 x6 x7 x8 x9 x10 x11 x12 : Option S} {y z : Option S} : List.set (x0 :: x1 :: x2 :: x3 :: x4 :: x5 :: x6 :: x7 :: x8 :: x9 :: x10 :: x11 :: x12 :: y :: ρ) 13 z = x0 :: x1 :: x2 :: x3 :: x4 :: x5 :: x6 :: x7 :: x8 :: x9 :: x10 :: x11 :: x12 :: z :: ρ := rfl
theorem gt_13 {x0 x1 x2 x3 x4 x5 x6 x7 x8 x9 x10 x11 x12 : Option S} {y : Option S} : (x0 :: x1 :: x2 :: x3 :: x4 :: x5 :: x6 :: x7 :: x8 :: x9 :: x10 :: x11 :: x12 :: y :: ρ : En)[13]? = some y := rfl
theorem cV_14 {x0 x1 x2 x3 x4 x5 x6 x7 x8 x9 x10 x11 x12 x13 : Option S} {d : PyData} : cV 14 (x0 :: x1 :: x2 :: x3 :: x4 :: x5 :: x6 :: x7 :: x8 :: x9 :: x10 :: x11 :: x12 :: x13 :: some (.dat d) :: ρ) = .ok (.dat d) (x0 :: x1 :: x2 :: x3 :: x4 :: x5 :: x6 :: x7 :: x8 :: x9 :: x10 :: x11 :: x12 :: x13 :: some (.dat d) :: ρ) := rfl
theorem st_14 {x0 x1 x2 x3 x4 x5 x6 x7 x8 x9 x10 x11 x12 x13 : Option S} {y z : Option S} : List.set (x0 :: x1 :: x2 :: x3 :: x4 :: x5 :: x6 :: x7 :: x8 :: x9 :: x10 :: x11 :: x12 :: x13 :: y :: ρ) 14 z = x0 :: x1 :: x2 :: x3 :: x4 :: x5 :: x6 :: x7 :: x8 :: x9 :: x10 :: x11 :: x12 :: x13 :: z :: ρ := rfl
theorem gt_14 {x0 x1 x2 x3 x4 x5 x6 x7 x8 x9 x10 x11 x12 x13 : Option S} {y : Option S} : (x0 :: x1 :: x2 :: x3 :: x4 :: x5 :: x6 :: x7 :: x8 :: x9 :: x10 :: x11 :: x12 :: x13 :: y :: ρ : En)[14]? = some y := rfl
theorem cV_15 {x0 x1 x2 x3 x4 x5 x6 x7 x8 x9 x10 x11 x12 x13 x14 : Option S} {d : PyData} : cV 15 (x0 :: x1 :: x2 :: x3 :: x4 :: x5 :: x6 :: x7 :: x8 :: x9 :: x10 :: x11 :: x12 :: x13 :: x14 :: some (.dat d) :: ρ) = .ok (.dat d) (x0 :: x1 :: x2 :: x3 :: x4 :: x5 :: x6 :: x7 :: x8 :: x9 :: x10 :: x11 :: x12 :: x13 :: x14 :: some (.dat d) :: ρ) := rfl
theorem st_15 {x0 x1 x2 x3 x4 x5 x6 x7 x8 x9 x10 x11 x12 x13 x14 : Option S} {y z : Option S} : List.set (x0 :: x1 :: x2 :: x3 :: x4 :: x5 :: x6 :: x7 :: x8 :: x9 :: x10 :: x11 :: x12 :: x13 :: x14 :: y :: ρ) 15 z = x0 :: x1 :: x2 :: x3 :: x4 :: x5 :: x6 :: x7 :: x8 :: x9 :: x10 :: x11 :: x12 :: x13 :: x14 :: z :: ρ := rfl
theorem gt_15 {x0 x1 x2 x3 x4 x5 x6 x7 x8 x9 x10 x11 x12 x13 x14 : Option S} {y : Option S} : (x0 :: x1 :: x2 :: x3 :: x4 :: x5 :: x6 :: x7 :: x8 :: x9 :: x10 :: x11 :: x12 :: x13 :: x14 :: y :: ρ : En)[15]? = some y := rfl
theorem cV_16 {x0 x1 x2 x3 x4 x5 x6 x7 x8 x9 x10 x11 x12 x13 x14 x15 : Option S} {d : PyData} : cV 16 (x0 :: x1 :: x2 :: x3 :: x4 :: x5 :: x6 :: x7 :: x8 :: x9 :: x10 :: x11 :: x12 :: x13 :: x14 :: x15 :: some (.dat d) :: ρ) = .ok (.dat d) (x0 :: x1 :: x2 :: x3 :: x4 :: x5 :: x6 :: x7 :: x8 :: x9 :: x10 :: x11 :: x12 :: x13 :: x14 :: x15 :: some (.dat d) :: ρ) := rfl
theorem st_16 {x0 x1 x2 x3 x4 x5 x6 x7 x8 x9 x10 x11 x12 x13 x14 x15 : Option S} {y z : Option S} : List.set (x0 :: x1 :: x2 :: x3 :: x4 :: x5 :: x6 :: x7 :: x8 :: x9 :: x10 :: x11 :: x12 :: x13 :: x14 :: x15 :: y :: ρ) 16 z = x0 :: x1 :: x2 :: x3 :: x4 :: x5 :: x6 :: x7 :: x8 :: x9 :: x10 :: x11 :: x12 :: x13 :: x14 :: x15 :: z :: ρ := rfl
theorem gt_16 {x0 x1 x2 x3 x4 x5 x6 x7 x8 x9 x10 x11 x12 x13 x14 x15 : Option S} {y : Option S} : (x0 :: x1 :: x2 :: x3 :: x4 :: x5 :: x6 :: x7 :: x8 :: x9 :: x10 :: x11 :: x12 :: x13 :: x14 :: x15 :: y :: ρ : En)[16]? = some y := rfl
theorem cV_17 {x0 x1 x2 x3 x4 x5 x6 x7 x8 x9 x10 x11 x12 x13 x14 x15 x16 : Option S} {d : PyData} : cV 17 (x0 :: x1 :: x2 :: x3 :: x4 :: x5 :: x6 :: x7 :: x8 :: x9 :: x10 :: x11 :: x12 :: x13 :: x14 :: x15 :: x16 :: some (.dat d) :: ρ) = .ok (.dat d) (x0 :: x1 :: x2 :: x3 :: x4 :: x5 :: x6 :: x7 :: x8 :: x9 :: x10 :: x11 :: x12 :: x13 :: x14 :: x15 :: x16 :: some (.dat d) :: ρ) := rfl
theorem st_17 {x0 x1 x2 x3 x4 x5 x6 x7 x8 x9 x10 x11 x12 x13 x14 x15 x16 : Option S} {y z : Option S} : List.set (x0 :: x1 :: x2 :: x3 :: x4 :: x5 :: x6 :: x7 :: x8 :: x9 :: x10 :: x11 :: x12 :: x13 :: x14 :: x15 :: x16 :: y :: ρ) 17 z = x0 :: x1 :: x2 :: x3 :: x4 :: x5 :: x6 :: x7 :: x8 :: x9 :: x10 :: x11 :: x12 :: x13 :: x14 :: x15 :: x16 :: z :: ρ := rfl
theorem gt_17 {x0 x1 x2 x3 x4 x5 x6 x7 x8 x9 x10 x11 x12 x13 x14 x15 x16 : Option S} {y : Option S} : (x0 :: x1 :: x2 :: x3 :: x4 :: x5 :: x6 :: x7 :: x8 :: x9 :: x10 :: x11 :: x12 :: x13 :: x14 :: x15 :: x16 :: y :: ρ : En)[17]? = some y := rfl
theorem cV_18 {x0 x1 x2 x3 x4 x5 x6 x7 x8 x9 x10 x11 x12 x13 x14 x15 x16 x17 : Option S} {d : PyData} : cV 18 (x0 :: x1 :: x2 :: x3 :: x4 :: x5 :: x6 :: x7 :: x8 :: x9 :: x10 :: x11 :: x12 :: x13 :: x14 :: x15 :: x16 :: x17 :: some (.dat d) :: ρ) = .ok (.dat d) (x0 :: x1 :: x2 :: x3 :: x4 :: x5 :: x6 :: x7 :: x8 :: x9 :: x10 :: x11 :: x12 :: x13 :: x14 :: x15 :: x16 :: x17 :: some (.dat d) :: ρ) := rfl
theorem st_18 {x0 x1 x2 x3 x4 x5 x6 x7 x8 x9 x10 x11 x12 x13 x14 x15 x16 x17 : Option S} {y z : Option S} : List.set (x0 :: x1 :: x2 :: x3 :: x4 :: x5 :: x6 :: x7 :: x8 :: x9 :: x10 :: x11 :: x12 :: x13 :: x14 :: x15 :: x16 :: x17 :: y :: ρ) 18 z = x0 :: x1 :: x2 :: x3 :: x4 :: x5 :: x6 :: x7 :: x8 :: x9 :: x10 :: x11 :: x12 :: x13 :: x14 :: x15 :: x16 :: x17 :: z :: ρ := rfl
theorem gt_18 {x0 x1 x2 x3 x4 x5 x6 x7 x8 x9 x10 x11 x12 x13 x14 x15 x16 x17 : Option S} {y : Option S} : (x0 :: x1 :: x2 :: x3 :: x4 :: x5 :: x6 :: x7 :: x8 :: x9 :: x10 :: x11 :: x12 :: x13 :: x14 :: x15 :: x16 :: x17 :: y :: ρ : En)[18]? = some y := rfl
theorem cV_19 {x0 x1 x2 x3 x4 x5 x6 x7 x8 x9 x10 x11 x12 x13 x14 x15 x16 x17 x18 : Option S} {d : PyData} : cV 19 (x0 :: x1 :: x2 :: x3 :: x4 :: x5 :: x6 :: x7 :: x8 :: x9 :: x10 :: x11 :: x12 :: x13 :: x14 :: x15 :: x16 :: x17 :: x18 :: some (.dat d) :: ρ) = .ok (.dat d) (x0 :: x1 :: x2 :: x3 :: x4 :: x5 :: x6 :: x7 :: x8 :: x9 :: x10 :: x11 :: x12 :: x13 :: x14 :: x15 :: x16 :: x17 :: x18 :: some (.dat d) :: ρ) := rfl
theorem st_19 {x0 x1 x2 x3 x4 x5 x6 x7 x8 x9 x10 x11 x12 x13 x14 x15 x16 x17 x18 : Option S} {y z : Option S} : List.set (x0 :: x1 :: x2 :: x3 :: x4 :: x5 :: x6 :: x7 :: x8 :: x9 :: x10 :: x11 :: x12 :: x13 :: x14 :: x15 :: x16 :: x17 :: x18 :: y :: ρ) 19 z = x0 :: x1 :: x2 :: x3 :: x4 :: x5 :: x6 :: x7 :: x8 :: x9 :: x10 :: x11 :: x12 :: x13 :: x14 :: x15 :: x16 :: x17 :: x18 :: z :: ρ := rfl
theorem gt_19 {x0 x1 x2 x3 x4 x5 x6 x7 x8 x9 x10 x11 x12 x13 x14 x15 x16 x17 x18 : Option S} {y : Option S} : (x0 :: x1 :: x2 :: x3 :: x4 :: x5 :: x6 :: x7 :: x8 :: x9 :: x10 :: x11 :: x12 :: x13 :: x14 :: x15 :: x16 :: x17 :: x18 :: y :: ρ : En)[19]? = some y := rfl
theorem cV_20 {x0 x1 x2 x3 x4 x5 x6 x7 x8 x9 x10 x11 x12 x13 x14 x15 x16 x17 x18 x19 : Option S} {d : PyData} : cV 20 (x0 :: x1 :: x2 :: x3 :: x4 :: x5 :: x6 :: x7 :: x8 :: x9 :: x10 :: x11 :: x12 :: x13 :: x14 :: x15 :: x16 :: x17 :: x18 :: x19 :: some (.dat d) :: ρ) = .ok (.dat d) (x0 :: x1 :: x2 :: x3 :: x4 :: x5 :: x6 :: x7 :: x8 :: x9 :: x10 :: x11 :: x12 :: x13 :: x14 :: x15 :: x16 :: x17 :: x18 :: x19 :: some (.dat d) :: ρ) := rfl
theorem st_20 {x0 x1 x2 x3 x4 x5 x6 x7 x8 x9 x10 x11 x12 x13 x14 x15 x16 x17 x18 x19 : Option S} {y z : Option S} : List.set (x0 :: x1 :: x2 :: x3 :: x4 :: x5 :: x6 :: x7 :: x8 :: x9 :: x10 :: x11 :: x12 :: x13 :: x14 :: x15 :: x16 :: x17 :: x18 :: x19 :: y :: ρ) 20 z = x0 :: x1 :: x2 :: x3 :: x4 :: x5 :: x6 :: x7 :: x8 :: x9 :: x10 :: x11 :: x12 :: x13 :: x14 :: x15 :: x16 :: x17 :: x18 :: x19 :: z :: ρ := rfl
theorem gt_20 {x0 x1 x2 x3 x4 x5 x6 x7 x8 x9 x10 x11 x12 x13 x14 x15 x16 x17 x18 x19 : Option S} {y : Option S} : (x0 :: x1 :: x2 :: x3 :: x4 :: x5 :: x6 :: x7 :: x8 :: x9 :: x10 :: x11 :: x12 :: x13 :: x14 :: x15 :: x16 :: x17 :: x18 :: x19 :: y :: ρ : En)[20]? = some y := rfl
theorem cV_21 {x0 x1 x2 x3 x4 x5 x6 x7 x8 x9 x10 x11 x12 x13 x14 x15 x16 x17 x18 x19 x20 : Option S} {d : PyData} : cV 21 (x0 :: x1 :: x2 :: x3 :: x4 :: x5 :: x6 :: x7 :: x8 :: x9 :: x10 :: x11 :: x12 :: x13 :: x14 :: x15 :: x16 :: x17 :: x18 :: x19 :: x20 :: some (.dat d) :: ρ) = .ok (.dat d) (x0 :: x1 :: x2 :: x3 :: x4 :: x5 :: x6 :: x7 :: x8 :: x9 :: x10 :: x11 :: x12 :: x13 :: x14 :: x15 :: x16 :: x17 :: x18 :: x19 :: x20 :: some (.dat d) :: ρ) := rfl
theorem st_21 {x0 x1 x2 x3 x4 x5 x6 x7 x8 x9 x10 x11 x12 x13 x14 x15 x16 x17 x18 x19 x20 : Option S} {y z : Option S} : List.set (x0 :: x1 :: x2 :: x3 :: x4 :: x5 :: x6 :: x7 :: x8 :: x9 :: x10 :: x11 :: x12 :: x13 :: x14 :: x15 :: x16 :: x17 :: x18 :: x19 :: x20 :: y :: ρ) 21 z = x0 :: x1 :: x2 :: x3 :: x4 :: x5 :: x6 :: x7 :: x8 :: x9 :: x10 :: x11 :: x12 :: x13 :: x14 :: x15 :: x16 :: x17 :: x18 :: x19 :: x20 :: z :: ρ := rfl
theorem gt_21 {x0 x1 x2 x3 x4 x5 x6 x7 x8 x9 x10 x11 x12 x13 x14 x15 x16 x17 x18 x19 x20 : Option S} {y : Option S} : (x0 :: x1 :: x2 :: x3 :: x4 :: x5 :: x6 :: x7 :: x8 :: x9 :: x10 :: x11 :: x12 :: x13 :: x14 :: x15 :: x16 :: x17 :: x18 :: x19 :: x20 :: y :: ρ : En)[21]? = some y := rfl
theorem cV_22 {x0 x1 x2 x3 x4 x5 x6 x7 x8 x9 x10 x11 x12 x13 x14 x15 x16 x17 x18 x19 x20 x21 : Option S} {d : PyData} : cV 22 (x0 :: x1 :: x2 :: x3 :: x4 :: x5 :: x6 :: x7 :: x8 :: x9 :: x10 :: x11 :: x12 :: x13 :: x14 :: x15 :: x16 :: x17 :: x18 :: x19 :: x20 :: x21 :: some (.dat d) :: ρ) = .ok (.dat d) (x0 :: x1 :: x2 :: x3 :: x4 :: x5 :: x6 :: x7 :: x8 :: x9 :: x10 :: x11 :: x12 :: x13 :: x14 :: x15 :: x16 :: x17 :: x18 :: x19 :: x20 :: x21 :: some (.dat d) :: ρ) := rfl
theorem st_22 {x0 x1 x2 x3 x4 x5 x6 x7 x8 x9 x10 x11 x12 x13 x14 x15 x16 x17 x18 x19 x20 x21 : Option S} {y z : Option S} : List.set (x0 :: x1 :: x2 :: x3 :: x4 :: x5 :: x6 :: x7 :: x8 :: x9 :: x10 :: x11 :: x12 :: x13 :: x14 :: x15 :: x16 :: x17 :: x18 :: x19 :: x20 :: x21 :: y :: ρ) 22 z = x0 :: x1 :: x2 :: x3 :: x4 :: x5 :: x6 :: x7 :: x8 :: x9 :: x10 :: x11 :: x12 :: x13 :: x14 :: x15 :: x16 :: x17 :: x18 :: x19 :: x20 :: x21 :: z :: ρ := rfl
theorem gt_22 {x0 x1 x2 x3 x4 x5 x6 x7 x8 x9 x10 x11 x12 x13 x14 x15 x16 x17 x18 x19 x20 x21 : Option S} {y : Option S} : (x0 :: x1 :: x2 :: x3 :: x4 :: x5 :: x6 :: x7 :: x8 :: x9 :: x10 :: x11 :: x12 :: x13 :: x14 :: x15 :: x16 :: x17 :: x18 :: x19 :: x20 :: x21 :: y :: ρ : En)[22]? = some y := rfl
theorem cV_23 {x0 x1 x2 x3 x4 x5 x6 x7 x8 x9 x10 x11 x12 x13 x14 x15 x16 x17 x18 x19 x20 x21 x22 : Option S} {d : PyData} : cV 23 (x0 :: x1 :: x2 :: x3 :: x4 :: x5 :: x6 :: x7 :: x8 :: x9 :: x10 :: x11 :: x12 :: x13 :: x14 :: x15 :: x16 :: x17 :: x18 :: x19 :: x20 :: x21 :: x22 :: some (.dat d) :: ρ) = .ok (.dat d) (x0 :: x1 :: x2 :: x3 :: x4 :: x5 :: x6 :: x7 :: x8 :: x9 :: x10 :: x11 :: x12 :: x13 :: x14 :: x15 :: x16 :: x17 :: x18 :: x19 :: x20 :: x21 :: x22 :: some (.dat d) :: ρ) := rfl
theorem st_23 {x0 x1 x2 x3 x4 x5 x6 x7 x8 x9 x10 x11 x12 x13 x14 x15 x16 x17 x18 x19 x20 x21 x22 : Option S} {y z : Option S} : List.set (x0 :: x1 :: x2 :: x3 :: x4 :: x5 :: x6 :: x7 :: x8 :: x9 :: x10 :: x11 :: x12 :: x13 :: x14 :: x15 :: x16 :: x17 :: x18 :: x19 :: x20 :: x21 :: x22 :: y :: ρ) 23 z = x0 :: x1 :: x2 :: x3 :: x4 :: x5 :: x6 :: x7 :: x8 :: x9 :: x10 :: x11 :: x12 :: x13 :: x14 :: x15 :: x16 :: x17 :: x18 :: x19 :: x20 :: x21 :: x22 :: z :: ρ := rfl
theorem gt_23 {x0 x1 x2 x3 x4 x5 x6 x7 x8 x9 x10 x11 x12 x13 x14 x15 x16 x17 x18 x19 x20 x21 x22 : Option S} {y : Option S} : (x0 :: x1 :: x2 :: x3 :: x4 :: x5 :: x6 :: x7 :: x8 :: x9 :: x10 :: x11 :: x12 :: x13 :: x14 :: x15 :: x16 :: x17 :: x18 :: x19 :: x20 :: x21 :: x22 :: y :: ρ : En)[23]? = some y := rfl
theorem tAnd_b {cb : CE} : tAnd (.ok (.dat (.bool b)) ρ) cb = bif b then cb ρ else .ok (.dat (.bool false)) ρ := by cases b <;> rfl
def tCh2 (r : R) (g : PyData → PyData → Option S) (e : PyData) : R := r.bd fun f ρ => R.lift (g e f) ρ
theorem tCh2_0 {s : S} {g : PyData → PyData → Option S} {e : PyData} : tCh2 (.ok s ρ) g e = R.lift (g e s.d) ρ := rfl
theorem tCh2_e {x : Str} {g : PyData → PyData → Option S} {e : PyData} : tCh2 (.exc x ρ) g e = .exc x ρ := rfl
def tCh1 (r : R) (g : PyData → PyData → Option S) (e : PyData) (cc : CE) : R := r.bd fun t ρ => match t with
  | .bool true => tCh2 (cc ρ) g e
  | .bool false => .ok (.dat (.bool false)) ρ
  | _ => .bad
theorem tCh1_0 {g : PyData → PyData → Option S} {e : PyData} {cc : CE} : tCh1 (.ok (.dat (.bool b)) ρ) g e cc = bif b then tCh2 (cc ρ) g e else .ok (.dat (.bool false)) ρ := by cases b <;> rfl
def tCh0b (r : R) (g1 g2 : PyData → PyData → Option S) (d : PyData) (cc : CE) : R := r.bd fun e ρ => tCh1 (R.lift (g1 d e) ρ) g2 e cc
theorem tCh0b_0 {s : S} {g1 g2 : PyData → PyData → Option S} {d : PyData} {cc : CE} : tCh0b (.ok s ρ) g1 g2 d cc = tCh1 (R.lift (g1 d s.d) ρ) g2 s.d cc := rfl
theorem tCh0b_e {x : Str} {g1 g2 : PyData → PyData → Option S} {d : PyData} {cc : CE} : tCh0b (.exc x ρ) g1 g2 d cc = .exc x ρ := rfl
def tCh0a (r : R) (g1 g2 : PyData → PyData → Option S) (cb cc : CE) : R := r.bd fun d ρ => tCh0b (cb ρ) g1 g2 d cc
theorem tCh0a_0 {s : S} {g1 g2 : PyData → PyData → Option S} {cb cc : CE} : tCh0a (.ok s ρ) g1 g2 cb cc = tCh0b (cb ρ) g1 g2 s.d cc := rfl
theorem tCh0a_e {x : Str} {g1 g2 : PyData → PyData → Option S} {cb cc : CE} : tCh0a (.exc x ρ) g1 g2 cb cc = .exc x ρ := rfl
theorem cChain_r {g1 g2 : PyData → PyData → Option S} {ca cb cc : CE} : cChain g1 g2 ca cb cc ρ = tCh0a (ca ρ) g1 g2 cb cc := rfl
def ml3 (r : R) (vs : List Nat) (g : CG) (ct ce : CE) (ds acc : List PyData) : RA := match r with
  | .ok s ρ => bif decide (acc.length < sizeLine) then lcL vs g ct ce ds ρ (acc ++ [s.d]) else .bad
  | _ => .bad
def ml2 (r : R) (vs : List Nat) (g : CG) (ct ce : CE) (ds acc : List PyData) : RA := match r with
  | .ok (.dat (.bool true)) ρ => ml3 (ce ρ) vs g ct ce ds acc
  | .ok (.dat (.bool false)) ρ => lcL vs g ct ce ds ρ acc
  | _ => .bad
def ml1 (o : Option En) (vs : List Nat) (g : CG) (ct ce : CE) (ds acc : List PyData) : RA := match o with
  | some ρ => ml2 (ct ρ) vs g ct ce ds acc
  | none => .bad
section
variable {vs : List Nat} {g : CG} {ct ce : CE} {ds acc : List PyData}
theorem lcL_c {d : PyData} : lcL vs g ct ce (d :: ds) ρ acc = ml1 (g d (wipeE ρ vs)) vs g ct ce ds acc := by
  rw [lcL]
  cases g d (wipeE ρ vs) with
  | none => rfl
  | some ρ1 =>
    simp only [ml1, ml2, ml3]
    all_goals
      cases h : ct ρ1 with
      | bad => rfl
      | exc x ρ => rfl
      | ok s ρ2 =>
        cases s with
        | lst l | dic l | obj c fs | hole => rfl
        | dat d =>
          cases d with
          | bool b =>
            cases b
            · rfl
            · simp only
              all_goals (cases ce ρ2 <;> rfl)
          | _ => rfl
theorem ml1_0 : ml1 (some ρ) vs g ct ce ds acc = ml2 (ct ρ) vs g ct ce ds acc := rfl
theorem ml2_t : ml2 (.ok (.dat (.bool true)) ρ) vs g ct ce ds acc = ml3 (ce ρ) vs g ct ce ds acc := rfl
theorem ml2_f : ml2 (.ok (.dat (.bool false)) ρ) vs g ct ce ds acc = lcL vs g ct ce ds ρ acc := rfl
theorem ml2_b : ml2 (.ok (.dat (.bool b)) ρ) vs g ct ce ds acc = bif b then ml3 (ce ρ) vs g ct ce ds acc else lcL vs g ct ce ds ρ acc := by cases b <;> rfl
theorem ml3_0 {s : S} : ml3 (.ok s ρ) vs g ct ce ds acc = bif decide (acc.length < sizeLine) then lcL vs g ct ce ds ρ (acc ++ [s.d]) else .bad := rfl
def ml5 (r : RA) (ρ1 : En) (vs : List Nat) : R := match r with
  | .ok acc ρ2 => .ok (.lst acc) (restoreE ρ1 ρ2 vs)
  | _ => .bad
theorem ml5_0 {ρ1 : En} : ml5 (.ok acc ρ) ρ1 vs = .ok (.lst acc) (restoreE ρ1 ρ vs) := rfl
def ml4 (r : RA) (vs : List Nat) (g : CG) (ct ce : CE) : R := match r with
  | .ok ds ρ1 => bif noOwn ρ1 vs then ml5 (lcL vs g ct ce ds ρ1 []) ρ1 vs else .bad
  | .exc x ρ1 => .exc x ρ1
  | .bad => .bad
theorem ml4_0 : ml4 (.ok ds ρ) vs g ct ce = bif noOwn ρ vs then ml5 (lcL vs g ct ce ds ρ []) ρ vs else .bad := rfl
theorem ml4_e {x : Str} : ml4 (.exc x ρ) vs g ct ce = .exc x ρ := rfl
theorem ml4_c {r1 r2 : RA} : ml4 (bif b then r1 else r2) vs g ct ce = bif b then ml4 r1 vs g ct ce else ml4 r2 vs g ct ce := by cases b <;> rfl
theorem cLc_r {src : CA} : cLc vs src g ct ce ρ = ml4 (src ρ) vs g ct ce := by
  unfold cLc ml4 ml5
  cases src ρ with
  | ok ds ρ1 =>
    try simp only
    all_goals (cases noOwn ρ1 vs <;> first | rfl | (simp only [cond_true]; done) | (simp only [cond_true]; cases lcL vs g ct ce ds ρ1 [] <;> rfl) | (cases lcL vs g ct ce ds ρ1 [] <;> rfl))
  | exc x ρ1 => rfl
  | bad => rfl
end
def nOw (o : Option (Option S)) : Bool := match o with
  | some (some (.dat _)) => true
  | some (some _) => false
  | _ => true
theorem nO_d {d : PyData} : nOw (some (some (.dat d))) = true := rfl
theorem nO_n : nOw (some none) = true := rfl
theorem nO_l {l : List PyData} : nOw (some (some (.lst l))) = false := rfl
theorem noOwn_n : noOwn ρ [] = true := rfl
theorem noOwn_c {v : Nat} {vs : List Nat} : noOwn ρ (v :: vs) = (nOw (ρ[v]?) && noOwn ρ vs) := rfl
theorem wipe_n : wipeE ρ [] = ρ := rfl
theorem wipe_c {v : Nat} {vs : List Nat} : wipeE ρ (v :: vs) = (wipeE ρ vs).set v none := rfl
def rsE (o : Option (Option S)) (ρ : En) (v : Nat) : En := match o with
  | some o => ρ.set v o
  | none => ρ
theorem rsE_0 {o : Option S} {v : Nat} : rsE (some o) ρ v = ρ.set v o := rfl
theorem rest_n {ρ0 : En} : restoreE ρ0 ρ [] = ρ := rfl
theorem rest_c {ρ0 : En} {v : Nat} {vs : List Nat} : restoreE ρ0 ρ (v :: vs) = rsE (ρ0[v]?) (restoreE ρ0 ρ vs) v := rfl
/-! ### a def -/
theorem mkF_r {n m : Nat} {J : List Nat} {c : CS} {ss : List S} : mkF n m J c ss = bif ss.length == n then finish J ss (c (ss.map some ++ List.replicate (m - n) none)) else .bad := rfl
def fo (o : Option (List S)) (s : S) : FR := match o with
  | some r => .ok s r
  | none => .bad
theorem fo_0 {r : List S} {s : S} : fo (some r) s = .ok s r := rfl
def fx (o : Option (List S)) (x : Str) : FR := match o with
  | some r => .exc x r
  | none => .bad
theorem fx_0 {r : List S} {x : Str} : fx (some r) x = .exc x r := rfl
theorem fin_nx' {J : List Nat} {ss : List S} : finish J ss (.nx ρ) = fo (outs J ρ 0 ss) (.dat .none) := rfl
theorem fin_rt' {J : List Nat} {ss : List S} {s : S} : finish J ss (.rt s ρ) = fo (outs J ρ 0 ss) s := rfl
theorem fin_exc' {J : List Nat} {ss : List S} {x : Str} : finish J ss (.exc x ρ) = fx (outs J ρ 0 ss) x := rfl
def ob (o : Option S) (p : Option (List S)) : Option (List S) := match o, p with
  | some s, some ss => some (s :: ss)
  | _, _ => none
def og (o : Option (Option S)) : Option S := match o with
  | some (some s) => some s
  | _ => none
def od (s : S) : Option S := match s with
  | .dat d => some (.dat d)
  | _ => none
theorem ob_0 {s : S} {ss : List S} : ob (some s) (some ss) = some (s :: ss) := rfl
theorem og_0 {s : S} : og (some (some s)) = some s := rfl
theorem od_0 {d : PyData} : od (.dat d) = some (.dat d) := rfl
theorem outs_n {J : List Nat} {k : Nat} : outs J ρ k [] = some [] := rfl
theorem outs_c {J : List Nat} {k : Nat} {s : S} {ss : List S} : outs J ρ k (s :: ss) = ob (bif J.contains k then og (ρ[k]?) else od s) (outs J ρ (k + 1) ss) := by
  conv => lhs; rw [outs.eq_def]
  simp only
  generalize outs J ρ (k + 1) ss = p
  cases h : J.contains k
  · cases s with
    | dat d => cases p <;> rfl
    | lst l | dic l | obj c fs | hole => cases p <;> rfl
  · simp only [cond_true]
    cases h2 : ρ[k]? with
    | none => cases p <;> rfl
    | some o => cases o with
      | none => cases p <;> rfl
      | some s => cases p <;> rfl
end
end Z
set_option maxHeartbeats 2000000
/-! Z: dicts. -/
namespace Z
open PySem PySem.Spec PyProof.Rows L2
open Evl (Ex ex_l ex_t ex_rd)
/-! ### keys -/
def keyOf : PyData → Option Key
  | .int i => some (.inl i)
  | .str x => some (.inr x)
  | _ => none
mutual
def nkOf : PyData → Option NestedKey
  | .none => some .none
  | .int i => some (.num i)
  | .str x => some (.text x)
  | .tuple l => match nksOf l with
    | some ks => some (.tup ks)
    | none => none
  | .bool _ => none
  | .list _ => none
  | .dict _ => none
def nksOf : List PyData → Option (List NestedKey)
  | [] => some []
  | d :: ds => match nkOf d, nksOf ds with
    | some k, some ks => some (k :: ks)
    | _, _ => none
end
mutual
theorem nk_data : ∀ {d : PyData} {k : NestedKey}, nkOf d = some k → d = k.data
  | .none, k, h => by cases h; rfl
  | .int i, k, h => by cases h; rfl
  | .str i, k, h => by cases h; rfl
  | .tuple l, k, h => by
    unfold nkOf at h
    split at h
    · rename_i ks e
      cases h
      rw [nks_data e]
      rfl
    · cases h
  | .bool _, k, h => by cases h
  | .list _, k, h => by cases h
  | .dict _, k, h => by cases h
theorem nks_data : ∀ {d : List PyData} {k : List NestedKey}, nksOf d = some k → d = NestedKey.datas k
  | [], k, h => by cases h; rfl
  | d :: ds, k, h => by
    unfold nksOf at h
    split at h
    · rename_i x xs e1 e2
      cases h
      rw [nk_data e1, nks_data e2]
      rfl
    · cases h
end
mutual
theorem data_nk : ∀ (k : NestedKey), nkOf k.data = some k
  | .none => rfl
  | .num i => rfl
  | .text x => rfl
  | .tup ks => by
    show nkOf (.tuple (NestedKey.datas ks)) = _
    unfold nkOf
    rw [datas_nk ks]
theorem datas_nk : ∀ (k : List NestedKey), nksOf (NestedKey.datas k) = some k
  | [] => rfl
  | k :: ks => by
    show nksOf (k.data :: NestedKey.datas ks) = _
    unfold nksOf
    rw [data_nk k, datas_nk ks]
end
/-- two keys are one -/
def kEq (d e : PyData) : Bool := decide (nkOf d = nkOf e)
theorem kEq_kD {a b : Key} : kEq (kD a) (kD b) = decide (a = b) := by
  unfold kEq
  cases a <;> cases b <;> simp [kD, nkOf]
theorem kEq_tup {a b : List NestedKey} : kEq (.tuple (NestedKey.datas a)) (.tuple (NestedKey.datas b)) = decide (NestedKey.tup a = NestedKey.tup b) := by
  have e : ∀ k, nkOf (.tuple (NestedKey.datas k)) = some (.tup k) := fun k => data_nk (.tup k)
  unfold kEq
  rw [e, e]
  simp
def dGet (l : List (PyData × PyData)) (k : PyData) : Option PyData := match l with
  | [] => none
  | p :: l => bif kEq p.1 k then some p.2 else dGet l k
def dRep (l : List (PyData × PyData)) (k v : PyData) : List (PyData × PyData) := match l with
  | [] => []
  | p :: l => (bif kEq p.1 k then (p.1, v) else p) :: dRep l k v
def dPut (l : List (PyData × PyData)) (k v : PyData) : List (PyData × PyData) := match dGet l k with
  | some _ => dRep l k v
  | none => l ++ [(k, v)]
def dDel (l : List (PyData × PyData)) (k : PyData) : List (PyData × PyData) := l.filter fun p => !kEq p.1 k
/-- a key that goes with the dict's keys -/
def isK (d : PyData) : Bool := (keyOf d).isSome
def isN (d : PyData) : Bool := match nkOf d with
  | some (.tup ks) => decide ((NestedKey.tup ks).depth ≤ 8)
  | _ => false
def kOk (l : List (PyData × PyData)) (k : PyData) : Bool := bif isK k then l.all fun p => isK p.1 else isN k && l.all fun p => isN p.1
theorem isK_of {d : PyData} (h : isK d = true) : ∃ k, keyOf d = some k ∧ d = kD k := by
  cases d with
  | int i => exact ⟨_, rfl, rfl⟩
  | str i => exact ⟨_, rfl, rfl⟩
  | none | bool _ | list _ | tuple _ | dict _ => cases h
theorem isN_of {d : PyData} (h : isN d = true) : ∃ ks, d = .tuple (NestedKey.datas ks) ∧ (NestedKey.tup ks).depth ≤ 8 := by
  unfold isN at h
  split at h
  · rename_i ks e
    exact ⟨ks, nk_data e, of_decide_eq_true h⟩
  · cases h
theorem isK_kD (k : Key) : isK (kD k) = true := by cases k <;> rfl
theorem isK_tup (l : List PyData) : isK (.tuple l) = false := rfl
theorem isN_kD (k : Key) : isN (kD k) = false := by cases k <;> rfl
section
variable {K : KF} {B H : Hp}
theorem dpKV_len : ∀ {kvs : List (Key × V)} {l : List (PyData × PyData)}, DpKV K B kvs l → kvs.length = l.length
  | _, _, .nil => rfl
  | _, _, .cons _ t => congrArg (· + 1) (dpKV_len t)
theorem dpKN_len : ∀ {kvs : NL} {l : List (PyData × PyData)}, DpKN K B kvs l → kvs.length = l.length
  | _, _, .nil => rfl
  | _, _, .cons _ _ _ t => congrArg (· + 1) (dpKN_len t)
theorem dpKV_nK : ∀ {kvs : List (Key × V)} {l : List (PyData × PyData)}, DpKV K B kvs l → (l.all fun p => isN p.1) = true → kvs = [] ∧ l = []
  | _, _, .nil, _ => ⟨rfl, rfl⟩
  | _, _, .cons (k := k) _ t, h => by
    have this : isN (kD k) = true := (Bool.and_eq_true_iff.mp h).1
    rw [isN_kD] at this
    cases this
theorem dpKN_nN : ∀ {kvs : NL} {l : List (PyData × PyData)}, DpKN K B kvs l → (l.all fun p => isK p.1) = true → kvs = [] ∧ l = []
  | _, _, .nil, _ => ⟨rfl, rfl⟩
  | _, _, .cons _ _ _ t, h => by
    have := (Bool.and_eq_true_iff.mp h).1
    cases this
theorem dGet_k : ∀ {kvs : List (Key × V)} {l : List (PyData × PyData)}, DpKV K B kvs l → ∀ {k : Key}, (∀ e, dGet l (kD k) = some e → ∃ v, valV kvs k = some v ∧ Dp K B v e) ∧ (dGet l (kD k) = none → valV kvs k = none)
  | _, _, .nil, k => ⟨fun e h => by (cases h), fun _ => rfl⟩
  | _, _, .cons (k := j) (v := v) (vs := kvs) (d := d) (ds := l) h t, k => by
    unfold dGet
    rw [kEq_kD]
    by_cases e : j = k
    · subst e
      simp only [decide_true, cond_true]
      refine ⟨fun e h' => ?_, fun h' => by cases h'⟩
      cases h'
      exact ⟨_, valV_pos rfl, h⟩
    · simp only [decide_eq_false e, cond_false]
      rw [valV_neg (p := (j, v)) e]
      exact dGet_k t
theorem dPut_k : ∀ {kvs : List (Key × V)} {l : List (PyData × PyData)}, DpKV K B kvs l → ∀ {k : Key} {v : V} {e : PyData}, Dp K B v e → DpKV K B (putK kvs k v) (dPut l (kD k) e) := by
  intro kvs l h k v e hv
  have rp : ∀ {kvs : List (Key × V)} {l : List (PyData × PyData)}, DpKV K B kvs l → DpKV K B (kvs.map fun kv => if kv.1 = k then (kv.1, v) else kv) (dRep l (kD k) e) := fun {kvs l} h => by
    induction kvs generalizing l with
    | nil => cases h; exact .nil
    | cons p kvs ih =>
      cases h with
      | @cons j u _ d ds h1 t =>
        rw [List.map_cons]
        unfold dRep
        rw [kEq_kD]
        by_cases q : j = k
        · subst q
          simp only [decide_true, cond_true, if_true]
          exact .cons hv (ih t)
        · simp only [decide_eq_false q, cond_false, if_neg q]
          exact .cons h1 (ih t)
  have ap : ∀ {kvs : List (Key × V)} {l : List (PyData × PyData)}, DpKV K B kvs l → DpKV K B (kvs ++ [(k, v)]) (l ++ [(kD k, e)]) := fun {kvs l} h => by
    induction kvs generalizing l with
    | nil => cases h; exact .cons hv .nil
    | cons p kvs ih =>
      cases h with
      | cons h1 t => exact .cons h1 (ih t)
  obtain ⟨g1, g2⟩ := dGet_k h (k := k)
  unfold dPut
  cases hg : dGet l (kD k) with
  | none =>
    rw [putK_new v (g2 hg)]
    exact ap h
  | some x =>
    obtain ⟨u, hu, _⟩ := g1 x hg
    have e1 : (kvs.any fun kv => decide (kv.1 = k)) = true := by rw [valV_any, hu]; rfl
    unfold putK
    rw [if_pos e1]
    exact rp h
theorem dDel_k : ∀ {kvs : List (Key × V)} {l : List (PyData × PyData)}, DpKV K B kvs l → ∀ {k : Key}, DpKV K B (dropK kvs k) (dDel l (kD k))
  | _, _, .nil, k => .nil
  | _, _, .cons (k := j) (v := v) (vs := kvs) (d := d) (ds := l) h t, k => by
    unfold dropK dDel
    by_cases e : j = k
    · rw [List.filter_cons_of_neg (by simpa using e), List.filter_cons_of_neg (by rw [kEq_kD]; simpa using e)]
      exact dDel_k t
    · rw [List.filter_cons_of_pos (by simpa using e), List.filter_cons_of_pos (by rw [kEq_kD]; simpa using e)]
      exact .cons h (dDel_k t)
/-! tuples -/
def atN (L : NL) (k : NestedKey) : Option V := (L.find? fun x => decide (x.1 = k)).map (·.2.2)
def putN (L : NL) (k : NestedKey) (b : Addr) (v : V) : NL := if (atN L k).isSome then L.map fun x => if x.1 = k then (x.1, x.2.1, v) else x else L ++ [(k, b, v)]
def dropN (L : NL) (k : NestedKey) : NL := L.filter fun x => decide (x.1 ≠ k)
theorem NX.at_ : ∀ {L : NL} {xs : List (NestedKey × Addr × Value)}, NX L xs → ∀ {k : NestedKey}, RelO (atN L k) ((atKey xs k).map (·.2))
  | _, _, .nil, k => True.intro
  | _, _, .cons (a := x) (b := y) (l₁ := L) (l₂ := xs) h t, k => by
    unfold atN atKey
    obtain ⟨h1, h2, h3⟩ := h
    by_cases e : x.1 = k
    · rw [List.find?_cons_of_pos (by simpa using e), List.find?_cons_of_pos (by rw [← h1]; simpa using e)]
      exact h3
    · rw [List.find?_cons_of_neg (by simpa using e), List.find?_cons_of_neg (by rw [← h1]; simpa using e)]
      exact NX.at_ t
theorem NX.keys : ∀ {L : NL} {xs : List (NestedKey × Addr × Value)}, NX L xs → L.map (·.1) = xs.map (·.1)
  | _, _, .nil => rfl
  | _, _, .cons h t => by rw [List.map_cons, List.map_cons, h.1, NX.keys t]
theorem NX.put {L : NL} {xs : List (NestedKey × Addr × Value)} (h : NX L xs) {k : NestedKey} {b : Addr} {v : V} {u : Value} (r : RelV v u) : NX (putN L k b v) (storedH xs k b u) := by
  have rp : ∀ {L : NL} {xs : List (NestedKey × Addr × Value)}, NX L xs → NX (L.map fun x => if x.1 = k then (x.1, x.2.1, v) else x) (xs.map (putAt k u)) := fun {L xs} h => by
    induction L generalizing xs with
    | nil => cases h; exact .nil
    | cons x L ih =>
      cases h with
      | @cons _ y _ xs h1 t =>
        rw [List.map_cons, List.map_cons]
        refine .cons ?_ (ih t)
        unfold putAt
        by_cases q : x.1 = k
        · rw [if_pos q, if_pos (h1.1 ▸ q)]
          exact ⟨h1.1, h1.2.1, r⟩
        · rw [if_neg q, if_neg (h1.1 ▸ q)]
          exact h1
  have ap : ∀ {L : NL} {xs : List (NestedKey × Addr × Value)}, NX L xs → NX (L ++ [(k, b, v)]) (xs ++ [(k, b, u)]) := fun {L xs} h => by
    induction L generalizing xs with
    | nil => cases h; exact .cons ⟨rfl, rfl, r⟩ .nil
    | cons p L ih =>
      cases h with
      | cons h1 t => exact .cons h1 (ih t)
  have e := RelO.isSome_eq (h.at_ (k := k))
  rw [Option.isSome_map] at e
  unfold putN storedH
  rw [e]
  split
  · exact rp h
  · exact ap h
theorem NX.drop : ∀ {L : NL} {xs : List (NestedKey × Addr × Value)}, NX L xs → ∀ {k : NestedKey}, NX (dropN L k) (withoutH xs k)
  | _, _, .nil, k => .nil
  | _, _, .cons (a := x) (b := y) (l₁ := L) (l₂ := xs) h t, k => by
    unfold dropN withoutH
    by_cases e : x.1 = k
    · rw [List.filter_cons_of_neg (by simpa using e), List.filter_cons_of_neg (by rw [← h.1]; simpa using e)]
      exact NX.drop t
    · rw [List.filter_cons_of_pos (by simpa using e), List.filter_cons_of_pos (by rw [← h.1]; simpa using e)]
      exact .cons h (NX.drop t)
theorem dGet_n : ∀ {L : NL} {l : List (PyData × PyData)}, DpKN K B L l → ∀ {ks : List NestedKey}, (∀ e, dGet l (.tuple (NestedKey.datas ks)) = some e → ∃ v, atN L (.tup ks) = some v ∧ Dp K B v e) ∧ (dGet l (.tuple (NestedKey.datas ks)) = none → atN L (.tup ks) = none)
  | _, _, .nil, k => ⟨fun e h => by (cases h), fun _ => rfl⟩
  | _, _, .cons (ks := j) (b := b) (v := v) (vs := L) (d := d) (ds := l) h0 hz h t, k => by
    unfold dGet
    rw [kEq_tup]
    by_cases e : NestedKey.tup j = .tup k
    · simp only [decide_eq_true e, cond_true]
      refine ⟨fun e' h' => ?_, fun h' => by cases h'⟩
      cases h'
      unfold atN
      rw [List.find?_cons_of_pos (by simpa using e)]
      exact ⟨_, rfl, h⟩
    · simp only [decide_eq_false e, cond_false]
      unfold atN
      rw [List.find?_cons_of_neg (by simpa using e)]
      exact dGet_n t
theorem dPut_n {L : NL} {l : List (PyData × PyData)} (h : DpKN K B L l) {ks : List NestedKey} {b : Addr} {v : V} {e : PyData} (hb : Dp K B (.ref b) (.tuple (NestedKey.datas ks))) (hz : (NestedKey.tup ks).depth ≤ 8) (hv : Dp K B v e) : DpKN K B (putN L (.tup ks) b v) (dPut l (.tuple (NestedKey.datas ks)) e) := by
  have rp : ∀ {kvs : NL} {l : List (PyData × PyData)}, DpKN K B kvs l → DpKN K B (kvs.map fun x => if x.1 = .tup ks then (x.1, x.2.1, v) else x) (dRep l (.tuple (NestedKey.datas ks)) e) := fun {kvs l} h => by
    induction kvs generalizing l with
    | nil => cases h; exact .nil
    | cons p kvs ih =>
      cases h with
      | @cons j c u _ d ds h0 h3 h1 t =>
        rw [List.map_cons]
        unfold dRep
        rw [kEq_tup]
        by_cases q : NestedKey.tup j = .tup ks
        · simp only [decide_eq_true q, cond_true, if_pos q]
          exact .cons h0 h3 hv (ih t)
        · simp only [decide_eq_false q, cond_false, if_neg q]
          exact .cons h0 h3 h1 (ih t)
  have ap : ∀ {kvs : NL} {l : List (PyData × PyData)}, DpKN K B kvs l → DpKN K B (kvs ++ [(.tup ks, b, v)]) (l ++ [(.tuple (NestedKey.datas ks), e)]) := fun {kvs l} h => by
    induction kvs generalizing l with
    | nil => cases h; exact .cons hb hz hv .nil
    | cons p kvs ih =>
      cases h with
      | cons h0 h3 h1 t => exact .cons h0 h3 h1 (ih t)
  obtain ⟨g1, g2⟩ := dGet_n h (ks := ks)
  unfold dPut putN
  cases hg : dGet l (.tuple (NestedKey.datas ks)) with
  | none =>
    rw [g2 hg]
    exact ap h
  | some x =>
    obtain ⟨u, hu, _⟩ := g1 x hg
    rw [hu]
    exact rp h
theorem dDel_n : ∀ {L : NL} {l : List (PyData × PyData)}, DpKN K B L l → ∀ {ks : List NestedKey}, DpKN K B (dropN L (.tup ks)) (dDel l (.tuple (NestedKey.datas ks)))
  | _, _, .nil, k => .nil
  | _, _, .cons (ks := j) (b := b) (v := v) (vs := L) (d := d) (ds := l) h0 hz h t, k => by
    unfold dropN dDel
    by_cases e : NestedKey.tup j = .tup k
    · rw [List.filter_cons_of_neg (by simpa using e), List.filter_cons_of_neg (by rw [kEq_tup]; simpa using e)]
      exact dDel_n t
    · rw [List.filter_cons_of_pos (by simpa using e), List.filter_cons_of_pos (by rw [kEq_tup]; simpa using e)]
      exact .cons h0 hz h (dDel_n t)
theorem putN_len {L : NL} {k : NestedKey} {b : Addr} {v : V} : (putN L k b v).length ≤ L.length + 1 := by
  unfold putN
  split
  · rw [List.length_map]; omega
  · simp
end
/-! ### at a heap -/
section
variable {X : Cx} {pins : List (Addr × Obj)} {σ : L2.St} {H B : Hp} {s : Shared} {a : Addr} {l : List (PyData × PyData)}
mutual
theorem nested_is (I : Inv X pins σ H s) : ∀ (k : NestedKey) (v : V) (u : Value), Dp X.kf H v k.data → RelV v u → NestedIs s.heap k u
  | .none, v, u, h, r => by
    rw [dp_none h] at r
    cases r
    exact .none
  | .num i, v, u, h, r => by
    rw [dp_int h] at r
    obtain ⟨t, rfl⟩ := r
    exact .int _ _
  | .text i, v, u, h, r => by
    rw [dp_str h] at r
    obtain ⟨t, rfl⟩ := r
    exact .text _ _
  | .tup ks, v, u, h, r => by
    obtain ⟨b, xs, rfl, h1, h2⟩ := dp_tup h
    obtain rfl : u = Value.ref b := r
    obtain ⟨its, rv, ⟨o, ho, hc, n, hd⟩, hz⟩ := I.tuple h1
    exact .tup ho hc hd (by simpa using nested_all I ks xs its h2 rv)
theorem nested_all (I : Inv X pins σ H s) : ∀ (k : List NestedKey) (v : List V) (u : List Value), DpAll X.kf H v (NestedKey.datas k) → Vals v u → NestedAll s.heap k u
  | [], v, u, h, r => by
    cases h
    cases r
    exact .nil
  | k :: ks, v, u, h, r => by
    cases h with
    | cons h1 h2 =>
      cases r with
      | cons r1 r2 => exact .cons (nested_is I k _ _ h1 r1) (nested_all I ks _ _ h2 r2)
end
theorem key_is (I : Inv X pins σ H s) {ks : List NestedKey} {b : Addr} (h : Dp X.kf H (.ref b) (.tuple (NestedKey.datas ks))) (hz : (NestedKey.tup ks).depth ≤ 8) : (nestedKind X.prog X.w).is s.heap (.tup ks) b :=
  ⟨nested_is I (.tup ks) (.ref b) (.ref b) h rfl, hz⟩
theorem keys_is (I : Inv X pins σ H s) : ∀ {L : NL} {l : List (PyData × PyData)} {xs : List (NestedKey × Addr × Value)}, DpKN X.kf H L l → NX L xs → ∀ x ∈ xs, (nestedKind X.prog X.w).is s.heap x.1 x.2.1
  | _, _, _, .nil, .nil => fun x hx => absurd hx (by simp)
  | _, _, _, .cons h0 hz h t, .cons (b := y) r t' => fun x hx => by
    rcases List.mem_cons.mp hx with rfl | hx
    · rw [← r.1, ← r.2.1]
      exact key_is I h0 hz
    · exact keys_is I t t' x hx
theorem nOk_obj {K : KF} {L : NL} {h : Heap} (x : NOk K a L h) : ObjOk K.P K.w H h a (nO K a L) := by
  refine ⟨x, ?_, ?_⟩
  · obtain ⟨xs, o, es, ep, _, e, _⟩ := x.obj
    exact ⟨o, e⟩
  · rintro h1 h2 y k
    obtain ⟨xs, o, es, ep, e1, e2, e3⟩ := y.obj
    exact ⟨y.low, y.len, y.nd, xs, o, es, ep, e1, k o e2, e3⟩
theorem nOk_of {L : NL} (I : Inv X pins σ H s) (e : H a = some (nO X.kf a L)) : NOk X.kf a L s.heap := (I.hok a _ e).1
/-- keys that are ints and texts -/
theorem dic_k (I : Inv X pins σ H s) (h : DicAt X.kf B H a l) (hk : (l.all fun p => isK p.1) = true) : (a == sysModules) = false ∧ l.length ≤ sizeLine ∧ ∃ kvs vs, KV kvs vs ∧ s.heap.DictOf (mixKind X.prog X.w) a vs ∧ DpKV X.kf B kvs l := by
  rcases h with ⟨kvs, h1, h2⟩ | ⟨L, h1, h2⟩
  · obtain ⟨z, hd, vs, rel, dd⟩ := dk_of I.hok h1
    exact ⟨hd, by rw [← dpKV_len h2]; exact z, kvs, vs, rel, dd, h2⟩
  · obtain ⟨rfl, rfl⟩ := dpKN_nN h2 hk
    obtain ⟨hd, z, nd, xs, o, es, ep, e1, e2, e3, e4, e5⟩ := nOk_of I h1
    cases e1
    have e6 : es = #[] := by simpa using e5
    subst e6
    exact ⟨hd, z, [], [], .nil, ⟨o, #[], ep, e2, e3, e4, fun x hx => by simp at hx, .nil, List.nodup_nil⟩, .nil⟩
/-- keys that are tuples -/
theorem dic_n (I : Inv X pins σ H s) (eB : Ex B H) (h : DicAt X.kf B H a l) (hk : (l.all fun p => isN p.1) = true) : (a == sysModules) = false ∧ l.length ≤ sizeLine ∧ ∃ L xs, NX L xs ∧ s.heap.DictOfH (nestedKind X.prog X.w) a xs ∧ DpKN X.kf B L l ∧ (L.map (·.1)).Nodup := by
  rcases h with ⟨kvs, h1, h2⟩ | ⟨L, h1, h2⟩
  · obtain ⟨rfl, rfl⟩ := dpKV_nK h2 hk
    obtain ⟨z, hd, vs, rel, dd⟩ := dk_of I.hok h1
    cases rel
    obtain ⟨o, es, ep, e2, e3, e4, e5, e6, e7⟩ := dd
    generalize he : es.toList = el at e6
    cases e6
    exact ⟨hd, z, [], [], .nil, ⟨o, es, ep, e2, e3, e4, he, fun x hx => by simp at hx, List.nodup_nil⟩, .nil, List.nodup_nil⟩
  · obtain ⟨hd, z, nd, xs, o, es, ep, e1, e2, e3, e4, e5⟩ := nOk_of I h1
    exact ⟨hd, by rw [← dpKN_len h2]; exact z, L, xs, e1, ⟨o, es, ep, e2, e3, e4, e5, keys_is I (dpKN_mono eB h2) e1, by rw [← NX.keys e1]; exact nd⟩, h2, nd⟩
end
end Z
set_option maxHeartbeats 2000000
/-! Z: dicts by values. -/
namespace Z
open PySem PySem.Spec PyProof.Rows L2
open Evl (Ex ex_l ex_t ex_rd)
section
variable {X : Cx}
theorem nroom {A : Around} (hu : A.units + 64 < cLine) : (nestedKind X.prog X.w).room A := show A.units + 8 < cLine by omega
theorem nroom1 {A : Around} (hu : A.units + 64 < cLine) : (nestedKind X.prog X.w).room A.in1 := show A.units + 1 + 8 < cLine by omega
/-- d[k] -/
def rDG (K : KF) : R2 := fun x y H Q => ∃ B a l d e, x = .ref a ∧ Ex B H ∧ DicAt K B H a l ∧ Dp K B y d ∧ kOk l d = true ∧ dGet l d = some e ∧ ∀ v, Dp K B v e → Q v H
theorem dic_get {pins : List (Addr × Obj)} {σ : L2.St} {H B : Hp} {s : Shared} {a : Addr} {l : List (PyData × PyData)} {y : V} {u : Value} {d e : PyData} {Q : Value → Shared → Prop} {A : Around} {E : Value → Shared → Prop} (hu : A.units + 64 < cLine) (I : Inv X pins σ H s) (eB : Ex B H) (h : DicAt X.kf B H a l) (hy : Dp X.kf B y d) (ry : RelV y u) (hk : kOk l d = true) (hg : dGet l d = some e)
    (hQ : ∀ v w s', Inv X pins σ H s' → RelV v w → Dp X.kf B v e → Q w s') : s.TypeIs (.ref a) "dict" ∧ wpAny (model X.prog X.w) A (getItem (.ref a) u) Q E s := by
  unfold kOk at hk
  cases hd : isK d with
  | true =>
    rw [hd, cond_true] at hk
    obtain ⟨k, _, rfl⟩ := isK_of hd
    obtain ⟨lo, z, kvs, vs, rel, dd, dp⟩ := dic_k I h hk
    obtain ⟨v, hv, hve⟩ := (dGet_k dp).1 e hg
    obtain ⟨w', hw, rw'⟩ := RelO.some_of (v := v) (o := valueAt vs k) (by rw [← hv]; exact rel.val k)
    have ey : y = kV k := by
      cases k with
      | inl i => exact dp_int hy
      | inr i => exact dp_str hy
    subst ey
    exact ⟨dd.typeIs, wpAny_getItem_of (kV_is ry) dd.mapOf hw (hQ v w' _ (I.tok _) rw' hve)⟩
  | false =>
    rw [hd, cond_false] at hk
    have hk := Bool.and_eq_true_iff.mp hk
    obtain ⟨ks, rfl, hz⟩ := isN_of hk.1
    obtain ⟨lo, z, L, xs, nx, dd, dp, nd⟩ := dic_n I eB h hk.2
    obtain ⟨v, hv, hve⟩ := (dGet_n dp).1 e hg
    obtain ⟨b, ys, rfl, h1, h2⟩ := dp_tup hy
    obtain rfl : u = Value.ref b := ry
    obtain ⟨w', hw, rw'⟩ := RelO.some_of (v := v) (o := (atKey xs (.tup ks)).map (·.2)) (by rw [← hv]; exact nx.at_)
    obtain ⟨p, hp, hp2⟩ := Option.map_eq_some_iff.mp hw
    refine ⟨dd.typeIs, wpAny_getItem_heap (nroom1 hu) (key_is I (dp_mono eB hy) hz) dd hp ?_⟩
    rw [hp2]
    exact hQ v w' _ (I.tok _) rw' hve
theorem dic_no {pins : List (Addr × Obj)} {σ : L2.St} {H B : Hp} {s : Shared} {a : Addr} {l : List (PyData × PyData)} (I : Inv X pins σ H s) (h : DicAt X.kf B H a l) : s.TypeIs (.ref a) "dict" ∧ (∀ b, Value.ref a = .ref b → ∃ ob, s.heap.get? b = some ob ∧ ob.dict = none) ∧ (a == sysModules) = false := by
  rcases h with ⟨kvs, h1, h2⟩ | ⟨L, h1, h2⟩
  · exact isD_at I (.inl ⟨kvs, .inl h1⟩)
  · obtain ⟨hd, z, nd, xs, o, es, ep, e1, e2, e3, e4, e5⟩ := nOk_of I h1
    refine ⟨⟨o, e2, e3.1⟩, fun b q => ?_, hd⟩
    cases q
    exact ⟨o, e2, e3.2.1⟩
theorem ix_dic (hu : X.A.units + 64 < cLine) : IxR X (rDG X.kf) := by
  intro value slice pins s σ H x y v u Q I rx ry h hs
  obtain ⟨B, a, l, d, e, rfl, eB, hd, hy, hk, hg, q⟩ := h
  obtain rfl : v = Value.ref a := rx
  obtain ⟨t1, t2⟩ := dic_get (Q := EP X pins σ Q) (E := X.xe) hu I eB hd hy ry hk hg fun v w s' I' r' dv => ⟨v, H, I', r', q v dv⟩
  exact tail_any t1 PySem.F.slot_dict_getitem.lookup t2 hs
/-- k in d -/
def rDI (neg : Bool) (K : KF) : R2 := fun x y H Q => ∃ B a l d, y = .ref a ∧ Ex B H ∧ DicAt K B H a l ∧ Dp K B x d ∧ kOk l d = true ∧ Q (.bl (neg != (dGet l d).isSome)) H
theorem isSome_of_k {K : KF} {B : Hp} {kvs : List (Key × V)} {l : List (PyData × PyData)} (dp : DpKV K B kvs l) {k : Key} : (dGet l (kD k)).isSome = (valV kvs k).isSome := by
  obtain ⟨h1, h2⟩ := dGet_k dp (k := k)
  cases e : dGet l (kD k) with
  | none => rw [h2 e]; rfl
  | some x =>
    obtain ⟨v, hv, _⟩ := h1 x e
    rw [hv]
    rfl
theorem isSome_of_n {K : KF} {B : Hp} {L : NL} {l : List (PyData × PyData)} (dp : DpKN K B L l) {ks : List NestedKey} : (dGet l (.tuple (NestedKey.datas ks))).isSome = (atN L (.tup ks)).isSome := by
  obtain ⟨h1, h2⟩ := dGet_n dp (ks := ks)
  cases e : dGet l (.tuple (NestedKey.datas ks)) with
  | none => rw [h2 e]; rfl
  | some x =>
    obtain ⟨v, hv, _⟩ := h1 x e
    rw [hv]
    rfl
theorem op_inDic (hu : X.A.units + 64 < cLine) : OpR X (compareOp .In) (rDI false X.kf) := by
  intro pins s σ H x y v u Q I rx ry h
  obtain ⟨B, a, l, d, rfl, eB, hd, hy, hk, q⟩ := h
  obtain rfl : u = Value.ref a := ry
  unfold kOk at hk
  cases hd2 : isK d with
  | true =>
    rw [hd2, cond_true] at hk
    obtain ⟨k, _, rfl⟩ := isK_of hd2
    obtain ⟨lo, z, kvs, vs, rel, dd, dp⟩ := dic_k I hd hk
    have ey : x = kV k := by
      cases k with
      | inl i => exact dp_int hy
      | inr i => exact dp_str hy
    subst ey
    refine wpAny_in_of (kV_is rx) lo dd.mapOf ?_
    rw [← (rel.val k).isSome_eq, ← isSome_of_k dp]
    exact ⟨.bl _, H, I.tok _, rfl, by simpa using q⟩
  | false =>
    rw [hd2, cond_false] at hk
    have hk := Bool.and_eq_true_iff.mp hk
    obtain ⟨ks, rfl, hz⟩ := isN_of hk.1
    obtain ⟨lo, z, L, xs, nx, dd, dp, nd⟩ := dic_n I eB hd hk.2
    obtain ⟨b, ys, rfl, h1, h2⟩ := dp_tup hy
    obtain rfl : v = Value.ref b := rx
    refine wpAny_in_heap (nroom1 hu) (key_is I (dp_mono eB hy) hz) lo dd ?_
    have e := RelO.isSome_eq (nx.at_ (k := .tup ks))
    rw [Option.isSome_map] at e
    rw [← e, ← isSome_of_n dp]
    exact ⟨.bl _, H, I.tok _, rfl, by simpa using q⟩
theorem op_notInDic (hu : X.A.units + 64 < cLine) : OpR X (compareOp .NotIn) (rDI true X.kf) := by
  intro pins s σ H x y v u Q I rx ry h
  obtain ⟨B, a, l, d, rfl, eB, hd, hy, hk, q⟩ := h
  obtain rfl : u = Value.ref a := ry
  unfold kOk at hk
  cases hd2 : isK d with
  | true =>
    rw [hd2, cond_true] at hk
    obtain ⟨k, _, rfl⟩ := isK_of hd2
    obtain ⟨lo, z, kvs, vs, rel, dd, dp⟩ := dic_k I hd hk
    have ey : x = kV k := by
      cases k with
      | inl i => exact dp_int hy
      | inr i => exact dp_str hy
    subst ey
    refine wpAny_notIn_of (kV_is rx) lo dd.mapOf ?_
    rw [← (rel.val k).isSome_eq, ← isSome_of_k dp]
    exact ⟨.bl _, H, I.tok _, rfl, by simpa using q⟩
  | false =>
    rw [hd2, cond_false] at hk
    have hk := Bool.and_eq_true_iff.mp hk
    obtain ⟨ks, rfl, hz⟩ := isN_of hk.1
    obtain ⟨lo, z, L, xs, nx, dd, dp, nd⟩ := dic_n I eB hd hk.2
    obtain ⟨b, ys, rfl, h1, h2⟩ := dp_tup hy
    obtain rfl : v = Value.ref b := rx
    refine wpAny_notIn_heap (nroom1 hu) (key_is I (dp_mono eB hy) hz) lo dd ?_
    have e := RelO.isSome_eq (nx.at_ (k := .tup ks))
    rw [Option.isSome_map] at e
    rw [← e, ← isSome_of_n dp]
    exact ⟨.bl _, H, I.tok _, rfl, by simpa using q⟩
/-- d[k] = v: what holds behind it -/
def PutQ (K : KF) (B H : Hp) (a : Addr) (l : List (PyData × PyData)) (Q : Hp → Prop) : Prop := ∀ ob, DicAt K B (upd H a ob) a l → Q (upd H a ob)
theorem mut_dic {K : KF} {H B : Hp} {a : Addr} {l : List (PyData × PyData)} (h : DicAt K B H a l) : Mut (H a) := by
  rcases h with ⟨kvs, h1, _⟩ | ⟨L, h1, _⟩
  · rw [h1]; exact True.intro
  · rw [h1]; exact True.intro
theorem nd_keys {K : Type} [DecidableEq K] {xs : List (K × Addr × Value)} {k : K} {b : Addr} {u : Value} (h : (xs.map (·.1)).Nodup) : ((storedH xs k b u).map (·.1)).Nodup := by
  have pk : ∀ xs : List (K × Addr × Value), (xs.map (putAt k u)).map (·.1) = xs.map (·.1) := fun xs => by
    induction xs with
    | nil => rfl
    | cons x xs ih =>
      rw [List.map_cons, List.map_cons, List.map_cons, ih]
      congr 1
      unfold putAt
      split <;> rfl
  unfold storedH
  split
  · rw [pk]; exact h
  · rename_i z
    have hn : k ∉ xs.map (·.1) := fun m => by
      obtain ⟨x, hx, e⟩ := List.mem_map.mp m
      refine z ?_
      unfold atKey
      rw [Option.isSome_map]
      exact List.find?_isSome.mpr ⟨x, hx, decide_eq_true e⟩
    rw [List.map_append, List.nodup_append]
    refine ⟨h, by simp, fun x hx y hy => ?_⟩
    have : y = k := by simpa using hy
    subst this
    exact fun e => hn (e ▸ hx)
theorem dic_put {pins : List (Addr × Obj)} {σ : L2.St} {H B : Hp} {s : Shared} {a : Addr} {l : List (PyData × PyData)} {y v : V} {u w : Value} {d e : PyData} {Q : Hp → Prop} {A : Around} {E : Value → Shared → Prop} (hu : A.units + 64 < cLine) (I : Inv X pins σ H s) (eB : Ex B H) (h : DicAt X.kf B H a l) (hy : Dp X.kf B y d) (ry : RelV y u) (hv : Dp X.kf B v e) (rv : RelV v w)
    (hk : kOk l d = true) (hl : l.length < sizeLine) (hQ : PutQ X.kf B H a (dPut l d e) Q) :
    wpAny (model X.prog X.w) A (setItem (.ref a) u w) (fun _ s' => ∃ H', Inv X pins σ H' s' ∧ Q H') E s ∧ wpAny (model X.prog X.w) A (dictSet a u w) (fun _ s' => ∃ H', Inv X pins σ H' s' ∧ Q H') E s := by
  unfold kOk at hk
  cases hd : isK d with
  | true =>
    rw [hd, cond_true] at hk
    obtain ⟨k, _, rfl⟩ := isK_of hd
    obtain ⟨lo, z, kvs, vs, rel, dd, dp⟩ := dic_k I h hk
    have ey : y = kV k := by
      cases k with
      | inl i => exact dp_int hy
      | inr i => exact dp_str hy
    subst ey
    have hz : vs.length ≤ sizeLine := by rw [← rel.length, dpKV_len dp]; exact z
    have hl2 : (putK kvs k v).length ≤ sizeLine := by
      have := length_putK kvs k v
      have := dpKV_len dp
      omega
    have fin : ∀ (h' : Heap) (t : Nat), h'.DictOf (mixKind X.prog X.w) a (stored vs k w) → Heap.SameBut a s.heap h' → ∃ H', Inv X pins σ H' { s with heap := h', toks := t } ∧ Q H' := fun h' t dd' hs => by
      have he : ∃ q, h'.get? a = some q := let ⟨q, _, _, hq, _⟩ := dd'; ⟨q, hq⟩
      exact ⟨_, d_write (t' := t) I (mut_dic h) hs he (dk_new hl2 lo (rel.put k rv) dd'), hQ _ (.inl ⟨_, upd_same, dPut_k dp hv⟩)⟩
    exact ⟨wpAny_setItem_pairs (hsz := hz) (kV_is ry) dd fun h' dd' hs => fin h' _ dd' hs, wpAny_dictSet_pairs (hsz := hz) (kV_is ry) dd fun h' dd' hs => fin h' _ dd' hs⟩
  | false =>
    rw [hd, cond_false] at hk
    have hk := Bool.and_eq_true_iff.mp hk
    obtain ⟨ks, rfl, hz⟩ := isN_of hk.1
    obtain ⟨lo, z, L, xs, nx, dd, dp, nd⟩ := dic_n I eB h hk.2
    obtain ⟨b, ys, rfl, h1, h2⟩ := dp_tup hy
    obtain rfl : u = Value.ref b := ry
    have hl1 : L.length = xs.length := Paired.length nx
    have hl2 := dpKN_len dp
    have fin : ∀ (h' : Heap) (t : Nat), h'.DictOfH (nestedKind X.prog X.w) a (storedH xs (.tup ks) b w) → Heap.SameBut a s.heap h' → ∃ H', Inv X pins σ H' { s with heap := h', toks := t } ∧ Q H' := fun h' t dd' hs => by
      obtain ⟨o, es, ep, g1, g2, g3, g4, g5, g6⟩ := dd'
      have nx' := nx.put (k := .tup ks) (b := b) rv
      have ok : NOk X.kf a (putN L (.tup ks) b v) h' := ⟨lo, by have := putN_len (L := L) (k := .tup ks) (b := b) (v := v); omega, by rw [NX.keys nx']; exact g6, _, o, es, ep, nx', g1, g2, g3, g4⟩
      refine ⟨_, d_write (t' := t) I (mut_dic h) hs ⟨o, g1⟩ (nOk_obj ok), hQ _ (.inr ⟨_, upd_same, dPut_n dp hy hz hv⟩)⟩
    exact ⟨wpAny_setItem_heap (hsz := by omega) (nroom1 hu) (key_is I (dp_mono eB hy) hz) dd fun h' dd' hs => fin h' _ dd' hs, wpAny_dictSet_heap (hu := nroom hu) (hsz := by omega) (key_is I (dp_mono eB hy) hz) dd fun h' dd' hs => fin h' _ dd' hs⟩
/-- d[k] = v -/
def sDP (K : KF) : TSet := fun o i v H Q => ∃ B a l d e, o = .ref a ∧ Ex B H ∧ DicAt K B H a l ∧ Dp K B i d ∧ Dp K B v e ∧ kOk l d = true ∧ l.length < sizeLine ∧ PutQ K B H a (dPut l d e) Q
theorem set_dic (hu : X.A.units + 64 < cLine) : PSet X (sDP X.kf) := by
  intro pins s σ H o i v ov iv u Q I ro ri rv h
  obtain ⟨B, a, l, d, e, rfl, eB, hd, hi, hv, hk, hl, q⟩ := h
  obtain rfl : ov = Value.ref a := ro
  exact (dic_put hu I eB hd hi ri hv rv hk hl q).1
end
end Z
set_option maxHeartbeats 2000000
/-! Z: dict comprehensions. -/
namespace Z
open PySem PySem.Spec PyProof.Rows L2
open Evl (Ex ex_l ex_t ex_rd)
section
variable {X : Cx}
/-- {k: v for target in iter if ..}: D the new dict -/
def tDz (K : KF) (wi : TI) (g : TG) (tt : TT) (tk tv : TE) (vs : List Nat) : TE := fun σ H Q => wi σ H fun It H1 => ∀ D, H1 D = none → ∃ W : Nat → Nat → Hp → Prop, (∃ m, W 0 m (upd H1 D (.dK []))) ∧ ∀ i m G, W i m G →
  (It.stop i G ∧ Q (.ref D) G) ∨ (It.go i G ∧ ∃ Nx : Hp → Prop, (∀ G', Nx G' → ∃ m', m' < m ∧ W (i + 1) m' G') ∧ ∀ x G', It.yld i G x G' → g x (wipe σ vs) G' fun σ2 G2 => wipe σ2 vs = wipe σ vs ∧ tt σ2 G2 fun b G3 =>
    if b = true then tk σ2 G3 fun y G4 => tv σ2 G4 fun z G5 => sDP K (.ref D) y z G5 Nx else Nx G3)
theorem dz_core {pins : List (Addr × Obj)} {s0 : Shared} {σ : L2.St} {H : Hp} {Q : VK} {ke ve te it : Expr} {cs : List Expr} {blk : Scope} {own : List (Str × Nat)} {pos pos' : Pos} {wi : TI} {g : TG} {tt : TT} {tk tv : TE} {use : Option (Value → Sem Unit)} {Qf : Value → Shared → Prop}
    (hu : X.A.units + 64 < cLine) (calm : X.calm = true) (nd : X.N.Nodup) (I0 : Inv X pins σ H s0) (pi : PI X te it wi) (bo : BlkOk X.N X.env.scope blk own)
    (rg : ∀ (s : Shared) (H : Hp) (C : Addr) (cl : List (Str × Addr)) (fp : List Addr), PG (X.blk s H blk (compEnvC blk cl C X.env) fp) te g) (rt : ∀ (s : Shared) (H : Hp) (C : Addr) (cl : List (Str × Addr)) (fp : List Addr), PTs (X.blk s H blk (compEnvC blk cl C X.env) fp) cs tt)
    (rk : ∀ (s : Shared) (H : Hp) (C : Addr) (cl : List (Str × Addr)) (fp : List Addr), PE (X.blk s H blk (compEnvC blk cl C X.env) fp) ke tk) (rv : ∀ (s : Shared) (H : Hp) (C : Addr) (cl : List (Str × Addr)) (fp : List Addr), PE (X.blk s H blk (compEnvC blk cl C X.env) fp) ve tv)
    (fold : ∀ x, foldedSetIterable it X.env x = pure x) (w0 : tDz X.kf wi g tt tk tv (own.map (·.2)) σ H Q)
    (back : ∀ D C s' m H', Inv X pins σ H' s' → Q (.ref D) H' → s'.heap.Ns C m → FpOk X pins H' C → compPost (model X.prog X.w) X.A X.xe use Qf (.ref D) C (.ok .next) s') :
    wpAny (model X.prog X.w) X.A (comprehension (.DictComp ke ve [⟨te, it, cs, 0⟩] blk pos) blk X.env pos' newDict false (eval it X.env) use) Qf X.xe s0 := by
  have fr : ∀ y ∈ blk.names, y.2 = .free → ∃ c, X.env.cells.lookup y.1 = some c := fun y hy e => (bo.free y hy e).elim (fun k => I0.ok.has _ (.inl k)) fun k => I0.ok.has _ (.inr k)
  refine wpAny_comprehension_free (use := use) rfl fold (closure_ok fr) bo.kind (fun y hy e => by rw [bo.uniq y hy, e]) (thn (pi.run pins s0 σ H _ I0 w0) fun _ _ y0 => thn y0 fun itv t2 z2 => ?_)
  obtain ⟨ix, fp, tn, It, G2, e2, J2, Tn, st2, f2, q2⟩ := z2
  subst e2
  refine wpAny_newObj_type (newEnv_comp ?_)
  generalize eD : t2.heap.objs.size = D
  have freshD : G2 D = none := J2.hok.fresh (Nat.le_of_eq eD)
  obtain ⟨W, ⟨m0, w1⟩, walk⟩ := q2 D freshD
  generalize e3 : ({ t2 with heap := t2.heap.push { cls := .type "dict", data := .dict #[] } } : Shared) = t3
  have J3 : Inv X pins σ (upd G2 D (.dK [])) t3 := by
    subst e3 eD
    exact J2.laid (t' := t2.toks) (fun _ _ => Heap.get?_push_of_some _) (Nat.le_refl _) (dk_empty t2.heap J2.big)
  have h3 : t3.heap = t2.heap.push { cls := .type "dict", data := .dict #[] } := by subst e3; rfl
  have f3 : ∀ b ∈ fp, FpOk X pins (upd G2 D (.dK [])) b ∧ b < t3.heap.objs.size := fun b hb => by
    obtain ⟨o, eo, _⟩ := Tn.obj _ _ st2 b hb
    have lt2 : b < t2.heap.objs.size := Heap.lt_size eo
    exact ⟨⟨by rw [upd_ne (by subst eD; exact Nat.ne_of_lt lt2)]; exact (f2 b hb).1, (f2 b hb).2⟩, by rw [h3, Heap.size_push]; exact Nat.lt_succ_of_lt lt2⟩
  have st3 : tn 0 t3.heap := Tn.keep _ _ _ st2 fun b _ o eo => by rw [h3]; exact Heap.get?_push_of_some _ eo
  have J4 := block_start J3 bo nd f3
  have pg := rg t3 (upd G2 D (.dK [])) t3.heap.objs.size (cellsFrom (t3.heap.objs.size + 1) blk.names (cloFrom X.env.cells blk.names [])) fp
  have pt := rt t3 (upd G2 D (.dK [])) t3.heap.objs.size (cellsFrom (t3.heap.objs.size + 1) blk.names (cloFrom X.env.cells blk.names [])) fp
  have pk := rk t3 (upd G2 D (.dK [])) t3.heap.objs.size (cellsFrom (t3.heap.objs.size + 1) blk.names (cloFrom X.env.cells blk.names [])) fp
  have pv := rv t3 (upd G2 D (.dK [])) t3.heap.objs.size (cellsFrom (t3.heap.objs.size + 1) blk.names (cloFrom X.env.cells blk.names [])) fp
  show codeAny _ _ (.compStart (.DictComp ke ve [⟨te, it, cs, 0⟩] blk pos) 0 (.ref ix) (.ref D) (compEnvC blk (cellsFrom (t3.heap.objs.size + 1) blk.names (cloFrom X.env.cells blk.names [])) t3.heap.objs.size X.env)) (compPost (model X.prog X.w) X.A X.xe use Qf (.ref D) t3.heap.objs.size) { t3 with heap := pushCells (t3.heap.push { cls := .type "dict", data := .dict #[] }) blk.names }
  have free3 : ∀ b ∈ fp, (upd G2 D (.dK [])) b = none := fun b hb => (f3 b hb).1.1
  generalize eenv : compEnvC blk (cellsFrom (t3.heap.objs.size + 1) blk.names (cloFrom X.env.cells blk.names [])) t3.heap.objs.size X.env = en at J4 pg pt pk pv ⊢
  have locs : en.locals = t3.heap.objs.size := by subst eenv; rfl
  generalize eG3 : upd G2 D (.dK []) = G3 at J3 J4 pg pt pk pv w1 free3 f3
  generalize e4 : ({ t3 with heap := pushCells (t3.heap.push { cls := .type "dict", data := .dict #[] }) blk.names } : Shared) = t4 at J4 ⊢
  have st4 : tn 0 t4.heap := Tn.keep _ _ _ st3 fun b _ o eo => by subst e4; exact pushCells_keeps _ _ _ _ (Heap.get?_push_of_some _ eo)
  have quiet : ∀ {σ' : L2.St} {G' : Hp} {t' : Shared}, Inv (X.blk t3 G3 blk en fp) [] σ' G' t' → (∀ b ∈ fp, G' b = none) → ∀ b ∈ fp, FpOk (X.blk t3 G3 blk en fp) [] G' b := fun {σ' G' t'} J n b hb =>
    ⟨n b hb, (J.ok.exf b hb).1, J.ok.exfs b hb, .inl hb, fun x c e => (J.ok.exf b hb).2 x c e, fun p hp => absurd (show p ∈ ([] : List (Addr × Obj)) ++ [] from hp) (by simp)⟩
  have loop : codeAny (model X.prog X.w) X.A (.compLoop (.DictComp ke ve [⟨te, it, cs, 0⟩] blk pos) 0 (.ref ix) (.ref D) en) (compPost (model X.prog X.w) X.A X.xe use Qf (.ref D) t3.heap.objs.size) t4 := by
    refine compLoop_anyD (fun n t' => ∃ i G', Inv (X.blk t3 G3 blk en fp) [] (wipe σ (own.map (·.2))) G' t' ∧ tn i t'.heap ∧ (∀ b ∈ fp, G' b = none) ∧ W i n G') ?_ m0 ⟨0, G3, J4, st4, free3, w1⟩
    rintro n t5 ⟨i, G5, J5, st5, n5, w5⟩
    rcases walk i n G5 w5 with ⟨stop, fin⟩ | ⟨go, Nx, next, step⟩
    · refine thnF (Tn.done (X.blk t3 G3 blk en fp) rfl rfl rfl calm i [] t5 _ G5 (fun _ _ => False) J5 (quiet J5 n5) st5 stop) fun _ t6 ⟨er, J6⟩ => ?_
      subst er
      have J7 : Inv X pins σ G5 t6 := J3.call' (ch := fp) J6.os J6.base J6.hok J6.bare fun b hb => ⟨(f3 b hb).1.2.2.2.1, (f3 b hb).1.2.1, (f3 b hb).1.2.2.2.2.1, (f3 b hb).1.2.2.2.2.2⟩
      have noC : G5 t3.heap.objs.size = none := by rw [← locs]; exact J6.free
      obtain ⟨m, ns, _⟩ := J6.loc
      have ns' : t6.heap.Ns t3.heap.objs.size m := by rw [← locs]; exact ns
      exact back D t3.heap.objs.size t6 m G5 J7 fin ns' (J3.fpOk (Nat.le_refl _) noC)
    · refine thnF (Tn.item (X.blk t3 G3 blk en fp) rfl rfl rfl calm i [] t5 _ G5 (fun _ _ => False) J5 (quiet J5 n5) st5 go) fun _ t6 ⟨u, er, z6⟩ => ?_
      subst er
      refine thnF z6 fun _ t7 ⟨x, G7, J7, r7, y7, st7, n7⟩ => ?_
      have J7' := J7.pinned (quiet J7 n7) (Tn.obj _ _ st7)
      refine thnF (pg.run _ t7 _ G7 x u _ J7' r7 (step x G7 y7)) fun _ t8 ⟨σ8, G8, J8, w8, q8⟩ => ?_
      refine thnF (pt.run _ t8 σ8 G8 _ J8 q8) fun b t9 ⟨G9, J9, q9⟩ => ?_
      have turn : ∀ {t' : Shared} {G' : Hp}, Inv (X.blk t3 G3 blk en fp) ([] ++ pinsAt fp t7.heap) σ8 G' t' → Nx G' → ∃ m, m < n ∧ ∃ i G', Inv (X.blk t3 G3 blk en fp) [] (wipe σ (own.map (·.2))) G' t' ∧ tn i t'.heap ∧ (∀ b ∈ fp, G' b = none) ∧ W i m G' := fun {t' G'} J nx => by
        obtain ⟨m', lm, w'⟩ := next G' nx
        have held : ∀ b ∈ fp, ∀ o, t7.heap.get? b = some o → t'.heap.get? b = some o ∧ G' b = none := fun b hb o eo =>
          have z := J.pin (b, o) (List.mem_append_right _ (List.mem_append_right _ (mem_pinsAt hb eo)))
          ⟨z.1, z.2.1⟩
        have len : (wipe σ (own.map (·.2))).length = σ8.length := by rw [← w8, wipe_length]
        refine ⟨m', lm, i + 1, G', (J.unpinned (pins := [])).weak len (fun j v e => by rw [← w8] at e; exact (wipe_some e).1), Tn.keep _ _ _ st7 fun b hb o eo => (held b hb o eo).1, fun b hb => ?_, w'⟩
        obtain ⟨o, eo, _⟩ := Tn.obj _ _ st7 b hb
        exact (held b hb o eo).2
      cases b with
      | false =>
        simp only [Bool.false_eq_true, if_false] at q9 ⊢
        exact turn J9 q9
      | true =>
        simp only [if_true] at q9 ⊢
        refine thnF (pk.run _ t9 σ8 G9 _ J9 q9) fun kk t10 ⟨yk, G10, J10, r10, q10⟩ => thnF (pv.run _ t10 σ8 G10 _ J10 q10) fun vv t11 ⟨yv, G11, J11, r11, q11⟩ => ?_
        obtain ⟨B, a, l, d, e, ea, eB, hd, hi, hv, hk, hl, q⟩ := q11
        cases ea
        exact thnF (dic_put (X := X.blk t3 G3 blk en fp) (E := fun _ _ => False) hu J11 eB hd hi r10 hv r11 hk hl q).2 fun _ t12 ⟨G12, J12, q12⟩ => turn J12 q12
  exact codeAny_compStart_dict loop (Tn.self X.A 0 _ _ _ st4 loop)
theorem pe_dz {ke ve te it : Expr} {cs : List Expr} {blk : Scope} {own : List (Str × Nat)} {pos : Pos} {wi : TI} {g : TG} {tt : TT} {tk tv : TE} (hu : X.A.units + 64 < cLine) (calm : X.calm = true) (nd : X.N.Nodup) (pi : PI X te it wi) (bo : BlkOk X.N X.env.scope blk own)
    (rg : ∀ (s : Shared) (H : Hp) (C : Addr) (cl : List (Str × Addr)) (fp : List Addr), PG (X.blk s H blk (compEnvC blk cl C X.env) fp) te g) (rt : ∀ (s : Shared) (H : Hp) (C : Addr) (cl : List (Str × Addr)) (fp : List Addr), PTs (X.blk s H blk (compEnvC blk cl C X.env) fp) cs tt)
    (rk : ∀ (s : Shared) (H : Hp) (C : Addr) (cl : List (Str × Addr)) (fp : List Addr), PE (X.blk s H blk (compEnvC blk cl C X.env) fp) ke tk) (rv : ∀ (s : Shared) (H : Hp) (C : Addr) (cl : List (Str × Addr)) (fp : List Addr), PE (X.blk s H blk (compEnvC blk cl C X.env) fp) ve tv)
    (fold : ∀ x, foldedSetIterable it X.env x = pure x := by intro _; rfl) : PE X (.DictComp ke ve [⟨te, it, cs, 0⟩] blk pos) (tDz X.kf wi g tt tk tv (own.map (·.2))) := by
  refine ⟨fun pins s σ H Q I w0 => ?_⟩
  rw [arm_eval_DictComp]
  refine dz_core hu calm nd I pi bo rg rt rk rv fold w0 fun D C t m G J q ns f => ⟨m, ns, fun h'' sb => ?_⟩
  obtain ⟨f0, f1, f2, f3, f4, f5⟩ := f
  exact ⟨.ref D, G, J.turned (t' := t.toks) (fun b o hb eo => (sb.2 b hb).trans eo) f0 f1 f3 f4 f5, rfl, q⟩
end
/-! ### the mirror -/
def dcL (vs : List Nat) (g : CG) (ct ck cv : CE) : List PyData → En → List (PyData × PyData) → Option (List (PyData × PyData) × En)
  | [], ρ, acc => some (acc, ρ)
  | d :: ds, ρ, acc => match g d (wipeE ρ vs) with
    | none => none
    | some ρ1 => match ct ρ1 with
      | .ok (.dat (.bool true)) ρ2 => match ck ρ2 with
        | .ok k ρ3 => match cv ρ3 with
          | .ok v ρ4 => bif kOk acc k.d && decide (acc.length < sizeLine) then dcL vs g ct ck cv ds ρ4 (dPut acc k.d v.d) else none
          | _ => none
        | _ => none
      | .ok (.dat (.bool false)) ρ2 => dcL vs g ct ck cv ds ρ2 acc
      | _ => none
def cDc (vs : List Nat) (src : CA) (g : CG) (ct ck cv : CE) : CE := fun ρ => match src ρ with
  | .ok ds ρ1 => bif noOwn ρ1 vs then (match dcL vs g ct ck cv ds ρ1 [] with
    | some (acc, ρ2) => .ok (.dic acc) (restoreE ρ1 ρ2 vs)
    | none => .bad) else .bad
  | .exc x ρ1 => .exc x ρ1
  | .bad => .bad
theorem DicAt.mono {K : KF} {B B' H : Hp} {a : Addr} {l : List (PyData × PyData)} (e : Ex B B') (h : DicAt K B H a l) : DicAt K B' H a l := by
  rcases h with ⟨kvs, h1, h2⟩ | ⟨L, h1, h2⟩
  · exact .inl ⟨kvs, h1, dpKV_mono e h2⟩
  · exact .inr ⟨L, h1, dpKN_mono e h2⟩
theorem DicAt.at {K : KF} {B H H' : Hp} {a : Addr} {l : List (PyData × PyData)} (e : H' a = H a) (h : DicAt K B H a l) : DicAt K B H' a l := by
  rcases h with ⟨kvs, h1, h2⟩ | ⟨L, h1, h2⟩
  · exact .inl ⟨kvs, by rw [e]; exact h1, h2⟩
  · exact .inr ⟨L, by rw [e]; exact h1, h2⟩
section
variable {X : Cx} {xc : Str → Value} {W : Ww} {ke ve tg iter : Expr} {ifs : List Expr} {scope : Scope} {own : List (Str × Nat)} {pos spos : Pos} {cas : CA} {g : CG} {gs : List Nat} {ct ck cv : CE}
theorem dc_read {K : KF} {σ : L2.St} {H : Hp} {Q : VK} {vs : List Nat} (hvs : ∀ i ∈ gs, i ∈ vs) (hJ : ∀ j ∈ W.J, j ∉ vs) (h : tZ K xc W (cDc vs cas g ct ck cv) σ H Q) :
    tDz K (iZ K xc W cas) (gZ K W.J gs g) (tZT K xc (W0 W) ct) (tZ K xc (W0 W) ck) (tZ K xc (W0 W) cv) vs σ H Q := by
  obtain ⟨Γ, B, ρ, rep, k⟩ := h
  refine ⟨Γ, B, ρ, rep, ?_⟩
  unfold cDc at k
  cases hcs : cas ρ with
  | exc x ρ1 => rw [hcs] at k; exact k
  | bad => rw [hcs] at k; exact k
  | ok ds ρ1 =>
    rw [hcs] at k
    intro It B1 H1 e1 r1 hit D hD
    simp only at k
    cases no : noOwn ρ1 vs with
    | false => rw [no] at k; exact k.elim
    | true =>
      rw [no, cond_true] at k
      cases hl : dcL vs g ct ck cv ds ρ1 [] with
      | none => rw [hl] at k; exact k.elim
      | some z =>
        obtain ⟨accF, ρF⟩ := z
        rw [hl] at k
        refine ⟨fun i m H => m = ds.length - i ∧ i ≤ ds.length ∧ ∃ (B : Hp) (ρ : En) (acc : List (PyData × PyData)) (o : HO), Rep K (Γ.plus D o) B (wipeE ρ vs) (wipe σ vs) H ∧ Ex B1 B ∧ DicAt K B H D acc ∧ dcL vs g ct ck cv (ds.drop i) ρ acc = some (accF, ρF),
          ⟨ds.length, by simp, Nat.zero_le _, B1, ρ1, [], _, (r1.wiped hJ).plus hD, Ex.refl _, .inl ⟨[], upd_same, .nil⟩, hl⟩, ?_⟩
        rintro i m H ⟨rfl, hi, B2, ρ2, acc, o2, r2, e2, ha, k2⟩
        obtain ⟨h1, h2⟩ := hit r2 e2
        have frame : ∀ {B' : Hp} {ρ' : En} {σ' : L2.St} {H' : Hp}, Rep K (Γ.plus D o2) B' ρ' σ' H' → Ex B2 B' → DicAt K B' H' D acc := fun {B' ρ' σ' H'} r e =>
          (ha.mono e).at ((r.fh D o2 upd_same).trans (r2.fh D o2 upd_same).symm)
        by_cases hlt : i < ds.length
        · obtain ⟨go, yl⟩ := h1 i ds[i] (List.getElem?_eq_getElem hlt)
          rw [List.drop_eq_getElem_cons hlt] at k2
          refine .inr ⟨go, fun H' => ∃ (B : Hp) (ρ : En) (acc : List (PyData × PyData)) (o : HO), Rep K (Γ.plus D o) B (wipeE ρ vs) (wipe σ vs) H' ∧ Ex B1 B ∧ DicAt K B H' D acc ∧ dcL vs g ct ck cv (ds.drop (i + 1)) ρ acc = some (accF, ρF), fun H' hN => ⟨ds.length - (i + 1), by omega, rfl, hlt, hN⟩, fun x H' hy => ?_⟩
          obtain ⟨B3, e3, r3, q3, _⟩ := yl x H' hy
          unfold dcL at k2
          cases hg' : g ds[i] (wipeE ρ2 vs) with
          | none => rw [hg'] at k2; cases k2
          | some ρ3 =>
            rw [hg'] at k2
            simp only at k2
            refine ⟨Γ.plus D o2, B3, wipeE ρ2 vs, ρ3, _, r3, q3, hg', fun σ4 r4 d4 => ?_⟩
            have ew : wipe σ4 vs = wipe σ vs := wipe_diff hvs d4
            refine ⟨ew, Γ.plus D o2, B3, ρ3, r4, ?_⟩
            cases hct : ct ρ3 with
            | exc x ρ5 => rw [hct] at k2; cases k2
            | bad => rw [hct] at k2; cases k2
            | ok s ρ5 =>
              rw [hct] at k2
              cases s with
              | lst l | dic l | obj c fs | hole => cases k2
              | dat d =>
                cases d with
                | none | int _ | str _ | list _ | tuple _ | dict _ => cases k2
                | bool b =>
                  refine ⟨b, rfl, fun B6 H6 e6 r6 => ?_⟩
                  cases b with
                  | false =>
                    refine iteF ⟨B6, ρ5, acc, o2, ?_, (e2.trans e3).trans e6, frame r6 (e3.trans e6), k2⟩
                    have := r6.wiped hJ
                    rw [ew] at this
                    exact this
                  | true =>
                    refine iteT ⟨Γ.plus D o2, B6, ρ5, r6, ?_⟩
                    simp only at k2
                    cases hck : ck ρ5 with
                    | exc x ρ7 => rw [hck] at k2; cases k2
                    | bad => rw [hck] at k2; cases k2
                    | ok s7 ρ7 =>
                      rw [hck] at k2
                      simp only at k2
                      intro y B8 H8 e8 r8 q8
                      obtain ⟨B9, e9, r9, q9⟩ := SRes.data r8 q8
                      refine ⟨Γ.plus D o2, B9, ρ7, r9, ?_⟩
                      cases hcv : cv ρ7 with
                      | exc x ρ10 => rw [hcv] at k2; cases k2
                      | bad => rw [hcv] at k2; cases k2
                      | ok s10 ρ10 =>
                        rw [hcv] at k2
                        simp only at k2
                        intro z B11 H11 e11 r11 q11
                        obtain ⟨B12, e12, r12, q12⟩ := SRes.data r11 q11
                        have eB : Ex B2 B12 := e3.trans (e6.trans (e8.trans (e9.trans (e11.trans e12))))
                        cases hz : (kOk acc s7.d && decide (acc.length < sizeLine)) with
                        | false => rw [hz] at k2; cases k2
                        | true =>
                          rw [hz, cond_true] at k2
                          have hz2 := Bool.and_eq_true_iff.mp hz
                          refine ⟨B12, D, acc, s7.d, s10.d, rfl, r12.bh, frame r12 eB, dp_mono (e11.trans e12) q9, q12, hz2.1, of_decide_eq_true hz2.2, fun ob hob => ⟨B12, ρ10, _, ob, ?_, e2.trans eB, hob, k2⟩⟩
                          have := (r12.wiped hJ).bump (o' := ob)
                          rw [ew] at this
                          exact this
        · have e : i = ds.length := by omega
          subst e
          rw [List.drop_length] at k2
          have k3 : some (acc, ρ2) = some (accF, ρF) := k2
          cases k3
          obtain ⟨r3, o3, hh, q⟩ := r2.minus (Evl.fresh_back r1.fh hD)
          obtain ⟨r4, q4⟩ := Rep.unwipe r1 no e2 r3
          exact .inl ⟨h2, k (.ref D) B2 H (e1.trans e2) r4 (q4 (q (.dic accF) rfl ⟨D, rfl, rfl, o3, ha⟩))⟩
theorem ze_dc (hu : X.A.units + 64 < cLine) (hc : X.calm = true) (hN : X.N.Nodup) (hi : ZI X xc W tg iter cas) (ok : BlkOk X.N X.env.scope scope own) (hvs : (gs.all fun i => (own.map (·.2)).contains i) = true) (hJ : (W.J.all fun j => !(own.map (·.2)).contains j) = true)
    (hg : ∀ (s : Shared) (H : Hp) (C : Addr) (cl : List (Str × Addr)) (fp : List Addr), PG (X.blk s H scope (compEnvC scope cl C X.env) fp) tg (gZ X.kf W.J gs g))
    (ht : ∀ (s : Shared) (H : Hp) (C : Addr) (cl : List (Str × Addr)) (fp : List Addr), PTs (X.blk s H scope (compEnvC scope cl C X.env) fp) ifs (tZT X.kf xc (W0 W) ct))
    (hk : ∀ (s : Shared) (H : Hp) (C : Addr) (cl : List (Str × Addr)) (fp : List Addr), PE (X.blk s H scope (compEnvC scope cl C X.env) fp) ke (tZ X.kf xc (W0 W) ck))
    (he : ∀ (s : Shared) (H : Hp) (C : Addr) (cl : List (Str × Addr)) (fp : List Addr), PE (X.blk s H scope (compEnvC scope cl C X.env) fp) ve (tZ X.kf xc (W0 W) cv)) (hs : ∀ x, foldedSetIterable iter X.env x = pure x := by intro _; rfl) :
    ZE X xc W (.DictComp ke ve [⟨tg, iter, ifs, 0⟩] scope pos) (cDc (own.map (·.2)) cas g ct ck cv) := PE.imp (pe_dz hu hc hN hi ok hg ht hk he hs) fun σ H Q h => dc_read (all_in hvs) (all_out hJ) h
end
end Z
set_option maxHeartbeats 2000000
/-! Z: sorted. -/
namespace Z
open PySem PySem.Spec PyProof.Rows L2
open Evl (Ex ex_l ex_t ex_rd)
/-! ### pairs of ints in their order -/
abbrev Cn := Int × Int
def pD (c : Cn) : PyData := .tuple [.int c.1, .int c.2]
def insP (c : Cn) : List Cn → List Cn
  | [] => [c]
  | d :: t => if SrtO.lexB d c = true then d :: insP c t else c :: d :: t
def srtP : List Cn → List Cn
  | [] => []
  | c :: cs => insP c (srtP cs)
theorem insP_perm {c : Cn} : ∀ {l : List Cn}, (insP c l).Perm (c :: l)
  | [] => List.Perm.refl _
  | d :: t => by
    unfold insP
    split
    · exact ((insP_perm (l := t)).cons d).trans (List.Perm.swap c d t)
    · exact List.Perm.refl _
theorem srtP_perm : ∀ {l : List Cn}, (srtP l).Perm l
  | [] => List.Perm.refl _
  | c :: cs => insP_perm.trans (srtP_perm.cons c)
/-- not above -/
abbrev LeP (p q : Cn) : Prop := SrtO.lexB q p = false
theorem leP_iff {p q : Cn} : LeP p q ↔ p.1 < q.1 ∨ (p.1 = q.1 ∧ p.2 ≤ q.2) := by
  unfold LeP
  rw [SrtO.lexB_no]
  omega
theorem insP_srt {c : Cn} : ∀ {l : List Cn}, l.Pairwise LeP → (insP c l).Pairwise LeP
  | [], _ => List.pairwise_singleton _ _
  | d :: t, h => by
    have h1 := List.pairwise_cons.mp h
    unfold insP
    split
    · rename_i e
      have e' := SrtO.lexB_iff.mp e
      refine List.pairwise_cons.mpr ⟨fun x hx => ?_, insP_srt h1.2⟩
      rcases List.mem_cons.mp (insP_perm.mem_iff.mp hx) with rfl | hx
      · rw [leP_iff]; omega
      · exact h1.1 x hx
    · rename_i e
      have e' : LeP c d := by
        unfold LeP
        cases q : SrtO.lexB d c with
        | true => exact absurd q e
        | false => rfl
      refine List.pairwise_cons.mpr ⟨fun x hx => ?_, h⟩
      rcases List.mem_cons.mp hx with rfl | hx
      · exact e'
      · have := h1.1 x hx
        rw [leP_iff] at *
        omega
theorem srtP_srt : ∀ {l : List Cn}, (srtP l).Pairwise LeP
  | [] => List.Pairwise.nil
  | c :: cs => insP_srt srtP_srt
theorem srt_uniq : ∀ {l m : List Cn}, l.Pairwise LeP → m.Pairwise LeP → l.Perm m → l = m
  | [], m, _, _, h => (List.Perm.eq_nil h.symm).symm
  | x :: l, [], _, _, h => absurd h.length_eq (by simp)
  | x :: l, y :: m, hl, hm, h => by
    have h1 := List.pairwise_cons.mp hl
    have h2 := List.pairwise_cons.mp hm
    have a : LeP x y := by
      rcases List.mem_cons.mp (h.symm.mem_iff.mp (List.mem_cons_self (a := y) (l := m))) with e | e
      · subst e; rw [leP_iff]; omega
      · exact h1.1 y e
    have b : LeP y x := by
      rcases List.mem_cons.mp (h.mem_iff.mp (List.mem_cons_self (a := x) (l := l))) with e | e
      · subst e; rw [leP_iff]; omega
      · exact h2.1 x e
    have e : x = y := by
      rw [leP_iff] at a b
      exact Prod.ext (by omega) (by omega)
    subst e
    rw [srt_uniq h1.2 h2.2 h.cons_inv]
def pairsOf : List PyData → Option (List Cn)
  | [] => some []
  | .tuple [.int a, .int b] :: ds => (pairsOf ds).map ((a, b) :: ·)
  | _ => none
theorem pairsOf_map : ∀ {l : List PyData} {ps : List Cn}, pairsOf l = some ps → l = ps.map pD
  | [], ps, h => by cases h; rfl
  | d :: ds, ps, h => by
    unfold pairsOf at h
    split at h
    · rename_i e; cases e
    · rename_i a b es e
      cases e
      cases e2 : pairsOf ds with
      | none => rw [e2] at h; cases h
      | some r =>
        rw [e2] at h
        cases h
        rw [pairsOf_map e2]
        rfl
    · cases h
theorem pairsOf_pD : ∀ {ps : List Cn}, pairsOf (ps.map pD) = some ps
  | [] => rfl
  | p :: ps => by
    show (pairsOf (ps.map pD)).map (p :: ·) = _
    rw [pairsOf_pD]
    rfl
/-! ### sorting data -/
def dLe (a b : PyData) : Bool := !PySem.W.dataLt b a
/-- data that sorted takes -/
def sortOk (l : List PyData) : Bool := (l.all fun d => l.all fun e => PySem.W.alike d e) && ((l.all fun d => match d with
    | .tuple (_ :: _) => true
    | _ => false) || (l.all fun d => match d with
    | .none => false
    | .tuple _ => false
    | _ => true)) && (l.all fun d => decide (d.depth ≤ 60)) && plains l
theorem sortOk_of {l : List PyData} (h : sortOk l = true) : PySem.W.AllAlike l ∧ PySem.W.Sortable l ∧ (∀ d ∈ l, d.depth ≤ 60) ∧ plains l = true := by
  unfold sortOk at h
  have h1 := Bool.and_eq_true_iff.mp h
  have h2 := Bool.and_eq_true_iff.mp h1.1
  have h3 := Bool.and_eq_true_iff.mp h2.1
  refine ⟨fun d hd e he => List.all_eq_true.mp (List.all_eq_true.mp h3.1 d hd) e he, ?_, fun d hd => of_decide_eq_true (List.all_eq_true.mp h2.2 d hd), h1.2⟩
  rcases Bool.or_eq_true_iff.mp h3.2 with h4 | h4
  · refine .inl fun d hd => ?_
    have := List.all_eq_true.mp h4 d hd
    split at this
    · exact ⟨_, _, rfl⟩
    · cases this
  · refine .inr fun d hd => ?_
    have := List.all_eq_true.mp h4 d hd
    split at this
    · cases this
    · cases this
    · rename_i n1 n2
      exact ⟨fun e => n1 e, fun xs e => n2 xs e⟩
theorem plains_dp {K : KF} {H : Hp} : ∀ {vs : List V} {ds : List PyData}, DpAll K H vs ds → plains ds = true → L2.DpAll K.K H vs ds
  | _, _, .nil, _ => .nil
  | _, _, .cons h t, p => by
    have q := Bool.and_eq_true_iff.mp p
    exact .cons (plain_dp h q.1) (plains_dp t q.2)
section
variable {X : Cx} {pins : List (Addr × Obj)} {σ : L2.St} {H B : Hp} {s : Shared}
abbrev Both (K : KF) (B : Hp) : Value → V × PyData → Prop := fun u b => RelV b.1 u ∧ Dp K B b.1 b.2
theorem both_of : ∀ {K : KF} {xs : List V} {us : List Value} {ds : List PyData}, DpAll K B xs ds → Vals xs us → PySem.W.EachIs (Both K B) us (xs.zip ds)
  | _, _, _, _, .nil, .nil => .nil
  | _, _, _, _, .cons h t, .cons r rt => .cons ⟨r, h⟩ (both_of t rt)
theorem both_to : ∀ {K : KF} {us : List Value} {bs : List (V × PyData)}, PySem.W.EachIs (Both K B) us bs → Vals (bs.map (·.1)) us ∧ DpAll K B (bs.map (·.1)) (bs.map (·.2))
  | _, _, _, .nil => ⟨.nil, .nil⟩
  | _, _, _, .cons h t => ⟨.cons h.1 (both_to t).1, .cons h.2 (both_to t).2⟩
theorem reads_of (I : Inv X pins σ H s) (eB : Ex B H) : ∀ {us : List Value} {bs : List (V × PyData)}, PySem.W.EachIs (Both X.kf B) us bs → plains (bs.map (·.2)) = true → PySem.W.EachIs (fun v b => ∃ as, Reads s.heap v b.2 as) us bs
  | _, _, .nil, _ => .nil
  | _, _, .cons h t, p => by
    have q := Bool.and_eq_true_iff.mp p
    exact .cons (L2.Dp.reads I _ _ _ (plain_dp (dp_mono eB h.2) q.1) h.1) (reads_of I eB t q.2)
theorem zip_snd : ∀ {K : KF} {xs : List V} {ds : List PyData}, DpAll K B xs ds → (xs.zip ds).map (·.2) = ds ∧ (xs.zip ds).map (·.1) = xs
  | _, _, _, .nil => ⟨rfl, rfl⟩
  | _, _, _, .cons h t => by
    obtain ⟨h1, h2⟩ := zip_snd t
    exact ⟨by rw [List.zip_cons_cons, List.map_cons, h1], by rw [List.zip_cons_cons, List.map_cons, h2]⟩
theorem sort_snd (bs : List (V × PyData)) : (bs.mergeSort (PySem.W.dataLe false Prod.snd)).map (·.2) = (bs.map (·.2)).mergeSort dLe := by
  refine List.map_mergeSort fun a _ b _ => ?_
  rw [PySem.W.dataLe_eq]
  rfl
/-- sorted(xs), a list -/
def rSL (K : KF) : List V → Hp → VK → Prop := fun vs H Q => ∃ B a xs ds, vs = [V.ref a] ∧ Ex B H ∧ SqL K H a xs ∧ DpAll K B xs ds ∧ sortOk ds = true ∧ ∀ p ys, H p = none → DpAll K B ys (ds.mergeSort dLe) → Q (.ref p) (upd H p (.lst ys))
theorem cr_sortL (hu : X.A.units + 64 < cLine) : CallR X (.builtin "sorted") (rSL X.kf) := by
  intro pins s σ H vs us Q I r h
  obtain ⟨B, a, xs, ds, rfl, eB, hs, hx, ok, q⟩ := h
  obtain ⟨its, rv, hl, hz⟩ := I.list hs
  obtain ⟨u, rfl, ru⟩ := vals1 r
  obtain rfl : u = Value.ref a := ru
  obtain ⟨o1, o2, o3, o4⟩ := sortOk_of ok
  have bo := both_of hx rv
  obtain ⟨z1, z2⟩ := zip_snd hx
  have hlen : (xs.zip ds).length = its.length := bo.length.symm
  refine PySem.W.sorted_data (enc := Prod.snd) hl.isList bo (reads_of I eB bo (by rw [z1]; exact o4)) (by rw [z1]; exact o1) (by rw [z1]; exact o2) (by rw [hlen, ← rv.length]; exact hz) (fun b hb => ?_) fun out ho eo => ?_
  · have : b.2 ∈ ds := by rw [← z1]; exact List.mem_map.mpr ⟨b, hb, rfl⟩
    have := o3 _ this
    omega
  · obtain ⟨e1, e2⟩ := both_to eo
    rw [sort_snd, z1] at e2
    obtain ⟨n, hn⟩ := PyProof.Rows.sortedAll_at s.heap its out.toArray
    exact ⟨.ref _, upd H (s.heap.objs.size + 1) (.lst _), I.laid (t' := s.toks) (fun _ _ e => PyProof.Rows.sortedAll_old e) (Nat.le_succ _) ⟨by rw [e1.length, ho, hlen, ← rv.length]; exact hz, out, n, e1, hn⟩, rfl, q _ _ (I.hok.fresh (Nat.le_succ _)) e2⟩
theorem keys_dataN {K : KF} {B : Hp} : ∀ {L : NL} {l : List (PyData × PyData)}, DpKN K B L l → DpAll K B (L.map fun x => .ref x.2.1) (l.map (·.1))
  | _, _, .nil => .nil
  | _, _, .cons h0 hz h t => .cons h0 (keys_dataN t)
theorem keys_dataK {K : KF} {B : Hp} : ∀ {L : List (Key × V)} {l : List (PyData × PyData)}, DpKV K B L l → DpAll K B (L.map fun x => kV x.1) (l.map (·.1))
  | _, _, .nil => .nil
  | _, _, .cons (k := k) h t => .cons (by cases k with | inl i => exact .int i | inr i => exact .str i) (keys_dataK t)
/-- what a walk over a dict's keys collects -/
theorem dic_keys (hc : X.A.handled = none) (I : Inv X pins σ H s) (eB : Ex B H) {a : Addr} {l : List (PyData × PyData)} (h : DicAt X.kf B H a l) {E : Value → Shared → Prop} {R : List Value → Shared → Prop}
    (hR : ∀ h' tk us ks, (∀ b o, s.heap.get? b = some o → h'.get? b = some o) → Vals ks us → DpAll X.kf B ks (l.map (·.1)) → us.length = l.length → us.length ≤ sizeLine → R us { s with heap := h', toks := tk }) : wpAny (model X.prog X.w) X.A.in1 (collect (.ref a)) R E s := by
  rcases h with ⟨kvs, h1, h2⟩ | ⟨L, h1, h2⟩
  · obtain ⟨z, lo, vs, rel, dd⟩ := dk_of I.hok h1
    obtain ⟨ep, hat⟩ := dd.dictAt
    have hl : vs.length = l.length := by rw [← rel.length, dpKV_len h2]
    refine PySem.W.kdu_collect (A := X.A.in1) (PySem.W.kdl_dict (knd := mixKind X.prog X.w) (kvs := vs) (ep := ep) lo) hc hat (by rw [← rel.length]; exact z) fun h' tk acc hk hacc => ?_
    have hs : acc.toList.length = vs.length := by rw [Array.length_toList, hacc.1]
    refine hR h' tk acc.toList (kvs.map fun x => kV x.1) hk ?_ (keys_dataK h2) (by rw [hs, hl]) (by rw [hs, ← rel.length]; exact z)
    have go : ∀ (M : List (Key × V)) (ys : List (Key × Value)), KV M ys → ∀ us : List Value, us.length = ys.length → (∀ (i : Nat) u, us[i]? = some u → ∃ k x, ys[i]? = some (k, x) ∧ (mixKind X.prog X.w).is k u = true) → Vals (M.map fun x => kV x.1) us := fun M => by
      induction M with
      | nil => intro ys n us hl _; cases n; cases us with | nil => exact .nil | cons _ _ => simp at hl
      | cons x M ih =>
        intro ys n us hl h
        cases n with
        | @cons _ y _ ys n1 n2 =>
          cases us with
          | nil => simp at hl
          | cons u us =>
            obtain ⟨k, x', e1, e2⟩ := h 0 u rfl
            simp at e1
            subst e1
            refine .cons ?_ (ih ys n2 us (by simpa using hl) fun i w hw => by simpa using h (i + 1) w (by simpa using hw))
            have n3 : x.1 = k := n1.1
            show RelV (kV x.1) u
            rw [n3]
            rcases keyIs_shape (show keyIs k u = true from e2) with ⟨i, t, ek, ev⟩ | ⟨z, t, ek, ev⟩
            · subst ek ev; exact ⟨t, rfl⟩
            · subst ek ev; exact ⟨t, rfl⟩
    exact go kvs vs rel acc.toList hs fun i u hu => hacc.2 i u (by rw [← Array.getElem?_toList]; exact hu)
  · obtain ⟨lo, z, nd, xs, o, es, ep, nx, g1, g2, g3, g4⟩ := nOk_of I h1
    have hr : s.heap.DictRaw a es ep := ⟨o, g1, g2, g3⟩
    have hs : es.size = xs.length := size_of_entries g4
    have hl : es.size = l.length := by rw [hs, ← Paired.length nx, dpKN_len h2]
    refine PySem.W.kdu_collect (A := X.A.in1) (KdlSrc.rawDict lo) hc hr (by rw [hs, ← Paired.length nx]; exact z) fun h' tk acc hkp hacc => ?_
    have ha : acc.toList.length = xs.length := by rw [Array.length_toList, hacc.1, hs]
    refine hR h' tk acc.toList (L.map fun x => V.ref x.2.1) hkp ?_ (keys_dataN h2) (by rw [ha, ← hs, hl]) (by rw [ha, ← Paired.length nx]; exact z)
    have go : ∀ (M : NL) (ys : List (NestedKey × Addr × Value)), NX M ys → ∀ us : List Value, us.length = ys.length → (∀ (i : Nat) u, us[i]? = some u → ∃ y, ys[i]? = some y ∧ u = .ref y.2.1) → Vals (M.map fun x => V.ref x.2.1) us := fun M => by
      induction M with
      | nil => intro ys n us hl _; cases n; cases us with | nil => exact .nil | cons _ _ => simp at hl
      | cons x M ih =>
        intro ys n us hl h
        cases n with
        | @cons _ y _ ys n1 n2 =>
          cases us with
          | nil => simp at hl
          | cons u us =>
            obtain ⟨y', e1, e2⟩ := h 0 u rfl
            cases e1
            subst e2
            exact .cons (show V.ref x.2.1 |> fun v => RelV v (Value.ref y.2.1) by rw [n1.2.1]; rfl) (ih ys n2 us (by simpa using hl) fun i w hw => by simpa using h (i + 1) w (by simpa using hw))
    refine go L xs nx acc.toList ha fun i u hu => ?_
    obtain ⟨hi, e⟩ := hacc.2 i u (by rw [← Array.getElem?_toList]; exact hu)
    have hx : i < xs.length := hs ▸ hi
    have e' := entry_at g4 i
    rw [Array.getElem?_eq_getElem hi, List.getElem?_eq_getElem hx, Option.map_some] at e'
    exact ⟨xs[i], List.getElem?_eq_getElem hx, by rw [e, Option.some.inj e']; rfl⟩
/-- sorted(d), a dict: its keys -/
def rSD (K : KF) : List V → Hp → VK → Prop := fun vs H Q => ∃ B a l, vs = [V.ref a] ∧ Ex B H ∧ DicAt K B H a l ∧ sortOk (l.map (·.1)) = true ∧ ∀ p ys, H p = none → DpAll K B ys ((l.map (·.1)).mergeSort dLe) → Q (.ref p) (upd H p (.lst ys))
theorem cr_sortD (hc : X.calm = true) (hu : X.A.units + 65 < cLine) : CallR X (.builtin "sorted") (rSD X.kf) := by
  intro pins s σ H vs us Q I r h
  obtain ⟨B, a, l, rfl, eB, hd, ok, q⟩ := h
  obtain ⟨u, rfl, ru⟩ := vals1 r
  obtain rfl : u = Value.ref a := ru
  obtain ⟨o1, o2, o3, o4⟩ := sortOk_of ok
  refine Calls.call_function_entry PyProof.Rows.kind_sorted PyProof.Rows.plain_sorted PyProof.Rows.entry_sorted (PyProof.Rows.args_sorted1 _) ?_
  unfold Builtin.«sorted»
  refine wpAny_bind (m := checkCount "sorted" 1 1 _) (wpAny_pure ?_)
  refine wpAny_bind (dic_keys (I.ok.hd hc) I eB hd fun h' tk acc ks hkp hva kd hlen hz => ?_)
  have J : Inv X pins σ H { s with heap := h', toks := tk } := I.kept hkp
  have bo := both_of kd hva
  obtain ⟨z1, z2⟩ := zip_snd kd
  have hle : (ks.zip (l.map (·.1))).length = acc.length := bo.length.symm
  refine wpAny_bind (wpAny_newList ?_ hz)
  have hoL : (h'.push (seqObj "list" acc.toArray 0)).get? h'.objs.size = some (seqObj "list" acc.toArray 0) := Heap.get?_push_size _ rfl
  show wpAny _ _ _ _ _ { s with heap := h'.push (seqObj "list" acc.toArray 0), toks := tk }
  have rd := reads_of J eB bo (by rw [z1]; exact o4)
  refine wpAny_bind (wpAny_holding (PySem.W.list_sort_data (enc := Prod.snd) (s := { s with heap := h'.push (seqObj "list" acc.toArray 0), toks := tk }) hoL bo ?_ (by rw [z1]; exact o1) (by rw [z1]; exact o2) (by rw [hle]; exact hz) (fun b hb => ?_) fun out ho eo => ?_))
  · refine rd.mono fun v b ⟨as, ra⟩ => ⟨as, PyProof.Rows.Reads.keeps (fun _ _ e => Heap.get?_push_of_some _ e) ra, fun hm => ?_⟩
    obtain ⟨o, e⟩ := PyProof.On.reads_mem_get ra _ hm
    exact absurd (Heap.lt_size e) (Nat.lt_irrefl _)
  · have : b.2 ∈ l.map (·.1) := by rw [← z1]; exact List.mem_map.mpr ⟨b, hb, rfl⟩
    have h60 := o3 _ this
    show X.A.units + 1 + 1 + b.2.depth < cLine
    omega
  · obtain ⟨e1, e2⟩ := both_to eo
    rw [sort_snd, z1] at e2
    obtain ⟨n, hn⟩ := PyProof.Rows.sortedHeap_at (vs := acc) (out := out.toArray) hoL
    refine wpAny_pure ⟨_, rfl, .ref h'.objs.size, upd H h'.objs.size (.lst _), J.laid (t' := tk) (fun b u e => ?_) (Nat.le_refl _) (show ObjOk X.prog X.w _ _ _ (.lst _) from ⟨by rw [e1.length, ho, hle]; exact hz, out, n, e1, hn⟩), rfl, q _ _ (J.hok.fresh (Nat.le_refl _)) e2⟩
    have hb : b < h'.objs.size := Heap.lt_size e
    rw [PyProof.Rows.sortedHeap_old (Nat.ne_of_lt hb) (by rw [size_push']; exact Nat.lt_succ_of_lt hb)]
    exact Heap.get?_push_of_some _ e
end
end Z
set_option maxHeartbeats 2000000
/-! Z: list(reversed(x)); x[::-1]; min, max of data; dict(..); len of a dict. -/
namespace Z
open PySem PySem.Spec PyProof.Rows L2
open Evl (Ex ex_l ex_t ex_rd)
section
variable {prog : Program} {w : World} {A : Around} {E : Value → Shared → Prop} {s : Shared}
theorem list_of_rev {R : Result → Shared → Prop} {it l S : Addr} {items : Array Value} (hh : A.handled = none) (hit : s.heap.IsRevIter it l ((items.size : Int) - 1)) (hl : s.heap.IsList l items) (hne : l ≠ it) (hSi : S ≠ it) (hSl : S ≠ l) (hn : items.size ≤ sizeLine)
    (hS : s.heap.get? S = some { cls := .type "list", data := .seq #[] })
    (hR : ∀ s' acc' c', Moved (S :: [it]) (fun a b => b = a) s s' → s'.heap.get? S = some { cls := .type "list", dict := none, data := .seq acc' c', slots := #[] } → ItemsOf (fun i v => items[items.size - 1 - i]? = some v) acc' items.size → R (.ok (.ret .none)) s') :
    wpAny (model prog w) A.in1 (Builtin.«list.__init__» ⟨[.ref S, .ref it], []⟩) (fun fin s' => match fin with | .done f => R (.ok f) s' | .again c' => c'.quiet = true ∧ codeAny (model prog w) A c' R s') (fun e s' => R (.error e) s') s := by
  have W := (Walks.listRev (prog := prog) (w := w) (A := A.in1) hh it l hne items).toS
  have hSf : S ∉ [it, l] := by simp only [List.mem_cons, List.not_mem_nil, or_false, not_or]; exact ⟨hSi, hSl⟩
  show wpAny _ A.in1 (do let old ← Builtin.List.listItems (.ref S); Builtin.List.listUpdate (.ref S) (fun _ => #[]); letGo old.toList.reverse; Builtin.List.listExtendWith (.ref S) (.ref it) .none) _ _ s
  refine wpAny_bind ?_
  unfold Builtin.List.listItems
  refine wpAny_bind (wpAny_seqItems hS rfl (wpAny_pure ?_))
  show wpAny _ A.in1 (updateSeq S (fun _ => #[]) >>= fun _ => letGo (#[] : Array Value).toList.reverse >>= fun _ => Builtin.List.listExtendWith (.ref S) (.ref it) .none) _ _ s
  refine wpAny_bind (wpAny_updateSeq hS rfl ?_)
  have hS2 := Heap.get?_update_self (Obj.mapSeq (fun _ => (#[] : Array Value))) hS rfl
  have oth : ∀ b o, b ≠ S → s.heap.get? b = some o → (s.heap.update S (Obj.mapSeq (fun _ => (#[] : Array Value)))).get? b = some o := fun b o hb e => (Heap.get?_update_other _ _ (Ne.symm hb)).trans e
  refine wpAny_bind (wpAny_letGo ?_)
  have hit2 : (s.heap.update S (Obj.mapSeq (fun _ => (#[] : Array Value)))).IsRevIter it l ((items.size : Int) - 1) := hit.at fun o e => oth _ _ (Ne.symm hSi) e
  have hl2 : (s.heap.update S (Obj.mapSeq (fun _ => (#[] : Array Value)))).IsList l items := by
    obtain ⟨o, e, r⟩ := hl
    exact ⟨o, oth _ _ (Ne.symm hSl) e, r⟩
  have hT : ({ s with heap := s.heap.update S (Obj.mapSeq (fun _ => (#[] : Array Value))) } : Shared).TypeIs (.ref it) "list_reverseiterator" := Heap.IsRevIter.typeIs (s := { s with heap := s.heap.update S (Obj.mapSeq (fun _ => (#[] : Array Value))) }) hit2
  have h1 : Builtin.List.listSameRef (.ref S) (.ref it) = false := by simp [Builtin.List.listSameRef, hSi]
  unfold Builtin.List.listExtendWith
  refine wpAny_bind (wpAny_typeOf hT ?_)
  rw [if_neg (by rw [h1]; decide)]
  refine wpAny_bind (wpAny_pyIter_revIter (s := { s with heap := s.heap.update S (Obj.mapSeq (fun _ => (#[] : Array Value))) }) hit2 ?_)
  refine wpAny_bind (wpAny_holding ?_)
  unfold Builtin.List.listLengthHint
  refine wpAny_bind (wpAny_specialOf hT RT.nolen_lri ?_)
  show wpAny _ A.in1 (specialOf (Value.ref it) (Str.ofString "__length_hint__") >>= _) _ _ _
  refine wpAny_bind (wpAny_specialOf hT RT.hint_lri ?_)
  generalize hid : ("list_reverseiterator.__length_hint__" : String) = id0
  wp_delta
  rw [show splitId id0 = some ("list_reverseiterator", "__length_hint__") from by subst hid; decide +kernel]
  subst hid
  refine wpAny_bind (wpAny_isInstance (b := true) hT (by rw [isSubtype_type]; kernel_rfl) ?_)
  refine wpAny_pure ?_
  rw [if_neg (by decide)]
  have e0 : ((items.size : Nat) : Int) - 1 - ((0 : Nat) : Int) = (items.size : Int) - 1 := by omega
  refine wpAny_pure ⟨plainId_quiet F.plain_extend_loop _, codeAny_extend_loopS W hn _ hSf _ items.size 0 _ _ _ rfl (Nat.zero_le _) ⟨Nat.zero_le _, by rw [e0]; exact hit2, hl2⟩ hS2 (ItemsOf.nil _) fun s' acc' c' hm hS' hacc => ?_⟩
  refine hR s' acc' c' (Moved.trans (fun a b c e1 e2 => e2.trans e1) ((Moved.refl (G := fun a b => b = a) (fun _ => rfl)).then_heap (Nat.le_refl _) fun b o hb e => oth b o (fun h => hb ?_) e) hm) hS' hacc
  rw [h]
  exact List.mem_cons_self
theorem call_list_rev {it l : Addr} {items : Array Value} {Q : Value → Shared → Prop} (hh : A.handled = none) (hit : s.heap.IsRevIter it l ((items.size : Int) - 1)) (hl : s.heap.IsList l items) (hne : l ≠ it) (hn : items.size ≤ sizeLine)
    (hQ : ∀ s' acc' c', Moved (s.heap.objs.size :: [it]) (fun a b => b = a) { s with heap := s.heap.push { cls := .type "list", data := .seq #[] } } s' →
      s'.heap.get? s.heap.objs.size = some { cls := .type "list", dict := none, data := .seq acc' c', slots := #[] } → ItemsOf (fun i v => items[items.size - 1 - i]? = some v) acc' items.size → Q (.ref s.heap.objs.size) s') :
    wpAny (model prog w) A (call (.type "list") [.ref it]) Q E s := by
  obtain ⟨oi, hoi, _⟩ := id hit
  obtain ⟨ol, hol, _⟩ := id hl
  refine callType_codes (Q₁ := fun obj s₁ => obj = .ref s.heap.objs.size ∧ s₁ = { s with heap := s.heap.push { cls := .type "list", data := .seq #[] } }) F.called_list (F.typeCall_list_1 _) F.entry_list_init
    (code_list_new _ ⟨rfl, rfl⟩) fun obj s₁ h₁ => ?_
  obtain ⟨rfl, rfl⟩ := h₁
  have hS : (s.heap.push { cls := .type "list", data := .seq #[] }).get? s.heap.objs.size = some { cls := .type "list", data := .seq #[] } := Heap.get?_push_size _ rfl
  exact ⟨⟨_, hS, rfl⟩, F.args_list_init_2 _ _, list_of_rev (A := A.in1) hh (hit.at fun o e => Heap.get?_push_of_some _ e) (hl.push _) hne (Nat.ne_of_gt (Heap.lt_size hoi)) (Nat.ne_of_gt (Heap.lt_size hol)) hn hS fun s' acc' c' hm hS' hacc => ⟨rfl, hQ s' acc' c' hm hS' hacc⟩⟩
end
section
variable {X : Cx} {xc : Str → Value} {W : Ww} {a e : Expr} {es : List Expr} {pos p : Pos} {ca : CE} {cas : CA}
/-- list(reversed(x)), x a list: a new list -/
def tLstRev (K : PySem.W.Frag) (te : TE) : TE := fun σ H Q => te σ H fun v H1 => ∃ (a : Addr) (xs : List V), v = .ref a ∧ L2.SqL K H1 a xs ∧ ∀ q, H1 q = none → Q (.ref q) (upd H1 q (.lst xs.reverse))
theorem pe_lstRev {te : TE} {p2 pos2 : Pos} (hc : X.calm = true) (hg : Gl X "list") (hm : X.mg "list" = none) (hg2 : Gl X "reversed") (hm2 : X.mg "reversed" = none) (he : PE X e te)
    (hs : starEach [e] X.env = (false, eval e X.env) :: starEach [] X.env := by rfl)
    (hs2 : starEach [.Call (.Name "reversed" p2) [e] [] pos2] X.env = (false, eval (.Call (.Name "reversed" p2) [e] [] pos2) X.env) :: starEach [] X.env := by rfl) :
    PE X (.Call (.Name "list" p) [.Call (.Name "reversed" p2) [e] [] pos2] [] pos) (tLstRev X.K te) := by
  refine ⟨fun pins s σ H Q I h => ?_⟩
  refine Call_ (ld_blt I hg hm PyProof.Rows.boot_list (PyProof.Rows.callWith_type1 (args_cons (Call_ (ld_blt I hg2 hm2 PyProof.Rows.boot_reversed (PyProof.Rows.callWith_type1 (args_cons (thn (he.run pins s σ H _ I h) fun u s1 ⟨v, H1, I1, r1, q1⟩ => args_nil ?_) hs) hs rfl))) hs2) hs2 rfl))
  obtain ⟨a, xs, ev, hq, q⟩ := q1
  subst ev
  obtain rfl : u = Value.ref a := r1
  obtain ⟨its, rv, p', hz⟩ := I1.list hq
  refine call_reversed_list p'.isList (args_nil ?_)
  have k0 : ∀ b o, s1.heap.get? b = some o → (s1.heap.push (revObj a ((its.toArray.size : Int) - 1))).get? b = some o := fun b o e => Heap.get?_push_of_some _ e
  have I2 : Inv X pins σ H1 { s1 with heap := s1.heap.push (revObj a ((its.toArray.size : Int) - 1)) } := I1.kept (t' := s1.toks) k0
  obtain ⟨f0, f1, f2, f3, f4, f5⟩ := I1.fpOk (H' := H1) (b := s1.heap.objs.size) (Nat.le_refl _) (I1.hok.fresh (Nat.le_refl _))
  have hl := p'.isList
  obtain ⟨ol, hol, _⟩ := id hl
  have hne : a ≠ s1.heap.objs.size := Nat.ne_of_lt (Heap.lt_size hol)
  have hn : its.toArray.size ≤ sizeLine := by rw [List.size_toArray, ← rv.length]; exact hz
  refine call_list_rev (s := { s1 with heap := s1.heap.push (revObj a ((its.toArray.size : Int) - 1)) }) (I1.ok.hd hc) ⟨_, Heap.get?_push_size _ rfl, rfl, rfl⟩ (hl.push _) hne hn fun s' acc c m hS hi => ?_
  have sz : (s1.heap.push (revObj a ((its.toArray.size : Int) - 1))).objs.size = s1.heap.objs.size + 1 := Heap.size_push _ _
  have es : s' = { s1 with heap := s'.heap, toks := s'.toks } := Moved.eq_with (s := { s1 with heap := (s1.heap.push (revObj a ((its.toArray.size : Int) - 1))).push { cls := .type "list", data := .seq #[] } }) m
  rw [es]
  simp only [sz] at hS ⊢
  refine ⟨.ref _, upd H1 (s1.heap.objs.size + 1) (.lst xs.reverse), ?_, rfl, q _ (I1.hok.fresh (Nat.le_succ _))⟩
  refine Inv.turnedNew (s := { s1 with heap := s1.heap.push (revObj a ((its.toArray.size : Int) - 1)) }) (t' := s'.toks) (ch := [s1.heap.objs.size]) (T := s1.heap.objs.size + 1) I2 (fun b o hb e => ?_) (fun b hb => ?_) (by rw [sz]; exact Nat.le_refl _) ⟨by rw [List.length_reverse]; exact hz, acc.toList, c, RT.vals_rev rv hi, by rw [Array.toArray_toList]; exact hS⟩
  · refine m.heap b o (fun hm => ?_) (Heap.get?_push_of_some _ e)
    rcases List.mem_cons.mp hm with e' | hm
    · exact absurd (Heap.lt_size e) (by rw [e']; exact Nat.lt_irrefl _)
    · exact hb (by simpa using hm)
  · have e : b = s1.heap.objs.size := by simpa using hb
    subst e
    exact ⟨f0, f1, f2, f3, f4, f5⟩
end
end Z
set_option maxHeartbeats 2000000
/-! Z: x[::-1]; sorted; min of data; dict(pairs). -/
namespace Z
open PySem PySem.Spec PyProof.Rows L2
open Evl (Ex ex_l ex_t ex_rd)
/-! ### t[::-1] -/
section
open HT
variable {prog : Program} {w : World} {A : Around} {E : Value → Shared → Prop} {s : Shared}
theorem sliceApplied_rev {sl : Addr} {t : Tok} {n : Nat} {Q : Int × Int × Nat → Shared → Prop} (hs : s.heap.IsSliceOf sl .none .none (.int (-1) t))
    (h : Q ((n : Int) - 1, -1, n) s) : wpAny (model prog w) A (Builtin.Slice.sliceApplied (.ref sl) (pure (n : Int))) Q E s := by
  obtain ⟨os, hos, hcs, hds⟩ := id hs
  unfold Builtin.Slice.sliceApplied Builtin.Slice.sliceFields
  refine wpAny_bind (wpAny_bind (wpAny_field hos hds (x := .none) rfl (wpAny_bind (wpAny_field hos hds (x := .none) rfl (wpAny_bind (wpAny_field hos hds (x := .int (-1) t) rfl (wpAny_pure ?_)))))))
  refine wpAny_bind (slicePart_int ?_)
  show wpAny _ _ (if ((-1 : Int) == 0) = true then _ else _) _ _ s
  rw [if_neg (by decide)]
  refine wpAny_bind (slicePart_none (wpAny_bind (slicePart_none (wpAny_bind (wpAny_pure ?_)))))
  have e : Builtin.Slice.slicePlaces ((n : Int) - 1) (-1) (-1) = n := by
    unfold Builtin.Slice.slicePlaces
    rw [if_neg (by decide)]
    have e1 : (n : Int) - 1 - -1 - 1 = n - 1 := by omega
    have e2 : (n - 1 : Int) / - -1 = n - 1 := by rw [Int.neg_neg, Int.ediv_one]
    rw [e1, e2]
    split <;> omega
  show wpAny _ _ (pure ((n : Int) - 1, (-1 : Int), Builtin.Slice.slicePlaces ((n : Int) - 1) (-1) (-1))) _ _ s
  rw [e]
  exact wpAny_pure h
theorem pick_back (xs : Array Value) : ((List.range xs.size).filterMap fun (m : Nat) => xs[(((xs.size : Int) - 1) + (m : Int) * (-1)).toNat]?).toArray = xs.toList.reverse.toArray := by
  congr 1
  refine List.ext_getElem? fun i => ?_
  have e : (List.range xs.size).filterMap (fun (m : Nat) => xs[(((xs.size : Int) - 1) + (m : Int) * (-1)).toNat]?) = (List.range xs.size).map (fun (m : Nat) => xs[(((xs.size : Int) - 1) + (m : Int) * (-1)).toNat]?.getD .none) := by
    have go : ∀ l : List Nat, (∀ m ∈ l, m < xs.size) → l.filterMap (fun (m : Nat) => xs[(((xs.size : Int) - 1) + (m : Int) * (-1)).toNat]?) = l.map (fun (m : Nat) => xs[(((xs.size : Int) - 1) + (m : Int) * (-1)).toNat]?.getD .none) := fun l => by
      induction l with
      | nil => intro _; rfl
      | cons m l ih =>
        intro hm
        have h0 := hm m List.mem_cons_self
        have : (((xs.size : Int) - 1) + (m : Int) * (-1)).toNat < xs.size := by omega
        rw [List.filterMap_cons, Array.getElem?_eq_getElem this, List.map_cons, ih fun x hx => hm x (List.mem_cons_of_mem _ hx), Array.getElem?_eq_getElem this]
        rfl
    exact go _ fun m hm => List.mem_range.mp hm
  rw [e, List.getElem?_map]
  by_cases hi : i < xs.size
  · have h2 : (((xs.size : Int) - 1) + (i : Int) * (-1)).toNat = xs.size - 1 - i := by omega
    rw [List.getElem?_range hi, Option.map_some, h2, List.getElem?_reverse (by simpa using hi), Array.getElem?_eq_getElem (by omega)]
    simp
  · rw [List.getElem?_eq_none (by simpa using hi), List.getElem?_eq_none (by simpa using hi)]
    rfl
theorem getItem_tuple_back {t sl : Addr} {items : Array Value} {k : Tok} {Q : Value → Shared → Prop} (ht : IsTup s.heap t items) (hs : s.heap.IsSliceOf sl .none .none (.int (-1) k))
    (h : Q (.ref s.heap.objs.size) { s with heap := s.heap.push { cls := .type "tuple", data := .seq items.toList.reverse.toArray } })
    (hsz : items.size ≤ sizeLine) : wpAny (model prog w) A (getItem (.ref t) (.ref sl)) Q E s := by
  have htake : sizeOk (.seq items.toList.reverse.toArray) := by
    show items.toList.reverse.toArray.size ≤ sizeLine
    rw [List.size_toArray, List.length_reverse, Array.length_toList]
    exact hsz
  obtain ⟨os, hos, hcs, hds⟩ := id hs
  have hTs : s.TypeIs (.ref sl) "slice" := ⟨os, hos, hcs⟩
  unfold getItem
  try with_reducible refine wpAny_holding ?_
  first | refine wpAny_bind (wpAny_pure ?_) | skip
  refine wpAny_bind (wpAny_sequenceKey ht.typeIs (by decide) ?_)
  refine wpAny_bind (wpAny_callSpecial?_slot (name := Str.ofString "__getitem__") ht.typeIs PyProof.Rows.slot_tuple_getitem
    (wpAny_call_entry PyProof.Rows.slot_tuple_getitem ht.typeIs entry_tuple_getitem ?_ (args_tuple_getitem _ _)))
  show wpAny _ _ (Builtin.Tuple.tupleItemsOf (.ref t) >>= _) _ _ s
  refine wpAny_bind (tupleItemsOf_ ht ?_)
  refine wpAny_bind (wpAny_typeOf hTs ?_)
  rw [if_pos (by decide)]
  refine wpAny_bind (sliceApplied_rev hs ?_)
  have hno : ¬ (((((items.size : Int) - 1) == 0) && (-1 : Int) == 1 && items.size == items.size) = true) := by
    intro q
    rw [Bool.and_eq_true, Bool.and_eq_true] at q
    exact absurd q.1.2 (by decide)
  show wpAny _ _ (if ((((items.size : Int) - 1) == 0) && (-1 : Int) == 1 && items.size == items.size) = true then _ else _) _ _ s
  rw [if_neg hno, pick_back]
  first
    | exact wpAny_bind (m := Builtin.Tuple.tupleExact _) (wpAny_newObj_type (wpAny_pure ⟨_, rfl, wpAny_pure h⟩) htake)
    | exact wpAny_bind (m := Builtin.Tuple.tupleExact _) (wpAny_newObj_type (wpAny_bind (wpAny_pure (wpAny_pure ⟨_, rfl, wpAny_pure h⟩))) htake)
    | exact wpAny_bind (wpAny_bind (m := Builtin.Tuple.tupleExact _) (wpAny_newObj_type (wpAny_pure (wpAny_pure ⟨_, rfl, wpAny_pure h⟩)) htake))
    | exact wpAny_bind (wpAny_bind (m := Builtin.Tuple.tupleExact _) (wpAny_newObj_type (wpAny_pure ⟨_, rfl, wpAny_pure h⟩) htake))
end
section
variable {X : Cx} {xc : Str → Value} {W : Ww} {e : Expr} {ca : CE}
def rBack (K : KF) (a : V) (H : Hp) (Q : VK) : Prop := ∃ p xs, a = .ref p ∧ ((SqL K H p xs ∧ ∀ q, H q = none → Q (.ref q) (upd H q (.lst xs.reverse))) ∨ (SqT K H p xs ∧ ∀ q, H q = none → Q (.ref q) (upd H q (.tup xs.reverse))))
def tBack (K : KF) (te : TE) : TE := fun σ H Q => te σ H fun x H1 => rBack K x H1 Q
theorem pe_back {te : TE} {k : Nat} {p1 p2 p3 pos : Pos} (he : PE X e te) : PE X (.Subscript e (.Slice none none (some (.UnaryOp .USub (.Constant (.int 1) k p1) p2)) p3) pos) (tBack X.kf te) := by
  refine ⟨fun pins s σ H Q I h => ?_⟩
  refine Subscript_ (thn (he.run pins s σ H _ I h) fun v s1 ⟨x, H1, I1, r1, q1⟩ => ?_)
  obtain ⟨a, xs, ex, hq⟩ := q1
  subst ex
  cases r1
  have hst : PO X (some (.UnaryOp .USub (.Constant (.int 1) k p1) p2)) (tPart (tUn (rU fun i => .int (-i)) (tC (.int 1)))) := po_some (pe_un un_neg pe_int)
  refine wpAny_Slice (thn (po_none.run pins s1 σ H1 (fun o H2 => o = none ∧ H2 = H1) I1 ⟨rfl, rfl⟩) fun vl s2 ⟨l, H2, I2, pl, el, e2⟩ => ?_)
  subst el e2
  refine thn (po_none.run pins s2 σ H2 (fun o H3 => o = none ∧ H3 = H2) I2 ⟨rfl, rfl⟩) fun vu s3 ⟨u, H3, I3, pu, eu, e3⟩ => ?_
  subst eu e3
  refine thn (hst.run pins s3 σ H3 (fun o H4 => o = some (-1) ∧ H4 = H3) I3 ⟨1, rfl, -1, rfl, rfl, rfl⟩) fun vs s4 ⟨o, H4, I4, ps, eo, e4⟩ => ?_
  subst eo e4
  have I5 : Inv X pins σ H4 { s4 with heap := s4.heap.push { cls := .type "slice", data := .fields #[vl, vu, vs] } } := I4.kept (t' := s4.toks) fun b ob q => Heap.get?_push_of_some _ q
  show wpAny (model X.prog X.w) X.A (subscriptTail e (.Slice none none (some (.UnaryOp .USub (.Constant (.int 1) k p1) p2)) p3) (.ref a) (.ref s4.heap.objs.size)) (EP X pins σ Q) X.xe { s4 with heap := s4.heap.push { cls := .type "slice", data := .fields #[vl, vu, vs] } }
  rcases hq with ⟨hx, q⟩ | ⟨hx, q⟩
  · obtain ⟨its, r, ht, hz⟩ := I5.list hx
    have hlen := r.length
    refine tail_any (ops := [.ref a, .ref s4.heap.objs.size]) ht.isList.typeIs (PySem.slot_list_getitem.lookup) ?_ (by with_unfolding_all rfl)
    refine wpAny_getItem_list_slice ht.isList (Heap.IsSliceOf.new _ vl vu vs) pl pu ps (by decide) ?_ (by rw [List.size_toArray]; omega)
    rw [PySem.W.krv_pick]
    refine ⟨.ref _, _, I5.laid (t' := s4.toks) (o := .lst xs.reverse) (fun b ob q => Heap.get?_push_of_some _ q) (Nat.le_refl _) ?_, rfl, q _ (I5.hok.fresh (Nat.le_refl _))⟩
    exact ⟨by rw [List.length_reverse]; exact hz, _, 0, r.reverse, Heap.get?_push_size _ rfl⟩
  · obtain ⟨its, r, ht, hz⟩ := I5.tuple hx
    have hlen := r.length
    cases pl
    cases pu
    cases ps
    refine tail_any (ops := [.ref a, .ref s4.heap.objs.size]) ht.typeIs (PyProof.Rows.slot_tuple_getitem.lookup) ?_ (by with_unfolding_all rfl)
    refine getItem_tuple_back ht (Heap.IsSliceOf.new _ _ _ _) ?_ (by rw [List.size_toArray]; omega)
    refine ⟨.ref _, _, I5.laid (t' := s4.toks) (o := .tup xs.reverse) (fun b ob q => Heap.get?_push_of_some _ q) (Nat.le_refl _) ?_, rfl, q _ (I5.hok.fresh (Nat.le_refl _))⟩
    exact ⟨by rw [List.length_reverse]; exact hz, its.reverse, r.reverse, IsTup.new _ _⟩
def gBack : PyData → Option S
  | .list l => some (.lst l.reverse)
  | .tuple l => some (.dat (.tuple l.reverse))
  | _ => none
theorem o_back {K : KF} : Op1 K (rBack K) gBack := by
  intro J Γ B ρ σ H x d s Q rep hx hs af
  unfold gBack at hs
  split at hs
  · cases hs
    obtain ⟨a, ys, rfl, k1, k2⟩ := dp_list hx
    exact ⟨a, ys, rfl, .inl ⟨ex_l rep.bh k1, fun p hp => After.lst rep af (dpAll_rev k2) hp⟩⟩
  · cases hs
    obtain ⟨a, ys, rfl, k1, k2⟩ := dp_tup hx
    exact ⟨a, ys, rfl, .inr ⟨ex_t rep.bh k1, fun p hp => After.tup rep af (dpAll_rev k2) hp⟩⟩
  · cases hs
theorem ze_back {k : Nat} {p1 p2 p3 pos : Pos} (he : ZE X xc W e ca) : ZE X xc W (.Subscript e (.Slice none none (some (.UnaryOp .USub (.Constant (.int 1) k p1) p2)) p3) pos) (c1 gBack ca) :=
  PE.imp (pe_back he) fun σ H Q ⟨Γ, B, ρ, rep, k⟩ => tz_bd rep k fun x B1 H1 d ρ1 e1 r1 q1 k1 => by
    obtain ⟨s, hs, af⟩ := out_lift k1
    exact o_back _ _ _ _ _ _ _ _ _ _ r1 q1 hs af
/-! ### list(reversed(x)) -/
def gLrev : PyData → Option S
  | .list l => some (.lst l.reverse)
  | _ => none
theorem ze_lrev {p pos p2 pos2 : Pos} (hm : X.mg "list" = none) (hm2 : X.mg "reversed" = none) (he : ZE X xc W e ca) (hc : X.calm = true := by rfl) (hg : Gl X "list" := by rfl) (hg2 : Gl X "reversed" := by rfl)
    (hs : starEach [e] X.env = (false, eval e X.env) :: starEach [] X.env := by rfl)
    (hs2 : starEach [.Call (.Name "reversed" p2) [e] [] pos2] X.env = (false, eval (.Call (.Name "reversed" p2) [e] [] pos2) X.env) :: starEach [] X.env := by rfl) :
    ZE X xc W (.Call (.Name "list" p) [.Call (.Name "reversed" p2) [e] [] pos2] [] pos) (c1 gLrev ca) :=
  PE.imp (pe_lstRev hc hg hm hg2 hm2 he hs hs2) fun σ H Q ⟨Γ, B, ρ, rep, k⟩ => tz_bd rep k fun x B1 H1 d ρ1 e1 r1 q1 k1 => by
    obtain ⟨s, hs, af⟩ := out_lift k1
    unfold gLrev at hs
    split at hs
    · cases hs
      obtain ⟨a, ys, rfl, k1, k2⟩ := dp_list q1
      exact ⟨a, ys, rfl, ex_l r1.bh k1, fun p hp => After.lst r1 af (dpAll_rev k2) hp⟩
    · cases hs
end
/-! ### sorted -/
def gSorted : List PyData → Option S
  | [.list l] => bif sortOk l then some (.lst (l.mergeSort dLe)) else none
  | [.dict l] => bif sortOk (l.map (·.1)) then some (.lst ((l.map (·.1)).mergeSort dLe)) else none
  | _ => none
theorem on_sorted {K : KF} : OpN K (fun xs H Q => rSL K xs H Q ∨ rSD K xs H Q) gSorted := by
  intro J Γ B ρ σ H xs ds s Q rep hx hs af
  unfold gSorted at hs
  split at hs
  · rename_i l
    obtain ⟨h1, h2⟩ := bif_some hs
    subst h2
    obtain ⟨x, rfl, g1⟩ := dpAll_one hx
    obtain ⟨a, ys, rfl, k1, k2⟩ := dp_list g1
    exact .inl ⟨B, a, ys, l, rfl, rep.bh, ex_l rep.bh k1, k2, h1, fun p zs hp hz => After.lst rep af hz hp⟩
  · rename_i l
    obtain ⟨h1, h2⟩ := bif_some hs
    subst h2
    obtain ⟨x, rfl, g1⟩ := dpAll_one hx
    obtain ⟨a, rfl, g2⟩ := dp_dict g1
    have no : (∃ kvs, B a = some (.dK kvs) ∧ DpKV K B kvs l) ∨ (∃ L, B a = some (nO K a L) ∧ DpKN K B L l) := by
      rcases g2 with g2 | g2 | ⟨C, dx, c, vs, es, rfl, _⟩
      · exact .inl g2
      · exact .inr g2
      · obtain ⟨_, h2, _, _⟩ := sortOk_of h1
        rcases h2 with h2 | h2
        · obtain ⟨_, _, e⟩ := h2 .none (by simp)
          cases e
        · exact absurd rfl (h2 .none (by simp)).1
    refine .inr ⟨B, a, l, rfl, rep.bh, ?_, h1, fun p zs hp hz => After.lst rep af hz hp⟩
    rcases no with ⟨kvs, e1, e2⟩ | ⟨L, e1, e2⟩
    · exact .inl ⟨kvs, rep.bh _ _ e1, e2⟩
    · exact .inr ⟨L, rep.bh _ _ e1, e2⟩
  · cases hs
/-! ### min of data -/
def alikeOk (l : List PyData) : Bool := (l.all fun d => l.all fun e => PySem.W.alike d e) && (l.all fun d => match d with
    | .none => false
    | _ => true) && decide (PyData.depthAll l ≤ 60) && plains l
def gMinD : List PyData → Option S
  | [.list (d :: ds)] => bif alikeOk (d :: ds) then some (.dat (PySem.W.minD d ds)) else none
  | _ => none
def rMinD (K : KF) : List V → Hp → VK → Prop := fun vs H Q => ∃ B a xs d ds, vs = [V.ref a] ∧ Ex B H ∧ SqL K H a xs ∧ DpAll K B xs (d :: ds) ∧ alikeOk (d :: ds) = true ∧ ∀ y, Dp K B y (PySem.W.minD d ds) → Q y H
section
variable {X : Cx}
theorem plains_mem {d : PyData} : ∀ {l : List PyData}, plains l = true → d ∈ l → plain d = true
  | [], _, h => by cases h
  | e :: l, p, h => by
    have q := Bool.and_eq_true_iff.mp p
    rcases List.mem_cons.mp h with rfl | h
    · exact q.1
    · exact plains_mem q.2 h
theorem readsAll_of {pins : List (Addr × Obj)} {σ : L2.St} {H : Hp} {s : Shared} (I : Inv X pins σ H s) : ∀ {xs : List V} {us : List Value} {ds : List PyData}, L2.DpAll X.K H xs ds → Vals xs us → ∃ as, ReadsAll s.heap us ds as
  | _, _, _, .nil, .nil => ⟨_, .nil⟩
  | _, _, _, .cons h t, .cons r rt => by
    obtain ⟨as, h1⟩ := L2.Dp.reads I _ _ _ h r
    obtain ⟨bs, h2⟩ := readsAll_of I t rt
    exact ⟨_, .cons h1 h2⟩
theorem cr_minD (hc : X.calm = true) (hu : X.A.units + 64 < cLine) : CallR X (.builtin "min") (rMinD X.kf) := by
  intro pins s σ H vs us Q I r h
  obtain ⟨B, a, xs, d, ds, rfl, eB, hs, hx, ok, q⟩ := h
  obtain ⟨its, rv, hl, hz⟩ := I.list hs
  obtain ⟨u, rfl, ru⟩ := vals1 r
  obtain rfl : u = Value.ref a := ru
  unfold alikeOk at ok
  have o1 := Bool.and_eq_true_iff.mp ok
  have o2 := Bool.and_eq_true_iff.mp o1.1
  have o3 := Bool.and_eq_true_iff.mp o2.1
  have hp := plains_dp (dpAll_mono eB hx) o1.2
  obtain ⟨as, hr⟩ := readsAll_of I hp rv
  refine PySem.W.min_list_data (I.ok.hd hc) hl.isList (by simpa using hr) ⟨fun x hx y hy => List.all_eq_true.mp (List.all_eq_true.mp o3.1 x hx) y hy, fun x hx e => ?_⟩ ?_ fun i v h' tk bs hi rd hk => ?_
  · have := List.all_eq_true.mp o3.2 x hx
    rw [e] at this
    cases this
  · have := of_decide_eq_true o2.2
    omega
  · have J : Inv X pins σ H { s with heap := h', toks := tk } := I.kept hk
    have hi' : its[i]? = some v := by simpa using hi
    have hlt : i < xs.length := by rw [rv.length]; exact (List.getElem?_eq_some_iff.mp hi').1
    have hx1 := List.getElem?_eq_getElem hlt
    generalize xs[i] = x at hx1
    obtain ⟨v', hv', hx2⟩ := Vals.get rv hx1
    have ev : v' = v := Option.some.inj (hv'.symm.trans hi')
    subst ev
    obtain ⟨e, he1, he2⟩ := dpAll_get' hx hx1
    have pe : plain e = true := plains_mem o1.2 (List.mem_of_getElem? he1)
    obtain ⟨cs, r2⟩ := L2.Dp.reads J _ _ _ (plain_dp (dp_mono eB he2) pe) hx2
    obtain ⟨e3, _⟩ := PySem.Reads.unique rd _ _ r2
    rw [← e3] at he2
    exact ⟨x, H, J, hx2, q x he2⟩
theorem on_minD {K : KF} : OpN K (fun xs H Q => rMin K.K xs H Q ∨ rMinD K xs H Q) (fun ds => gMin1 ds <|> gMinD ds) := by
  intro J Γ B ρ σ H xs ds s Q rep hx hs af
  cases h1 : gMin1 ds with
  | some r =>
    simp only [h1] at hs
    cases hs
    exact .inl (on_min1 _ _ _ _ _ _ _ _ _ _ rep hx h1 af)
  | none =>
    simp only [h1] at hs
    have hs : gMinD ds = some s := hs
    unfold gMinD at hs
    split at hs
    · rename_i d l _
      obtain ⟨g1, g2⟩ := bif_some hs
      subst g2
      obtain ⟨x, rfl, k1⟩ := dpAll_one hx
      obtain ⟨a, ys, rfl, k2, k3⟩ := dp_list k1
      exact .inr ⟨B, a, ys, d, l, rfl, rep.bh, ex_l rep.bh k2, k3, g1, fun y hy => After.now rep af hy⟩
    · cases hs
end
/-! ### dict(pairs) -/
def prsOf : List PyData → Option (List (PyData × PyData))
  | [] => some []
  | .tuple [k, v] :: ds => (prsOf ds).map ((k, v) :: ·)
  | _ => none
def dAll (acc ps : List (PyData × PyData)) : List (PyData × PyData) := ps.foldl (fun a p => dPut a p.1 p.2) acc
def gDict : List PyData → Option S
  | [.list l] => match prsOf l with
    | some ps => bif (ps.all fun p => isK p.1) || (ps.all fun p => isN p.1) then some (.dic (dAll [] ps)) else none
    | none => none
  | _ => none
theorem prsOf_map : ∀ {l : List PyData} {ps : List (PyData × PyData)}, prsOf l = some ps → l = ps.map fun p => PyData.tuple [p.1, p.2]
  | [], ps, h => by cases h; rfl
  | d :: ds, ps, h => by
    unfold prsOf at h
    split at h
    · rename_i e
      cases e
    · rename_i k v ds' e
      cases e
      cases h1 : prsOf ds with
      | none => rw [h1] at h; cases h
      | some r =>
        rw [h1] at h
        cases h
        rw [prsOf_map h1]
        rfl
    · cases h
def rDict (K : KF) : List V → Hp → VK → Prop := fun vs H Q => ∃ B a xs ps, vs = [V.ref a] ∧ Ex B H ∧ SqL K H a xs ∧ DpAll K B xs (ps.map fun p => PyData.tuple [p.1, p.2]) ∧ ((ps.all fun p => isK p.1) || (ps.all fun p => isN p.1)) = true ∧
  ∀ p ob, H p = none → DicAt K B (upd H p ob) p (dAll [] ps) → Q (.ref p) (upd H p ob)
section
variable {X : Cx}
theorem pairs_k {K : KF} {B : Hp} : ∀ {xs : List V} {ps : List (PyData × PyData)}, DpAll K B xs (ps.map fun p => PyData.tuple [p.1, p.2]) → (ps.all fun p => isK p.1) = true →
    ∃ (as : List Addr) (kvs : List (Key × V)), xs = as.map V.ref ∧ Paired (fun p kv => SqT K B p [kV kv.1, kv.2]) as kvs ∧ DpKV K B kvs ps
  | _, [], .nil, _ => ⟨[], [], rfl, .nil, .nil⟩
  | _, p :: ps, .cons h t, hk => by
    rw [List.all_cons] at hk
    have hk := Bool.and_eq_true_iff.mp hk
    obtain ⟨as, kvs, rfl, h1, h2⟩ := pairs_k t hk.2
    obtain ⟨a, ys, rfl, g1, g2⟩ := dp_tup h
    obtain ⟨x, y, rfl, g3, g4⟩ := dpAll_two g2
    obtain ⟨k, _, ek⟩ := isK_of hk.1
    obtain ⟨p1, p2⟩ := p
    simp only at ek g3 g4
    subst ek
    have ex : x = kV k := by
      cases k with
      | inl i => exact dp_int g3
      | inr i => exact dp_str g3
    subst ex
    exact ⟨a :: as, (k, y) :: kvs, rfl, .cons g1 h1, .cons g4 h2⟩
theorem merge_dp {K : KF} {B : Hp} : ∀ {kvs acc : List (Key × V)} {ps l : List (PyData × PyData)}, DpKV K B kvs ps → DpKV K B acc l → DpKV K B (mergeK acc kvs) (dAll l ps)
  | [], _, _, _, h, ha => by cases h; exact ha
  | _ :: kvs, acc, _ :: ps, l, h, ha => by
    cases h with
    | cons h t => exact merge_dp (kvs := kvs) (ps := ps) t (dPut_k ha h)
/-- the pairs, keys that are tuples -/
structure PN (K : KF) (B : Hp) (h : Heap) (xs : List V) (us : List Value) (ps : List (PyData × PyData)) (Ts : Nat → Addr) (L : NL) (M : List (NestedKey × Addr × Value)) : Prop where
  nx : NX L M
  dp : DpKN K B L ps
  len : us.length = M.length
  at_ : ∀ j k b v, M[j]? = some (k, b, v) → us[j]? = some (.ref (Ts j)) ∧ PySem.PairAt h (Ts j) (.ref b) v
theorem pairs_n {pins : List (Addr × Obj)} {σ : L2.St} {H B : Hp} {s : Shared} (I : Inv X pins σ H s) (eB : Ex B H) : ∀ {xs : List V} {us : List Value} {ps : List (PyData × PyData)}, DpAll X.kf B xs (ps.map fun p => PyData.tuple [p.1, p.2]) → Vals xs us → (ps.all fun p => isN p.1) = true →
    ∃ Ts L M, PN X.kf B s.heap xs us ps Ts L M
  | _, _, [], .nil, .nil, _ => ⟨fun _ => 0, [], [], .nil, .nil, rfl, fun j k b v h => by simp at h⟩
  | _, _, p :: ps, .cons h t, .cons (b := u) r rt, hk => by
    rw [List.all_cons] at hk
    have hk := Bool.and_eq_true_iff.mp hk
    obtain ⟨Ts, L, M, q⟩ := pairs_n I eB t rt hk.2
    obtain ⟨a, ys, rfl, g1, g2⟩ := dp_tup h
    obtain ⟨x, y, rfl, g3, g4⟩ := dpAll_two g2
    obtain ⟨ks, ek, hz⟩ := isN_of hk.1
    obtain ⟨p1, p2⟩ := p
    simp only at ek g3 g4
    subst ek
    obtain ⟨c, zs, rfl, _, _⟩ := dp_tup g3
    obtain ⟨its, rv, ht, _⟩ := I.tuple (ex_t eB g1)
    obtain ⟨w1, w2, rfl, rw1, rw2⟩ := vals2 rv
    obtain rfl : w1 = Value.ref c := rw1
    obtain rfl : u = Value.ref a := r
    refine ⟨fun j => match j with | 0 => a | j + 1 => Ts j, (.tup ks, c, y) :: L, (.tup ks, c, w2) :: M, .cons ⟨rfl, rfl, rw2⟩ q.nx, .cons g3 hz g4 q.dp, by simp [q.len], fun j k b v e => ?_⟩
    cases j with
    | zero =>
      cases e
      obtain ⟨o, ho, hc, n, hd⟩ := ht
      exact ⟨rfl, .inl ⟨o, ho, hc, n, by simpa using hd⟩⟩
    | succ j => exact ⟨by simpa using (q.at_ j k b v (by simpa using e)).1, (q.at_ j k b v (by simpa using e)).2⟩
theorem merge_n {K : KF} {B : Hp} : ∀ {L acc : NL} {M xs : List (NestedKey × Addr × Value)} {ps l : List (PyData × PyData)}, DpKN K B L ps → NX L M → DpKN K B acc l → NX acc xs → ∃ R : NL, DpKN K B R (dAll l ps) ∧ NX R (storedAllH xs M)
  | [], acc, _, _, _, _, h, hn, ha, hx => by cases h; cases hn; exact ⟨acc, ha, hx⟩
  | _ :: L, acc, _ :: M, _, _ :: ps, _, h, hn, ha, hx => by
    cases hn with
    | cons r hn =>
      cases h with
      | cons h0 hz h t =>
        obtain ⟨r1, r2, r3⟩ := r
        simp only at r1 r2 r3
        exact merge_n (M := M) (ps := ps) t hn (dPut_n ha h0 hz h) (by show NX _ (storedH _ _ _ _); rw [← r1, ← r2]; exact hx.put r3)
theorem cr_dict (hc : X.calm = true) (hu : X.A.units + 64 < cLine) : CallR X (.type "dict") (rDict X.kf) := by
  intro pins s σ H vs us Q I r h
  obtain ⟨B, a, xs, ps, rfl, eB, hs, hx, ok, q⟩ := h
  cases hk : (ps.all fun p => isK p.1) with
  | true =>
    obtain ⟨as, kvs, rfl, h1, h2⟩ := pairs_k hx hk
    have h1' : Paired (fun p kv => L2.SqT X.K H p [kV kv.1, kv.2]) as kvs := by
      clear h2 hs hx
      induction h1 with
      | nil => exact .nil
      | cons h t ih => exact .cons (ex_t eB h) ih
    exact call_dictP hc pins s σ H [V.ref a] us Q I r ⟨a, as, kvs, rfl, hs, h1', fun p hp => q p _ hp (.inl ⟨_, upd_same, merge_dp h2 .nil⟩)⟩
  | false =>
    rw [hk, Bool.false_or] at ok
    obtain ⟨its, rv, hl, hz⟩ := I.list hs
    obtain ⟨u, rfl, ru⟩ := vals1 r
    obtain rfl : u = Value.ref a := ru
    obtain ⟨Ts, L, M, pn⟩ := pairs_n I eB hx rv ok
    have hlen : its.length = M.length := pn.len
    let prs : List (Value × Value) := M.map fun m => (.ref m.2.1, m.2.2)
    have hpr : prs.length = M.length := by simp [prs]
    obtain ⟨o, n, ho, hcl, hdi, hdat⟩ := hl
    have hkeys := keys_is I (dpKN_mono eB pn.dp) pn.nx
    refine PySem.call_dict_pairsH (knd := nestedKind X.prog X.w) (ps := M) (PySem.PairArg.list a its.toArray Ts prs) (I.ok.hd hc) (show X.A.units + 1 + 1 + 8 < cLine by omega) ⟨⟨o, n, ho, hcl, hdi, hdat⟩, by rw [List.size_toArray, hpr, hlen], fun j k v e => ?_⟩ ⟨hpr.symm, fun i k v e => ?_⟩ (fun h' hk' x hx' => ?_) (by rw [hpr, ← hlen, ← rv.length]; exact hz) fun h' tk hd' hk' => ?_
    · simp only [prs, List.getElem?_map] at e
      cases em : M[j]? with
      | none => rw [em] at e; cases e
      | some m =>
        rw [em] at e
        cases e
        have := pn.at_ j m.1 m.2.1 m.2.2 em
        exact ⟨by simpa using this.1, this.2⟩
    · have e : prs[i]? = some (k, v) := e
      simp only [prs, List.getElem?_map] at e
      cases em : M[i]? with
      | none => rw [em] at e; cases e
      | some m =>
        rw [em] at e
        cases e
        exact ⟨m.1, m.2.1, rfl, rfl⟩
    · have J : Inv X pins σ H { s with heap := h', toks := s.toks } := I.kept fun b o e => hk' b o (Nat.ne_of_lt (Heap.lt_size e)) (by simp) e
      exact keys_is J (dpKN_mono eB pn.dp) pn.nx x hx'
    · obtain ⟨R, m1, m2⟩ := merge_n pn.dp pn.nx .nil (xs := []) .nil
      obtain ⟨o', es, ep, g1, g2, g3, g4, g5, g6⟩ := hd'
      have hm : (s.heap.objs.size == sysModules) = false := beq_eq_false_iff_ne.mpr (Nat.ne_of_gt I.big)
      have hle : R.length ≤ sizeLine := by
        have e1 : R.length = (storedAllH [] M).length := Paired.length m2
        have e2 := storedAllH_length M []
        rw [e1]
        simp only [List.length_nil, Nat.zero_add] at e2
        refine Nat.le_trans e2 ?_
        rw [← hlen, ← rv.length]
        exact hz
      exact ⟨.ref s.heap.objs.size, upd H s.heap.objs.size (nO X.kf s.heap.objs.size R), I.laid (t' := tk) (fun b o e => hk' b o (by simp) e) (Nat.le_refl _) (nOk_obj (K := X.kf) ⟨hm, hle, by rw [NX.keys m2]; exact g6, _, o', es, ep, m2, g1, g2, g3, g4⟩), rfl, q _ _ (I.hok.fresh (Nat.le_refl _)) (.inr ⟨R, upd_same, m1⟩)⟩
theorem on_dict {K : KF} : OpN K (rDict K) gDict := by
  intro J Γ B ρ σ H xs ds s Q rep hx hs af
  unfold gDict at hs
  split at hs
  · rename_i l
    cases hb : prsOf l with
    | none => rw [hb] at hs; cases hs
    | some ps =>
      rw [hb] at hs
      obtain ⟨g1, g2⟩ := bif_some hs
      subst g2
      obtain ⟨x, rfl, h1⟩ := dpAll_one hx
      obtain ⟨a, ys, rfl, k1, k2⟩ := dp_list h1
      rw [prsOf_map hb] at k2
      refine ⟨B, a, ys, ps, rfl, rep.bh, ex_l rep.bh k1, k2, g1, fun p ob hp hd => ?_⟩
      obtain ⟨r2, o, h⟩ := rep.newX (o := ob) hp
      exact af _ _ _ (Ex.refl B) r2 (h _ rfl ⟨p, rfl, rfl, o, hd⟩)
  · cases hs
end
section
variable {X : Cx} {xc : Str → Value} {W : Ww}
def gMinX (ds : List PyData) : Option S := gMin1 ds <|> gMinD ds
theorem on_minX {K : KF} : OpN K (fun xs H Q => rMin K.K xs H Q ∨ rMinD K xs H Q) gMinX := on_minD
theorem cr_minX (hu : X.A.units + 64 < cLine) (hc : X.calm = true := by rfl) : CallR X (.builtin "min") (fun xs H Q => rMin X.K xs H Q ∨ rMinD X.kf xs H Q) := fun pins s σ H vs us Q I r h =>
  h.elim (fun h => cr_min hc pins s σ H vs us Q I r h) fun h => cr_minD hc hu pins s σ H vs us Q I r h
theorem cr_sorted (hu : X.A.units + 65 < cLine) (hc : X.calm = true := by rfl) : CallR X (.builtin "sorted") (fun xs H Q => rSL X.kf xs H Q ∨ rSD X.kf xs H Q) := fun pins s σ H vs us Q I r h =>
  h.elim (fun h => cr_sortL (Nat.lt_of_succ_lt hu) pins s σ H vs us Q I r h) fun h => cr_sortD hc hu pins s σ H vs us Q I r h
theorem zs_bad {st : Stmt} : ZS X xc W st (fun _ => .bad) := ⟨fun _ _ _ _ _ _ h => by
  obtain ⟨Γ, B, ρ, rep, k⟩ := h
  exact k.elim⟩
end
end Z
set_option maxHeartbeats 2000000
/-! Z: reckoning with lists. -/
namespace Z
open PySem PySem.Spec PyProof.Rows L2
/-! ### comprehensions -/
theorem wipe_len (ρ : En) : ∀ vs : List Nat, (wipeE ρ vs).length = ρ.length
  | [] => rfl
  | v :: vs => by rw [wipe_c, List.length_set, wipe_len ρ vs]
theorem wipe_get (ρ : En) : ∀ (vs : List Nat) (i : Nat), (wipeE ρ vs)[i]? = if i ∈ vs ∧ i < ρ.length then some none else ρ[i]?
  | [], i => by simp [wipeE]
  | v :: vs, i => by
    rw [wipe_c, List.getElem?_set, wipe_len, wipe_get ρ vs i]
    by_cases e : v = i
    · subst e
      by_cases h : v < ρ.length
      · simp [h]
      · simp [h]
    · have e' : ¬ i = v := fun h => e h.symm
      simp [e, e']
theorem restore_len (ρ0 ρ : En) : ∀ vs : List Nat, (restoreE ρ0 ρ vs).length = ρ.length
  | [] => rfl
  | v :: vs => by
    rw [rest_c]
    cases h : ρ0[v]? with
    | none => exact restore_len ρ0 ρ vs
    | some o => rw [rsE_0, List.length_set]; exact restore_len ρ0 ρ vs
theorem restore_get (ρ0 ρ : En) (hl : ρ.length = ρ0.length) : ∀ (vs : List Nat) (i : Nat), (restoreE ρ0 ρ vs)[i]? = if i ∈ vs then ρ0[i]? else ρ[i]?
  | [], i => by simp [restoreE]
  | v :: vs, i => by
    rw [rest_c]
    have ih := restore_get ρ0 ρ hl vs i
    cases h : ρ0[v]? with
    | none =>
      show (restoreE ρ0 ρ vs)[i]? = _
      rw [ih]
      by_cases e : i = v
      · subst e
        have h' : ρ[i]? = none := by rw [List.getElem?_eq_none_iff] at h ⊢; omega
        simp [h, h']
      · simp [e]
    | some o =>
      rw [rsE_0, List.getElem?_set, restore_len]
      by_cases e : v = i
      · subst e
        have hv : v < ρ0.length := (List.getElem?_eq_some_iff.mp h).1
        rw [← h]
        simp [hl, hv]
      · have e' : ¬ i = v := fun h => e h.symm
        rw [if_neg e, ih]
        simp [e']
theorem restore_eq {ρ0 ρ : En} {vs : List Nat} (h : wipeE ρ vs = wipeE ρ0 vs) : restoreE ρ0 ρ vs = ρ0 := by
  have hl : ρ.length = ρ0.length := by rw [← wipe_len ρ vs, h, wipe_len]
  refine List.ext_getElem? fun i => ?_
  rw [restore_get ρ0 ρ hl]
  split
  · rfl
  · rename_i hi
    have := congrArg (fun l => l[i]?) h
    simp only [wipe_get] at this
    simpa [hi] using this
/-- what a comprehension asks of one thing -/
def LcOne (ρ : En) (vs : List Nat) (g : CG) (ct ce : CE) (d e : PyData) : Prop := ∃ ρa ρb ρc s, g d (wipeE ρ vs) = some ρa ∧ ct ρa = .ok (.dat (.bool true)) ρb ∧ ce ρb = .ok s ρc ∧ s.d = e ∧ wipeE ρc vs = wipeE ρ vs
theorem lcL_map {ρ0 : En} {vs : List Nat} {g : CG} {ct ce : CE} {f : PyData → PyData} : ∀ {ds acc : List PyData} {ρ : En}, wipeE ρ vs = wipeE ρ0 vs → (∀ d ∈ ds, LcOne ρ0 vs g ct ce d (f d)) → acc.length + ds.length ≤ sizeLine →
    ∃ ρ', lcL vs g ct ce ds ρ acc = .ok (acc ++ ds.map f) ρ' ∧ wipeE ρ' vs = wipeE ρ0 vs
  | [], acc, ρ, h, _, _ => ⟨ρ, by rw [lcL_nil]; simp, h⟩
  | d :: ds, acc, ρ, h, hd, hl => by
    obtain ⟨ρa, ρb, ρc, s, h1, h2, h3, h4, h5⟩ := hd d (by simp)
    have hz : decide (acc.length < sizeLine) = true := decide_eq_true (by simp only [List.length_cons] at hl; omega)
    obtain ⟨ρ', e, w⟩ := lcL_map (ds := ds) (acc := acc ++ [f d]) h5 (fun x hx => hd x (by simp [hx])) (by simp only [List.length_append, List.length_cons, List.length_nil] at *; omega)
    refine ⟨ρ', ?_, w⟩
    rw [lcL_c, h, h1, ml1_0, h2, ml2_t, h3, ml3_0, hz, cond_true, h4, e]
    simp
theorem cLc_map {ρ ρ1 : En} {vs : List Nat} {src : CA} {g : CG} {ct ce : CE} {ds : List PyData} (f : PyData → PyData) (hs : src ρ = .ok ds ρ1) (no : noOwn ρ1 vs = true) (hl : ds.length ≤ sizeLine) (hd : ∀ d ∈ ds, LcOne ρ1 vs g ct ce d (f d)) :
    cLc vs src g ct ce ρ = .ok (.lst (ds.map f)) ρ1 := by
  obtain ⟨ρ', e, w⟩ := lcL_map (ρ0 := ρ1) (ρ := ρ1) (acc := []) rfl hd (by simpa using hl)
  rw [cLc_r, hs, ml4_0, no, cond_true, e, ml5_0, restore_eq w]
  rfl
/-- the same where the first thing freezes what is read -/
def LcTo (ρ ρ' : En) (vs : List Nat) (g : CG) (ct ce : CE) (d e : PyData) : Prop := ∃ ρa ρb ρc s, g d (wipeE ρ vs) = some ρa ∧ ct ρa = .ok (.dat (.bool true)) ρb ∧ ce ρb = .ok s ρc ∧ s.d = e ∧ wipeE ρc vs = wipeE ρ' vs
theorem cLc_map2 {ρ ρ1 ρ2 : En} {vs : List Nat} {src : CA} {g : CG} {ct ce : CE} {ds : List PyData} (f : PyData → PyData) (hs : src ρ = .ok ds ρ1) (no : noOwn ρ1 vs = true) (hl : ds.length ≤ sizeLine) (hn : ds ≠ []) (h1 : ∀ d ∈ ds, LcTo ρ1 ρ2 vs g ct ce d (f d)) (h2 : ∀ d ∈ ds, LcTo ρ2 ρ2 vs g ct ce d (f d))
    (hlen : ρ2.length = ρ1.length) (hv : restoreE ρ1 ρ2 vs = ρ2) : cLc vs src g ct ce ρ = .ok (.lst (ds.map f)) ρ2 := by
  match ds, hn with
  | d :: ds, _ =>
    obtain ⟨ρa, ρb, ρc, s, e1, e2, e3, e4, e5⟩ := h1 d (by simp)
    obtain ⟨ρ', e, w⟩ := lcL_map (ρ0 := ρ2) (ρ := ρc) (ds := ds) (acc := [f d]) e5 (fun x hx => h2 x (by simp [hx])) (by simp only [List.length_cons, List.length_nil] at *; omega)
    have hz : decide (([] : List PyData).length < sizeLine) = true := by decide
    rw [cLc_r, hs, ml4_0, no, cond_true, lcL_c, e1, ml1_0, e2, ml2_t, e3, ml3_0, hz, cond_true, e4, List.nil_append, e, ml5_0]
    have hw : ρ'.length = ρ2.length := by rw [← wipe_len ρ' vs, w, wipe_len]
    have : restoreE ρ1 ρ' vs = ρ2 := by
      rw [← hv]
      refine List.ext_getElem? fun i => ?_
      rw [restore_get ρ1 ρ' (hw.trans hlen), restore_get ρ1 ρ2 hlen]
      split
      · rfl
      · rename_i hi
        have := congrArg (fun l => l[i]?) w
        simp only [wipe_get] at this
        simpa [hi] using this
    rw [this]
    rfl
/-! ### a dict's keys, in order -/
theorem nkOf_pD (c : Cn) : nkOf (pD c) = some (.tup [.num c.1, .num c.2]) := rfl
theorem isN_pD (c : Cn) : isN (pD c) = true := rfl
theorem isK_pD (c : Cn) : isK (pD c) = false := rfl
theorem kEq_pD {a b : Cn} : kEq (pD a) (pD b) = decide (a = b) := by
  unfold kEq
  rw [nkOf_pD, nkOf_pD]
  by_cases e : a = b
  · subst e; simp
  · rw [decide_eq_false e, decide_eq_false]
    intro h
    simp at h
    exact e (Prod.ext h.1 h.2)
def pT (c : Cn) : PyData × PyData := (pD c, .bool true)
theorem dGet_pT {k : Cn} : ∀ {ks : List Cn}, dGet (ks.map pT) (pD k) = if k ∈ ks then some (.bool true) else none
  | [] => rfl
  | c :: ks => by
    show (bif kEq (pD c) (pD k) then some (PyData.bool true) else dGet (ks.map pT) (pD k)) = _
    rw [kEq_pD, dGet_pT]
    by_cases e : c = k
    · subst e; simp
    · have e' : ¬ k = c := fun h => e h.symm
      simp [e, e']
theorem dRep_pT {k : Cn} : ∀ {ks : List Cn}, dRep (ks.map pT) (pD k) (.bool true) = ks.map pT
  | [] => rfl
  | c :: ks => by
    rw [List.map_cons, dRep, dRep_pT]
    have : (bif kEq (pT c).1 (pD k) then ((pT c).1, PyData.bool true) else pT c) = pT c := by cases kEq (pT c).1 (pD k) <;> rfl
    rw [this]
def addC (ks : List Cn) (k : Cn) : List Cn := if k ∈ ks then ks else ks ++ [k]
theorem dPut_pT {k : Cn} {ks : List Cn} : dPut (ks.map pT) (pD k) (.bool true) = (addC ks k).map pT := by
  unfold dPut addC
  rw [dGet_pT]
  by_cases e : k ∈ ks
  · rw [if_pos e, if_pos e]; exact dRep_pT
  · rw [if_neg e, if_neg e, List.map_append]; rfl
theorem addC_nd {ks : List Cn} {k : Cn} (h : ks.Nodup) : (addC ks k).Nodup := by
  unfold addC
  split
  · exact h
  · rename_i e
    exact List.nodup_append.mpr ⟨h, by simp, fun x hx y hy => by rw [List.mem_singleton.mp hy]; exact fun q => e (q ▸ hx)⟩
theorem addC_mem {ks : List Cn} {k c : Cn} : c ∈ addC ks k ↔ c ∈ ks ∨ c = k := by
  unfold addC
  split
  · rename_i h
    constructor
    · exact .inl
    · rintro (h' | rfl)
      · exact h'
      · exact h
  · simp
theorem addC_len {ks : List Cn} {k : Cn} : (addC ks k).length ≤ ks.length + 1 := by
  unfold addC
  split <;> simp
theorem kOk_pT {ks : List Cn} {k : Cn} : kOk (ks.map pT) (pD k) = true := by
  unfold kOk
  rw [isK_pD, cond_false, isN_pD, Bool.true_and, List.all_map]
  exact List.all_eq_true.mpr fun x _ => isN_pD x
/-- the keys of {c: True for c in cs} -/
def keysC (cs : List Cn) : List Cn := cs.foldl addC []
theorem keys_go : ∀ {cs ks : List Cn}, ks.Nodup → (cs.foldl addC ks).Nodup ∧ (∀ c, c ∈ cs.foldl addC ks ↔ c ∈ ks ∨ c ∈ cs) ∧ (cs.foldl addC ks).length ≤ ks.length + cs.length
  | [], ks, h => ⟨h, fun c => by simp, by simp⟩
  | k :: cs, ks, h => by
    obtain ⟨h1, h2, h3⟩ := keys_go (cs := cs) (addC_nd (k := k) h)
    refine ⟨h1, fun c => ?_, ?_⟩
    · rw [List.foldl_cons, h2, addC_mem, List.mem_cons]
      grind
    · rw [List.foldl_cons, List.length_cons]
      have := addC_len (ks := ks) (k := k)
      omega
theorem keysC_ok (cs : List Cn) : (keysC cs).Nodup ∧ (∀ c, c ∈ keysC cs ↔ c ∈ cs) ∧ (keysC cs).length ≤ cs.length := by
  obtain ⟨h1, h2, h3⟩ := keys_go (cs := cs) (ks := []) (by simp)
  exact ⟨h1, fun c => (h2 c).trans (by simp), by unfold keysC; simpa using h3⟩
theorem dAll_pT {cs : List Cn} : ∀ {ks : List Cn}, dAll (ks.map pT) (cs.map pT) = (cs.foldl addC ks).map pT := by
  induction cs with
  | nil => intro ks; rfl
  | cons c cs ih =>
    intro ks
    show dAll (dPut (ks.map pT) (pD c) (.bool true)) (cs.map pT) = _
    rw [dPut_pT, ih]
    rfl
/-- the order of corners in sorted -/
def ordC (cs : List Cn) : List Cn := (keysC cs).mergeSort fun a b => !SrtO.lexB b a
theorem dataLt_pD {a b : Cn} : PySem.W.dataLt (pD a) (pD b) = SrtO.lexB a b := by
  show PyProof.Rows.lexLt PyProof.Rows.itemOrd [.inl 1, .inl a.1, .inl 1, .inl a.2, .inl 0] [.inl 1, .inl b.1, .inl 1, .inl b.2, .inl 0] = _
  unfold SrtO.lexB
  by_cases e : a.1 = b.1
  · rw [if_pos e]
    simp [PyProof.Rows.lexLt, PyProof.Rows.itemLt, e]
  · rw [if_neg e]
    simp only [PyProof.Rows.lexLt, PyProof.Rows.itemLt]
    rcases Int.lt_or_gt_of_ne e with h | h
    · simp [h]
    · have h' : ¬ a.1 < b.1 := by omega
      simp [h, h']
theorem sort_pD (ks : List Cn) : (ks.map pD).mergeSort dLe = (ks.mergeSort fun a b => !SrtO.lexB b a).map pD := by
  symm
  refine List.map_mergeSort fun a _ b _ => ?_
  unfold dLe
  rw [dataLt_pD]
theorem sortOk_pD {ks : List Cn} : sortOk (ks.map pD) = true := by
  unfold sortOk
  have h1 : ((ks.map pD).all fun d => (ks.map pD).all fun e => PySem.W.alike d e) = true := by
    refine List.all_eq_true.mpr fun d hd => List.all_eq_true.mpr fun e he => ?_
    obtain ⟨a, _, rfl⟩ := List.mem_map.mp hd
    obtain ⟨b, _, rfl⟩ := List.mem_map.mp he
    rfl
  have h2 : plains (ks.map pD) = true := by
    induction ks with
    | nil => rfl
    | cons c cs ih => exact ih (by
        refine List.all_eq_true.mpr fun d hd => List.all_eq_true.mpr fun e he => ?_
        obtain ⟨a, _, rfl⟩ := List.mem_map.mp hd
        obtain ⟨b, _, rfl⟩ := List.mem_map.mp he
        rfl)
  rw [h1, h2]
  simp only [List.all_map, Bool.true_and, Bool.and_true]
  rw [Bool.and_eq_true]
  refine ⟨?_, List.all_eq_true.mpr fun c _ => ?_⟩
  · rw [Bool.or_eq_true]
    exact .inl (List.all_eq_true.mpr fun c _ => rfl)
  · rfl
theorem ordC_ok (cs : List Cn) : (ordC cs).Pairwise (fun a b => a.1 < b.1 ∨ (a.1 = b.1 ∧ a.2 < b.2)) ∧ (∀ c, c ∈ ordC cs ↔ c ∈ cs) ∧ (ordC cs).length ≤ cs.length := by
  obtain ⟨h1, h2, h3⟩ := keysC_ok cs
  have p := List.mergeSort_perm (keysC cs) fun a b => !SrtO.lexB b a
  have tr : ∀ a b c : Cn, (!SrtO.lexB b a) = true → (!SrtO.lexB c b) = true → (!SrtO.lexB c a) = true := fun a b c h g => by
    simp only [Bool.not_eq_true', ] at *
    rw [SrtO.lexB_no] at *
    omega
  have to : ∀ a b : Cn, ((!SrtO.lexB b a) || (!SrtO.lexB a b)) = true := fun a b => by
    cases h : SrtO.lexB b a with
    | false => rfl
    | true =>
      cases g : SrtO.lexB a b with
      | false => rfl
      | true =>
        rw [SrtO.lexB_iff] at *
        omega
  have s := List.pairwise_mergeSort tr to (keysC cs)
  refine ⟨?_, fun c => (p.mem_iff).trans (h2 c), by unfold ordC; rw [p.length_eq]; exact h3⟩
  have nd : (ordC cs).Nodup := p.nodup_iff.mpr h1
  refine (s.and nd).imp fun {a b} h => ?_
  obtain ⟨h, n⟩ := h
  simp only [Bool.not_eq_true'] at h
  rw [SrtO.lexB_no] at h
  have : ¬ (a.1 = b.1 ∧ a.2 = b.2) := fun e => n (Prod.ext e.1 e.2)
  omega
/-! ### equality of corners and of lists of them -/
theorem eqv_pD {a b : Cn} : PyData.eqv (pD a) (pD b) = decide (a = b) := by
  show ((a.1 == b.1) && ((a.2 == b.2) && true)) = _
  by_cases e : a = b
  · subst e; simp
  · rw [decide_eq_false e]
    cases h : ((a.1 == b.1) && ((a.2 == b.2) && true)) with
    | false => rfl
    | true =>
      simp at h
      exact absurd (Prod.ext h.1 h.2) e
theorem eqvAll_pD : ∀ {P Q : List Cn}, PyData.eqvAll (P.map pD) (Q.map pD) = decide (P = Q)
  | [], [] => rfl
  | [], _ :: _ => rfl
  | _ :: _, [] => rfl
  | a :: P, b :: Q => by
    show (PyData.eqv (pD a) (pD b) && PyData.eqvAll (P.map pD) (Q.map pD)) = _
    rw [eqv_pD, eqvAll_pD]
    by_cases e : a = b <;> by_cases f : P = Q <;> simp [e, f]
theorem plains_pD : ∀ {P : List Cn}, plains (P.map pD) = true
  | [] => rfl
  | _ :: P => plains_pD (P := P)
theorem lay_pD : ∀ {P : List Cn}, PyData.canLayAll0 (P.map pD) = true
  | [] => rfl
  | _ :: P => lay_pD (P := P)
theorem dep_pD : ∀ {P : List Cn}, PyData.depthAll (P.map pD) ≤ 1
  | [] => by decide
  | _ :: P => Nat.max_le.mpr ⟨Nat.le_refl 1, dep_pD (P := P)⟩
theorem shp_pD {c : Cn} : shp (pD c) = true := rfl
theorem shp_tup {P : List Cn} : shp (.tuple (P.map pD)) = true := by
  unfold shp
  rw [show plain (.tuple (P.map pD)) = true from plains_pD, Bool.true_and]
  unfold SeqAt.shaped
  rw [show (PyData.tuple (P.map pD)).canLay0 = true from lay_pD, Bool.true_and]
  exact decide_eq_true (show PyData.depthAll (P.map pD) + 1 ≤ 64 by have := dep_pD (P := P); omega)
theorem shp_lst {P : List Cn} : shp (.list (P.map pD)) = true := by
  unfold shp
  rw [show plain (.list (P.map pD)) = true from plains_pD, Bool.true_and]
  unfold SeqAt.shaped
  rw [show (PyData.list (P.map pD)).canLay0 = true from lay_pD, Bool.true_and]
  exact decide_eq_true (show PyData.depthAll (P.map pD) + 1 ≤ 64 by have := dep_pD (P := P); omega)
theorem gEq_pD {a b : Cn} : gEq (pD a) (pD b) = some (.dat (.bool (decide (a = b)))) := by
  unfold gEq; rw [shp_pD, shp_pD, eqv_pD]; rfl
theorem gNe_pD {a b : Cn} : gNe (pD a) (pD b) = some (.dat (.bool (!decide (a = b)))) := by
  unfold gNe; rw [shp_pD, shp_pD, eqv_pD]; rfl
theorem gEq_tup {P Q : List Cn} : gEq (.tuple (P.map pD)) (.tuple (Q.map pD)) = some (.dat (.bool (decide (P = Q)))) := by
  unfold gEq; rw [shp_tup, shp_tup, show PyData.eqv (.tuple (P.map pD)) (.tuple (Q.map pD)) = decide (P = Q) from eqvAll_pD]; rfl
theorem gNe_tup {P Q : List Cn} : gNe (.tuple (P.map pD)) (.tuple (Q.map pD)) = some (.dat (.bool (!decide (P = Q)))) := by
  unfold gNe; rw [shp_tup, shp_tup, show PyData.eqv (.tuple (P.map pD)) (.tuple (Q.map pD)) = decide (P = Q) from eqvAll_pD]; rfl
theorem gNe_lst {P Q : List Cn} : gNe (.list (P.map pD)) (.list (Q.map pD)) = some (.dat (.bool (!decide (P = Q)))) := by
  unfold gNe; rw [shp_lst, shp_lst, show PyData.eqv (.list (P.map pD)) (.list (Q.map pD)) = decide (P = Q) from eqvAll_pD]; rfl
theorem gIn_pD {c : Cn} {P : List Cn} : gIn (pD c) (.list (P.map pD)) = some (.dat (.bool (decide (c ∈ P)))) := by
  show (bif shp (pD c) && shp (.list (P.map pD)) then some (S.dat (.bool ((P.map pD).any fun z => PyData.eqv z (pD c)))) else none) = _
  rw [shp_pD, shp_lst, Bool.and_true, cond_true]
  congr 3
  rw [List.any_map]
  by_cases h : c ∈ P
  · rw [decide_eq_true h]
    exact List.any_eq_true.mpr ⟨c, h, by simp [eqv_pD]⟩
  · rw [decide_eq_false h]
    exact List.any_eq_false.mpr fun x hx => by
      simp only [Function.comp, eqv_pD, decide_eq_true_eq]
      exact fun e => h (e ▸ hx)
/-! ### places in a list -/
theorem atI_map {α β : Type} {f : α → β} {l : List α} {k : Int} : atI (l.map f) k = (atI l k).map f := by
  unfold atI
  rw [List.length_map]
  cases ixN l.length k with
  | none => rfl
  | some j => simp
theorem atI_pos {α : Type} {l : List α} {k : Int} {j : Nat} {x : α} (e : k = (j : Int)) (h : l[j]? = some x) : atI l k = some x := by
  subst e
  exact atI_nat h
theorem atI_neg {α : Type} {l : List α} {k : Int} {j : Nat} {x : α} (h0 : 0 < j) (e : k = -(j : Int)) (hj : j ≤ l.length) (h : l[l.length - j]? = some x) : atI l k = some x := by
  subst e
  unfold atI ixN
  rw [if_neg (by omega), if_pos (by omega)]
  have : (-(j : Int) + (l.length : Int)).toNat = l.length - j := by omega
  rw [this]
  exact h
theorem gIx_l {l : List PyData} {k : Int} : gIx (.list l) (.int k) = (atI l k).map .dat := rfl
theorem gIx_t {l : List PyData} {k : Int} : gIx (.tuple l) (.int k) = (atI l k).map .dat := rfl
theorem S_k {l : List (PyData × PyData)} : (S.dic l).d = .dict l := rfl
theorem kr1_s {j : Int} {ρ : En} (h : Sml j) : kr1 (.ok [.int j] ρ) = .ok (rangeL 0 j.toNat) ρ := by
  rw [kr1_0, rng1_t h, cond_true]
theorem kr2_s {i j : Int} {ρ : En} (g : Sml i) (h : Sml j) : kr2 (.ok [.int i, .int j] ρ) = .ok (rangeL i (j - i).toNat) ρ := by
  rw [kr2_0, rng2_t g h, cond_true]
/-! ### while -/
theorem while_f {t : CE} {b : CS} {n : Nat} {ρ ρ1 : En} (h : t ρ = .ok (.dat (.bool false)) ρ1) : whileL t b (n + 1) ρ = .nx ρ1 := by
  rw [whileL, h]; rfl
theorem while_t {t : CE} {b : CS} {n : Nat} {ρ ρ1 ρ2 : En} (h : t ρ = .ok (.dat (.bool true)) ρ1) (h2 : b ρ1 = .nx ρ2) : whileL t b (n + 1) ρ = whileL t b n ρ2 := by
  rw [whileL, h]
  show (match b ρ1 with
      | .nx ρ2 => whileL t b n ρ2
      | .ct ρ2 => whileL t b n ρ2
      | .bk ρ2 => .nx ρ2
      | .rt s ρ2 => .rt s ρ2
      | .exc x ρ2 => .exc x ρ2
      | .bad => .bad) = _
  rw [h2]
end Z
set_option maxHeartbeats 2000000
/-! plain: hulls of corners. -/
namespace Z
/-- twice the area -/
def ar (a b c : Cn) : Int := (b.1 - a.1) * (c.2 - a.2) - (b.2 - a.2) * (c.1 - a.1)
abbrev Lt (a b : Cn) : Prop := a.1 < b.1 ∨ (a.1 = b.1 ∧ a.2 < b.2)
abbrev Le (a b : Cn) : Prop := a.1 < b.1 ∨ (a.1 = b.1 ∧ a.2 ≤ b.2)
theorem Le.of {a b : Cn} (h : Lt a b) : Le a b := by rcases h with h | h; exact .inl h; exact .inr ⟨h.1, by omega⟩
theorem le_rf (a : Cn) : Le a a := .inr ⟨rfl, Int.le_refl _⟩
theorem Lt.ne {a b : Cn} (h : Lt a b) : a ≠ b := fun e => by subst e; omega
theorem Le.eq_or {a b : Cn} (h : Le a b) : a = b ∨ Lt a b := by
  obtain ⟨a1, a2⟩ := a
  obtain ⟨b1, b2⟩ := b
  by_cases e : (a1, a2) = (b1, b2)
  · exact .inl e
  · refine .inr ?_
    have : ¬ (a1 = b1 ∧ a2 = b2) := fun h => e (by rw [h.1, h.2])
    have h : a1 < b1 ∨ (a1 = b1 ∧ a2 ≤ b2) := h
    show a1 < b1 ∨ (a1 = b1 ∧ a2 < b2)
    omega
theorem le_anti {a b : Cn} (h : Le a b) (g : Le b a) : a = b := by
  rcases h.eq_or with e | e
  · exact e
  · exfalso; omega
theorem lt_or {a b : Cn} (h : a ≠ b) : Lt a b ∨ Lt b a := by
  by_cases g : Le a b
  · exact g.eq_or.elim (fun e => absurd e h) .inl
  · right; omega
/-! ### vectors to the right -/
abbrev Ps (x y : Int) : Prop := 0 < x ∨ (x = 0 ∧ 0 < y)
theorem mul_nn {a b : Int} (h : 0 ≤ a) (g : 0 ≤ b) : 0 ≤ a * b := Int.mul_nonneg h g
theorem mul_ps {a b : Int} (h : 0 < a) (g : 0 < b) : 0 < a * b := Int.mul_pos h g
theorem pos_of_mul {a b : Int} (h : 0 < a) (g : 0 < a * b) : 0 < b := by
  rcases Int.lt_or_le 0 b with k | k
  · exact k
  · have := Int.mul_nonneg (Int.le_of_lt h) (show 0 ≤ -b by omega)
    rw [Int.mul_neg] at this
    omega
theorem nn_of_mul {a b : Int} (h : 0 < a) (g : 0 ≤ a * b) : 0 ≤ b := by
  rcases Int.lt_or_le b 0 with k | k
  · have := Int.mul_pos h (show 0 < -b by omega)
    rw [Int.mul_neg] at this
    omega
  · exact k
section
variable {u1 u2 v1 v2 w1 w2 : Int}
theorem tr0 (hu : Ps u1 u2) (hv : Ps v1 v2) (hw : Ps w1 w2) (h1 : 0 ≤ u1 * v2 - u2 * v1) (h2 : 0 ≤ v1 * w2 - v2 * w1) : 0 ≤ u1 * w2 - u2 * w1 := by
  rcases hv with hv | ⟨hv, hv2⟩
  · have a := mul_nn (show 0 ≤ u1 by omega) h2
    have b := mul_nn (show 0 ≤ w1 by omega) h1
    refine nn_of_mul hv ?_
    grind
  · subst hv
    have e : w1 = 0 := by
      rcases hw with hw | hw
      · have := mul_ps hv2 hw
        omega
      · exact hw.1
    subst e
    have a := mul_nn (show 0 ≤ u1 by omega) (show 0 ≤ w2 by omega)
    omega
theorem tr1 (hu : Ps u1 u2) (hv : Ps v1 v2) (hw : Ps w1 w2) (h1 : 0 ≤ u1 * v2 - u2 * v1) (h2 : 0 < v1 * w2 - v2 * w1) : 0 < u1 * w2 - u2 * w1 := by
  rcases hv with hv | ⟨hv, hv2⟩
  · have u0 : 0 < u1 := by
      rcases hu with hu | ⟨hu, hu2⟩
      · exact hu
      · subst hu
        have := mul_ps hu2 hv
        omega
    have a := mul_ps u0 h2
    have b := mul_nn (show 0 ≤ w1 by omega) h1
    refine pos_of_mul hv ?_
    grind
  · subst hv
    exfalso
    have := mul_nn (show 0 ≤ v2 by omega) (show 0 ≤ w1 by omega)
    omega
theorem tr2 (hu : Ps u1 u2) (hv : Ps v1 v2) (hw : Ps w1 w2) (h1 : 0 < u1 * v2 - u2 * v1) (h2 : 0 ≤ v1 * w2 - v2 * w1) : 0 < u1 * w2 - u2 * w1 := by
  rcases hv with hv | ⟨hv, hv2⟩
  · rcases hw with hw | ⟨hw, hw2⟩
    · have a := mul_nn (show 0 ≤ u1 by omega) h2
      have b := mul_ps hw h1
      refine pos_of_mul hv ?_
      grind
    · subst hw
      rcases hu with hu | ⟨hu, hu2⟩
      · have := mul_ps hu hw2
        omega
      · subst hu
        have := mul_ps hu2 hv
        omega
  · subst hv
    have e : w1 = 0 := by
      rcases hw with hw | hw
      · have := mul_ps hv2 hw
        omega
      · exact hw.1
    subst e
    have u0 : 0 < u1 := by
      rcases hu with hu | ⟨hu, hu2⟩
      · exact hu
      · subst hu; omega
    have := mul_ps u0 (show 0 < w2 by omega)
    omega
end
section
variable {a b c d e : Cn}
/-- a < b < c < d: turns to the left go on -/
theorem ar_up (h1 : Lt a b) (h2 : Lt b c) (h3 : Lt c d) (g1 : 0 < ar a b c) (g2 : 0 < ar b c d) : 0 < ar a b d := by
  have t := tr1 (u1 := b.1 - a.1) (u2 := b.2 - a.2) (v1 := c.1 - b.1) (v2 := c.2 - b.2) (w1 := d.1 - c.1) (w2 := d.2 - c.2) (by omega) (by omega) (by omega)
    (by unfold ar at g1; grind) (by unfold ar at g2; grind)
  unfold ar at *
  grind
/-- a < b < c, d < b, d on or left of ab, c left of it: d is left of bc -/
theorem ar_back (h1 : Lt a b) (h2 : Lt b c) (h3 : Lt d b) (g1 : 0 < ar a b c) (g2 : 0 ≤ ar a b d) : 0 < ar b c d := by
  have t := tr1 (u1 := b.1 - d.1) (u2 := b.2 - d.2) (v1 := b.1 - a.1) (v2 := b.2 - a.2) (w1 := c.1 - b.1) (w2 := c.2 - b.2) (by omega) (by omega) (by omega)
    (by unfold ar at g2; grind) (by unfold ar at g1; grind)
  unfold ar at *
  grind
/-- what was left out is on or left of the new edge -/
theorem ar_out (h1 : Lt a b) (h2 : Lt a c) (h3 : Lt a d) (g1 : ar a b c ≤ 0) (g2 : 0 ≤ ar a b d) : 0 ≤ ar a c d := by
  have t := tr0 (u1 := c.1 - a.1) (u2 := c.2 - a.2) (v1 := b.1 - a.1) (v2 := b.2 - a.2) (w1 := d.1 - a.1) (w2 := d.2 - a.2) (by omega) (by omega) (by omega)
    (by unfold ar at g1; grind) (by unfold ar at g2; grind)
  unfold ar at *
  grind
end
/-! ### the lower rim -/
def pushC : List Cn → Cn → List Cn
  | b :: a :: r, c => if ar a b c ≤ 0 then pushC (a :: r) c else c :: b :: a :: r
  | [a], c => [c, a]
  | [], c => [c]
def rim (s : List Cn) : List Cn := s.foldl pushC []
def Ed (s : List Cn) (a b : Cn) : Prop := ∀ c ∈ s, 0 < ar a b c ∨ (ar a b c = 0 ∧ Le a c ∧ Le c b)
def Eds (s : List Cn) : List Cn → Prop
  | b :: a :: r => Ed s a b ∧ Eds s (a :: r)
  | _ => True
def Srt : List Cn → Prop
  | b :: a :: r => Lt a b ∧ Srt (a :: r)
  | _ => True
theorem Ed.sub {s s' : List Cn} {a b : Cn} (h : Ed s a b) (g : ∀ c ∈ s', c ∈ s) : Ed s' a b := fun c hc => h c (g c hc)
theorem Eds.sub {s s' : List Cn} (g : ∀ c ∈ s', c ∈ s) : ∀ {st : List Cn}, Eds s st → Eds s' st
  | [], _ => trivial
  | [_], _ => trivial
  | _ :: _ :: _, h => ⟨h.1.sub g, Eds.sub g h.2⟩
theorem ar_self {a b : Cn} : ar a b b = 0 := by unfold ar; grind
theorem ar_self0 {a b : Cn} : ar a b a = 0 := by unfold ar; grind
theorem Eds.more {s : List Cn} {c : Cn} : ∀ {st : List Cn} {b : Cn}, Eds s (b :: st) → Srt (b :: st) → (∀ x ∈ b :: st, x ∈ s) → Lt b c → (∀ a, st.head? = some a → 0 < ar a b c) → Eds (c :: s) (b :: st)
  | [], _, _, _, _, _, _ => trivial
  | a :: r, b, h, hs, hm, hc, hp => by
    have p := hp a rfl
    refine ⟨fun d hd => ?_, Eds.more h.2 hs.2 (fun x hx => hm x (List.mem_cons_of_mem _ hx)) (by have := hs.1; omega) fun a' ha' => ?_⟩
    · rcases List.mem_cons.mp hd with rfl | hd
      · exact .inl p
      · exact h.1 d hd
    · cases r with
      | nil => cases ha'
      | cons a'' r =>
        cases ha'
        rcases h.2.1 b (hm b List.mem_cons_self) with g | g
        · exact ar_up hs.2.1 hs.1 hc g p
        · have := hs.1
          exfalso; omega
theorem push_ok : ∀ {st : List Cn} {h : Cn} {s : List Cn} {c m : Cn}, Srt (h :: st) → Eds s (h :: st) → (∀ x ∈ h :: st, x ∈ s) → (∀ d ∈ s, Lt d c) → (h :: st).getLast? = some m → (∀ d ∈ s, Le m d) → (∀ d ∈ s, Le d h ∨ 0 ≤ ar h c d) →
    ∃ t, pushC (h :: st) c = c :: t ∧ t ≠ [] ∧ Srt (c :: t) ∧ Eds (c :: s) (c :: t) ∧ (∀ x ∈ c :: t, x ∈ c :: s) ∧ (c :: t).getLast? = some m
  | [], h, s, c, m, hs, he, hm, hc, hl, hb, ht => by
    cases hl
    refine ⟨[h], rfl, by simp, ⟨hc h (hm h List.mem_cons_self), trivial⟩, ⟨fun d hd => ?_, trivial⟩, fun x hx => ?_, rfl⟩
    · rcases List.mem_cons.mp hd with rfl | hd
      · exact .inr ⟨ar_self, Le.of (hc h (hm h List.mem_cons_self)), le_rf _⟩
      · have b1 := hb d hd
        rcases ht d hd with g | g
        · have := le_anti b1 g
          subst this
          exact .inr ⟨ar_self0, le_rf _, Le.of (hc _ hd)⟩
        · rcases Int.lt_or_eq_of_le g with g | g
          · exact .inl g
          · exact .inr ⟨g.symm, b1, Le.of (hc _ hd)⟩
    · rcases List.mem_cons.mp hx with rfl | hx
      · exact List.mem_cons_self
      · exact List.mem_cons_of_mem _ (hm x hx)
  | a :: r, b, s, c, m, hs, he, hm, hc, hl, hb, ht => by
    have bs := hm b List.mem_cons_self
    have as := hm a (List.mem_cons_of_mem _ List.mem_cons_self)
    have lab := hs.1
    by_cases g : ar a b c ≤ 0
    · have e : pushC (b :: a :: r) c = pushC (a :: r) c := by rw [pushC, if_pos g]
      rw [e]
      refine push_ok hs.2 he.2 (fun x hx => hm x (List.mem_cons_of_mem _ hx)) hc (by rw [← hl]; rfl) hb fun d hd => ?_
      by_cases k : Le d a
      · exact .inl k
      · refine .inr (ar_out lab (hc a as) (by omega) g ?_)
        rcases he.1 d hd with q | q
        · exact Int.le_of_lt q
        · exact Int.le_of_eq q.1.symm
    · have e : pushC (b :: a :: r) c = c :: b :: a :: r := by rw [pushC, if_neg g]
      have g : 0 < ar a b c := by omega
      rw [e]
      refine ⟨b :: a :: r, rfl, by simp, ⟨hc b bs, hs⟩, ⟨fun d hd => ?_, Eds.more he hs hm (hc b bs) fun a' ha' => by cases ha'; exact g⟩, fun x hx => ?_, by rw [← hl]; rfl⟩
      · rcases List.mem_cons.mp hd with rfl | hd
        · exact .inr ⟨ar_self, Le.of (hc b bs), le_rf _⟩
        · by_cases k : Le d b
          · rcases k.eq_or with k | k
            · subst k
              exact .inr ⟨ar_self0, le_rf _, Le.of (hc _ hd)⟩
            · refine .inl (ar_back lab (hc b bs) k g ?_)
              rcases he.1 d hd with q | q
              · exact Int.le_of_lt q
              · exact Int.le_of_eq q.1.symm
          · rcases ht d hd with q | q
            · exact absurd q k
            · rcases Int.lt_or_eq_of_le q with q | q
              · exact .inl q
              · exact .inr ⟨q.symm, by omega, Le.of (hc _ hd)⟩
      · rcases List.mem_cons.mp hx with rfl | hx
        · exact List.mem_cons_self
        · exact List.mem_cons_of_mem _ (hm x hx)
theorem rim_go : ∀ {l : List Cn} {st : List Cn} {h : Cn} {s : List Cn} {m : Cn}, Srt (h :: st) → Eds s (h :: st) → (∀ x ∈ h :: st, x ∈ s) → (h :: st).getLast? = some m → (∀ d ∈ s, Le m d) → (∀ d ∈ s, Le d h) → (∀ d ∈ s, ∀ c ∈ l, Lt d c) → l.Pairwise Lt → h ∈ s →
    ∃ t g, l.foldl pushC (h :: st) = g :: t ∧ Srt (g :: t) ∧ Eds (l ++ s) (g :: t) ∧ (∀ x ∈ g :: t, x ∈ l ++ s) ∧ (g :: t).getLast? = some m ∧ (∀ d ∈ l ++ s, Le d g) ∧ (l ≠ [] → t ≠ [])
  | [], st, h, s, m, hs, he, hm, hl, hb, ht, hc, hp, hh => ⟨st, h, rfl, hs, he, hm, hl, ht, fun e => absurd rfl e⟩
  | c :: l, st, h, s, m, hs, he, hm, hl, hb, ht, hc, hp, hh => by
    have hp := List.pairwise_cons.mp hp
    obtain ⟨t, e, t0, h1, h2, h3, h4⟩ := push_ok hs he hm (fun d hd => hc d hd c List.mem_cons_self) hl hb (fun d hd => .inl (ht d hd))
    rw [List.foldl_cons, e]
    have mc : Le m c := Le.of (by have := hb h hh; have := hc h hh c List.mem_cons_self; omega)
    obtain ⟨t', g, k1, k2, k3, k4, k5, k6, k7⟩ := rim_go (l := l) (s := c :: s) h1 h2 h3 h4 (fun d hd => by
        rcases List.mem_cons.mp hd with rfl | hd
        · exact mc
        · exact hb d hd) (fun d hd => by
        rcases List.mem_cons.mp hd with rfl | hd
        · exact le_rf _
        · exact Le.of (hc d hd c List.mem_cons_self)) (fun d hd c' hc' => by
        rcases List.mem_cons.mp hd with rfl | hd
        · exact hp.1 c' hc'
        · exact hc d hd c' (List.mem_cons_of_mem _ hc')) hp.2 List.mem_cons_self
    have sub : ∀ x, x ∈ (c :: l) ++ s ↔ x ∈ l ++ c :: s := fun x => by simp only [List.mem_append, List.mem_cons]; grind
    refine ⟨t', g, k1, k2, k3.sub fun x hx => (sub x).mp hx, fun x hx => (sub x).mpr (k4 x hx), k5, fun d hd => k6 d ((sub d).mp hd), fun _ => ?_⟩
    cases l with
    | nil =>
      cases k1
      exact t0
    | cons _ _ => exact k7 (by simp)
theorem rim_ok {m : Cn} {l : List Cn} (hp : (m :: l).Pairwise Lt) : ∃ t g, rim (m :: l) = g :: t ∧ Srt (g :: t) ∧ Eds (m :: l) (g :: t) ∧ (∀ x ∈ g :: t, x ∈ m :: l) ∧ (g :: t).getLast? = some m ∧ (∀ d ∈ m :: l, Le d g) ∧ (l ≠ [] → t ≠ []) := by
  have hq := List.pairwise_cons.mp hp
  obtain ⟨t, g, k1, k2, k3, k4, k5, k6, k7⟩ := rim_go (l := l) (st := []) (h := m) (s := [m]) (m := m) trivial trivial (fun x hx => hx) rfl (fun d hd => by rw [List.mem_singleton.mp hd]; exact le_rf _) (fun d hd => by rw [List.mem_singleton.mp hd]; exact le_rf _) (fun d hd c hc => by rw [List.mem_singleton.mp hd]; exact hq.1 c hc) hq.2 List.mem_cons_self
  have sub : ∀ x, x ∈ m :: l ↔ x ∈ l ++ [m] := fun x => by simp only [List.mem_append, List.mem_cons, List.mem_singleton]; grind
  exact ⟨t, g, k1, k2, k3.sub fun x hx => (sub x).mp hx, fun x hx => (sub x).mpr (k4 x hx), k5, fun d hd => k6 d ((sub d).mp hd), k7⟩
/-! ### the hull -/
def Bt (a c b : Cn) : Prop := (Le a c ∧ Le c b) ∨ (Le c a ∧ Le b c)
def Nx (s : List Cn) (a b : Cn) : Prop := b ∈ s ∧ a ≠ b ∧ ∀ c ∈ s, 0 < ar a b c ∨ (ar a b c = 0 ∧ Bt a c b)
theorem ar_swap {a b c : Cn} : ar a c b = -ar a b c := by unfold ar; grind
theorem Nx.uniq {s : List Cn} {a b c : Cn} (h : Nx s a b) (g : Nx s a c) : b = c := by
  have e1 := h.2.2 c g.1
  have e2 := g.2.2 b h.1
  have e3 := ar_swap (a := a) (b := b) (c := c)
  have n1 := h.2.1
  have n2 := g.2.1
  have z1 : Bt a c b := by rcases e1 with e | e; (rcases e2 with e' | e' <;> omega); exact e.2
  have z2 : Bt a b c := by rcases e2 with e | e; (rcases e1 with e' | e' <;> omega); exact e.2
  by_cases e : b = c
  · exact e
  · rcases lt_or e with k | k <;> rcases lt_or n1 with k1 | k1 <;> rcases lt_or n2 with k2 | k2 <;> rcases z1 with z1 | z1 <;> rcases z2 with z2 | z2 <;> (exfalso; omega)
def Ch (s : List Cn) : Cn → List Cn → Cn → Prop
  | a, [], z => Nx s a z
  | a, b :: r, z => Nx s a b ∧ Ch s b r z
theorem Ch.app {s : List Cn} {z : Cn} {r' : List Cn} : ∀ {a b : Cn} {r : List Cn}, Ch s a r b → Ch s b r' z → Ch s a (r ++ b :: r') z
  | a, b, [], h, g => ⟨h, g⟩
  | a, b, c :: r, h, g => ⟨h.1, Ch.app h.2 g⟩
theorem Ch.uniq {s : List Cn} {z : Cn} : ∀ {r r' : List Cn} {a : Cn}, Ch s a r z → Ch s a r' z → z ∉ r → z ∉ r' → r = r'
  | [], [], _, _, _, _, _ => rfl
  | [], b :: r', _, h, g, _, n => absurd (Nx.uniq h g.1) fun e => n (by rw [e]; exact List.mem_cons_self)
  | b :: r, [], _, h, g, n, _ => absurd (Nx.uniq g h.1) fun e => n (by rw [e]; exact List.mem_cons_self)
  | b :: r, c :: r', _, h, g, n, n' => by
    have e := h.1.uniq g.1
    subst e
    rw [Ch.uniq h.2 g.2 (fun m => n (List.mem_cons_of_mem _ m)) fun m => n' (List.mem_cons_of_mem _ m)]
theorem pw_snoc {R : Cn → Cn → Prop} {l : List Cn} {a : Cn} (h : l.Pairwise R) (g : ∀ x ∈ l, R x a) : (l ++ [a]).Pairwise R :=
  List.pairwise_append.mpr ⟨h, List.pairwise_singleton _ _, fun x hx y hy => by rw [List.mem_singleton.mp hy]; exact g x hx⟩
theorem stk_ch1 {S : List Cn} {φ : Cn → Cn} {R : Cn → Cn → Prop} (tr : ∀ {a b c}, R a b → R b c → R a c) {s : List Cn} (f : ∀ a b, Ed s a b → Lt a b → a ∈ s → b ∈ s → Nx S (φ a) (φ b) ∧ R (φ a) (φ b)) :
    ∀ {t : List Cn} {h : Cn}, Eds s (h :: t) → Srt (h :: t) → (∀ x ∈ h :: t, x ∈ s) → t ≠ [] →
    ∃ m r, (t.map φ).reverse = φ m :: r ∧ Ch S (φ m) r (φ h) ∧ (h :: t).getLast? = some m ∧ (φ m :: r).Pairwise R ∧ (∀ x ∈ φ m :: r, R x (φ h)) ∧ ∀ x ∈ φ m :: r, ∃ y, Nx S x y ∧ R x y
  | [], _, _, _, _, n => absurd rfl n
  | [a], h, he, hs, hm, _ => by
    have q := f a h he.1 hs.1 (hm a (by simp)) (hm h (by simp))
    refine ⟨a, [], rfl, q.1, rfl, List.pairwise_singleton _ _, fun x hx => ?_, fun x hx => ?_⟩
    · rw [List.mem_singleton.mp hx]; exact q.2
    · rw [List.mem_singleton.mp hx]; exact ⟨_, q⟩
  | a :: a' :: t, h, he, hs, hm, _ => by
    have q := f a h he.1 hs.1 (hm a (by simp)) (hm h (by simp))
    obtain ⟨m, r, e, c, l, p, g, k⟩ := stk_ch1 (S := S) (φ := φ) (R := R) @tr f (t := a' :: t) (h := a) he.2 hs.2 (fun x hx => hm x (List.mem_cons_of_mem _ hx)) (by simp)
    refine ⟨m, r ++ [φ a], ?_, c.app (r' := []) q.1, by rw [← l]; rfl, pw_snoc p g, fun x hx => ?_, fun x hx => ?_⟩
    · rw [List.map_cons, List.reverse_cons, e]; rfl
    · have hx : x ∈ (φ m :: r) ++ [φ a] := hx
      rcases List.mem_append.mp hx with hx | hx
      · exact tr (g x hx) q.2
      · rw [List.mem_singleton.mp hx]; exact q.2
    · have hx : x ∈ (φ m :: r) ++ [φ a] := hx
      rcases List.mem_append.mp hx with hx | hx
      · exact k x hx
      · rw [List.mem_singleton.mp hx]; exact ⟨_, q⟩
/-- P is the hull of s -/
inductive Hl (s : List Cn) : List Cn → Prop
  | one {p : Cn} : p ∈ s → (∀ c ∈ s, c = p) → Hl s [p]
  | poly {p : Cn} {r : List Cn} : r ≠ [] → p ∈ s → (∀ c ∈ s, Le p c) → (p :: r).Nodup → Ch s p r p → Hl s (p :: r)
def ngC (c : Cn) : Cn := (-c.1, -c.2)
theorem ng_ng (c : Cn) : ngC (ngC c) = c := by unfold ngC; simp
theorem ar_ng {a b c : Cn} : ar (ngC a) (ngC b) (ngC c) = ar a b c := by unfold ar ngC; grind
theorem push_ng : ∀ {st : List Cn} {c : Cn}, pushC (st.map ngC) (ngC c) = (pushC st c).map ngC
  | [], _ => rfl
  | [_], _ => rfl
  | b :: a :: r, c => by
    show pushC (ngC b :: ngC a :: r.map ngC) (ngC c) = _
    by_cases g : ar a b c ≤ 0
    · rw [pushC, if_pos (by rw [ar_ng]; exact g), pushC, if_pos g]
      exact push_ng (st := a :: r)
    · rw [pushC, if_neg (by rw [ar_ng]; exact g), pushC, if_neg g]
      rfl
theorem rim_ng' : ∀ {l st : List Cn}, (l.map ngC).foldl pushC (st.map ngC) = (l.foldl pushC st).map ngC
  | [], _ => rfl
  | c :: l, st => by
    rw [List.map_cons, List.foldl_cons, List.foldl_cons, push_ng]
    exact rim_ng'
theorem rim_ng {l : List Cn} : rim (l.map ngC) = (rim l).map ngC := rim_ng' (st := [])
theorem ng_lt {a b : Cn} : Lt (ngC a) (ngC b) ↔ Lt b a := by
  show (-a.1 < -b.1 ∨ (-a.1 = -b.1 ∧ -a.2 < -b.2)) ↔ _
  omega
theorem ng_le {a b : Cn} : Le (ngC a) (ngC b) ↔ Le b a := by
  show (-a.1 < -b.1 ∨ (-a.1 = -b.1 ∧ -a.2 ≤ -b.2)) ↔ _
  omega
def chainL (s : List Cn) : List Cn := (rim s).reverse.dropLast
def hullL (s : List Cn) : List Cn := match s with
  | [_] => s
  | s => chainL s ++ chainL s.reverse
theorem chainL_of {h : Cn} {t s : List Cn} (e : rim s = h :: t) : chainL s = t.reverse := by
  unfold chainL
  rw [e, List.reverse_cons, List.dropLast_concat]
theorem hull_ok {s : List Cn} (hp : s.Pairwise Lt) (hn : s ≠ []) : Hl s (hullL s) := by
  match s, hn with
  | [p], _ => exact .one (by simp) fun c hc => by simpa using hc
  | m :: m2 :: l, _ =>
    have e0 : hullL (m :: m2 :: l) = chainL (m :: m2 :: l) ++ chainL (m :: m2 :: l).reverse := rfl
    obtain ⟨t, g, e1, s1, d1, i1, l1, b1, n1⟩ := rim_ok hp
    -- the other way
    obtain ⟨g2, l2, er⟩ : ∃ g2 l2, (m :: m2 :: l).reverse = g2 :: l2 := by
      cases h : (m :: m2 :: l).reverse with
      | nil => simp at h
      | cons a b => exact ⟨a, b, rfl⟩
    have mem : ∀ x, x ∈ g2 :: l2 ↔ x ∈ m :: m2 :: l := fun x => by rw [← er, List.mem_reverse]
    have hr : ((g2 :: l2).map ngC).Pairwise Lt := by
      rw [← er, List.pairwise_map, List.pairwise_reverse]
      exact hp.imp fun h => ng_lt.mpr h
    obtain ⟨t', g', e2, s2, d2, i2, k2, b2, n2⟩ := rim_ok (m := ngC g2) (l := l2.map ngC) hr
    have l2n : l2 ≠ [] := fun e => by
      have := congrArg List.length er
      rw [e] at this
      simp at this
    have f1 : ∀ a b, Ed (m :: m2 :: l) a b → Lt a b → a ∈ m :: m2 :: l → b ∈ m :: m2 :: l → Nx (m :: m2 :: l) (id a) (id b) ∧ Lt (id a) (id b) := fun a b h1 h2 h3 h4 =>
      ⟨⟨h4, h2.ne, fun c hc => (h1 c hc).imp id fun q => ⟨q.1, .inl q.2⟩⟩, h2⟩
    have f2 : ∀ a b, Ed (ngC g2 :: l2.map ngC) a b → Lt a b → a ∈ ngC g2 :: l2.map ngC → b ∈ ngC g2 :: l2.map ngC → Nx (m :: m2 :: l) (ngC a) (ngC b) ∧ Lt (ngC b) (ngC a) := fun a b h1 h2 h3 h4 => by
      have back : ∀ x, x ∈ ngC g2 :: l2.map ngC → ngC x ∈ m :: m2 :: l := fun x hx => by
        have hx : x ∈ (g2 :: l2).map ngC := hx
        obtain ⟨y, hy, rfl⟩ := List.mem_map.mp hx
        rw [ng_ng]
        exact (mem y).mp hy
      refine ⟨⟨back b h4, fun e => h2.ne (by rw [← ng_ng a, e, ng_ng]), fun c hc => ?_⟩, ng_lt.mpr h2⟩
      have hc' : ngC c ∈ ngC g2 :: l2.map ngC := List.mem_map.mpr ⟨c, (mem c).mpr hc, rfl⟩ |> fun (h : ngC c ∈ (g2 :: l2).map ngC) => h
      have q := h1 _ hc'
      have ea : ar (ngC a) (ngC b) c = ar a b (ngC c) := by rw [← ar_ng, ng_ng, ng_ng]
      rw [ea]
      refine q.imp id fun q => ⟨q.1, .inr ⟨?_, ?_⟩⟩
      · rw [← ng_le, ng_ng]; exact q.2.1
      · rw [← ng_le, ng_ng]; exact q.2.2
    obtain ⟨x1, r1, w1, c1, y1, p1, q1, z1⟩ := stk_ch1 (φ := id) (R := Lt) (fun {a b c} h g => by omega) f1 d1 s1 i1 (n1 (by simp))
    obtain ⟨x2, r2, w2, c2, y2, p2, q2, z2⟩ := stk_ch1 (φ := ngC) (R := fun a b => Lt b a) (fun {a b c} h g => by omega) f2 d2 s2 i2 (n2 (by simpa using l2n))
    rw [l1] at y1
    cases y1
    rw [k2] at y2
    cases y2
    rw [ng_ng] at w2 c2 p2 q2 z2
    have em : ngC g' = m := by
      have h1 := b2 (ngC m) (List.mem_map.mpr ⟨m, (mem m).mpr (by simp), rfl⟩ |> fun (h : ngC m ∈ (g2 :: l2).map ngC) => h)
      have h2 : Le (ngC g') m := by rw [← ng_le, ng_ng]; exact h1
      have h3 : Le m (ngC g') := by
        have hg : g' ∈ (g2 :: l2).map ngC := i2 g' List.mem_cons_self
        obtain ⟨y, hy, rfl⟩ := List.mem_map.mp hg
        rw [ng_ng]
        have := (mem y).mp hy
        rcases List.mem_cons.mp this with rfl | this
        · exact le_rf _
        · exact Le.of ((List.pairwise_cons.mp hp).1 y this)
      exact le_anti h2 h3
    have eg : g2 = g := by
      have h1 : Le g2 g := b1 g2 ((mem g2).mp (by simp))
      have h2 : Le g g2 := by
        have hg := (mem g).mpr (i1 g List.mem_cons_self)
        rcases List.mem_cons.mp hg with e | hg
        · rw [e]; exact le_rf _
        · have := (List.pairwise_cons.mp hr).1 (ngC g) (List.mem_map.mpr ⟨g, hg, rfl⟩)
          exact Le.of (ng_lt.mp this)
      exact le_anti h1 h2
    subst eg
    rw [em] at c2 q2
    have a1 : chainL (m :: m2 :: l) = m :: r1 := by rw [chainL_of e1]; simpa using w1
    have a2 : chainL (m :: m2 :: l).reverse = g2 :: r2 := by
      rw [er]
      have e3 : rim (g2 :: l2) = ngC g' :: t'.map ngC := by
        have := congrArg (List.map ngC) e2
        rw [← List.map_cons, ← rim_ng] at this
        have hh : ((g2 :: l2).map ngC).map ngC = g2 :: l2 := by rw [List.map_map]; exact (List.map_congr_left fun x _ => ng_ng x).trans (List.map_id _)
        rw [hh] at this
        exact this
      rw [chainL_of e3, w2]
    rw [e0, a1, a2]
    have dis : ∀ x ∈ m :: r1, ∀ y ∈ g2 :: r2, x ≠ y := fun x hx y hy e => by
      subst e
      obtain ⟨u, h1, h2⟩ := z1 x hx
      obtain ⟨v, h3, h4⟩ := z2 x hy
      have := h1.uniq h3
      subst this
      omega
    refine .poly (by simp) (by simp) (fun c hc => ?_) ?_ (Ch.app c1 c2)
    · rcases List.mem_cons.mp hc with rfl | hc
      · exact le_rf _
      · exact Le.of ((List.pairwise_cons.mp hp).1 c hc)
    · show ((m :: r1) ++ (g2 :: r2)).Nodup
      refine List.pairwise_append.mpr ⟨p1.imp fun h => h.ne, p2.imp fun h => h.ne.symm, dis⟩
end Z
set_option maxHeartbeats 2000000
/-! plain: more about hulls. -/
namespace Z
theorem Hl.sub {s P : List Cn} (h : Hl s P) : ∀ c ∈ P, c ∈ s := by
  cases h with
  | one h _ => intro c hc; rw [List.mem_singleton.mp hc]; exact h
  | poly _ h _ _ hc =>
    rename_i p r
    have go : ∀ {r : List Cn} {a z : Cn}, Ch s a r z → ∀ x ∈ r, x ∈ s := fun {r} => by
      induction r with
      | nil => intro a z _ x hx; cases hx
      | cons b r ih =>
        intro a z hc x hx
        rcases List.mem_cons.mp hx with rfl | hx
        · exact hc.1.1
        · exact ih hc.2 x hx
    intro x hx
    rcases List.mem_cons.mp hx with rfl | hx
    · exact h
    · exact go hc x hx
theorem Hl.ne {s P : List Cn} (h : Hl s P) : P ≠ [] := by cases h <;> simp
theorem Hl.nodup {s P : List Cn} (h : Hl s P) : P.Nodup := by
  cases h with
  | one _ _ => simp
  | poly _ _ _ h _ => exact h
theorem Nx.same {s s' : List Cn} (e : ∀ c, c ∈ s ↔ c ∈ s') {a b : Cn} (h : Nx s a b) : Nx s' a b := ⟨(e b).mp h.1, h.2.1, fun c hc => h.2.2 c ((e c).mpr hc)⟩
theorem Ch.same {s s' : List Cn} (e : ∀ c, c ∈ s ↔ c ∈ s') {z : Cn} : ∀ {r : List Cn} {a : Cn}, Ch s a r z → Ch s' a r z
  | [], _, h => Nx.same e h
  | _ :: _, _, h => ⟨h.1.same e, Ch.same e h.2⟩
theorem Hl.same {s s' P : List Cn} (e : ∀ c, c ∈ s ↔ c ∈ s') (h : Hl s P) : Hl s' P := by
  cases h with
  | one h g => exact .one ((e _).mp h) fun c hc => g c ((e c).mpr hc)
  | poly n h g d k => exact .poly n ((e _).mp h) (fun c hc => g c ((e c).mpr hc)) d (k.same e)
theorem Ch.self {s P : List Cn} (g : ∀ c ∈ P, c ∈ s) {z : Cn} (hz : z ∈ P) : ∀ {r : List Cn} {a : Cn}, (∀ x ∈ r, x ∈ P) → Ch s a r z → Ch P a r z
  | [], _, _, h => ⟨hz, h.2.1, fun c hc => h.2.2 c (g c hc)⟩
  | b :: r, _, m, h => ⟨⟨m b (by simp), h.1.2.1, fun c hc => h.1.2.2 c (g c hc)⟩, Ch.self g hz (fun x hx => m x (by simp [hx])) h.2⟩
theorem Hl.self {s P : List Cn} (h : Hl s P) : Hl P P := by
  have hs := h.sub
  cases h with
  | one h g => exact .one (by simp) fun c hc => by simpa using hc
  | poly n h g d k => exact .poly n (by simp) (fun c hc => g c (hs c hc)) d (k.self hs (by simp) fun x hx => by simp [hx])
theorem Hl.uniq {s P Q : List Cn} (h : Hl s P) (g : Hl s Q) : P = Q := by
  cases h with
  | one h1 h2 =>
    rename_i p
    cases g with
    | one g1 g2 => rw [g2 _ h1]
    | poly n g1 g2 g3 g4 =>
      rename_i q r
      cases r with
      | nil => exact absurd rfl n
      | cons b r =>
        have e := h2 _ g1
        have e2 := h2 _ g4.1.1
        exact absurd (e.trans e2.symm) g4.1.2.1
  | poly n h1 h2 h3 h4 =>
    rename_i p r
    cases g with
    | one g1 g2 =>
      cases r with
      | nil => exact absurd rfl n
      | cons b r => exact absurd ((g2 _ h1).trans (g2 _ h4.1.1).symm) h4.1.2.1
    | poly n g1 g2 g3 g4 =>
      rename_i q r'
      have e := le_anti (h2 _ g1) (g2 _ h1)
      subst e
      rw [h4.uniq g4 (List.nodup_cons.mp h3).1 (List.nodup_cons.mp g3).1]
theorem nodup_len : ∀ {l s : List Cn}, l.Nodup → (∀ x ∈ l, x ∈ s) → l.length ≤ s.length
  | [], _, _, _ => Nat.zero_le _
  | a :: l, s, h, g => by
    have hn := List.nodup_cons.mp h
    have := nodup_len (l := l) (s := s.erase a) hn.2 fun x hx => (List.mem_erase_of_ne (fun e => hn.1 (by rw [← e]; exact hx))).mpr (g x (by simp [hx]))
    have ha := g a (by simp)
    rw [List.length_erase_of_mem ha] at this
    have := List.length_pos_of_mem ha
    simp only [List.length_cons]
    omega
theorem Hl.len {s P : List Cn} (h : Hl s P) : P.length ≤ s.length := nodup_len h.nodup h.sub
/-! ### between -/
/-- on one line and between in the order: between in both coordinates -/
theorem bt_co {a b c : Cn} (h : ar a b c = 0) (g : Bt a c b) : ((a.1 ≤ c.1 ∧ c.1 ≤ b.1) ∨ (b.1 ≤ c.1 ∧ c.1 ≤ a.1)) ∧ ((a.2 ≤ c.2 ∧ c.2 ≤ b.2) ∨ (b.2 ≤ c.2 ∧ c.2 ≤ a.2)) := by
  have key : ∀ {a b c : Cn}, ar a b c = 0 → Le a c → Le c b → (a.1 ≤ c.1 ∧ c.1 ≤ b.1) ∧ ((a.2 ≤ c.2 ∧ c.2 ≤ b.2) ∨ (b.2 ≤ c.2 ∧ c.2 ≤ a.2)) := fun {a b c} h h1 h2 => by
    refine ⟨by omega, ?_⟩
    by_cases e : a.1 = b.1
    · left; omega
    · have d : 0 < b.1 - a.1 := by omega
      have t0 : 0 ≤ c.1 - a.1 := by omega
      have t1 : 0 ≤ b.1 - c.1 := by omega
      unfold ar at h
      rcases Int.lt_or_le (b.2 - a.2) 0 with k | k
      · right
        have m1 := mul_nn (show 0 ≤ a.2 - b.2 by omega) t0
        have m2 := mul_nn (show 0 ≤ a.2 - b.2 by omega) t1
        have n1 : 0 ≤ a.2 - c.2 := nn_of_mul d (by grind)
        have n2 : 0 ≤ c.2 - b.2 := nn_of_mul d (by grind)
        omega
      · left
        have m1 := mul_nn k t0
        have m2 := mul_nn k t1
        have n1 : 0 ≤ c.2 - a.2 := nn_of_mul d (by grind)
        have n2 : 0 ≤ b.2 - c.2 := nn_of_mul d (by grind)
        omega
  rcases g with g | g
  · have := key h g.1 g.2
    exact ⟨.inl this.1, this.2⟩
  · have h' : ar b a c = 0 := by unfold ar at *; grind
    have := key h' g.2 g.1
    exact ⟨.inr this.1, this.2.symm⟩
def far (a c : Cn) : Int := (c.1 - a.1) ^ 2 + (c.2 - a.2) ^ 2
theorem sq_le {x y : Int} (h : (0 ≤ x ∧ x ≤ y) ∨ (y ≤ x ∧ x ≤ 0)) : x ^ 2 ≤ y ^ 2 ∧ (x ≠ y → x ^ 2 < y ^ 2) := by
  have e1 : x ^ 2 = x * x := by grind
  have e2 : y ^ 2 = y * y := by grind
  rw [e1, e2]
  rcases h with h | h
  · have m1 := mul_nn h.1 (show 0 ≤ y - x by omega)
    have m2 := mul_nn (show 0 ≤ y - x by omega) (show 0 ≤ y - x by omega)
    refine ⟨by grind, fun n => ?_⟩
    have m3 := mul_ps (show 0 < y - x by omega) (show 0 < y - x by omega)
    grind
  · have m1 := mul_nn (show 0 ≤ -x by omega) (show 0 ≤ x - y by omega)
    have m2 := mul_nn (show 0 ≤ x - y by omega) (show 0 ≤ x - y by omega)
    refine ⟨by grind, fun n => ?_⟩
    have m3 := mul_ps (show 0 < x - y by omega) (show 0 < x - y by omega)
    grind
theorem far_le {a b c : Cn} (h : ar a b c = 0) (g : Bt a c b) : far a c ≤ far a b ∧ (c ≠ b → far a c < far a b) := by
  obtain ⟨h1, h2⟩ := bt_co h g
  obtain ⟨p1, p2⟩ := sq_le (x := c.1 - a.1) (y := b.1 - a.1) (by omega)
  obtain ⟨q1, q2⟩ := sq_le (x := c.2 - a.2) (y := b.2 - a.2) (by omega)
  unfold far
  refine ⟨by omega, fun n => ?_⟩
  by_cases e : c.1 = b.1
  · have e2 : c.2 ≠ b.2 := fun e2 => n (Prod.ext e e2)
    have := q2 (by omega)
    omega
  · have := p2 (by omega)
    omega
/-- one step of the law's search for the next corner -/
def jb (now best c : Cn) : Cn := if c ≠ now ∧ (ar now best c < 0 ∨ (ar now best c = 0 ∧ far now best < far now c)) then c else best
theorem jb_stay {s : List Cn} {now b c : Cn} (h : Nx s now b) (hc : c ∈ s) : jb now b c = b := by
  unfold jb
  rw [if_neg]
  rintro ⟨_, g⟩
  rcases h.2.2 c hc with k | k
  · omega
  · have := (far_le k.1 k.2).1
    omega
theorem jb_take {s : List Cn} {now b best : Cn} (h : Nx s now b) (hb : best ∈ s) (hn : best ≠ b) : jb now best b = b := by
  unfold jb
  rw [if_pos]
  refine ⟨h.2.1.symm, ?_⟩
  have e := ar_swap (a := now) (b := b) (c := best)
  rcases h.2.2 best hb with k | k
  · left; omega
  · right
    exact ⟨by omega, (far_le k.1 k.2).2 hn⟩
theorem jb_fold {s : List Cn} {now b : Cn} (h : Nx s now b) : ∀ {l : List Cn} {best : Cn}, (∀ c ∈ l, c ∈ s) → best ∈ s → (best = b ∨ b ∈ l) → l.foldl (jb now) best = b
  | [], best, _, _, h2 => by
    rcases h2 with h2 | h2
    · exact h2
    · cases h2
  | c :: l, best, m, hb, h2 => by
    rw [List.foldl_cons]
    by_cases e : best = b
    · subst e
      rw [jb_stay h (m c (by simp))]
      exact jb_fold h (fun x hx => m x (by simp [hx])) hb (.inl rfl)
    · by_cases e2 : c = b
      · subst e2
        rw [jb_take h hb e]
        exact jb_fold h (fun x hx => m x (by simp [hx])) h.1 (.inl rfl)
      · have hb' : b ∈ l := by
          rcases h2 with h2 | h2
          · exact absurd h2 e
          · exact (List.mem_cons.mp h2).resolve_left fun k => e2 k.symm
        refine jb_fold h (fun x hx => m x (by simp [hx])) ?_ (.inr hb')
        unfold jb
        split
        · exact m c (by simp)
        · exact hb
/-! ### in a polygon -/
def hh (a b : Cn) (p : Int × Int × Int) : Int := (b.1 - a.1) * (p.2.1 - a.2 * p.2.2) - (b.2 - a.2) * (p.1 - a.1 * p.2.2)
def prs : Cn → List Cn → Cn → List (Cn × Cn)
  | a, [], z => [(a, z)]
  | a, b :: r, z => (a, b) :: prs b r z
theorem ch_prs {s : List Cn} {z : Cn} : ∀ {r : List Cn} {a : Cn}, Ch s a r z → ∀ e ∈ prs a r z, Nx s e.1 e.2
  | [], _, h, e, he => by rw [List.mem_singleton.mp he]; exact h
  | b :: r, _, h, e, he => by
    rcases List.mem_cons.mp he with rfl | he
    · exact h.1
    · exact ch_prs h.2 e he
theorem hh_swap {a b : Cn} {p : Int × Int × Int} : hh b a p = -hh a b p := by unfold hh; grind
theorem hh_one {a b c : Cn} : hh a b (c.1, c.2, 1) = ar a b c := by unfold hh ar; grind
def Tri (o x y : Cn) (p : Int × Int × Int) : Prop := 0 ≤ hh o x p ∧ 0 ≤ hh x y p ∧ 0 ≤ hh y o p
/-- from the edges to the fan -/
theorem fan_of {o : Cn} {p : Int × Int × Int} : ∀ {r : List Cn} {x : Cn}, r ≠ [] → 0 ≤ hh o x p → (∀ e ∈ prs x r o, 0 ≤ hh e.1 e.2 p) → ∃ (k : Nat) (u v : Cn), (x :: r)[k]? = some u ∧ (x :: r)[k + 1]? = some v ∧ Tri o u v p
  | [], x, n, _, _ => absurd rfl n
  | [y], x, _, h, g => ⟨0, x, y, rfl, rfl, h, g (x, y) (by simp [prs]), g (y, o) (by simp [prs])⟩
  | y :: z :: r, x, _, h, g => by
    by_cases k : 0 ≤ hh y o p
    · exact ⟨0, x, y, rfl, rfl, h, g (x, y) (by simp [prs]), k⟩
    · have := hh_swap (a := o) (b := y) (p := p)
      obtain ⟨i, u, v, h1, h2, h3⟩ := fan_of (o := o) (p := p) (r := z :: r) (x := y) (by simp) (by omega) fun e he => g e (List.mem_cons_of_mem _ he)
      exact ⟨i + 1, u, v, by simpa using h1, by simpa using h2, h3⟩
theorem hh_sum (o x y a b : Cn) (p : Int × Int × Int) : ar o x y * hh a b p = hh x y p * ar a b o + hh y o p * ar a b x + hh o x p * ar a b y := by
  unfold ar hh
  grind
theorem of_fan {s : List Cn} {o x y a b : Cn} {p : Int × Int × Int} (h : Nx s a b) (ho : o ∈ s) (hx : x ∈ s) (hy : y ∈ s) (hd : 0 < ar o x y) (t : Tri o x y p) : 0 ≤ hh a b p := by
  have nn : ∀ c ∈ s, 0 ≤ ar a b c := fun c hc => (h.2.2 c hc).elim Int.le_of_lt fun q => Int.le_of_eq q.1.symm
  refine nn_of_mul hd ?_
  rw [hh_sum]
  have a1 := mul_nn t.2.1 (nn o ho)
  have a2 := mul_nn t.2.2 (nn x hx)
  have a3 := mul_nn t.1 (nn y hy)
  omega
end Z
set_option maxHeartbeats 4000000
namespace Z
open PySem PySem.Spec PyProof.Rows L2
/-! ### the text -/
def topS (i : Nat) : Stmt := PySem.Challenge.pw_roomyway_k04_in_and_inside.main.body.getD i (.Pass ⟨0, 0, 0, 0⟩)
structure Tx (K : PySem.W.Frag) (mg : Str → Option Value) : Prop where
  abs : mg "abs" = none
  all : mg "all" = none
  any : mg "any" = none
  bool : mg "bool" = none
  dict : mg "dict" = none
  int : mg "int" = none
  isinstance : mg "isinstance" = none
  len : mg "len" = none
  list : mg "list" = none
  range : mg "range" = none
  sorted : mg "sorted" = none
  tuple : mg "tuple" = none
def whileMax : Nat := 2 ^ 40
section
variable {P : Program} {w : World} {K : PySem.W.Frag} {mg : Str → Option Value} {base : Heap} {xc : Str → Value}
abbrev s_scaled : Stmt := topS 1
abbrev sc_N_scaled : List Str := ["p", "xn", "xd", "yn", "yd"]
theorem sc_scaled : FnScope sc_N_scaled ["p"] (defScope s_scaled) := ⟨rfl, rfl, rfl, by decide +kernel, rfl, by decide +kernel, by decide +kernel⟩
def M_scaled : CS := cSeq (cAsg (cgTup 2 (cgCons (cgTup 2 (cgCons (cgName 1) (cgCons (cgName 2) (cgNil)))) (cgCons (cgTup 2 (cgCons (cgName 3) (cgCons (cgName 4) (cgNil)))) (cgNil)))) (cV 0)) (cRet (cTup (caCons (c2 gMul (cV 1) (cV 4)) (caCons (c2 gMul (cV 3) (cV 2)) (caCons (c2 gMul (cV 2) (cV 4)) (caNil))))))
def F_scaled : Fn := mkF 1 5 [] M_scaled
theorem ok_scaled {f : Addr} {fd : FuncData} (T : Tx K mg)  (U : Fun K "scaled" "scaled" s_scaled f fd) (hm : mg "scaled" = some (.ref f)) (b : Binds K fd ["p"] []) :
    Has P w K mg base xc "scaled" 1 1 ["p"] F_scaled := by
  refine Has.mk U hm b (zfn (k := 0) U sc_scaled rfl (by decide) (by decide) ?_)
  rintro _ E cdv A outer s H rfl hr tk hp
  have sc := sc_scaled
  exact zss_cons (zs_asg (ze_var (pv 0)) (zg_tup rfl (zgs_cons (zg_tup rfl (zgs_cons (zg_name (i := 1) sc.nd rfl (by first | exact Or.inl rfl | exact Or.inr rfl)) (zgs_cons (zg_name (i := 2) sc.nd rfl (by first | exact Or.inl rfl | exact Or.inr rfl)) (zgs_nil)))) (zgs_cons (zg_tup rfl (zgs_cons (zg_name (i := 3) sc.nd rfl (by first | exact Or.inl rfl | exact Or.inr rfl)) (zgs_cons (zg_name (i := 4) sc.nd rfl (by first | exact Or.inl rfl | exact Or.inr rfl)) (zgs_nil)))) (zgs_nil))))) (zss_one (zs_ret (ze_tup (za_cons (ze_op op_mulW o_mul (ze_var (pv 1)) (ze_var (pv 4))) (za_cons (ze_op op_mulW o_mul (ze_var (pv 3)) (ze_var (pv 2))) (za_cons (ze_op op_mulW o_mul (ze_var (pv 2)) (ze_var (pv 4))) (za_nil)))))))
abbrev s_half_plane : Stmt := topS 3
abbrev sc_N_half_plane : List Str := ["p", "q", "a", "b"]
theorem sc_half_plane : FnScope sc_N_half_plane ["p", "q"] (defScope s_half_plane) := ⟨rfl, rfl, rfl, by decide +kernel, rfl, by decide +kernel, by decide +kernel⟩
def M_half_plane : CS := cSeq (cPar 2 3 (caCons (c2 gSub (cB2 gIx (cbN 0) (cK (.int 1))) (cB2 gIx (cbN 1) (cK (.int 1)))) (caCons (c2 gSub (cB2 gIx (cbN 1) (cK (.int 0))) (cB2 gIx (cbN 0) (cK (.int 0)))) (caNil)))) (cRet (cTup (caCons (cV 2) (caCons (cV 3) (caCons (c1 gNeg (c2 gAdd (c2 gMul (cV 2) (cB2 gIx (cbN 0) (cK (.int 0)))) (c2 gMul (cV 3) (cB2 gIx (cbN 0) (cK (.int 1)))))) (caNil))))))
def F_half_plane : Fn := mkF 2 4 [] M_half_plane
theorem ok_half_plane {f : Addr} {fd : FuncData} (T : Tx K mg)  (U : Fun K "half_plane" "half_plane" s_half_plane f fd) (hm : mg "half_plane" = some (.ref f)) (b : Binds K fd ["p", "q"] []) :
    Has P w K mg base xc "half_plane" 1 2 ["p", "q"] F_half_plane := by
  refine Has.mk U hm b (zfn (k := 0) U sc_half_plane rfl (by decide) (by decide) ?_)
  rintro _ E cdv A outer s H rfl hr tk hp
  have sc := sc_half_plane
  exact zss_cons (zs_par (i := 2) (j := 3) rfl sc.nd rfl rfl (by decide) rfl rfl (za_cons (ze_op op_sub o_sub (ze_item (zb_n (pv 0)) (ze_int) (fun _ _ => rfl)) (ze_item (zb_n (pv 1)) (ze_int) (fun _ _ => rfl))) (za_cons (ze_op op_sub o_sub (ze_item (zb_n (pv 1)) (ze_int) (fun _ _ => rfl)) (ze_item (zb_n (pv 0)) (ze_int) (fun _ _ => rfl))) (za_nil))) rfl) (zss_one (zs_ret (ze_tup (za_cons (ze_var (pv 2)) (za_cons (ze_var (pv 3)) (za_cons (ze_un un_neg o_neg (ze_op op_addZ o_add (ze_op op_mulW o_mul (ze_var (pv 2)) (ze_item (zb_n (pv 0)) (ze_int) (fun _ _ => rfl))) (ze_op op_mulW o_mul (ze_var (pv 3)) (ze_item (zb_n (pv 0)) (ze_int) (fun _ _ => rfl))))) (za_nil)))))))
abbrev s_bounds_of : Stmt := topS 4
abbrev sc_N_bounds_of : List Str := ["piece", "x", "y", "p", "q", "dx", "dy", "ends", "k"]
theorem sc_bounds_of : FnScope sc_N_bounds_of ["piece"] (defScope s_bounds_of) := ⟨rfl, rfl, rfl, by decide +kernel, rfl, by decide +kernel, by decide +kernel⟩
def M_bounds_of : CS := cSeq (cIfS (c2 gEq (cB1 gLen (cbN 0)) (cK (.int 1))) (cSeq (cAsg (cgTup 2 (cgCons (cgName 1) (cgCons (cgName 2) (cgNil)))) (cB2 gIx (cbN 0) (cK (.int 0)))) (cRet (cLst (caCons (cTup (caCons (cK (.int 1)) (caCons (cK (.int 0)) (caCons (c1 gNeg (cV 1)) (caNil))))) (caCons (cTup (caCons (c1 gNeg (cK (.int 1))) (caCons (cK (.int 0)) (caCons (cV 1) (caNil))))) (caCons (cTup (caCons (cK (.int 0)) (caCons (cK (.int 1)) (caCons (c1 gNeg (cV 2)) (caNil))))) (caCons (cTup (caCons (cK (.int 0)) (caCons (c1 gNeg (cK (.int 1))) (caCons (cV 2) (caNil))))) (caNil)))))))) (cNext)) (cSeq (cIfS (c2 gEq (cB1 gLen (cbN 0)) (cK (.int 2))) (cSeq (cAsg (cgTup 2 (cgCons (cgName 3) (cgCons (cgName 4) (cgNil)))) (cV 0)) (cSeq (cPar 5 6 (caCons (c2 gSub (cB2 gIx (cbN 4) (cK (.int 0))) (cB2 gIx (cbN 3) (cK (.int 0)))) (caCons (c2 gSub (cB2 gIx (cbN 4) (cK (.int 1))) (cB2 gIx (cbN 3) (cK (.int 1)))) (caNil)))) (cSeq (cSet 7 (cLst (caCons (cTup (caCons (cV 5) (caCons (cV 6) (caCons (c1 gNeg (c2 gAdd (c2 gMul (cV 5) (cB2 gIx (cbN 3) (cK (.int 0)))) (c2 gMul (cV 6) (cB2 gIx (cbN 3) (cK (.int 1)))))) (caNil))))) (caCons (cTup (caCons (c1 gNeg (cV 5)) (caCons (c1 gNeg (cV 6)) (caCons (c2 gAdd (c2 gMul (cV 5) (cB2 gIx (cbN 4) (cK (.int 0)))) (c2 gMul (cV 6) (cB2 gIx (cbN 4) (cK (.int 1))))) (caNil))))) (caNil))))) (cRet (c2 gAdd (cLst (caCons (cCall F_half_plane (cxD (cV 3) (cxD (cV 4) (cxNil)))) (caCons (cCall F_half_plane (cxD (cV 4) (cxD (cV 3) (cxNil)))) (caNil)))) (cV 7)))))) (cNext)) (cRet (cLc [8] (ciRange1 (caCons (cB1 gLen (cbN 0)) (caNil))) (cgName 8) (cK (.bool true)) (cCall F_half_plane (cxD (cB2 gIx (cbN 0) (c2 gSub (cV 8) (cK (.int 1)))) (cxD (cB2 gIx (cbN 0) (cV 8)) (cxNil)))))))
def F_bounds_of : Fn := mkF 1 9 [] M_bounds_of
theorem ok_bounds_of {f : Addr} {fd : FuncData} (T : Tx K mg) (G_half_plane : Has P w K mg base xc "half_plane" 1 2 ["p", "q"] F_half_plane) (U : Fun K "bounds_of" "bounds_of" s_bounds_of f fd) (hm : mg "bounds_of" = some (.ref f)) (b : Binds K fd ["piece"] []) :
    Has P w K mg base xc "bounds_of" 2 1 ["piece"] F_bounds_of := by
  refine Has.mk U hm b (zfn (k := 1) U sc_bounds_of rfl (by decide) (by decide) ?_)
  rintro _ E cdv A outer s H rfl hr tk hp
  have sc := sc_bounds_of
  exact zss_cons (zs_if (zt_cmp (op_eqD (hu64 hr)) o_eq (nomark _) (ze_len T.len (zb_n (pv 0))) (ze_int)) (zss_cons (zs_asg (ze_item (zb_n (pv 0)) (ze_int) (fun _ _ => rfl)) (zg_tup rfl (zgs_cons (zg_name (i := 1) sc.nd rfl (by first | exact Or.inl rfl | exact Or.inr rfl)) (zgs_cons (zg_name (i := 2) sc.nd rfl (by first | exact Or.inl rfl | exact Or.inr rfl)) (zgs_nil))))) (zss_one (zs_ret (ze_lst (za_cons (ze_tup (za_cons (ze_int) (za_cons (ze_int) (za_cons (ze_un un_neg o_neg (ze_var (pv 1))) (za_nil))))) (za_cons (ze_tup (za_cons (ze_un un_neg o_neg (ze_int)) (za_cons (ze_int) (za_cons (ze_var (pv 1)) (za_nil))))) (za_cons (ze_tup (za_cons (ze_int) (za_cons (ze_int) (za_cons (ze_un un_neg o_neg (ze_var (pv 2))) (za_nil))))) (za_cons (ze_tup (za_cons (ze_int) (za_cons (ze_un un_neg o_neg (ze_int)) (za_cons (ze_var (pv 2)) (za_nil))))) (za_nil))))))))) (zss_nil)) (zss_cons (zs_if (zt_cmp (op_eqD (hu64 hr)) o_eq (nomark _) (ze_len T.len (zb_n (pv 0))) (ze_int)) (zss_cons (zs_asg (ze_var (pv 0)) (zg_tup rfl (zgs_cons (zg_name (i := 3) sc.nd rfl (by first | exact Or.inl rfl | exact Or.inr rfl)) (zgs_cons (zg_name (i := 4) sc.nd rfl (by first | exact Or.inl rfl | exact Or.inr rfl)) (zgs_nil))))) (zss_cons (zs_par (i := 5) (j := 6) rfl sc.nd rfl rfl (by decide) rfl rfl (za_cons (ze_op op_sub o_sub (ze_item (zb_n (pv 4)) (ze_int) (fun _ _ => rfl)) (ze_item (zb_n (pv 3)) (ze_int) (fun _ _ => rfl))) (za_cons (ze_op op_sub o_sub (ze_item (zb_n (pv 4)) (ze_int) (fun _ _ => rfl)) (ze_item (zb_n (pv 3)) (ze_int) (fun _ _ => rfl))) (za_nil))) rfl) (zss_cons (zs_set (i := 7) sc.nd rfl (by first | exact Or.inl rfl | exact Or.inr rfl) (ze_lst (za_cons (ze_tup (za_cons (ze_var (pv 5)) (za_cons (ze_var (pv 6)) (za_cons (ze_un un_neg o_neg (ze_op op_addZ o_add (ze_op op_mulW o_mul (ze_var (pv 5)) (ze_item (zb_n (pv 3)) (ze_int) (fun _ _ => rfl))) (ze_op op_mulW o_mul (ze_var (pv 6)) (ze_item (zb_n (pv 3)) (ze_int) (fun _ _ => rfl))))) (za_nil))))) (za_cons (ze_tup (za_cons (ze_un un_neg o_neg (ze_var (pv 5))) (za_cons (ze_un un_neg o_neg (ze_var (pv 6))) (za_cons (ze_op op_addZ o_add (ze_op op_mulW o_mul (ze_var (pv 5)) (ze_item (zb_n (pv 4)) (ze_int) (fun _ _ => rfl))) (ze_op op_mulW o_mul (ze_var (pv 6)) (ze_item (zb_n (pv 4)) (ze_int) (fun _ _ => rfl)))) (za_nil))))) (za_nil))))) (zss_one (zs_ret (ze_op op_addZ o_add (ze_lst (za_cons (ze_callH G_half_plane hr tk (zx_d (ze_var (pv 3)) (zx_d (ze_var (pv 4)) (zx_nil))) (len_d (len_d len_nil))) (za_cons (ze_callH G_half_plane hr tk (zx_d (ze_var (pv 4)) (zx_d (ze_var (pv 3)) (zx_nil))) (len_d (len_d len_nil))) (za_nil)))) (ze_var (pv 7)))))))) (zss_nil)) (zss_one (zs_ret (ze_lc (own := [("k", 8)]) rfl sc.nd (zi_range1 rfl T.range (za_cons (ze_len T.len (zb_n (pv 0))) (za_nil))) (blkOk_by (N := sc_N_bounds_of) (sc := defScope s_bounds_of) (by decide +kernel)) rfl rfl (fun _ _ _ _ _ => zg_name (i := 8) sc.nd rfl (by first | exact Or.inl rfl | exact Or.inr rfl)) (fun _ _ _ _ _ => pts_yes) (fun _ _ _ _ _ => ze_callH G_half_plane hr takes0 (zx_d (ze_item (zb_n (pv 0)) (ze_op op_sub o_sub (ze_var (pv 8)) (ze_int)) (fun _ _ => rfl)) (zx_d (ze_item (zb_n (pv 0)) (ze_var (pv 8)) (fun _ _ => rfl)) (zx_nil))) (len_d (len_d len_nil)))))))
abbrev s_height_over : Stmt := topS 5
abbrev sc_N_height_over : List Str := ["bound", "place"]
theorem sc_height_over : FnScope sc_N_height_over ["bound", "place"] (defScope s_height_over) := ⟨rfl, rfl, rfl, by decide +kernel, rfl, by decide +kernel, by decide +kernel⟩
def M_height_over : CS := cRet (c2 gAdd (c2 gAdd (c2 gMul (cB2 gIx (cbN 0) (cK (.int 0))) (cB2 gIx (cbN 1) (cK (.int 0)))) (c2 gMul (cB2 gIx (cbN 0) (cK (.int 1))) (cB2 gIx (cbN 1) (cK (.int 1))))) (c2 gMul (cB2 gIx (cbN 0) (cK (.int 2))) (cB2 gIx (cbN 1) (cK (.int 2)))))
def F_height_over : Fn := mkF 2 2 [] M_height_over
theorem ok_height_over {f : Addr} {fd : FuncData} (T : Tx K mg)  (U : Fun K "height_over" "height_over" s_height_over f fd) (hm : mg "height_over" = some (.ref f)) (b : Binds K fd ["bound", "place"] []) :
    Has P w K mg base xc "height_over" 1 2 ["bound", "place"] F_height_over := by
  refine Has.mk U hm b (zfn (k := 0) U sc_height_over rfl (by decide) (by decide) ?_)
  rintro _ E cdv A outer s H rfl hr tk hp
  have sc := sc_height_over
  exact zss_one (zs_ret (ze_op op_addZ o_add (ze_op op_addZ o_add (ze_op op_mulW o_mul (ze_item (zb_n (pv 0)) (ze_int) (fun _ _ => rfl)) (ze_item (zb_n (pv 1)) (ze_int) (fun _ _ => rfl))) (ze_op op_mulW o_mul (ze_item (zb_n (pv 0)) (ze_int) (fun _ _ => rfl)) (ze_item (zb_n (pv 1)) (ze_int) (fun _ _ => rfl)))) (ze_op op_mulW o_mul (ze_item (zb_n (pv 0)) (ze_int) (fun _ _ => rfl)) (ze_item (zb_n (pv 1)) (ze_int) (fun _ _ => rfl)))))
abbrev s_is_in : Stmt := topS 6
abbrev sc_N_is_in : List Str := ["p", "piece", "place", "bound"]
theorem sc_is_in : FnScope sc_N_is_in ["p", "piece"] (defScope s_is_in) := ⟨rfl, rfl, rfl, by decide +kernel, rfl, by decide +kernel, by decide +kernel⟩
def M_is_in : CS := cSeq (cSet 2 (cCall F_scaled (cxD (cV 0) (cxNil)))) (cRet (cN gAll (caCons (cLc [3] (ciSeq (cCall F_bounds_of (cxD (cV 1) (cxNil)))) (cgName 3) (cK (.bool true)) (c2 gGe (cCall F_height_over (cxD (cV 3) (cxD (cV 2) (cxNil)))) (cK (.int 0)))) (caNil))))
def F_is_in : Fn := mkF 2 4 [] M_is_in
theorem ok_is_in {f : Addr} {fd : FuncData} (T : Tx K mg) (G_bounds_of : Has P w K mg base xc "bounds_of" 2 1 ["piece"] F_bounds_of) (G_height_over : Has P w K mg base xc "height_over" 1 2 ["bound", "place"] F_height_over) (G_scaled : Has P w K mg base xc "scaled" 1 1 ["p"] F_scaled) (U : Fun K "is_in" "is_in" s_is_in f fd) (hm : mg "is_in" = some (.ref f)) (b : Binds K fd ["p", "piece"] []) :
    Has P w K mg base xc "is_in" 3 2 ["p", "piece"] F_is_in := by
  refine Has.mk U hm b (zfn (k := 2) U sc_is_in rfl (by decide) (by decide) ?_)
  rintro _ E cdv A outer s H rfl hr tk hp
  have sc := sc_is_in
  exact zss_cons (zs_set (i := 2) sc.nd rfl (by first | exact Or.inl rfl | exact Or.inr rfl) (ze_callH G_scaled hr tk (zx_d (ze_var (pv 0)) (zx_nil)) (len_d len_nil))) (zss_one (zs_ret (ze_callB (cr_all rfl) on_all T.all (by decide +kernel) (za_cons (ze_lc (own := [("bound", 3)]) rfl sc.nd (zi_seq (ze_callH G_bounds_of hr tk (zx_d (ze_var (pv 1)) (zx_nil)) (len_d len_nil))) (blkOk_by (N := sc_N_is_in) (sc := defScope s_is_in) (by decide +kernel)) rfl rfl (fun _ _ _ _ _ => zg_name (i := 3) sc.nd rfl (by first | exact Or.inl rfl | exact Or.inr rfl)) (fun _ _ _ _ _ => pts_yes) (fun _ _ _ _ _ => ze_cmp op_ge o_ge (nomark _) (ze_callH G_height_over hr takes0 (zx_d (ze_var (pv 3)) (zx_d (ze_var (pv 2)) (zx_nil))) (len_d (len_d len_nil))) (ze_int))) (za_nil)))))
abbrev s_is_inside : Stmt := topS 7
abbrev sc_N_is_inside : List Str := ["p", "piece", "place", "bound"]
theorem sc_is_inside : FnScope sc_N_is_inside ["p", "piece"] (defScope s_is_inside) := ⟨rfl, rfl, rfl, by decide +kernel, rfl, by decide +kernel, by decide +kernel⟩
def M_is_inside : CS := cSeq (cIfS (c2 gLt (cB1 gLen (cbN 1)) (cK (.int 3))) (cRet (cK (.bool false))) (cNext)) (cSeq (cSet 2 (cCall F_scaled (cxD (cV 0) (cxNil)))) (cRet (cN gAll (caCons (cLc [3] (ciSeq (cCall F_bounds_of (cxD (cV 1) (cxNil)))) (cgName 3) (cK (.bool true)) (c2 gGt (cCall F_height_over (cxD (cV 3) (cxD (cV 2) (cxNil)))) (cK (.int 0)))) (caNil)))))
def F_is_inside : Fn := mkF 2 4 [] M_is_inside
theorem ok_is_inside {f : Addr} {fd : FuncData} (T : Tx K mg) (G_bounds_of : Has P w K mg base xc "bounds_of" 2 1 ["piece"] F_bounds_of) (G_height_over : Has P w K mg base xc "height_over" 1 2 ["bound", "place"] F_height_over) (G_scaled : Has P w K mg base xc "scaled" 1 1 ["p"] F_scaled) (U : Fun K "is_inside" "is_inside" s_is_inside f fd) (hm : mg "is_inside" = some (.ref f)) (b : Binds K fd ["p", "piece"] []) :
    Has P w K mg base xc "is_inside" 3 2 ["p", "piece"] F_is_inside := by
  refine Has.mk U hm b (zfn (k := 2) U sc_is_inside rfl (by decide) (by decide) ?_)
  rintro _ E cdv A outer s H rfl hr tk hp
  have sc := sc_is_inside
  exact zss_cons (zs_if (zt_cmp op_lt o_lt (nomark _) (ze_len T.len (zb_n (pv 1))) (ze_int)) (zss_one (zs_ret (ze_bool))) (zss_nil)) (zss_cons (zs_set (i := 2) sc.nd rfl (by first | exact Or.inl rfl | exact Or.inr rfl) (ze_callH G_scaled hr tk (zx_d (ze_var (pv 0)) (zx_nil)) (len_d len_nil))) (zss_one (zs_ret (ze_callB (cr_all rfl) on_all T.all (by decide +kernel) (za_cons (ze_lc (own := [("bound", 3)]) rfl sc.nd (zi_seq (ze_callH G_bounds_of hr tk (zx_d (ze_var (pv 1)) (zx_nil)) (len_d len_nil))) (blkOk_by (N := sc_N_is_inside) (sc := defScope s_is_inside) (by decide +kernel)) rfl rfl (fun _ _ _ _ _ => zg_name (i := 3) sc.nd rfl (by first | exact Or.inl rfl | exact Or.inr rfl)) (fun _ _ _ _ _ => pts_yes) (fun _ _ _ _ _ => ze_cmp op_gt o_gt (nomark _) (ze_callH G_height_over hr takes0 (zx_d (ze_var (pv 3)) (zx_d (ze_var (pv 2)) (zx_nil))) (len_d (len_d len_nil))) (ze_int))) (za_nil))))))
abbrev s_u_law_pot : Stmt := topS 9
abbrev sc_N_u_law_pot : List Str := ["_law_script", "_law_seed", "_law_cell"]
theorem sc_u_law_pot : FnScope sc_N_u_law_pot ["_law_script"] (defScope s_u_law_pot) := ⟨rfl, rfl, rfl, by decide +kernel, rfl, by decide +kernel, by decide +kernel⟩
def L_u_law_pot_0 : CS := cSet 1 (c2 gMod (cN gInt (caCons (c2 gAdd (c2 gMul (cV 1) (cK (.int 31))) (cV 2)) (caNil))) (cK (.int 2147483647)))
def M_u_law_pot : CS := cSeq (cSet 1 (cK (.int 1))) (cSeq (cFor (ciSeq (cV 0)) (cgName 2) (L_u_law_pot_0)) (cRet (cLst (caCons (cN gList (caCons (cV 0) (caNil))) (caCons (cK (.int 0)) (caCons (cK (.int 0)) (caCons (cV 1) (caNil))))))))
def F_u_law_pot : Fn := mkF 1 3 [] M_u_law_pot
theorem ok_u_law_pot {f : Addr} {fd : FuncData} (T : Tx K mg)  (U : Fun K "_law_pot" "_law_pot" s_u_law_pot f fd) (hm : mg "_law_pot" = some (.ref f)) (b : Binds K fd ["_law_script"] []) :
    Has P w K mg base xc "_law_pot" 1 1 ["_law_script"] F_u_law_pot := by
  refine Has.mk U hm b (zfn (k := 0) U sc_u_law_pot rfl (by decide) (by decide) ?_)
  rintro _ E cdv A outer s H rfl hr tk hp
  have sc := sc_u_law_pot
  exact zss_cons (zs_set (i := 1) sc.nd rfl (by first | exact Or.inl rfl | exact Or.inr rfl) (ze_int)) (zss_cons (zs_for hp rfl (zi_seq (ze_var (pv 0))) (zg_name (i := 2) sc.nd rfl (by first | exact Or.inl rfl | exact Or.inr rfl)) (zss_one (zs_set (i := 1) sc.nd rfl (by first | exact Or.inl rfl | exact Or.inr rfl) (ze_op op_mod o_mod (ze_callT call_int1 on_int T.int (by decide +kernel) (za_cons (ze_op op_addZ o_add (ze_op op_mulW o_mul (ze_var (pv 1)) (ze_int)) (ze_var (pv 2))) (za_nil))) (ze_int))))) (zss_one (zs_ret (ze_lst (za_cons (ze_callT call_list_of on_list T.list (by decide +kernel) (za_cons (ze_var (pv 0)) (za_nil))) (za_cons (ze_int) (za_cons (ze_int) (za_cons (ze_var (pv 1)) (za_nil)))))))))
abbrev s_u_law_next : Stmt := topS 10
abbrev sc_N_u_law_next : List Str := ["_law_pot_here", "_law_limit", "_law_cell", "_law_found", "_law_mixed"]
theorem sc_u_law_next : FnScope sc_N_u_law_next ["_law_pot_here", "_law_limit"] (defScope s_u_law_next) := ⟨rfl, rfl, rfl, by decide +kernel, rfl, by decide +kernel, by decide +kernel⟩
def M_u_law_next : CS := cSeq (cIfS (cAnd (c2 gEq (cB2 gIx (cbN 0) (cK (.int 2))) (cK (.int 0))) (c2 gLt (cB2 gIx (cbN 0) (cK (.int 1))) (cB1 gLen (cbD (cB2 gIx (cbN 0) (cK (.int 0))))))) (cSeq (cSet 2 (cN gAbs (caCons (cN gInt (caCons (cB2 gIx (cbD (cB2 gIx (cbN 0) (cK (.int 0)))) (cB2 gIx (cbN 0) (cK (.int 1)))) (caNil))) (caNil)))) (cSeq (cSetIx 0 (cK (.int 1)) (c2 gAdd (cB2 gIx (cbN 0) (cK (.int 1))) (cK (.int 1)))) (cSeq (cIfS (c2 gLt (cV 2) (c2 gPow (cK (.int 10)) (cK (.int 18)))) (cRet (c2 gMod (cN gInt (caCons (cV 2) (caNil))) (cV 1))) (cNext)) (cSetIx 0 (cK (.int 2)) (cV 2))))) (cNext)) (cSeq (cIfS (c2 gGt (cB2 gIx (cbN 0) (cK (.int 2))) (cK (.int 0))) (cSeq (cSet 3 (c2 gMod (cN gInt (caCons (cB2 gIx (cbN 0) (cK (.int 2))) (caNil))) (cV 1))) (cSeq (cSetIx 0 (cK (.int 2)) (c2 gFd (cB2 gIx (cbN 0) (cK (.int 2))) (cV 1))) (cRet (cVm 3)))) (cNext)) (cSeq (cSetIx 0 (cK (.int 3)) (c2 gMod (cN gInt (caCons (c2 gAdd (c2 gMul (cB2 gIx (cbN 0) (cK (.int 3))) (cK (.int 48271))) (cK (.int 12345))) (caNil))) (cK (.int 2147483647)))) (cSeq (cSet 4 (c2 gMod (cN gInt (caCons (c2 gAdd (c2 gMul (cB2 gIx (cbN 0) (cK (.int 3))) (cK (.int 69621))) (c2 gFd (cB2 gIx (cbN 0) (cK (.int 3))) (cK (.int 127)))) (caNil))) (cK (.int 2147483629)))) (cRet (c2 gMod (cN gInt (caCons (cV 4) (caNil))) (cV 1))))))
def F_u_law_next : Fn := mkF 2 5 [0] M_u_law_next
theorem ok_u_law_next {f : Addr} {fd : FuncData} (T : Tx K mg)  (U : Fun K "_law_next" "_law_next" s_u_law_next f fd) (hm : mg "_law_next" = some (.ref f)) (b : Binds K fd ["_law_pot_here", "_law_limit"] []) :
    Has P w K mg base xc "_law_next" 1 2 ["_law_pot_here", "_law_limit"] F_u_law_next := by
  refine Has.mk U hm b (zfn (k := 0) U sc_u_law_next rfl (by decide) (by decide) ?_)
  rintro _ E cdv A outer s H rfl hr tk hp
  have sc := sc_u_law_next
  exact zss_cons (zs_if (zt_w (zw_and (zt_cmp (op_eqD (hu64 hr)) o_eq (nomark _) (ze_item (zb_n (pv 0)) (ze_int) (fun _ _ => rfl)) (ze_int)) (zw_and1 (zt_cmp op_lt o_lt (nomark _) (ze_item (zb_n (pv 0)) (ze_int) (fun _ _ => rfl)) (ze_len T.len (zb_d (ze_item (zb_n (pv 0)) (ze_int) (fun _ _ => rfl)))))))) (zss_cons (zs_set (i := 2) sc.nd rfl (by first | exact Or.inl rfl | exact Or.inr rfl) (ze_callB call_abs on_abs T.abs (by decide +kernel) (za_cons (ze_callT call_int1 on_int T.int (by decide +kernel) (za_cons (ze_item (zb_d (ze_item (zb_n (pv 0)) (ze_int) (fun _ _ => rfl))) (ze_item (zb_n (pv 0)) (ze_int) (fun _ _ => rfl)) (fun _ _ => rfl)) (za_nil))) (za_nil)))) (zss_cons (zs_setIx (pv 0) (ze_int) (ze_op op_addZ o_add (ze_item (zb_n (pv 0)) (ze_int) (fun _ _ => rfl)) (ze_int))) (zss_cons (zs_if (zt_cmp op_lt o_lt (nomark _) (ze_var (pv 2)) (ze_op op_pow o_pow (ze_int) (ze_int))) (zss_one (zs_ret (ze_op op_mod o_mod (ze_callT call_int1 on_int T.int (by decide +kernel) (za_cons (ze_var (pv 2)) (za_nil))) (ze_var (pv 1))))) (zss_nil)) (zss_one (zs_setIx (pv 0) (ze_int) (ze_var (pv 2))))))) (zss_nil)) (zss_cons (zs_if (zt_cmp op_gt o_gt (nomark _) (ze_item (zb_n (pv 0)) (ze_int) (fun _ _ => rfl)) (ze_int)) (zss_cons (zs_set (i := 3) sc.nd rfl (by first | exact Or.inl rfl | exact Or.inr rfl) (ze_op op_mod o_mod (ze_callT call_int1 on_int T.int (by decide +kernel) (za_cons (ze_item (zb_n (pv 0)) (ze_int) (fun _ _ => rfl)) (za_nil))) (ze_var (pv 1)))) (zss_cons (zs_setIx (pv 0) (ze_int) (ze_op op_fdX o_fd (ze_item (zb_n (pv 0)) (ze_int) (fun _ _ => rfl)) (ze_var (pv 1)))) (zss_one (zs_ret (ze_varm (pv 3)))))) (zss_nil)) (zss_cons (zs_setIx (pv 0) (ze_int) (ze_op op_mod o_mod (ze_callT call_int1 on_int T.int (by decide +kernel) (za_cons (ze_op op_addZ o_add (ze_op op_mulW o_mul (ze_item (zb_n (pv 0)) (ze_int) (fun _ _ => rfl)) (ze_int)) (ze_int)) (za_nil))) (ze_int))) (zss_cons (zs_set (i := 4) sc.nd rfl (by first | exact Or.inl rfl | exact Or.inr rfl) (ze_op op_mod o_mod (ze_callT call_int1 on_int T.int (by decide +kernel) (za_cons (ze_op op_addZ o_add (ze_op op_mulW o_mul (ze_item (zb_n (pv 0)) (ze_int) (fun _ _ => rfl)) (ze_int)) (ze_op op_fdX o_fd (ze_item (zb_n (pv 0)) (ze_int) (fun _ _ => rfl)) (ze_int))) (za_nil))) (ze_int))) (zss_one (zs_ret (ze_op op_mod o_mod (ze_callT call_int1 on_int T.int (by decide +kernel) (za_cons (ze_var (pv 4)) (za_nil))) (ze_var (pv 1))))))))
abbrev s_u_law_other : Stmt := topS 11
abbrev sc_N_u_law_other : List Str := ["_law_found", "_law_due"]
theorem sc_u_law_other : FnScope sc_N_u_law_other ["_law_found", "_law_due"] (defScope s_u_law_other) := ⟨rfl, rfl, rfl, by decide +kernel, rfl, by decide +kernel, by decide +kernel⟩
def M_u_law_other : CS := cRet (cOr (c1 gNot (c1 (gIsi "bool") (cV 0))) (c2 gNe (cV 0) (cV 1)))
def F_u_law_other : Fn := mkF 2 2 [] M_u_law_other
theorem ok_u_law_other {f : Addr} {fd : FuncData} (T : Tx K mg)  (U : Fun K "_law_other" "_law_other" s_u_law_other f fd) (hm : mg "_law_other" = some (.ref f)) (b : Binds K fd ["_law_found", "_law_due"] []) :
    Has P w K mg base xc "_law_other" 1 2 ["_law_found", "_law_due"] F_u_law_other := by
  refine Has.mk U hm b (zfn (k := 0) U sc_u_law_other rfl (by decide) (by decide) ?_)
  rintro _ E cdv A outer s H rfl hr tk hp
  have sc := sc_u_law_other
  exact zss_one (zs_ret (ze_or (ze_not (ze_isi (T := "bool") (by decide) T.isinstance T.bool (by decide +kernel) (ze_var (pv 0)))) (ze_one (ze_cmp (op_neD (hu64 hr)) o_ne (nomark _) (ze_var (pv 0)) (ze_var (pv 1))))))
abbrev s_u_law_scale : Stmt := topS 12
abbrev sc_N_u_law_scale : List Str := ["_law_p"]
theorem sc_u_law_scale : FnScope sc_N_u_law_scale ["_law_p"] (defScope s_u_law_scale) := ⟨rfl, rfl, rfl, by decide +kernel, rfl, by decide +kernel, by decide +kernel⟩
def M_u_law_scale : CS := cRet (cTup (caCons (c2 gMul (cB2 gIx (cbD (cB2 gIx (cbN 0) (cK (.int 0)))) (cK (.int 0))) (cB2 gIx (cbD (cB2 gIx (cbN 0) (cK (.int 1)))) (cK (.int 1)))) (caCons (c2 gMul (cB2 gIx (cbD (cB2 gIx (cbN 0) (cK (.int 1)))) (cK (.int 0))) (cB2 gIx (cbD (cB2 gIx (cbN 0) (cK (.int 0)))) (cK (.int 1)))) (caCons (c2 gMul (cB2 gIx (cbD (cB2 gIx (cbN 0) (cK (.int 0)))) (cK (.int 1))) (cB2 gIx (cbD (cB2 gIx (cbN 0) (cK (.int 1)))) (cK (.int 1)))) (caNil)))))
def F_u_law_scale : Fn := mkF 1 1 [] M_u_law_scale
theorem ok_u_law_scale {f : Addr} {fd : FuncData} (T : Tx K mg)  (U : Fun K "_law_scale" "_law_scale" s_u_law_scale f fd) (hm : mg "_law_scale" = some (.ref f)) (b : Binds K fd ["_law_p"] []) :
    Has P w K mg base xc "_law_scale" 1 1 ["_law_p"] F_u_law_scale := by
  refine Has.mk U hm b (zfn (k := 0) U sc_u_law_scale rfl (by decide) (by decide) ?_)
  rintro _ E cdv A outer s H rfl hr tk hp
  have sc := sc_u_law_scale
  exact zss_one (zs_ret (ze_tup (za_cons (ze_op op_mulW o_mul (ze_item (zb_d (ze_item (zb_n (pv 0)) (ze_int) (fun _ _ => rfl))) (ze_int) (fun _ _ => rfl)) (ze_item (zb_d (ze_item (zb_n (pv 0)) (ze_int) (fun _ _ => rfl))) (ze_int) (fun _ _ => rfl))) (za_cons (ze_op op_mulW o_mul (ze_item (zb_d (ze_item (zb_n (pv 0)) (ze_int) (fun _ _ => rfl))) (ze_int) (fun _ _ => rfl)) (ze_item (zb_d (ze_item (zb_n (pv 0)) (ze_int) (fun _ _ => rfl))) (ze_int) (fun _ _ => rfl))) (za_cons (ze_op op_mulW o_mul (ze_item (zb_d (ze_item (zb_n (pv 0)) (ze_int) (fun _ _ => rfl))) (ze_int) (fun _ _ => rfl)) (ze_item (zb_d (ze_item (zb_n (pv 0)) (ze_int) (fun _ _ => rfl))) (ze_int) (fun _ _ => rfl))) (za_nil))))))
abbrev s_u_law_det : Stmt := topS 13
abbrev sc_N_u_law_det : List Str := ["_law_a", "_law_b", "_law_c", "_law_left", "_law_right"]
theorem sc_u_law_det : FnScope sc_N_u_law_det ["_law_a", "_law_b", "_law_c"] (defScope s_u_law_det) := ⟨rfl, rfl, rfl, by decide +kernel, rfl, by decide +kernel, by decide +kernel⟩
def M_u_law_det : CS := cSeq (cSet 3 (c2 gMul (c2 gSub (c2 gMul (cB2 gIx (cbN 1) (cK (.int 0))) (cB2 gIx (cbN 0) (cK (.int 2)))) (c2 gMul (cB2 gIx (cbN 0) (cK (.int 0))) (cB2 gIx (cbN 1) (cK (.int 2))))) (c2 gSub (c2 gMul (cB2 gIx (cbN 2) (cK (.int 1))) (cB2 gIx (cbN 0) (cK (.int 2)))) (c2 gMul (cB2 gIx (cbN 0) (cK (.int 1))) (cB2 gIx (cbN 2) (cK (.int 2))))))) (cSeq (cSet 4 (c2 gMul (c2 gSub (c2 gMul (cB2 gIx (cbN 1) (cK (.int 1))) (cB2 gIx (cbN 0) (cK (.int 2)))) (c2 gMul (cB2 gIx (cbN 0) (cK (.int 1))) (cB2 gIx (cbN 1) (cK (.int 2))))) (c2 gSub (c2 gMul (cB2 gIx (cbN 2) (cK (.int 0))) (cB2 gIx (cbN 0) (cK (.int 2)))) (c2 gMul (cB2 gIx (cbN 0) (cK (.int 0))) (cB2 gIx (cbN 2) (cK (.int 2))))))) (cRet (c2 gSub (cN gInt (caCons (c2 gGt (cV 3) (cV 4)) (caNil))) (cN gInt (caCons (c2 gLt (cV 3) (cV 4)) (caNil))))))
def F_u_law_det : Fn := mkF 3 5 [] M_u_law_det
theorem ok_u_law_det {f : Addr} {fd : FuncData} (T : Tx K mg)  (U : Fun K "_law_det" "_law_det" s_u_law_det f fd) (hm : mg "_law_det" = some (.ref f)) (b : Binds K fd ["_law_a", "_law_b", "_law_c"] []) :
    Has P w K mg base xc "_law_det" 1 3 ["_law_a", "_law_b", "_law_c"] F_u_law_det := by
  refine Has.mk U hm b (zfn (k := 0) U sc_u_law_det rfl (by decide) (by decide) ?_)
  rintro _ E cdv A outer s H rfl hr tk hp
  have sc := sc_u_law_det
  exact zss_cons (zs_set (i := 3) sc.nd rfl (by first | exact Or.inl rfl | exact Or.inr rfl) (ze_op op_mulW o_mul (ze_op op_sub o_sub (ze_op op_mulW o_mul (ze_item (zb_n (pv 1)) (ze_int) (fun _ _ => rfl)) (ze_item (zb_n (pv 0)) (ze_int) (fun _ _ => rfl))) (ze_op op_mulW o_mul (ze_item (zb_n (pv 0)) (ze_int) (fun _ _ => rfl)) (ze_item (zb_n (pv 1)) (ze_int) (fun _ _ => rfl)))) (ze_op op_sub o_sub (ze_op op_mulW o_mul (ze_item (zb_n (pv 2)) (ze_int) (fun _ _ => rfl)) (ze_item (zb_n (pv 0)) (ze_int) (fun _ _ => rfl))) (ze_op op_mulW o_mul (ze_item (zb_n (pv 0)) (ze_int) (fun _ _ => rfl)) (ze_item (zb_n (pv 2)) (ze_int) (fun _ _ => rfl)))))) (zss_cons (zs_set (i := 4) sc.nd rfl (by first | exact Or.inl rfl | exact Or.inr rfl) (ze_op op_mulW o_mul (ze_op op_sub o_sub (ze_op op_mulW o_mul (ze_item (zb_n (pv 1)) (ze_int) (fun _ _ => rfl)) (ze_item (zb_n (pv 0)) (ze_int) (fun _ _ => rfl))) (ze_op op_mulW o_mul (ze_item (zb_n (pv 0)) (ze_int) (fun _ _ => rfl)) (ze_item (zb_n (pv 1)) (ze_int) (fun _ _ => rfl)))) (ze_op op_sub o_sub (ze_op op_mulW o_mul (ze_item (zb_n (pv 2)) (ze_int) (fun _ _ => rfl)) (ze_item (zb_n (pv 0)) (ze_int) (fun _ _ => rfl))) (ze_op op_mulW o_mul (ze_item (zb_n (pv 0)) (ze_int) (fun _ _ => rfl)) (ze_item (zb_n (pv 2)) (ze_int) (fun _ _ => rfl)))))) (zss_one (zs_ret (ze_op op_sub o_sub (ze_callT call_int1 on_int T.int (by decide +kernel) (za_cons (ze_cmp op_gt o_gt (nomark _) (ze_var (pv 3)) (ze_var (pv 4))) (za_nil))) (ze_callT call_int1 on_int T.int (by decide +kernel) (za_cons (ze_cmp op_lt o_lt (nomark _) (ze_var (pv 3)) (ze_var (pv 4))) (za_nil)))))))
abbrev s_u_law_mid : Stmt := topS 14
abbrev sc_N_u_law_mid : List Str := ["_law_a", "_law_b", "_law_c"]
theorem sc_u_law_mid : FnScope sc_N_u_law_mid ["_law_a", "_law_b", "_law_c"] (defScope s_u_law_mid) := ⟨rfl, rfl, rfl, by decide +kernel, rfl, by decide +kernel, by decide +kernel⟩
def M_u_law_mid : CS := cRet (cOr (cAnd (c2 gLe (cV 0) (cV 1)) (c2 gLe (cV 1) (cV 2))) (cAnd (c2 gLe (cV 2) (cV 1)) (c2 gLe (cV 1) (cV 0))))
def F_u_law_mid : Fn := mkF 3 3 [] M_u_law_mid
theorem ok_u_law_mid {f : Addr} {fd : FuncData} (T : Tx K mg)  (U : Fun K "_law_mid" "_law_mid" s_u_law_mid f fd) (hm : mg "_law_mid" = some (.ref f)) (b : Binds K fd ["_law_a", "_law_b", "_law_c"] []) :
    Has P w K mg base xc "_law_mid" 1 3 ["_law_a", "_law_b", "_law_c"] F_u_law_mid := by
  refine Has.mk U hm b (zfn (k := 0) U sc_u_law_mid rfl (by decide) (by decide) ?_)
  rintro _ E cdv A outer s H rfl hr tk hp
  have sc := sc_u_law_mid
  exact zss_one (zs_ret (ze_or (ze_and (ze_cmp op_le o_le (nomark _) (ze_var (pv 0)) (ze_var (pv 1))) (ze_one (ze_cmp op_le o_le (nomark _) (ze_var (pv 1)) (ze_var (pv 2))))) (ze_one (ze_and (ze_cmp op_le o_le (nomark _) (ze_var (pv 2)) (ze_var (pv 1))) (ze_one (ze_cmp op_le o_le (nomark _) (ze_var (pv 1)) (ze_var (pv 0))))))))
abbrev s_u_law_on : Stmt := topS 15
abbrev sc_N_u_law_on : List Str := ["_law_p", "_law_a", "_law_b", "_law_both", "_law_k"]
theorem sc_u_law_on : FnScope sc_N_u_law_on ["_law_p", "_law_a", "_law_b"] (defScope s_u_law_on) := ⟨rfl, rfl, rfl, by decide +kernel, rfl, by decide +kernel, by decide +kernel⟩
def M_u_law_on : CS := cSeq (cIfS (c2 gNe (cCall F_u_law_det (cxD (cV 1) (cxD (cV 2) (cxD (cV 0) (cxNil))))) (cK (.int 0))) (cRet (cK (.bool false))) (cNext)) (cSeq (cSet 3 (c2 gMul (cB2 gIx (cbN 1) (cK (.int 2))) (cB2 gIx (cbN 2) (cK (.int 2))))) (cRet (cN gAll (caCons (cLc [4] (ciRange1 (caCons (cK (.int 2)) (caNil))) (cgName 4) (cK (.bool true)) (cCall F_u_law_mid (cxD (c2 gMul (c2 gMul (cB2 gIx (cbN 1) (cV 4)) (cB2 gIx (cbN 2) (cK (.int 2)))) (cB2 gIx (cbN 0) (cK (.int 2)))) (cxD (c2 gMul (cB2 gIx (cbN 0) (cV 4)) (cV 3)) (cxD (c2 gMul (c2 gMul (cB2 gIx (cbN 2) (cV 4)) (cB2 gIx (cbN 1) (cK (.int 2)))) (cB2 gIx (cbN 0) (cK (.int 2)))) (cxNil)))))) (caNil)))))
def F_u_law_on : Fn := mkF 3 5 [] M_u_law_on
theorem ok_u_law_on {f : Addr} {fd : FuncData} (T : Tx K mg) (G_u_law_det : Has P w K mg base xc "_law_det" 1 3 ["_law_a", "_law_b", "_law_c"] F_u_law_det) (G_u_law_mid : Has P w K mg base xc "_law_mid" 1 3 ["_law_a", "_law_b", "_law_c"] F_u_law_mid) (U : Fun K "_law_on" "_law_on" s_u_law_on f fd) (hm : mg "_law_on" = some (.ref f)) (b : Binds K fd ["_law_p", "_law_a", "_law_b"] []) :
    Has P w K mg base xc "_law_on" 2 3 ["_law_p", "_law_a", "_law_b"] F_u_law_on := by
  refine Has.mk U hm b (zfn (k := 1) U sc_u_law_on rfl (by decide) (by decide) ?_)
  rintro _ E cdv A outer s H rfl hr tk hp
  have sc := sc_u_law_on
  exact zss_cons (zs_if (zt_cmp (op_neD (hu64 hr)) o_ne (nomark _) (ze_callH G_u_law_det hr tk (zx_d (ze_var (pv 1)) (zx_d (ze_var (pv 2)) (zx_d (ze_var (pv 0)) (zx_nil)))) (len_d (len_d (len_d len_nil)))) (ze_int)) (zss_one (zs_ret (ze_bool))) (zss_nil)) (zss_cons (zs_set (i := 3) sc.nd rfl (by first | exact Or.inl rfl | exact Or.inr rfl) (ze_op op_mulW o_mul (ze_item (zb_n (pv 1)) (ze_int) (fun _ _ => rfl)) (ze_item (zb_n (pv 2)) (ze_int) (fun _ _ => rfl)))) (zss_one (zs_ret (ze_callB (cr_all rfl) on_all T.all (by decide +kernel) (za_cons (ze_lc (own := [("_law_k", 4)]) rfl sc.nd (zi_range1 rfl T.range (za_cons (ze_int) (za_nil))) (blkOk_by (N := sc_N_u_law_on) (sc := defScope s_u_law_on) (by decide +kernel)) rfl rfl (fun _ _ _ _ _ => zg_name (i := 4) sc.nd rfl (by first | exact Or.inl rfl | exact Or.inr rfl)) (fun _ _ _ _ _ => pts_yes) (fun _ _ _ _ _ => ze_callH G_u_law_mid hr takes0 (zx_d (ze_op op_mulW o_mul (ze_op op_mulW o_mul (ze_item (zb_n (pv 1)) (ze_var (pv 4)) (fun _ _ => rfl)) (ze_item (zb_n (pv 2)) (ze_int) (fun _ _ => rfl))) (ze_item (zb_n (pv 0)) (ze_int) (fun _ _ => rfl))) (zx_d (ze_op op_mulW o_mul (ze_item (zb_n (pv 0)) (ze_var (pv 4)) (fun _ _ => rfl)) (ze_var (pv 3))) (zx_d (ze_op op_mulW o_mul (ze_op op_mulW o_mul (ze_item (zb_n (pv 2)) (ze_var (pv 4)) (fun _ _ => rfl)) (ze_item (zb_n (pv 1)) (ze_int) (fun _ _ => rfl))) (ze_item (zb_n (pv 0)) (ze_int) (fun _ _ => rfl))) (zx_nil)))) (len_d (len_d (len_d len_nil))))) (za_nil))))))
abbrev s_u_law_corners : Stmt := topS 17
abbrev sc_N_u_law_corners : List Str := ["_law_piece_here", "_law_corner"]
theorem sc_u_law_corners : FnScope sc_N_u_law_corners ["_law_piece_here"] (defScope s_u_law_corners) := ⟨rfl, rfl, rfl, by decide +kernel, rfl, by decide +kernel, by decide +kernel⟩
def M_u_law_corners : CS := cRet (cLc [1] (ciSeq (cV 0)) (cgName 1) (cK (.bool true)) (cTup (caCons (cB2 gIx (cbN 1) (cK (.int 0))) (caCons (cB2 gIx (cbN 1) (cK (.int 1))) (caCons (cK (.int 1)) (caNil))))))
def F_u_law_corners : Fn := mkF 1 2 [] M_u_law_corners
theorem ok_u_law_corners {f : Addr} {fd : FuncData} (T : Tx K mg)  (U : Fun K "_law_corners" "_law_corners" s_u_law_corners f fd) (hm : mg "_law_corners" = some (.ref f)) (b : Binds K fd ["_law_piece_here"] []) :
    Has P w K mg base xc "_law_corners" 1 1 ["_law_piece_here"] F_u_law_corners := by
  refine Has.mk U hm b (zfn (k := 0) U sc_u_law_corners rfl (by decide) (by decide) ?_)
  rintro _ E cdv A outer s H rfl hr tk hp
  have sc := sc_u_law_corners
  exact zss_one (zs_ret (ze_lc (own := [("_law_corner", 1)]) rfl sc.nd (zi_seq (ze_var (pv 0))) (blkOk_by (N := sc_N_u_law_corners) (sc := defScope s_u_law_corners) (by decide +kernel)) rfl rfl (fun _ _ _ _ _ => zg_name (i := 1) sc.nd rfl (by first | exact Or.inl rfl | exact Or.inr rfl)) (fun _ _ _ _ _ => pts_yes) (fun _ _ _ _ _ => ze_tup (za_cons (ze_item (zb_n (pv 1)) (ze_int) (fun _ _ => rfl)) (za_cons (ze_item (zb_n (pv 1)) (ze_int) (fun _ _ => rfl)) (za_cons (ze_int) (za_nil)))))))
abbrev s_u_law_in : Stmt := topS 18
abbrev sc_N_u_law_in : List Str := ["_law_p", "_law_corners_here", "_law_k", "_law_signs", "_law_sign"]
theorem sc_u_law_in : FnScope sc_N_u_law_in ["_law_p", "_law_corners_here"] (defScope s_u_law_in) := ⟨rfl, rfl, rfl, by decide +kernel, rfl, by decide +kernel, by decide +kernel⟩
def L_u_law_in_0 : CS := cSeq (cSet 3 (cLst (caCons (cCall F_u_law_det (cxD (cB2 gIx (cbN 1) (cK (.int 0))) (cxD (cB2 gIx (cbN 1) (cV 2)) (cxD (cV 0) (cxNil))))) (caCons (cCall F_u_law_det (cxD (cB2 gIx (cbN 1) (cV 2)) (cxD (cB2 gIx (cbN 1) (c2 gAdd (cV 2) (cK (.int 1)))) (cxD (cV 0) (cxNil))))) (caCons (cCall F_u_law_det (cxD (cB2 gIx (cbN 1) (c2 gAdd (cV 2) (cK (.int 1)))) (cxD (cB2 gIx (cbN 1) (cK (.int 0))) (cxD (cV 0) (cxNil))))) (caNil)))))) (cIfS (c1 gNot (c1 gTru (cN gAny (caCons (cLc [4] (ciSeq (cV 3)) (cgName 4) (cK (.bool true)) (c2 gLt (cV 4) (cK (.int 0)))) (caNil))))) (cRet (cK (.bool true))) (cNext))
def M_u_law_in : CS := cSeq (cIfS (c2 gLt (cB1 gLen (cbN 1)) (cK (.int 3))) (cRet (cCall F_u_law_on (cxD (cV 0) (cxD (cB2 gIx (cbN 1) (cK (.int 0))) (cxD (cB2 gIx (cbN 1) (c2 gSub (cB1 gLen (cbN 1)) (cK (.int 1)))) (cxNil)))))) (cNext)) (cSeq (cFor (ciRange2 (caCons (cK (.int 1)) (caCons (c2 gSub (cB1 gLen (cbN 1)) (cK (.int 1))) (caNil)))) (cgName 2) (L_u_law_in_0)) (cRet (cK (.bool false))))
def F_u_law_in : Fn := mkF 2 5 [] M_u_law_in
theorem ok_u_law_in {f : Addr} {fd : FuncData} (T : Tx K mg) (G_u_law_det : Has P w K mg base xc "_law_det" 1 3 ["_law_a", "_law_b", "_law_c"] F_u_law_det) (G_u_law_on : Has P w K mg base xc "_law_on" 2 3 ["_law_p", "_law_a", "_law_b"] F_u_law_on) (U : Fun K "_law_in" "_law_in" s_u_law_in f fd) (hm : mg "_law_in" = some (.ref f)) (b : Binds K fd ["_law_p", "_law_corners_here"] []) :
    Has P w K mg base xc "_law_in" 3 2 ["_law_p", "_law_corners_here"] F_u_law_in := by
  refine Has.mk U hm b (zfn (k := 2) U sc_u_law_in rfl (by decide) (by decide) ?_)
  rintro _ E cdv A outer s H rfl hr tk hp
  have sc := sc_u_law_in
  exact zss_cons (zs_if (zt_cmp op_lt o_lt (nomark _) (ze_len T.len (zb_n (pv 1))) (ze_int)) (zss_one (zs_ret (ze_callH G_u_law_on hr tk (zx_d (ze_var (pv 0)) (zx_d (ze_item (zb_n (pv 1)) (ze_int) (fun _ _ => rfl)) (zx_d (ze_item (zb_n (pv 1)) (ze_op op_sub o_sub (ze_len T.len (zb_n (pv 1))) (ze_int)) (fun _ _ => rfl)) (zx_nil)))) (len_d (len_d (len_d len_nil)))))) (zss_nil)) (zss_cons (zs_for hp rfl (zi_range2 rfl T.range (za_cons (ze_int) (za_cons (ze_op op_sub o_sub (ze_len T.len (zb_n (pv 1))) (ze_int)) (za_nil)))) (zg_name (i := 2) sc.nd rfl (by first | exact Or.inl rfl | exact Or.inr rfl)) (zss_cons (zs_set (i := 3) sc.nd rfl (by first | exact Or.inl rfl | exact Or.inr rfl) (ze_lst (za_cons (ze_callH G_u_law_det hr tk (zx_d (ze_item (zb_n (pv 1)) (ze_int) (fun _ _ => rfl)) (zx_d (ze_item (zb_n (pv 1)) (ze_var (pv 2)) (fun _ _ => rfl)) (zx_d (ze_var (pv 0)) (zx_nil)))) (len_d (len_d (len_d len_nil)))) (za_cons (ze_callH G_u_law_det hr tk (zx_d (ze_item (zb_n (pv 1)) (ze_var (pv 2)) (fun _ _ => rfl)) (zx_d (ze_item (zb_n (pv 1)) (ze_op op_addZ o_add (ze_var (pv 2)) (ze_int)) (fun _ _ => rfl)) (zx_d (ze_var (pv 0)) (zx_nil)))) (len_d (len_d (len_d len_nil)))) (za_cons (ze_callH G_u_law_det hr tk (zx_d (ze_item (zb_n (pv 1)) (ze_op op_addZ o_add (ze_var (pv 2)) (ze_int)) (fun _ _ => rfl)) (zx_d (ze_item (zb_n (pv 1)) (ze_int) (fun _ _ => rfl)) (zx_d (ze_var (pv 0)) (zx_nil)))) (len_d (len_d (len_d len_nil)))) (za_nil)))))) (zss_one (zs_if (zt_not (zt_truth (ze_callB (cr_any rfl) on_any T.any (by decide +kernel) (za_cons (ze_lc (own := [("_law_sign", 4)]) rfl sc.nd (zi_seq (ze_var (pv 3))) (blkOk_by (N := sc_N_u_law_in) (sc := defScope s_u_law_in) (by decide +kernel)) rfl rfl (fun _ _ _ _ _ => zg_name (i := 4) sc.nd rfl (by first | exact Or.inl rfl | exact Or.inr rfl)) (fun _ _ _ _ _ => pts_yes) (fun _ _ _ _ _ => ze_cmp op_lt o_lt (nomark _) (ze_var (pv 4)) (ze_int))) (za_nil))) (fun _ => rfl))) (zss_one (zs_ret (ze_bool))) (zss_nil))))) (zss_one (zs_ret (ze_bool))))
abbrev s_u_law_strict : Stmt := topS 19
abbrev sc_N_u_law_strict : List Str := ["_law_p", "_law_corners_here", "_law_k"]
theorem sc_u_law_strict : FnScope sc_N_u_law_strict ["_law_p", "_law_corners_here"] (defScope s_u_law_strict) := ⟨rfl, rfl, rfl, by decide +kernel, rfl, by decide +kernel, by decide +kernel⟩
def M_u_law_strict : CS := cSeq (cIfS (c2 gLt (cB1 gLen (cbN 1)) (cK (.int 3))) (cRet (cK (.bool false))) (cNext)) (cRet (cN gAll (caCons (cLc [2] (ciRange1 (caCons (cB1 gLen (cbN 1)) (caNil))) (cgName 2) (cK (.bool true)) (c2 gGt (cCall F_u_law_det (cxD (cB2 gIx (cbN 1) (c2 gSub (cV 2) (cK (.int 1)))) (cxD (cB2 gIx (cbN 1) (cV 2)) (cxD (cV 0) (cxNil))))) (cK (.int 0)))) (caNil))))
def F_u_law_strict : Fn := mkF 2 3 [] M_u_law_strict
theorem ok_u_law_strict {f : Addr} {fd : FuncData} (T : Tx K mg) (G_u_law_det : Has P w K mg base xc "_law_det" 1 3 ["_law_a", "_law_b", "_law_c"] F_u_law_det) (U : Fun K "_law_strict" "_law_strict" s_u_law_strict f fd) (hm : mg "_law_strict" = some (.ref f)) (b : Binds K fd ["_law_p", "_law_corners_here"] []) :
    Has P w K mg base xc "_law_strict" 2 2 ["_law_p", "_law_corners_here"] F_u_law_strict := by
  refine Has.mk U hm b (zfn (k := 1) U sc_u_law_strict rfl (by decide) (by decide) ?_)
  rintro _ E cdv A outer s H rfl hr tk hp
  have sc := sc_u_law_strict
  exact zss_cons (zs_if (zt_cmp op_lt o_lt (nomark _) (ze_len T.len (zb_n (pv 1))) (ze_int)) (zss_one (zs_ret (ze_bool))) (zss_nil)) (zss_one (zs_ret (ze_callB (cr_all rfl) on_all T.all (by decide +kernel) (za_cons (ze_lc (own := [("_law_k", 2)]) rfl sc.nd (zi_range1 rfl T.range (za_cons (ze_len T.len (zb_n (pv 1))) (za_nil))) (blkOk_by (N := sc_N_u_law_strict) (sc := defScope s_u_law_strict) (by decide +kernel)) rfl rfl (fun _ _ _ _ _ => zg_name (i := 2) sc.nd rfl (by first | exact Or.inl rfl | exact Or.inr rfl)) (fun _ _ _ _ _ => pts_yes) (fun _ _ _ _ _ => ze_cmp op_gt o_gt (nomark _) (ze_callH G_u_law_det hr takes0 (zx_d (ze_item (zb_n (pv 1)) (ze_op op_sub o_sub (ze_var (pv 2)) (ze_int)) (fun _ _ => rfl)) (zx_d (ze_item (zb_n (pv 1)) (ze_var (pv 2)) (fun _ _ => rfl)) (zx_d (ze_var (pv 0)) (zx_nil)))) (len_d (len_d (len_d len_nil)))) (ze_int))) (za_nil)))))
abbrev s_u_law_area : Stmt := topS 21
abbrev sc_N_u_law_area : List Str := ["_law_a", "_law_b", "_law_c"]
theorem sc_u_law_area : FnScope sc_N_u_law_area ["_law_a", "_law_b", "_law_c"] (defScope s_u_law_area) := ⟨rfl, rfl, rfl, by decide +kernel, rfl, by decide +kernel, by decide +kernel⟩
def M_u_law_area : CS := cRet (c2 gSub (c2 gMul (c2 gSub (cB2 gIx (cbN 1) (cK (.int 0))) (cB2 gIx (cbN 0) (cK (.int 0)))) (c2 gSub (cB2 gIx (cbN 2) (cK (.int 1))) (cB2 gIx (cbN 0) (cK (.int 1))))) (c2 gMul (c2 gSub (cB2 gIx (cbN 1) (cK (.int 1))) (cB2 gIx (cbN 0) (cK (.int 1)))) (c2 gSub (cB2 gIx (cbN 2) (cK (.int 0))) (cB2 gIx (cbN 0) (cK (.int 0))))))
def F_u_law_area : Fn := mkF 3 3 [] M_u_law_area
theorem ok_u_law_area {f : Addr} {fd : FuncData} (T : Tx K mg)  (U : Fun K "_law_area" "_law_area" s_u_law_area f fd) (hm : mg "_law_area" = some (.ref f)) (b : Binds K fd ["_law_a", "_law_b", "_law_c"] []) :
    Has P w K mg base xc "_law_area" 1 3 ["_law_a", "_law_b", "_law_c"] F_u_law_area := by
  refine Has.mk U hm b (zfn (k := 0) U sc_u_law_area rfl (by decide) (by decide) ?_)
  rintro _ E cdv A outer s H rfl hr tk hp
  have sc := sc_u_law_area
  exact zss_one (zs_ret (ze_op op_sub o_sub (ze_op op_mulW o_mul (ze_op op_sub o_sub (ze_item (zb_n (pv 1)) (ze_int) (fun _ _ => rfl)) (ze_item (zb_n (pv 0)) (ze_int) (fun _ _ => rfl))) (ze_op op_sub o_sub (ze_item (zb_n (pv 2)) (ze_int) (fun _ _ => rfl)) (ze_item (zb_n (pv 0)) (ze_int) (fun _ _ => rfl)))) (ze_op op_mulW o_mul (ze_op op_sub o_sub (ze_item (zb_n (pv 1)) (ze_int) (fun _ _ => rfl)) (ze_item (zb_n (pv 0)) (ze_int) (fun _ _ => rfl))) (ze_op op_sub o_sub (ze_item (zb_n (pv 2)) (ze_int) (fun _ _ => rfl)) (ze_item (zb_n (pv 0)) (ze_int) (fun _ _ => rfl))))))
abbrev s_u_law_hull : Stmt := topS 22
abbrev sc_N_u_law_hull : List Str := ["_law_corners_here", "_law_order", "_law_found", "_law_k", "_law_now", "_law_best", "_law_corner", "_law_turn", "_law_far"]
theorem sc_u_law_hull : FnScope sc_N_u_law_hull ["_law_corners_here"] (defScope s_u_law_hull) := ⟨rfl, rfl, rfl, by decide +kernel, rfl, by decide +kernel, by decide +kernel⟩
def L_u_law_hull_0 : CS := cSeq (cSet 7 (cCall F_u_law_area (cxD (cV 4) (cxD (cV 5) (cxD (cV 6) (cxNil)))))) (cSeq (cSet 8 (c2 gAdd (c2 gPow (c2 gSub (cB2 gIx (cbN 6) (cK (.int 0))) (cB2 gIx (cbN 4) (cK (.int 0)))) (cK (.int 2))) (c2 gPow (c2 gSub (cB2 gIx (cbN 6) (cK (.int 1))) (cB2 gIx (cbN 4) (cK (.int 1)))) (cK (.int 2))))) (cIfS (cAnd (c2 gNe (cV 6) (cV 4)) (cOr (c2 gLt (cV 7) (cK (.int 0))) (cAnd (c2 gEq (cV 7) (cK (.int 0))) (c2 gGt (cV 8) (c2 gAdd (c2 gPow (c2 gSub (cB2 gIx (cbN 5) (cK (.int 0))) (cB2 gIx (cbN 4) (cK (.int 0)))) (cK (.int 2))) (c2 gPow (c2 gSub (cB2 gIx (cbN 5) (cK (.int 1))) (cB2 gIx (cbN 4) (cK (.int 1)))) (cK (.int 2)))))))) (cSet 5 (cV 6)) (cNext)))
def L_u_law_hull_1 : CS := cSeq (cSet 4 (cB2 gIx (cbN 2) (c2 gSub (cB1 gLen (cbN 2)) (cK (.int 1))))) (cSeq (cSet 5 (cIf (c2 gNe (cB2 gIx (cbN 1) (cK (.int 0))) (cV 4)) (cB2 gIx (cbN 1) (cK (.int 0))) (cB2 gIx (cbN 1) (cK (.int 1))))) (cSeq (cFor (ciSeq (cV 1)) (cgName 6) (L_u_law_hull_0)) (cSeq (cIfS (c2 gEq (cV 5) (cB2 gIx (cbN 2) (cK (.int 0)))) (cRet (cN gTuple (caCons (cV 2) (caNil)))) (cNext)) (cApp 2 (cV 5)))))
def M_u_law_hull : CS := cSeq (cSet 1 (cN gSorted (caCons (cN gDict (caCons (cLc [6] (ciSeq (cV 0)) (cgName 6) (cK (.bool true)) (cTup (caCons (cV 6) (caCons (cK (.bool true)) (caNil))))) (caNil))) (caNil)))) (cSeq (cIfS (c2 gEq (cB1 gLen (cbN 1)) (cK (.int 1))) (cRet (cN gTuple (caCons (cV 1) (caNil)))) (cNext)) (cSeq (cSet 2 (cLst (caCons (cB2 gIx (cbN 1) (cK (.int 0))) (caNil)))) (cSeq (cFor (ciRange1 (caCons (cB1 gLen (cbN 1)) (caNil))) (cgName 3) (L_u_law_hull_1)) (cRet (cN gTuple (caCons (cV 2) (caNil)))))))
def F_u_law_hull : Fn := mkF 1 9 [] M_u_law_hull
theorem ok_u_law_hull {f : Addr} {fd : FuncData} (T : Tx K mg) (G_u_law_area : Has P w K mg base xc "_law_area" 1 3 ["_law_a", "_law_b", "_law_c"] F_u_law_area) (U : Fun K "_law_hull" "_law_hull" s_u_law_hull f fd) (hm : mg "_law_hull" = some (.ref f)) (b : Binds K fd ["_law_corners_here"] []) :
    Has P w K mg base xc "_law_hull" 2 1 ["_law_corners_here"] F_u_law_hull := by
  refine Has.mk U hm b (zfn (k := 1) U sc_u_law_hull rfl (by decide) (by decide) ?_)
  rintro _ E cdv A outer s H rfl hr tk hp
  have sc := sc_u_law_hull
  exact zss_cons (zs_set (i := 1) sc.nd rfl (by first | exact Or.inl rfl | exact Or.inr rfl) (ze_callB (cr_sorted (hu65 hr)) on_sorted T.sorted (by decide +kernel) (za_cons (ze_callT (cr_dict rfl (hu64 hr)) on_dict T.dict (by decide +kernel) (za_cons (ze_lc (own := [("_law_corner", 6)]) rfl sc.nd (zi_seq (ze_var (pv 0))) (blkOk_by (N := sc_N_u_law_hull) (sc := defScope s_u_law_hull) (by decide +kernel)) rfl rfl (fun _ _ _ _ _ => zg_name (i := 6) sc.nd rfl (by first | exact Or.inl rfl | exact Or.inr rfl)) (fun _ _ _ _ _ => pts_yes) (fun _ _ _ _ _ => ze_tup (za_cons (ze_var (pv 6)) (za_cons (ze_bool) (za_nil))))) (za_nil))) (za_nil)))) (zss_cons (zs_if (zt_cmp (op_eqD (hu64 hr)) o_eq (nomark _) (ze_len T.len (zb_n (pv 1))) (ze_int)) (zss_one (zs_ret (ze_callT call_tuple_of on_tuple T.tuple (by decide +kernel) (za_cons (ze_var (pv 1)) (za_nil))))) (zss_nil)) (zss_cons (zs_set (i := 2) sc.nd rfl (by first | exact Or.inl rfl | exact Or.inr rfl) (ze_lst (za_cons (ze_item (zb_n (pv 1)) (ze_int) (fun _ _ => rfl)) (za_nil)))) (zss_cons (zs_for hp rfl (zi_range1 rfl T.range (za_cons (ze_len T.len (zb_n (pv 1))) (za_nil))) (zg_name (i := 3) sc.nd rfl (by first | exact Or.inl rfl | exact Or.inr rfl)) (zss_cons (zs_set (i := 4) sc.nd rfl (by first | exact Or.inl rfl | exact Or.inr rfl) (ze_item (zb_n (pv 2)) (ze_op op_sub o_sub (ze_len T.len (zb_n (pv 2))) (ze_int)) (fun _ _ => rfl))) (zss_cons (zs_set (i := 5) sc.nd rfl (by first | exact Or.inl rfl | exact Or.inr rfl) (ze_if (zt_cmp (op_neD (hu64 hr)) o_ne (nomark _) (ze_item (zb_n (pv 1)) (ze_int) (fun _ _ => rfl)) (ze_var (pv 4))) (ze_item (zb_n (pv 1)) (ze_int) (fun _ _ => rfl)) (ze_item (zb_n (pv 1)) (ze_int) (fun _ _ => rfl)))) (zss_cons (zs_for hp rfl (zi_seq (ze_var (pv 1))) (zg_name (i := 6) sc.nd rfl (by first | exact Or.inl rfl | exact Or.inr rfl)) (zss_cons (zs_set (i := 7) sc.nd rfl (by first | exact Or.inl rfl | exact Or.inr rfl) (ze_callH G_u_law_area hr tk (zx_d (ze_var (pv 4)) (zx_d (ze_var (pv 5)) (zx_d (ze_var (pv 6)) (zx_nil)))) (len_d (len_d (len_d len_nil))))) (zss_cons (zs_set (i := 8) sc.nd rfl (by first | exact Or.inl rfl | exact Or.inr rfl) (ze_op op_addZ o_add (ze_op op_pow o_pow (ze_op op_sub o_sub (ze_item (zb_n (pv 6)) (ze_int) (fun _ _ => rfl)) (ze_item (zb_n (pv 4)) (ze_int) (fun _ _ => rfl))) (ze_int)) (ze_op op_pow o_pow (ze_op op_sub o_sub (ze_item (zb_n (pv 6)) (ze_int) (fun _ _ => rfl)) (ze_item (zb_n (pv 4)) (ze_int) (fun _ _ => rfl))) (ze_int)))) (zss_one (zs_if (zt_w (zw_and (zt_cmp (op_neD (hu64 hr)) o_ne (nomark _) (ze_var (pv 6)) (ze_var (pv 4))) (zw_and1 (zt_w (zw_or (zt_cmp op_lt o_lt (nomark _) (ze_var (pv 7)) (ze_int)) (zw_or1 (zt_w (zw_and (zt_cmp (op_eqD (hu64 hr)) o_eq (nomark _) (ze_var (pv 7)) (ze_int)) (zw_and1 (zt_cmp op_gt o_gt (nomark _) (ze_var (pv 8)) (ze_op op_addZ o_add (ze_op op_pow o_pow (ze_op op_sub o_sub (ze_item (zb_n (pv 5)) (ze_int) (fun _ _ => rfl)) (ze_item (zb_n (pv 4)) (ze_int) (fun _ _ => rfl))) (ze_int)) (ze_op op_pow o_pow (ze_op op_sub o_sub (ze_item (zb_n (pv 5)) (ze_int) (fun _ _ => rfl)) (ze_item (zb_n (pv 4)) (ze_int) (fun _ _ => rfl))) (ze_int))))))))))))) (zss_one (zs_set (i := 5) sc.nd rfl (by first | exact Or.inl rfl | exact Or.inr rfl) (ze_var (pv 6)))) (zss_nil)))))) (zss_cons (zs_if (zt_cmp (op_eqD (hu64 hr)) o_eq (nomark _) (ze_var (pv 5)) (ze_item (zb_n (pv 2)) (ze_int) (fun _ _ => rfl))) (zss_one (zs_ret (ze_callT call_tuple_of on_tuple T.tuple (by decide +kernel) (za_cons (ze_var (pv 2)) (za_nil))))) (zss_nil)) (zss_one (zs_append (pv 2) (ze_var (pv 5))))))))) (zss_one (zs_ret (ze_callT call_tuple_of on_tuple T.tuple (by decide +kernel) (za_cons (ze_var (pv 2)) (za_nil))))))))
abbrev s_u_law_piece : Stmt := topS 25
abbrev sc_N_u_law_piece : List Str := ["_law_pot_here", "_law_at", "_law_size", "_law_many", "_law_corners_here", "_law_k"]
theorem sc_u_law_piece : FnScope sc_N_u_law_piece ["_law_pot_here", "_law_at", "_law_size"] (defScope s_u_law_piece) := ⟨rfl, rfl, rfl, by decide +kernel, rfl, by decide +kernel, by decide +kernel⟩
def L_u_law_piece_0 : CS := cApp 4 (cTup (caCons (c2 gAdd (cB2 gIx (cbN 1) (cK (.int 0))) (cCall F_u_law_next (cxS 0 (cxD (cV 2) (cxNil))))) (caCons (c2 gAdd (cB2 gIx (cbN 1) (cK (.int 1))) (cCall F_u_law_next (cxS 0 (cxD (cV 2) (cxNil))))) (caNil))))
def M_u_law_piece : CS := cSeq (cSet 3 (cB2 gIx (cbD (cLst (caCons (cK (.int 1)) (caCons (cK (.int 2)) (caCons (cK (.int 3)) (caCons (cK (.int 3)) (caCons (cK (.int 4)) (caCons (cK (.int 5)) (caNil))))))))) (cCall F_u_law_next (cxS 0 (cxD (cK (.int 6)) (cxNil)))))) (cSeq (cSet 4 (cLst (caNil))) (cSeq (cFor (ciRange1 (caCons (cV 3) (caNil))) (cgName 5) (L_u_law_piece_0)) (cRet (cCall F_u_law_hull (cxD (cV 4) (cxNil))))))
def F_u_law_piece : Fn := mkF 3 6 [0] M_u_law_piece
theorem ok_u_law_piece {f : Addr} {fd : FuncData} (T : Tx K mg) (G_u_law_hull : Has P w K mg base xc "_law_hull" 2 1 ["_law_corners_here"] F_u_law_hull) (G_u_law_next : Has P w K mg base xc "_law_next" 1 2 ["_law_pot_here", "_law_limit"] F_u_law_next) (U : Fun K "_law_piece" "_law_piece" s_u_law_piece f fd) (hm : mg "_law_piece" = some (.ref f)) (b : Binds K fd ["_law_pot_here", "_law_at", "_law_size"] []) :
    Has P w K mg base xc "_law_piece" 3 3 ["_law_pot_here", "_law_at", "_law_size"] F_u_law_piece := by
  refine Has.mk U hm b (zfn (k := 2) U sc_u_law_piece rfl (by decide) (by decide) ?_)
  rintro _ E cdv A outer s H rfl hr tk hp
  have sc := sc_u_law_piece
  exact zss_cons (zs_set (i := 3) sc.nd rfl (by first | exact Or.inl rfl | exact Or.inr rfl) (ze_item (zb_d (ze_lst (za_cons (ze_int) (za_cons (ze_int) (za_cons (ze_int) (za_cons (ze_int) (za_cons (ze_int) (za_cons (ze_int) (za_nil))))))))) (ze_callH G_u_law_next hr tk (zx_s (pv 0) (zx_d (ze_int) (zx_nil))) (len_s (len_d len_nil))) (fun _ _ => rfl))) (zss_cons (zs_set (i := 4) sc.nd rfl (by first | exact Or.inl rfl | exact Or.inr rfl) (ze_lst (za_nil))) (zss_cons (zs_for hp rfl (zi_range1 rfl T.range (za_cons (ze_var (pv 3)) (za_nil))) (zg_name (i := 5) sc.nd rfl (by first | exact Or.inl rfl | exact Or.inr rfl)) (zss_one (zs_append (pv 4) (ze_tup (za_cons (ze_op op_addZ o_add (ze_item (zb_n (pv 1)) (ze_int) (fun _ _ => rfl)) (ze_callH G_u_law_next hr tk (zx_s (pv 0) (zx_d (ze_var (pv 2)) (zx_nil))) (len_s (len_d len_nil)))) (za_cons (ze_op op_addZ o_add (ze_item (zb_n (pv 1)) (ze_int) (fun _ _ => rfl)) (ze_callH G_u_law_next hr tk (zx_s (pv 0) (zx_d (ze_var (pv 2)) (zx_nil))) (len_s (len_d len_nil)))) (za_nil))))))) (zss_one (zs_ret (ze_callH G_u_law_hull hr tk (zx_d (ze_var (pv 4)) (zx_nil)) (len_d len_nil))))))
abbrev s_u_law_ratio : Stmt := topS 29
abbrev sc_N_u_law_ratio : List Str := ["_law_n", "_law_d", "_law_k", "_law_j"]
theorem sc_u_law_ratio : FnScope sc_N_u_law_ratio ["_law_n", "_law_d"] (defScope s_u_law_ratio) := ⟨rfl, rfl, rfl, by decide +kernel, rfl, by decide +kernel, by decide +kernel⟩
def L_u_law_ratio_0 : CS := cIfS (cAnd (c2 gEq (c2 gMod (cN gInt (caCons (cV 0) (caNil))) (cV 2)) (cK (.int 0))) (cAnd (c2 gEq (c2 gMod (cN gInt (caCons (cV 1) (caNil))) (cV 2)) (cK (.int 0))) (c2 gGt (cV 1) (cK (.int 1))))) (cSeq (cSet 0 (c2 gFd (cV 0) (cV 2))) (cSet 1 (c2 gFd (cV 1) (cV 2)))) (cNext)
def L_u_law_ratio_1 : CS := cFor (ciRange1 (caCons (cK (.int 4)) (caNil))) (cgName 3) (L_u_law_ratio_0)
def M_u_law_ratio : CS := cSeq (cFor (ciSeq (cLst (caCons (cK (.int 2)) (caCons (cK (.int 3)) (caCons (cK (.int 5)) (caNil)))))) (cgName 2) (L_u_law_ratio_1)) (cSeq (cIfS (c2 gEq (cV 0) (cK (.int 0))) (cSet 1 (cK (.int 1))) (cNext)) (cRet (cTup (caCons (cV 0) (caCons (cV 1) (caNil))))))
def F_u_law_ratio : Fn := mkF 2 4 [] M_u_law_ratio
theorem ok_u_law_ratio {f : Addr} {fd : FuncData} (T : Tx K mg)  (U : Fun K "_law_ratio" "_law_ratio" s_u_law_ratio f fd) (hm : mg "_law_ratio" = some (.ref f)) (b : Binds K fd ["_law_n", "_law_d"] []) :
    Has P w K mg base xc "_law_ratio" 1 2 ["_law_n", "_law_d"] F_u_law_ratio := by
  refine Has.mk U hm b (zfn (k := 0) U sc_u_law_ratio rfl (by decide) (by decide) ?_)
  rintro _ E cdv A outer s H rfl hr tk hp
  have sc := sc_u_law_ratio
  exact zss_cons (zs_for hp rfl (zi_seq (ze_lst (za_cons (ze_int) (za_cons (ze_int) (za_cons (ze_int) (za_nil)))))) (zg_name (i := 2) sc.nd rfl (by first | exact Or.inl rfl | exact Or.inr rfl)) (zss_one (zs_for hp rfl (zi_range1 rfl T.range (za_cons (ze_int) (za_nil))) (zg_name (i := 3) sc.nd rfl (by first | exact Or.inl rfl | exact Or.inr rfl)) (zss_one (zs_if (zt_w (zw_and (zt_cmp (op_eqD (hu64 hr)) o_eq (nomark _) (ze_op op_mod o_mod (ze_callT call_int1 on_int T.int (by decide +kernel) (za_cons (ze_var (pv 0)) (za_nil))) (ze_var (pv 2))) (ze_int)) (zw_and (zt_cmp (op_eqD (hu64 hr)) o_eq (nomark _) (ze_op op_mod o_mod (ze_callT call_int1 on_int T.int (by decide +kernel) (za_cons (ze_var (pv 1)) (za_nil))) (ze_var (pv 2))) (ze_int)) (zw_and1 (zt_cmp op_gt o_gt (nomark _) (ze_var (pv 1)) (ze_int)))))) (zss_cons (zs_set (i := 0) sc.nd rfl (by first | exact Or.inl rfl | exact Or.inr rfl) (ze_op op_fdX o_fd (ze_var (pv 0)) (ze_var (pv 2)))) (zss_one (zs_set (i := 1) sc.nd rfl (by first | exact Or.inl rfl | exact Or.inr rfl) (ze_op op_fdX o_fd (ze_var (pv 1)) (ze_var (pv 2)))))) (zss_nil)))))) (zss_cons (zs_if (zt_cmp (op_eqD (hu64 hr)) o_eq (nomark _) (ze_var (pv 0)) (ze_int)) (zss_one (zs_set (i := 1) sc.nd rfl (by first | exact Or.inl rfl | exact Or.inr rfl) (ze_int))) (zss_nil)) (zss_one (zs_ret (ze_tup (za_cons (ze_var (pv 0)) (za_cons (ze_var (pv 1)) (za_nil)))))))
abbrev s_u_law_place : Stmt := topS 30
abbrev sc_N_u_law_place : List Str := ["_law_pot_here", "_law_width", "_law_height", "_law_d"]
theorem sc_u_law_place : FnScope sc_N_u_law_place ["_law_pot_here", "_law_width", "_law_height"] (defScope s_u_law_place) := ⟨rfl, rfl, rfl, by decide +kernel, rfl, by decide +kernel, by decide +kernel⟩
def M_u_law_place : CS := cSeq (cSet 3 (cB2 gIx (cbD (cLst (caCons (cK (.int 1)) (caCons (cK (.int 1)) (caCons (cK (.int 2)) (caCons (cK (.int 3)) (caNil))))))) (cCall F_u_law_next (cxS 0 (cxD (cK (.int 4)) (cxNil)))))) (cRet (cTup (caCons (cCall F_u_law_ratio (cxD (cCall F_u_law_next (cxS 0 (cxD (c2 gAdd (c2 gMul (cV 1) (cV 3)) (cK (.int 1))) (cxNil)))) (cxD (cV 3) (cxNil)))) (caCons (cCall F_u_law_ratio (cxD (cCall F_u_law_next (cxS 0 (cxD (c2 gAdd (c2 gMul (cV 2) (cV 3)) (cK (.int 1))) (cxNil)))) (cxD (cV 3) (cxNil)))) (caNil)))))
def F_u_law_place : Fn := mkF 3 4 [0] M_u_law_place
theorem ok_u_law_place {f : Addr} {fd : FuncData} (T : Tx K mg) (G_u_law_next : Has P w K mg base xc "_law_next" 1 2 ["_law_pot_here", "_law_limit"] F_u_law_next) (G_u_law_ratio : Has P w K mg base xc "_law_ratio" 1 2 ["_law_n", "_law_d"] F_u_law_ratio) (U : Fun K "_law_place" "_law_place" s_u_law_place f fd) (hm : mg "_law_place" = some (.ref f)) (b : Binds K fd ["_law_pot_here", "_law_width", "_law_height"] []) :
    Has P w K mg base xc "_law_place" 2 3 ["_law_pot_here", "_law_width", "_law_height"] F_u_law_place := by
  refine Has.mk U hm b (zfn (k := 1) U sc_u_law_place rfl (by decide) (by decide) ?_)
  rintro _ E cdv A outer s H rfl hr tk hp
  have sc := sc_u_law_place
  exact zss_cons (zs_set (i := 3) sc.nd rfl (by first | exact Or.inl rfl | exact Or.inr rfl) (ze_item (zb_d (ze_lst (za_cons (ze_int) (za_cons (ze_int) (za_cons (ze_int) (za_cons (ze_int) (za_nil))))))) (ze_callH G_u_law_next hr tk (zx_s (pv 0) (zx_d (ze_int) (zx_nil))) (len_s (len_d len_nil))) (fun _ _ => rfl))) (zss_one (zs_ret (ze_tup (za_cons (ze_callH G_u_law_ratio hr tk (zx_d (ze_callH G_u_law_next hr tk (zx_s (pv 0) (zx_d (ze_op op_addZ o_add (ze_op op_mulW o_mul (ze_var (pv 1)) (ze_var (pv 3))) (ze_int)) (zx_nil))) (len_s (len_d len_nil))) (zx_d (ze_var (pv 3)) (zx_nil))) (len_d (len_d len_nil))) (za_cons (ze_callH G_u_law_ratio hr tk (zx_d (ze_callH G_u_law_next hr tk (zx_s (pv 0) (zx_d (ze_op op_addZ o_add (ze_op op_mulW o_mul (ze_var (pv 2)) (ze_var (pv 3))) (ze_int)) (zx_nil))) (len_s (len_d len_nil))) (zx_d (ze_var (pv 3)) (zx_nil))) (len_d (len_d len_nil))) (za_nil))))))
abbrev s_law : Stmt := topS 31
abbrev sc_N_law : List Str := ["_law_script", "_law_pot_here", "_law_k", "_law_piece_here", "_law_corners_here", "_law_places", "_law_a", "_law_b", "_law_place_here", "_law_p"]
theorem sc_law : FnScope sc_N_law ["_law_script"] (defScope s_law) := ⟨rfl, rfl, rfl, by decide +kernel, rfl, by decide +kernel, by decide +kernel⟩
def L_law_0 : CS := cSeq (cSet 9 (cCall F_u_law_scale (cxD (cV 8) (cxNil)))) (cIfS (cOr (c1 gTru (cCall F_u_law_other (cxD (cCall F_is_in (cxD (cV 8) (cxD (cV 3) (cxNil)))) (cxD (cCall F_u_law_in (cxD (cV 9) (cxD (cV 4) (cxNil)))) (cxNil))))) (c1 gTru (cCall F_u_law_other (cxD (cCall F_is_inside (cxD (cV 8) (cxD (cV 3) (cxNil)))) (cxD (cCall F_u_law_strict (cxD (cV 9) (cxD (cV 4) (cxNil)))) (cxNil)))))) (cRet (cK (.bool false))) (cNext))
def L_law_1 : CS := cSeq (cSet 3 (cCall F_u_law_piece (cxS 1 (cxD (cTup (caCons (cK (.int 0)) (caCons (cCall F_u_law_next (cxS 1 (cxD (cK (.int 3)) (cxNil)))) (caNil)))) (cxD (cB2 gIx (cbD (cLst (caCons (cK (.int 3)) (caCons (cK (.int 7)) (caNil))))) (cCall F_u_law_next (cxS 1 (cxD (cK (.int 2)) (cxNil))))) (cxNil)))))) (cSeq (cSet 4 (cCall F_u_law_corners (cxD (cV 3) (cxNil)))) (cSeq (cSet 5 (cLst (caCons (cCall F_u_law_place (cxS 1 (cxD (cK (.int 7)) (cxD (cK (.int 7)) (cxNil))))) (caNil)))) (cSeq (cSet 6 (cB2 gIx (cbN 3) (cCall F_u_law_next (cxS 1 (cxD (cB1 gLen (cbN 3)) (cxNil)))))) (cSeq (cSet 7 (cB2 gIx (cbN 3) (cCall F_u_law_next (cxS 1 (cxD (cB1 gLen (cbN 3)) (cxNil)))))) (cSeq (cApp 5 (cTup (caCons (cTup (caCons (cB2 gIx (cbN 6) (cK (.int 0))) (caCons (cK (.int 1)) (caNil)))) (caCons (cTup (caCons (cB2 gIx (cbN 6) (cK (.int 1))) (caCons (cK (.int 1)) (caNil)))) (caNil))))) (cSeq (cApp 5 (cTup (caCons (cCall F_u_law_ratio (cxD (c2 gAdd (cB2 gIx (cbN 6) (cK (.int 0))) (cB2 gIx (cbN 7) (cK (.int 0)))) (cxD (cK (.int 2)) (cxNil)))) (caCons (cCall F_u_law_ratio (cxD (c2 gAdd (cB2 gIx (cbN 6) (cK (.int 1))) (cB2 gIx (cbN 7) (cK (.int 1)))) (cxD (cK (.int 2)) (cxNil)))) (caNil))))) (cSeq (cApp 5 (cTup (caCons (cCall F_u_law_ratio (cxD (c2 gAdd (c2 gMul (cK (.int 2)) (cB2 gIx (cbN 6) (cK (.int 0)))) (cB2 gIx (cbN 7) (cK (.int 0)))) (cxD (cK (.int 3)) (cxNil)))) (caCons (cCall F_u_law_ratio (cxD (c2 gAdd (c2 gMul (cK (.int 2)) (cB2 gIx (cbN 6) (cK (.int 1)))) (cB2 gIx (cbN 7) (cK (.int 1)))) (cxD (cK (.int 3)) (cxNil)))) (caNil))))) (cFor (ciSeq (cV 5)) (cgName 8) (L_law_0)))))))))
def M_law : CS := cSeq (cSet 1 (cCall F_u_law_pot (cxD (cV 0) (cxNil)))) (cSeq (cFor (ciRange1 (caCons (cK (.int 4)) (caNil))) (cgName 2) (L_law_1)) (cRet (cK (.bool true))))
def F_law : Fn := mkF 1 10 [] M_law
theorem ok_law {f : Addr} {fd : FuncData} (T : Tx K mg) (G_u_law_corners : Has P w K mg base xc "_law_corners" 1 1 ["_law_piece_here"] F_u_law_corners) (G_u_law_in : Has P w K mg base xc "_law_in" 3 2 ["_law_p", "_law_corners_here"] F_u_law_in) (G_u_law_next : Has P w K mg base xc "_law_next" 1 2 ["_law_pot_here", "_law_limit"] F_u_law_next) (G_u_law_other : Has P w K mg base xc "_law_other" 1 2 ["_law_found", "_law_due"] F_u_law_other) (G_u_law_piece : Has P w K mg base xc "_law_piece" 3 3 ["_law_pot_here", "_law_at", "_law_size"] F_u_law_piece) (G_u_law_place : Has P w K mg base xc "_law_place" 2 3 ["_law_pot_here", "_law_width", "_law_height"] F_u_law_place) (G_u_law_pot : Has P w K mg base xc "_law_pot" 1 1 ["_law_script"] F_u_law_pot) (G_u_law_ratio : Has P w K mg base xc "_law_ratio" 1 2 ["_law_n", "_law_d"] F_u_law_ratio) (G_u_law_scale : Has P w K mg base xc "_law_scale" 1 1 ["_law_p"] F_u_law_scale) (G_u_law_strict : Has P w K mg base xc "_law_strict" 2 2 ["_law_p", "_law_corners_here"] F_u_law_strict) (G_is_in : Has P w K mg base xc "is_in" 3 2 ["p", "piece"] F_is_in) (G_is_inside : Has P w K mg base xc "is_inside" 3 2 ["p", "piece"] F_is_inside) (U : Fun K "law" "law" s_law f fd) (hm : mg "law" = some (.ref f)) (b : Binds K fd ["_law_script"] []) :
    FnOk P w K mg base (L2.CX P w) 4 f fd ["_law_script"] (spZ ⟨K, P, w⟩ xc 1 F_law) := by
  refine zfn (k := 3) U sc_law rfl (by decide) (by decide) ?_
  rintro _ E cdv A outer s H rfl hr tk hp
  have sc := sc_law
  exact zss_cons (zs_set (i := 1) sc.nd rfl (by first | exact Or.inl rfl | exact Or.inr rfl) (ze_callH G_u_law_pot hr tk (zx_d (ze_var (pv 0)) (zx_nil)) (len_d len_nil))) (zss_cons (zs_for hp rfl (zi_range1 rfl T.range (za_cons (ze_int) (za_nil))) (zg_name (i := 2) sc.nd rfl (by first | exact Or.inl rfl | exact Or.inr rfl)) (zss_cons (zs_set (i := 3) sc.nd rfl (by first | exact Or.inl rfl | exact Or.inr rfl) (ze_callH G_u_law_piece hr tk (zx_s (pv 1) (zx_d (ze_tup (za_cons (ze_int) (za_cons (ze_callH G_u_law_next hr tk (zx_s (pv 1) (zx_d (ze_int) (zx_nil))) (len_s (len_d len_nil))) (za_nil)))) (zx_d (ze_item (zb_d (ze_lst (za_cons (ze_int) (za_cons (ze_int) (za_nil))))) (ze_callH G_u_law_next hr tk (zx_s (pv 1) (zx_d (ze_int) (zx_nil))) (len_s (len_d len_nil))) (fun _ _ => rfl)) (zx_nil)))) (len_s (len_d (len_d len_nil))))) (zss_cons (zs_set (i := 4) sc.nd rfl (by first | exact Or.inl rfl | exact Or.inr rfl) (ze_callH G_u_law_corners hr tk (zx_d (ze_var (pv 3)) (zx_nil)) (len_d len_nil))) (zss_cons (zs_set (i := 5) sc.nd rfl (by first | exact Or.inl rfl | exact Or.inr rfl) (ze_lst (za_cons (ze_callH G_u_law_place hr tk (zx_s (pv 1) (zx_d (ze_int) (zx_d (ze_int) (zx_nil)))) (len_s (len_d (len_d len_nil)))) (za_nil)))) (zss_cons (zs_set (i := 6) sc.nd rfl (by first | exact Or.inl rfl | exact Or.inr rfl) (ze_item (zb_n (pv 3)) (ze_callH G_u_law_next hr tk (zx_s (pv 1) (zx_d (ze_len T.len (zb_n (pv 3))) (zx_nil))) (len_s (len_d len_nil))) (fun _ _ => rfl))) (zss_cons (zs_set (i := 7) sc.nd rfl (by first | exact Or.inl rfl | exact Or.inr rfl) (ze_item (zb_n (pv 3)) (ze_callH G_u_law_next hr tk (zx_s (pv 1) (zx_d (ze_len T.len (zb_n (pv 3))) (zx_nil))) (len_s (len_d len_nil))) (fun _ _ => rfl))) (zss_cons (zs_append (pv 5) (ze_tup (za_cons (ze_tup (za_cons (ze_item (zb_n (pv 6)) (ze_int) (fun _ _ => rfl)) (za_cons (ze_int) (za_nil)))) (za_cons (ze_tup (za_cons (ze_item (zb_n (pv 6)) (ze_int) (fun _ _ => rfl)) (za_cons (ze_int) (za_nil)))) (za_nil))))) (zss_cons (zs_append (pv 5) (ze_tup (za_cons (ze_callH G_u_law_ratio hr tk (zx_d (ze_op op_addZ o_add (ze_item (zb_n (pv 6)) (ze_int) (fun _ _ => rfl)) (ze_item (zb_n (pv 7)) (ze_int) (fun _ _ => rfl))) (zx_d (ze_int) (zx_nil))) (len_d (len_d len_nil))) (za_cons (ze_callH G_u_law_ratio hr tk (zx_d (ze_op op_addZ o_add (ze_item (zb_n (pv 6)) (ze_int) (fun _ _ => rfl)) (ze_item (zb_n (pv 7)) (ze_int) (fun _ _ => rfl))) (zx_d (ze_int) (zx_nil))) (len_d (len_d len_nil))) (za_nil))))) (zss_cons (zs_append (pv 5) (ze_tup (za_cons (ze_callH G_u_law_ratio hr tk (zx_d (ze_op op_addZ o_add (ze_op op_mulW o_mul (ze_int) (ze_item (zb_n (pv 6)) (ze_int) (fun _ _ => rfl))) (ze_item (zb_n (pv 7)) (ze_int) (fun _ _ => rfl))) (zx_d (ze_int) (zx_nil))) (len_d (len_d len_nil))) (za_cons (ze_callH G_u_law_ratio hr tk (zx_d (ze_op op_addZ o_add (ze_op op_mulW o_mul (ze_int) (ze_item (zb_n (pv 6)) (ze_int) (fun _ _ => rfl))) (ze_item (zb_n (pv 7)) (ze_int) (fun _ _ => rfl))) (zx_d (ze_int) (zx_nil))) (len_d (len_d len_nil))) (za_nil))))) (zss_one (zs_for hp rfl (zi_seq (ze_var (pv 5))) (zg_name (i := 8) sc.nd rfl (by first | exact Or.inl rfl | exact Or.inr rfl)) (zss_cons (zs_set (i := 9) sc.nd rfl (by first | exact Or.inl rfl | exact Or.inr rfl) (ze_callH G_u_law_scale hr tk (zx_d (ze_var (pv 8)) (zx_nil)) (len_d len_nil))) (zss_one (zs_if (zt_w (zw_or (zt_truth (ze_callH G_u_law_other hr tk (zx_d (ze_callH G_is_in hr tk (zx_d (ze_var (pv 8)) (zx_d (ze_var (pv 3)) (zx_nil))) (len_d (len_d len_nil))) (zx_d (ze_callH G_u_law_in hr tk (zx_d (ze_var (pv 9)) (zx_d (ze_var (pv 4)) (zx_nil))) (len_d (len_d len_nil))) (zx_nil))) (len_d (len_d len_nil))) (fun _ => rfl)) (zw_or1 (zt_truth (ze_callH G_u_law_other hr tk (zx_d (ze_callH G_is_inside hr tk (zx_d (ze_var (pv 8)) (zx_d (ze_var (pv 3)) (zx_nil))) (len_d (len_d len_nil))) (zx_d (ze_callH G_u_law_strict hr tk (zx_d (ze_var (pv 9)) (zx_d (ze_var (pv 4)) (zx_nil))) (len_d (len_d len_nil))) (zx_nil))) (len_d (len_d len_nil))) (fun _ => rfl))))) (zss_one (zs_ret (ze_bool))) (zss_nil))))))))))))))) (zss_one (zs_ret (ze_bool))))
end
end Z
set_option maxHeartbeats 1000000
namespace Z
open PySem PySem.Spec PyProof.Rows L2
/-! ### ground -/
def Sm (c : Cn) : Prop := Bd 60 c.1 ∧ Bd 60 c.2
theorem area_spec {a b c : Cn} (ha : Sm a) (hb : Sm b) (hc : Sm c) : F_u_law_area [.dat (pD a), .dat (pD b), .dat (pD c)] = .ok (.dat (.int (ar a b c))) [.dat (pD a), .dat (pD b), .dat (pD c)] := by
  obtain ⟨a1, a2⟩ := ha
  obtain ⟨b1, b2⟩ := hb
  obtain ⟨c1, c2⟩ := hc
  unfold F_u_law_area M_u_law_area pD ar
  simp -implicitDefEqProofs (disch := first | with_reducible assumption | ((with_reducible apply Bdx.id); exact Bdx.of (by (repeat' first | with_reducible assumption | apply Bd.mul | apply Bd.sub2 | apply Bd.add2 | apply Bd.neg | exact Bd.lit rfl)) (by decide)) | ((with_reducible apply Sml.id); exact Sml.lit rfl) | fail) only [k1_0, k1_e, k1_c, c1_r, k2b_0, k2b_e, k2b_c, k2a_0, k2a_e, k2a_c, c2_r, kN_0, kN_e, kN_c, cN_r, kTup_0, kTup_e, kTup_c, cTup_r, kLst_0, kLst_e, kLst_c, cLst_r, cK_r, caNil_r, kcb_0, kcb_e, kcb_c, kca_0, kca_e, kca_c, caCons_r, cxNil_r, kxb_0, kxb_e, kxb_c, kxa_0, kxa_e, kxa_c, cxD_r, cxS_r, kxs_0, cCall_r, kc1_0, kc1_e, kc2_0, kc3_0, kc3_e, kc3_c, ssOf_n, ss1_0, ss2_0, ssOf_d, ssOf_s, pb_n, pb_d, pb_s, so_n, so_d, so_s, di_n, di_1, di_c, cSeq_r, cNext_r, cRetN_r, cBrk_r, cCnt_r, kRet_0, kRet_e, kRet_c, cRet_r, kDrop_0, kDrop_e, kDrop_c, cDrop_r, kSet_0, kSet_e, kSet_c, cSet_r, kAs_0, kAsg_0, kAsg_e, kAsg_c, cAsg_r, cgName_r, cgNil_r, kgc_0, cgCons_r, cgTup_r, cgLst_r, kPar_0, kPar_e, kPar_c, cPar_r, kPar3_0, kPar3_e, kPar3_c, cPar3_r, kap3_0, kap2_0, kap2_e, kap2_c, kap1_0, cApp_r, ksi3_0, ksi4_0, ksi2_0, ksi2_e, ksi2_c, ksi1_0, ksi0_0, ksi0_e, ksi0_c, cSetIx_r, kix_l, kix_t, kix_s, kSq_0, kSq_e, kSq_c, ciSeq_r, kr1_0, kr1_e, kr1_c, ciRange1_r, kr2_0, kr2_e, kr2_c, ciRange2_r, kFor_0, kFor_e, kFor_c, cFor_r, forL_c, forL_n, kf1_0, kf2_nx, kf2_ct, kf2_bk, kf2_rt, kf2_exc, kf2_cond, kb_0, kbb_0, kb1_0, kb1_c, kb1_e, cB1_r, kb3_0, kb3_e, kb3_c, kb2_0, kb2_c, kb2_e, cB2_r, kres_0, res_d, res_s, kbn_0, cbN_r, kbD_0, kbD_e, kbD_c, cbD_r, kv_0, cV_r, kvm_0, cVm_r, cV_0, st_0, gt_0, cV_1, st_1, gt_1, cV_2, st_2, gt_2, cV_3, st_3, gt_3, cV_4, st_4, gt_4, cV_5, st_5, gt_5, cV_6, st_6, gt_6, cV_7, st_7, gt_7, cV_8, st_8, gt_8, cV_9, st_9, gt_9, cV_10, st_10, gt_10, cV_11, st_11, gt_11, cV_12, st_12, gt_12, cV_13, st_13, gt_13, cV_14, st_14, gt_14, cV_15, st_15, gt_15, cV_16, st_16, gt_16, cV_17, st_17, gt_17, cV_18, st_18, gt_18, cV_19, st_19, gt_19, cV_20, st_20, gt_20, cV_21, st_21, gt_21, cV_22, st_22, gt_22, cV_23, st_23, gt_23, tCh2_0, tCh2_e, tCh1_0, tCh0b_0, tCh0b_e, tCh0a_0, tCh0a_e, cChain_r, lcL_nil, lcL_c, ml1_0, ml2_t, ml2_f, ml2_b, ml3_0, ml5_0, ml4_0, ml4_e, ml4_c, cLc_r, nO_d, nO_n, nO_l, noOwn_n, noOwn_c, wipe_n, wipe_c, rsE_0, rest_n, rest_c, mkF_r, fo_0, fx_0, fin_nx', fin_rt', fin_exc', ob_0, og_0, od_0, outs_n, outs_c, lift_some, S_d, S_l, gAdd, gSub, gNeg, gNot, gLt, gLe, gGt, gGe, gEq_ii, gNe_ii, gLen, gAbs, gInt, tru_b, gMax2, gMin2, gGcd, gList, gTuple, gAll, gAny, bools_nil, bools_cons, gIs_bb, gIsN_bb, gPow, gMul, gFd, gMod, atI_0, atI_1, atI_2, atI_3, ixL_1, ixL_2, ixL_3, ixN_41, ixN_42, ixN_43, List.getElem?_cons_zero, List.getElem?_cons_succ, List.set_cons_zero, List.set_cons_succ, List.map_cons, List.map_nil, List.length_cons, List.length_nil, List.cons_append, List.nil_append, List.replicate_succ, List.replicate_zero, List.length_map, ↓cond_true, ↓cond_false, cond_true, cond_false, Option.map_some, beq_self_eq_true, List.contains_cons, List.contains_nil, Bool.or_false, Bool.false_or, Bool.or_true, Bool.and_true, Bool.true_and, Bool.not_true, Bool.not_false, Nat.reduceBEq, Nat.reduceAdd, Nat.reduceSub, Nat.reduceEqDiff, reduceCtorEq, Bool.false_eq_true, sq_nx, sq_rt, sq_bad, sq_bk, sq_ct, sq_exc, dz0, dz1, dz2, dz3, dz4, dz5, dz6, dz7, dz8, dz9, dz10, dz11, dz12, ic0, ic1, ic2, ic3, ic4, tAnd_ok, tOr_ok, tIf_ok, tIfS_ok, tAnd_exc, tOr_exc, tIf_exc, tIfS_exc, cAnd_t, cOr_t, cIf_t, cIfS_t, co_and, co_or, tAnd_cond, tOr_cond, tIfS_cond, sq_cond, fin_cond, rangeL_2, rangeL_3, List.all_cons, List.all_nil, List.any_cons, List.any_nil, id, rng1_t, rng2_t, Int.reduceToNat, if_true, ite_true, if_false, eq_self, decide_true, decide_false, isi_int_n, isi_int_b, isi_int_i, isi_int_s, isi_int_l, isi_int_t, isi_bool_n, isi_bool_b, isi_bool_i, isi_bool_s, isi_bool_l, isi_bool_t, isi_str_n, isi_str_b, isi_str_i, isi_str_s, isi_str_l, isi_str_t, isi_list_n, isi_list_b, isi_list_i, isi_list_s, isi_list_l, isi_list_t, isi_tuple_n, isi_tuple_b, isi_tuple_i, isi_tuple_s, isi_tuple_l, isi_tuple_t, isi_dict_n, isi_dict_b, isi_dict_i, isi_dict_s, isi_dict_l, isi_dict_t, nh_d, nh_l, nh_k, nh_o, nh_fn, nh_fc, ss3_0, sat_n, sat_0, sat_c, sup_n, sup_c, supc_0, fsg_c, fsg_n, fss_c, fss_n, pbs_0, pb_t, so_t, ssOf_t, gIx_l, gIx_t, S_k, Option.map_none, cmulW_t]
theorem cPop_0 {ρ : En} {i : Nat} {L : List PyData} {x : PyData} (h : ρ[i]? = some (some (.lst (L ++ [x])))) : cPop i ρ = .ok (.dat x) (ρ.set i (some (.lst L))) := by
  have e : (L ++ [x])[(L ++ [x]).length - 1]? = some x := by simp
  unfold cPop
  simp only [h, e, List.dropLast_concat]
theorem wmax : whileMax = (2 ^ 40 - 1) + 1 := rfl
theorem cutD_init {L : List PyData} : cutD L none (some (-1)) = L.dropLast := by
  unfold cutD HT.sIx
  rw [List.drop_zero, List.dropLast_eq_take]
  congr 1
  show (-1 + (L.length : Int)).toNat - 0 = L.length - 1
  omega
theorem cSl_init {i : Nat} {ρ : En} {L : List PyData} (h : ρ[i]? = some (some (.lst L))) : cSl gSl (cbN i) none (some (c1 gNeg (cK (.int 1)))) ρ = .ok (.lst L.dropLast) ρ := by
  have e : cbN i ρ = .ok (.s i []) ρ := by unfold cbN; rw [h]
  have e2 : resolve ρ (.s i []) = some (.list L) := by
    rw [res_s, h]
    rfl
  unfold cSl
  rw [e]
  show (match resolve ρ (.s i []) with
    | some d => R.lift (gSl d none (some (-1))) ρ
    | none => .bad) = _
  rw [e2]
  show R.lift (some (.lst (cutD L none (some (-1))))) ρ = _
  rw [cutD_init]
  rfl
theorem sorted_keys {cs : List Cn} : gSorted [.dict ((keysC cs).map pT)] = some (.lst ((ordC cs).map pD)) := by
  have e : ((keysC cs).map pT).map (·.1) = (keysC cs).map pD := by rw [List.map_map]; rfl
  show (bif sortOk (((keysC cs).map pT).map (·.1)) then some (S.lst ((((keysC cs).map pT).map (·.1)).mergeSort dLe)) else none) = _
  rw [e, sortOk_pD, sort_pD]
  rfl
theorem ch_cls : (100000 : Nat) < sizeLine := by decide
theorem bools_map {α : Type} (f : α → Bool) : ∀ l : List α, boolsOf (l.map fun x => PyData.bool (f x)) = some (l.map f)
  | [] => rfl
  | x :: l => by rw [List.map_cons, bools_cons, bools_map f l]; rfl
theorem all_mid {α : Type} (f : α → Bool) (l : List α) : (l.map f).all id = l.all f := by simp [List.all_map]
theorem any_mid {α : Type} (f : α → Bool) (l : List α) : (l.map f).any id = l.any f := by simp [List.any_map]
theorem gAll_map {α : Type} (f : α → Bool) (l : List α) : gAll [.list (l.map fun x => PyData.bool (f x))] = some (.dat (.bool (l.all f))) := by
  show (boolsOf _).map _ = _
  rw [bools_map]
  simp [List.all_map]
theorem gAny_map {α : Type} (f : α → Bool) (l : List α) : gAny [.list (l.map fun x => PyData.bool (f x))] = some (.dat (.bool (l.any f))) := by
  show (boolsOf _).map _ = _
  rw [bools_map]
  simp [List.any_map]
theorem bools_const {α : Type} {b : Bool} (l : List α) : boolsOf (l.map fun _ => PyData.bool b) = some (l.map fun _ => b) := bools_map (fun _ => b) l
theorem all_const {α : Type} (l : List α) : (l.map fun _ => true).all id = true := by simp
theorem any_const {α : Type} (l : List α) : (l.map fun _ => false).any id = false := by simp
/-- data as a corner -/
def cnOf : PyData → Cn
  | .tuple [.int x, .int y] => (x, y)
  | _ => (0, 0)
theorem cnOf_pD (c : Cn) : cnOf (pD c) = c := rfl
theorem map_pD {α : Type} (f : PyData → α) (Q : List Cn) : (Q.map pD).map f = Q.map fun c => f (pD c) := by rw [List.map_map]; rfl
/-! ### the law's own hull, walked -/
theorem sub_sm {a b : Int} (h : Bd 60 a) (g : Bd 60 b) : Bd 61 (a - b) := (h.sub g)
theorem cpow_2 {i : Int} (h : Bd 61 i) : decide (CPow i 2) = true := decide_eq_true ⟨by decide, by decide, by unfold Bd at h; omega⟩
theorem jb_step {D O F K : Option S} {now best c : Cn} {x7 x8 : Option S} (hn : Sm now) (hb : Sm best) (hc : Sm c) :
    ∃ y7 y8, L_u_law_hull_0 [D, O, F, K, some (.dat (pD now)), some (.dat (pD best)), some (.dat (pD c)), x7, x8] = .nx [D, O, F, K, some (.dat (pD now)), some (.dat (pD (jb now best c))), some (.dat (pD c)), y7, y8] := by
  have ar1 := area_spec hn hb hc
  have p1 := cpow_2 (sub_sm hc.1 hn.1)
  have p2 := cpow_2 (sub_sm hc.2 hn.2)
  have p3 := cpow_2 (sub_sm hb.1 hn.1)
  have p4 := cpow_2 (sub_sm hb.2 hn.2)
  have gx : ∀ p : Cn, gIx (pD p) (.int 0) = some (.dat (.int p.1)) := fun p => rfl
  have gy : ∀ p : Cn, gIx (pD p) (.int 1) = some (.dat (.int p.2)) := fun p => rfl
  refine ⟨some (.dat (.int (ar now best c))), some (.dat (.int (far now c))), ?_⟩
  unfold L_u_law_hull_0 jb far
  by_cases e1 : c = now
  · subst e1
    have d1 : decide (c = c) = true := decide_eq_true rfl
    rw [if_neg (fun h => h.1 rfl)]
    simp -implicitDefEqProofs only [k1_0, k1_e, k1_c, c1_r, k2b_0, k2b_e, k2b_c, k2a_0, k2a_e, k2a_c, c2_r, kN_0, kN_e, kN_c, cN_r, kTup_0, kTup_e, kTup_c, cTup_r, kLst_0, kLst_e, kLst_c, cLst_r, cK_r, caNil_r, kcb_0, kcb_e, kcb_c, kca_0, kca_e, kca_c, caCons_r, cxNil_r, kxb_0, kxb_e, kxb_c, kxa_0, kxa_e, kxa_c, cxD_r, cxS_r, kxs_0, cCall_r, kc1_0, kc1_e, kc2_0, kc3_0, kc3_e, kc3_c, ssOf_n, ss1_0, ss2_0, ssOf_d, ssOf_s, pb_n, pb_d, pb_s, so_n, so_d, so_s, di_n, di_1, di_c, cSeq_r, cNext_r, cRetN_r, cBrk_r, cCnt_r, kRet_0, kRet_e, kRet_c, cRet_r, kDrop_0, kDrop_e, kDrop_c, cDrop_r, kSet_0, kSet_e, kSet_c, cSet_r, kAs_0, kAsg_0, kAsg_e, kAsg_c, cAsg_r, cgName_r, cgNil_r, kgc_0, cgCons_r, cgTup_r, cgLst_r, kPar_0, kPar_e, kPar_c, cPar_r, kPar3_0, kPar3_e, kPar3_c, cPar3_r, kap3_0, kap2_0, kap2_e, kap2_c, kap1_0, cApp_r, ksi3_0, ksi4_0, ksi2_0, ksi2_e, ksi2_c, ksi1_0, ksi0_0, ksi0_e, ksi0_c, cSetIx_r, kix_l, kix_t, kix_s, kSq_0, kSq_e, kSq_c, ciSeq_r, kr1_0, kr1_e, kr1_c, ciRange1_r, kr2_0, kr2_e, kr2_c, ciRange2_r, kFor_0, kFor_e, kFor_c, cFor_r, forL_c, forL_n, kf1_0, kf2_nx, kf2_ct, kf2_bk, kf2_rt, kf2_exc, kf2_cond, kb_0, kbb_0, kb1_0, kb1_c, kb1_e, cB1_r, kb3_0, kb3_e, kb3_c, kb2_0, kb2_c, kb2_e, cB2_r, kres_0, res_d, res_s, kbn_0, cbN_r, kbD_0, kbD_e, kbD_c, cbD_r, kv_0, cV_r, kvm_0, cVm_r, cV_0, st_0, gt_0, cV_1, st_1, gt_1, cV_2, st_2, gt_2, cV_3, st_3, gt_3, cV_4, st_4, gt_4, cV_5, st_5, gt_5, cV_6, st_6, gt_6, cV_7, st_7, gt_7, cV_8, st_8, gt_8, cV_9, st_9, gt_9, cV_10, st_10, gt_10, cV_11, st_11, gt_11, cV_12, st_12, gt_12, cV_13, st_13, gt_13, cV_14, st_14, gt_14, cV_15, st_15, gt_15, cV_16, st_16, gt_16, cV_17, st_17, gt_17, cV_18, st_18, gt_18, cV_19, st_19, gt_19, cV_20, st_20, gt_20, cV_21, st_21, gt_21, cV_22, st_22, gt_22, cV_23, st_23, gt_23, tCh2_0, tCh2_e, tCh1_0, tCh0b_0, tCh0b_e, tCh0a_0, tCh0a_e, cChain_r, lcL_nil, lcL_c, ml1_0, ml2_t, ml2_f, ml2_b, ml3_0, ml5_0, ml4_0, ml4_e, ml4_c, cLc_r, nO_d, nO_n, nO_l, noOwn_n, noOwn_c, wipe_n, wipe_c, rsE_0, rest_n, rest_c, mkF_r, fo_0, fx_0, fin_nx', fin_rt', fin_exc', ob_0, og_0, od_0, outs_n, outs_c, lift_some, S_d, S_l, gAdd, gSub, gNeg, gNot, gLt, gLe, gGt, gGe, gEq_ii, gNe_ii, gLen, gAbs, gInt, tru_b, gMax2, gMin2, gGcd, gList, gTuple, gAll, gAny, bools_nil, bools_cons, gIs_bb, gIsN_bb, gPow, gMul, gFd, gMod, atI_0, atI_1, atI_2, atI_3, ixL_1, ixL_2, ixL_3, ixN_41, ixN_42, ixN_43, List.getElem?_cons_zero, List.getElem?_cons_succ, List.set_cons_zero, List.set_cons_succ, List.map_cons, List.map_nil, List.length_cons, List.length_nil, List.cons_append, List.nil_append, List.replicate_succ, List.replicate_zero, List.length_map, ↓cond_true, ↓cond_false, cond_true, cond_false, Option.map_some, beq_self_eq_true, List.contains_cons, List.contains_nil, Bool.or_false, Bool.false_or, Bool.or_true, Bool.and_true, Bool.true_and, Bool.not_true, Bool.not_false, Nat.reduceBEq, Nat.reduceAdd, Nat.reduceSub, Nat.reduceEqDiff, reduceCtorEq, Bool.false_eq_true, sq_nx, sq_rt, sq_bad, sq_bk, sq_ct, sq_exc, dz0, dz1, dz2, dz3, dz4, dz5, dz6, dz7, dz8, dz9, dz10, dz11, dz12, ic0, ic1, ic2, ic3, ic4, tAnd_ok, tOr_ok, tIf_ok, tIfS_ok, tAnd_exc, tOr_exc, tIf_exc, tIfS_exc, cAnd_t, cOr_t, cIf_t, cIfS_t, co_and, co_or, tAnd_cond, tOr_cond, tIfS_cond, sq_cond, fin_cond, rangeL_2, rangeL_3, List.all_cons, List.all_nil, List.any_cons, List.any_nil, id, rng1_t, rng2_t, Int.reduceToNat, if_true, ite_true, if_false, eq_self, decide_true, decide_false, isi_int_n, isi_int_b, isi_int_i, isi_int_s, isi_int_l, isi_int_t, isi_bool_n, isi_bool_b, isi_bool_i, isi_bool_s, isi_bool_l, isi_bool_t, isi_str_n, isi_str_b, isi_str_i, isi_str_s, isi_str_l, isi_str_t, isi_list_n, isi_list_b, isi_list_i, isi_list_s, isi_list_l, isi_list_t, isi_tuple_n, isi_tuple_b, isi_tuple_i, isi_tuple_s, isi_tuple_l, isi_tuple_t, isi_dict_n, isi_dict_b, isi_dict_i, isi_dict_s, isi_dict_l, isi_dict_t, nh_d, nh_l, nh_k, nh_o, nh_fn, nh_fc, ss3_0, sat_n, sat_0, sat_c, sup_n, sup_c, supc_0, fsg_c, fsg_n, fss_c, fss_n, pbs_0, pb_t, so_t, ssOf_t, gIx_l, gIx_t, S_k, Option.map_none, gNe_pD, d1, ar1, p1, p2, gx, gy]
  · have d1 : decide (c = now) = false := decide_eq_false e1
    by_cases e2 : ar now best c < 0
    · have d2 : decide (ar now best c < 0) = true := decide_eq_true e2
      rw [if_pos ⟨e1, .inl e2⟩]
      simp -implicitDefEqProofs only [k1_0, k1_e, k1_c, c1_r, k2b_0, k2b_e, k2b_c, k2a_0, k2a_e, k2a_c, c2_r, kN_0, kN_e, kN_c, cN_r, kTup_0, kTup_e, kTup_c, cTup_r, kLst_0, kLst_e, kLst_c, cLst_r, cK_r, caNil_r, kcb_0, kcb_e, kcb_c, kca_0, kca_e, kca_c, caCons_r, cxNil_r, kxb_0, kxb_e, kxb_c, kxa_0, kxa_e, kxa_c, cxD_r, cxS_r, kxs_0, cCall_r, kc1_0, kc1_e, kc2_0, kc3_0, kc3_e, kc3_c, ssOf_n, ss1_0, ss2_0, ssOf_d, ssOf_s, pb_n, pb_d, pb_s, so_n, so_d, so_s, di_n, di_1, di_c, cSeq_r, cNext_r, cRetN_r, cBrk_r, cCnt_r, kRet_0, kRet_e, kRet_c, cRet_r, kDrop_0, kDrop_e, kDrop_c, cDrop_r, kSet_0, kSet_e, kSet_c, cSet_r, kAs_0, kAsg_0, kAsg_e, kAsg_c, cAsg_r, cgName_r, cgNil_r, kgc_0, cgCons_r, cgTup_r, cgLst_r, kPar_0, kPar_e, kPar_c, cPar_r, kPar3_0, kPar3_e, kPar3_c, cPar3_r, kap3_0, kap2_0, kap2_e, kap2_c, kap1_0, cApp_r, ksi3_0, ksi4_0, ksi2_0, ksi2_e, ksi2_c, ksi1_0, ksi0_0, ksi0_e, ksi0_c, cSetIx_r, kix_l, kix_t, kix_s, kSq_0, kSq_e, kSq_c, ciSeq_r, kr1_0, kr1_e, kr1_c, ciRange1_r, kr2_0, kr2_e, kr2_c, ciRange2_r, kFor_0, kFor_e, kFor_c, cFor_r, forL_c, forL_n, kf1_0, kf2_nx, kf2_ct, kf2_bk, kf2_rt, kf2_exc, kf2_cond, kb_0, kbb_0, kb1_0, kb1_c, kb1_e, cB1_r, kb3_0, kb3_e, kb3_c, kb2_0, kb2_c, kb2_e, cB2_r, kres_0, res_d, res_s, kbn_0, cbN_r, kbD_0, kbD_e, kbD_c, cbD_r, kv_0, cV_r, kvm_0, cVm_r, cV_0, st_0, gt_0, cV_1, st_1, gt_1, cV_2, st_2, gt_2, cV_3, st_3, gt_3, cV_4, st_4, gt_4, cV_5, st_5, gt_5, cV_6, st_6, gt_6, cV_7, st_7, gt_7, cV_8, st_8, gt_8, cV_9, st_9, gt_9, cV_10, st_10, gt_10, cV_11, st_11, gt_11, cV_12, st_12, gt_12, cV_13, st_13, gt_13, cV_14, st_14, gt_14, cV_15, st_15, gt_15, cV_16, st_16, gt_16, cV_17, st_17, gt_17, cV_18, st_18, gt_18, cV_19, st_19, gt_19, cV_20, st_20, gt_20, cV_21, st_21, gt_21, cV_22, st_22, gt_22, cV_23, st_23, gt_23, tCh2_0, tCh2_e, tCh1_0, tCh0b_0, tCh0b_e, tCh0a_0, tCh0a_e, cChain_r, lcL_nil, lcL_c, ml1_0, ml2_t, ml2_f, ml2_b, ml3_0, ml5_0, ml4_0, ml4_e, ml4_c, cLc_r, nO_d, nO_n, nO_l, noOwn_n, noOwn_c, wipe_n, wipe_c, rsE_0, rest_n, rest_c, mkF_r, fo_0, fx_0, fin_nx', fin_rt', fin_exc', ob_0, og_0, od_0, outs_n, outs_c, lift_some, S_d, S_l, gAdd, gSub, gNeg, gNot, gLt, gLe, gGt, gGe, gEq_ii, gNe_ii, gLen, gAbs, gInt, tru_b, gMax2, gMin2, gGcd, gList, gTuple, gAll, gAny, bools_nil, bools_cons, gIs_bb, gIsN_bb, gPow, gMul, gFd, gMod, atI_0, atI_1, atI_2, atI_3, ixL_1, ixL_2, ixL_3, ixN_41, ixN_42, ixN_43, List.getElem?_cons_zero, List.getElem?_cons_succ, List.set_cons_zero, List.set_cons_succ, List.map_cons, List.map_nil, List.length_cons, List.length_nil, List.cons_append, List.nil_append, List.replicate_succ, List.replicate_zero, List.length_map, ↓cond_true, ↓cond_false, cond_true, cond_false, Option.map_some, beq_self_eq_true, List.contains_cons, List.contains_nil, Bool.or_false, Bool.false_or, Bool.or_true, Bool.and_true, Bool.true_and, Bool.not_true, Bool.not_false, Nat.reduceBEq, Nat.reduceAdd, Nat.reduceSub, Nat.reduceEqDiff, reduceCtorEq, Bool.false_eq_true, sq_nx, sq_rt, sq_bad, sq_bk, sq_ct, sq_exc, dz0, dz1, dz2, dz3, dz4, dz5, dz6, dz7, dz8, dz9, dz10, dz11, dz12, ic0, ic1, ic2, ic3, ic4, tAnd_ok, tOr_ok, tIf_ok, tIfS_ok, tAnd_exc, tOr_exc, tIf_exc, tIfS_exc, cAnd_t, cOr_t, cIf_t, cIfS_t, co_and, co_or, tAnd_cond, tOr_cond, tIfS_cond, sq_cond, fin_cond, rangeL_2, rangeL_3, List.all_cons, List.all_nil, List.any_cons, List.any_nil, id, rng1_t, rng2_t, Int.reduceToNat, if_true, ite_true, if_false, eq_self, decide_true, decide_false, isi_int_n, isi_int_b, isi_int_i, isi_int_s, isi_int_l, isi_int_t, isi_bool_n, isi_bool_b, isi_bool_i, isi_bool_s, isi_bool_l, isi_bool_t, isi_str_n, isi_str_b, isi_str_i, isi_str_s, isi_str_l, isi_str_t, isi_list_n, isi_list_b, isi_list_i, isi_list_s, isi_list_l, isi_list_t, isi_tuple_n, isi_tuple_b, isi_tuple_i, isi_tuple_s, isi_tuple_l, isi_tuple_t, isi_dict_n, isi_dict_b, isi_dict_i, isi_dict_s, isi_dict_l, isi_dict_t, nh_d, nh_l, nh_k, nh_o, nh_fn, nh_fc, ss3_0, sat_n, sat_0, sat_c, sup_n, sup_c, supc_0, fsg_c, fsg_n, fss_c, fss_n, pbs_0, pb_t, so_t, ssOf_t, gIx_l, gIx_t, S_k, Option.map_none, gNe_pD, d1, ar1, p1, p2, gx, gy, d2]
    · have d2 : decide (ar now best c < 0) = false := decide_eq_false e2
      by_cases e3 : ar now best c = 0
      · have d3 : (ar now best c == 0) = true := by rw [e3]; rfl
        by_cases e4 : (best.1 - now.1) ^ 2 + (best.2 - now.2) ^ 2 < (c.1 - now.1) ^ 2 + (c.2 - now.2) ^ 2
        · have d4 := decide_eq_true e4
          rw [if_pos ⟨e1, .inr ⟨e3, e4⟩⟩]
          simp -implicitDefEqProofs only [k1_0, k1_e, k1_c, c1_r, k2b_0, k2b_e, k2b_c, k2a_0, k2a_e, k2a_c, c2_r, kN_0, kN_e, kN_c, cN_r, kTup_0, kTup_e, kTup_c, cTup_r, kLst_0, kLst_e, kLst_c, cLst_r, cK_r, caNil_r, kcb_0, kcb_e, kcb_c, kca_0, kca_e, kca_c, caCons_r, cxNil_r, kxb_0, kxb_e, kxb_c, kxa_0, kxa_e, kxa_c, cxD_r, cxS_r, kxs_0, cCall_r, kc1_0, kc1_e, kc2_0, kc3_0, kc3_e, kc3_c, ssOf_n, ss1_0, ss2_0, ssOf_d, ssOf_s, pb_n, pb_d, pb_s, so_n, so_d, so_s, di_n, di_1, di_c, cSeq_r, cNext_r, cRetN_r, cBrk_r, cCnt_r, kRet_0, kRet_e, kRet_c, cRet_r, kDrop_0, kDrop_e, kDrop_c, cDrop_r, kSet_0, kSet_e, kSet_c, cSet_r, kAs_0, kAsg_0, kAsg_e, kAsg_c, cAsg_r, cgName_r, cgNil_r, kgc_0, cgCons_r, cgTup_r, cgLst_r, kPar_0, kPar_e, kPar_c, cPar_r, kPar3_0, kPar3_e, kPar3_c, cPar3_r, kap3_0, kap2_0, kap2_e, kap2_c, kap1_0, cApp_r, ksi3_0, ksi4_0, ksi2_0, ksi2_e, ksi2_c, ksi1_0, ksi0_0, ksi0_e, ksi0_c, cSetIx_r, kix_l, kix_t, kix_s, kSq_0, kSq_e, kSq_c, ciSeq_r, kr1_0, kr1_e, kr1_c, ciRange1_r, kr2_0, kr2_e, kr2_c, ciRange2_r, kFor_0, kFor_e, kFor_c, cFor_r, forL_c, forL_n, kf1_0, kf2_nx, kf2_ct, kf2_bk, kf2_rt, kf2_exc, kf2_cond, kb_0, kbb_0, kb1_0, kb1_c, kb1_e, cB1_r, kb3_0, kb3_e, kb3_c, kb2_0, kb2_c, kb2_e, cB2_r, kres_0, res_d, res_s, kbn_0, cbN_r, kbD_0, kbD_e, kbD_c, cbD_r, kv_0, cV_r, kvm_0, cVm_r, cV_0, st_0, gt_0, cV_1, st_1, gt_1, cV_2, st_2, gt_2, cV_3, st_3, gt_3, cV_4, st_4, gt_4, cV_5, st_5, gt_5, cV_6, st_6, gt_6, cV_7, st_7, gt_7, cV_8, st_8, gt_8, cV_9, st_9, gt_9, cV_10, st_10, gt_10, cV_11, st_11, gt_11, cV_12, st_12, gt_12, cV_13, st_13, gt_13, cV_14, st_14, gt_14, cV_15, st_15, gt_15, cV_16, st_16, gt_16, cV_17, st_17, gt_17, cV_18, st_18, gt_18, cV_19, st_19, gt_19, cV_20, st_20, gt_20, cV_21, st_21, gt_21, cV_22, st_22, gt_22, cV_23, st_23, gt_23, tCh2_0, tCh2_e, tCh1_0, tCh0b_0, tCh0b_e, tCh0a_0, tCh0a_e, cChain_r, lcL_nil, lcL_c, ml1_0, ml2_t, ml2_f, ml2_b, ml3_0, ml5_0, ml4_0, ml4_e, ml4_c, cLc_r, nO_d, nO_n, nO_l, noOwn_n, noOwn_c, wipe_n, wipe_c, rsE_0, rest_n, rest_c, mkF_r, fo_0, fx_0, fin_nx', fin_rt', fin_exc', ob_0, og_0, od_0, outs_n, outs_c, lift_some, S_d, S_l, gAdd, gSub, gNeg, gNot, gLt, gLe, gGt, gGe, gEq_ii, gNe_ii, gLen, gAbs, gInt, tru_b, gMax2, gMin2, gGcd, gList, gTuple, gAll, gAny, bools_nil, bools_cons, gIs_bb, gIsN_bb, gPow, gMul, gFd, gMod, atI_0, atI_1, atI_2, atI_3, ixL_1, ixL_2, ixL_3, ixN_41, ixN_42, ixN_43, List.getElem?_cons_zero, List.getElem?_cons_succ, List.set_cons_zero, List.set_cons_succ, List.map_cons, List.map_nil, List.length_cons, List.length_nil, List.cons_append, List.nil_append, List.replicate_succ, List.replicate_zero, List.length_map, ↓cond_true, ↓cond_false, cond_true, cond_false, Option.map_some, beq_self_eq_true, List.contains_cons, List.contains_nil, Bool.or_false, Bool.false_or, Bool.or_true, Bool.and_true, Bool.true_and, Bool.not_true, Bool.not_false, Nat.reduceBEq, Nat.reduceAdd, Nat.reduceSub, Nat.reduceEqDiff, reduceCtorEq, Bool.false_eq_true, sq_nx, sq_rt, sq_bad, sq_bk, sq_ct, sq_exc, dz0, dz1, dz2, dz3, dz4, dz5, dz6, dz7, dz8, dz9, dz10, dz11, dz12, ic0, ic1, ic2, ic3, ic4, tAnd_ok, tOr_ok, tIf_ok, tIfS_ok, tAnd_exc, tOr_exc, tIf_exc, tIfS_exc, cAnd_t, cOr_t, cIf_t, cIfS_t, co_and, co_or, tAnd_cond, tOr_cond, tIfS_cond, sq_cond, fin_cond, rangeL_2, rangeL_3, List.all_cons, List.all_nil, List.any_cons, List.any_nil, id, rng1_t, rng2_t, Int.reduceToNat, if_true, ite_true, if_false, eq_self, decide_true, decide_false, isi_int_n, isi_int_b, isi_int_i, isi_int_s, isi_int_l, isi_int_t, isi_bool_n, isi_bool_b, isi_bool_i, isi_bool_s, isi_bool_l, isi_bool_t, isi_str_n, isi_str_b, isi_str_i, isi_str_s, isi_str_l, isi_str_t, isi_list_n, isi_list_b, isi_list_i, isi_list_s, isi_list_l, isi_list_t, isi_tuple_n, isi_tuple_b, isi_tuple_i, isi_tuple_s, isi_tuple_l, isi_tuple_t, isi_dict_n, isi_dict_b, isi_dict_i, isi_dict_s, isi_dict_l, isi_dict_t, nh_d, nh_l, nh_k, nh_o, nh_fn, nh_fc, ss3_0, sat_n, sat_0, sat_c, sup_n, sup_c, supc_0, fsg_c, fsg_n, fss_c, fss_n, pbs_0, pb_t, so_t, ssOf_t, gIx_l, gIx_t, S_k, Option.map_none, gNe_pD, gx, gy, d1, ar1, p1, p2, p3, p4, d2, d3, d4]
        · have d4 := decide_eq_false e4
          rw [if_neg (fun h => h.2.elim e2 fun h => e4 h.2)]
          simp -implicitDefEqProofs only [k1_0, k1_e, k1_c, c1_r, k2b_0, k2b_e, k2b_c, k2a_0, k2a_e, k2a_c, c2_r, kN_0, kN_e, kN_c, cN_r, kTup_0, kTup_e, kTup_c, cTup_r, kLst_0, kLst_e, kLst_c, cLst_r, cK_r, caNil_r, kcb_0, kcb_e, kcb_c, kca_0, kca_e, kca_c, caCons_r, cxNil_r, kxb_0, kxb_e, kxb_c, kxa_0, kxa_e, kxa_c, cxD_r, cxS_r, kxs_0, cCall_r, kc1_0, kc1_e, kc2_0, kc3_0, kc3_e, kc3_c, ssOf_n, ss1_0, ss2_0, ssOf_d, ssOf_s, pb_n, pb_d, pb_s, so_n, so_d, so_s, di_n, di_1, di_c, cSeq_r, cNext_r, cRetN_r, cBrk_r, cCnt_r, kRet_0, kRet_e, kRet_c, cRet_r, kDrop_0, kDrop_e, kDrop_c, cDrop_r, kSet_0, kSet_e, kSet_c, cSet_r, kAs_0, kAsg_0, kAsg_e, kAsg_c, cAsg_r, cgName_r, cgNil_r, kgc_0, cgCons_r, cgTup_r, cgLst_r, kPar_0, kPar_e, kPar_c, cPar_r, kPar3_0, kPar3_e, kPar3_c, cPar3_r, kap3_0, kap2_0, kap2_e, kap2_c, kap1_0, cApp_r, ksi3_0, ksi4_0, ksi2_0, ksi2_e, ksi2_c, ksi1_0, ksi0_0, ksi0_e, ksi0_c, cSetIx_r, kix_l, kix_t, kix_s, kSq_0, kSq_e, kSq_c, ciSeq_r, kr1_0, kr1_e, kr1_c, ciRange1_r, kr2_0, kr2_e, kr2_c, ciRange2_r, kFor_0, kFor_e, kFor_c, cFor_r, forL_c, forL_n, kf1_0, kf2_nx, kf2_ct, kf2_bk, kf2_rt, kf2_exc, kf2_cond, kb_0, kbb_0, kb1_0, kb1_c, kb1_e, cB1_r, kb3_0, kb3_e, kb3_c, kb2_0, kb2_c, kb2_e, cB2_r, kres_0, res_d, res_s, kbn_0, cbN_r, kbD_0, kbD_e, kbD_c, cbD_r, kv_0, cV_r, kvm_0, cVm_r, cV_0, st_0, gt_0, cV_1, st_1, gt_1, cV_2, st_2, gt_2, cV_3, st_3, gt_3, cV_4, st_4, gt_4, cV_5, st_5, gt_5, cV_6, st_6, gt_6, cV_7, st_7, gt_7, cV_8, st_8, gt_8, cV_9, st_9, gt_9, cV_10, st_10, gt_10, cV_11, st_11, gt_11, cV_12, st_12, gt_12, cV_13, st_13, gt_13, cV_14, st_14, gt_14, cV_15, st_15, gt_15, cV_16, st_16, gt_16, cV_17, st_17, gt_17, cV_18, st_18, gt_18, cV_19, st_19, gt_19, cV_20, st_20, gt_20, cV_21, st_21, gt_21, cV_22, st_22, gt_22, cV_23, st_23, gt_23, tCh2_0, tCh2_e, tCh1_0, tCh0b_0, tCh0b_e, tCh0a_0, tCh0a_e, cChain_r, lcL_nil, lcL_c, ml1_0, ml2_t, ml2_f, ml2_b, ml3_0, ml5_0, ml4_0, ml4_e, ml4_c, cLc_r, nO_d, nO_n, nO_l, noOwn_n, noOwn_c, wipe_n, wipe_c, rsE_0, rest_n, rest_c, mkF_r, fo_0, fx_0, fin_nx', fin_rt', fin_exc', ob_0, og_0, od_0, outs_n, outs_c, lift_some, S_d, S_l, gAdd, gSub, gNeg, gNot, gLt, gLe, gGt, gGe, gEq_ii, gNe_ii, gLen, gAbs, gInt, tru_b, gMax2, gMin2, gGcd, gList, gTuple, gAll, gAny, bools_nil, bools_cons, gIs_bb, gIsN_bb, gPow, gMul, gFd, gMod, atI_0, atI_1, atI_2, atI_3, ixL_1, ixL_2, ixL_3, ixN_41, ixN_42, ixN_43, List.getElem?_cons_zero, List.getElem?_cons_succ, List.set_cons_zero, List.set_cons_succ, List.map_cons, List.map_nil, List.length_cons, List.length_nil, List.cons_append, List.nil_append, List.replicate_succ, List.replicate_zero, List.length_map, ↓cond_true, ↓cond_false, cond_true, cond_false, Option.map_some, beq_self_eq_true, List.contains_cons, List.contains_nil, Bool.or_false, Bool.false_or, Bool.or_true, Bool.and_true, Bool.true_and, Bool.not_true, Bool.not_false, Nat.reduceBEq, Nat.reduceAdd, Nat.reduceSub, Nat.reduceEqDiff, reduceCtorEq, Bool.false_eq_true, sq_nx, sq_rt, sq_bad, sq_bk, sq_ct, sq_exc, dz0, dz1, dz2, dz3, dz4, dz5, dz6, dz7, dz8, dz9, dz10, dz11, dz12, ic0, ic1, ic2, ic3, ic4, tAnd_ok, tOr_ok, tIf_ok, tIfS_ok, tAnd_exc, tOr_exc, tIf_exc, tIfS_exc, cAnd_t, cOr_t, cIf_t, cIfS_t, co_and, co_or, tAnd_cond, tOr_cond, tIfS_cond, sq_cond, fin_cond, rangeL_2, rangeL_3, List.all_cons, List.all_nil, List.any_cons, List.any_nil, id, rng1_t, rng2_t, Int.reduceToNat, if_true, ite_true, if_false, eq_self, decide_true, decide_false, isi_int_n, isi_int_b, isi_int_i, isi_int_s, isi_int_l, isi_int_t, isi_bool_n, isi_bool_b, isi_bool_i, isi_bool_s, isi_bool_l, isi_bool_t, isi_str_n, isi_str_b, isi_str_i, isi_str_s, isi_str_l, isi_str_t, isi_list_n, isi_list_b, isi_list_i, isi_list_s, isi_list_l, isi_list_t, isi_tuple_n, isi_tuple_b, isi_tuple_i, isi_tuple_s, isi_tuple_l, isi_tuple_t, isi_dict_n, isi_dict_b, isi_dict_i, isi_dict_s, isi_dict_l, isi_dict_t, nh_d, nh_l, nh_k, nh_o, nh_fn, nh_fc, ss3_0, sat_n, sat_0, sat_c, sup_n, sup_c, supc_0, fsg_c, fsg_n, fss_c, fss_n, pbs_0, pb_t, so_t, ssOf_t, gIx_l, gIx_t, S_k, Option.map_none, gNe_pD, gx, gy, d1, ar1, p1, p2, p3, p4, d2, d3, d4]
      · have d3 : (ar now best c == 0) = false := beq_eq_false_iff_ne.mpr e3
        rw [if_neg (fun h => h.2.elim e2 fun h => e3 h.1)]
        simp -implicitDefEqProofs only [k1_0, k1_e, k1_c, c1_r, k2b_0, k2b_e, k2b_c, k2a_0, k2a_e, k2a_c, c2_r, kN_0, kN_e, kN_c, cN_r, kTup_0, kTup_e, kTup_c, cTup_r, kLst_0, kLst_e, kLst_c, cLst_r, cK_r, caNil_r, kcb_0, kcb_e, kcb_c, kca_0, kca_e, kca_c, caCons_r, cxNil_r, kxb_0, kxb_e, kxb_c, kxa_0, kxa_e, kxa_c, cxD_r, cxS_r, kxs_0, cCall_r, kc1_0, kc1_e, kc2_0, kc3_0, kc3_e, kc3_c, ssOf_n, ss1_0, ss2_0, ssOf_d, ssOf_s, pb_n, pb_d, pb_s, so_n, so_d, so_s, di_n, di_1, di_c, cSeq_r, cNext_r, cRetN_r, cBrk_r, cCnt_r, kRet_0, kRet_e, kRet_c, cRet_r, kDrop_0, kDrop_e, kDrop_c, cDrop_r, kSet_0, kSet_e, kSet_c, cSet_r, kAs_0, kAsg_0, kAsg_e, kAsg_c, cAsg_r, cgName_r, cgNil_r, kgc_0, cgCons_r, cgTup_r, cgLst_r, kPar_0, kPar_e, kPar_c, cPar_r, kPar3_0, kPar3_e, kPar3_c, cPar3_r, kap3_0, kap2_0, kap2_e, kap2_c, kap1_0, cApp_r, ksi3_0, ksi4_0, ksi2_0, ksi2_e, ksi2_c, ksi1_0, ksi0_0, ksi0_e, ksi0_c, cSetIx_r, kix_l, kix_t, kix_s, kSq_0, kSq_e, kSq_c, ciSeq_r, kr1_0, kr1_e, kr1_c, ciRange1_r, kr2_0, kr2_e, kr2_c, ciRange2_r, kFor_0, kFor_e, kFor_c, cFor_r, forL_c, forL_n, kf1_0, kf2_nx, kf2_ct, kf2_bk, kf2_rt, kf2_exc, kf2_cond, kb_0, kbb_0, kb1_0, kb1_c, kb1_e, cB1_r, kb3_0, kb3_e, kb3_c, kb2_0, kb2_c, kb2_e, cB2_r, kres_0, res_d, res_s, kbn_0, cbN_r, kbD_0, kbD_e, kbD_c, cbD_r, kv_0, cV_r, kvm_0, cVm_r, cV_0, st_0, gt_0, cV_1, st_1, gt_1, cV_2, st_2, gt_2, cV_3, st_3, gt_3, cV_4, st_4, gt_4, cV_5, st_5, gt_5, cV_6, st_6, gt_6, cV_7, st_7, gt_7, cV_8, st_8, gt_8, cV_9, st_9, gt_9, cV_10, st_10, gt_10, cV_11, st_11, gt_11, cV_12, st_12, gt_12, cV_13, st_13, gt_13, cV_14, st_14, gt_14, cV_15, st_15, gt_15, cV_16, st_16, gt_16, cV_17, st_17, gt_17, cV_18, st_18, gt_18, cV_19, st_19, gt_19, cV_20, st_20, gt_20, cV_21, st_21, gt_21, cV_22, st_22, gt_22, cV_23, st_23, gt_23, tCh2_0, tCh2_e, tCh1_0, tCh0b_0, tCh0b_e, tCh0a_0, tCh0a_e, cChain_r, lcL_nil, lcL_c, ml1_0, ml2_t, ml2_f, ml2_b, ml3_0, ml5_0, ml4_0, ml4_e, ml4_c, cLc_r, nO_d, nO_n, nO_l, noOwn_n, noOwn_c, wipe_n, wipe_c, rsE_0, rest_n, rest_c, mkF_r, fo_0, fx_0, fin_nx', fin_rt', fin_exc', ob_0, og_0, od_0, outs_n, outs_c, lift_some, S_d, S_l, gAdd, gSub, gNeg, gNot, gLt, gLe, gGt, gGe, gEq_ii, gNe_ii, gLen, gAbs, gInt, tru_b, gMax2, gMin2, gGcd, gList, gTuple, gAll, gAny, bools_nil, bools_cons, gIs_bb, gIsN_bb, gPow, gMul, gFd, gMod, atI_0, atI_1, atI_2, atI_3, ixL_1, ixL_2, ixL_3, ixN_41, ixN_42, ixN_43, List.getElem?_cons_zero, List.getElem?_cons_succ, List.set_cons_zero, List.set_cons_succ, List.map_cons, List.map_nil, List.length_cons, List.length_nil, List.cons_append, List.nil_append, List.replicate_succ, List.replicate_zero, List.length_map, ↓cond_true, ↓cond_false, cond_true, cond_false, Option.map_some, beq_self_eq_true, List.contains_cons, List.contains_nil, Bool.or_false, Bool.false_or, Bool.or_true, Bool.and_true, Bool.true_and, Bool.not_true, Bool.not_false, Nat.reduceBEq, Nat.reduceAdd, Nat.reduceSub, Nat.reduceEqDiff, reduceCtorEq, Bool.false_eq_true, sq_nx, sq_rt, sq_bad, sq_bk, sq_ct, sq_exc, dz0, dz1, dz2, dz3, dz4, dz5, dz6, dz7, dz8, dz9, dz10, dz11, dz12, ic0, ic1, ic2, ic3, ic4, tAnd_ok, tOr_ok, tIf_ok, tIfS_ok, tAnd_exc, tOr_exc, tIf_exc, tIfS_exc, cAnd_t, cOr_t, cIf_t, cIfS_t, co_and, co_or, tAnd_cond, tOr_cond, tIfS_cond, sq_cond, fin_cond, rangeL_2, rangeL_3, List.all_cons, List.all_nil, List.any_cons, List.any_nil, id, rng1_t, rng2_t, Int.reduceToNat, if_true, ite_true, if_false, eq_self, decide_true, decide_false, isi_int_n, isi_int_b, isi_int_i, isi_int_s, isi_int_l, isi_int_t, isi_bool_n, isi_bool_b, isi_bool_i, isi_bool_s, isi_bool_l, isi_bool_t, isi_str_n, isi_str_b, isi_str_i, isi_str_s, isi_str_l, isi_str_t, isi_list_n, isi_list_b, isi_list_i, isi_list_s, isi_list_l, isi_list_t, isi_tuple_n, isi_tuple_b, isi_tuple_i, isi_tuple_s, isi_tuple_l, isi_tuple_t, isi_dict_n, isi_dict_b, isi_dict_i, isi_dict_s, isi_dict_l, isi_dict_t, nh_d, nh_l, nh_k, nh_o, nh_fn, nh_fc, ss3_0, sat_n, sat_0, sat_c, sup_n, sup_c, supc_0, fsg_c, fsg_n, fss_c, fss_n, pbs_0, pb_t, so_t, ssOf_t, gIx_l, gIx_t, S_k, Option.map_none, gNe_pD, gx, gy, d1, ar1, p1, p2, d2, d3]
theorem jb_sm {now best c : Cn} (hb : Sm best) (hc : Sm c) : Sm (jb now best c) := by
  unfold jb
  split
  · exact hc
  · exact hb
theorem jb_loop {D O F K : Option S} {now : Cn} (hn : Sm now) : ∀ (l : List Cn) (best : Cn) (x6 x7 x8 : Option S), Sm best → (∀ c ∈ l, Sm c) →
    ∃ y6 y7 y8, forL (cgName 6) L_u_law_hull_0 (l.map pD) [D, O, F, K, some (.dat (pD now)), some (.dat (pD best)), x6, x7, x8] = .nx [D, O, F, K, some (.dat (pD now)), some (.dat (pD (l.foldl (jb now) best))), y6, y7, y8]
  | [], best, x6, x7, x8, _, _ => ⟨x6, x7, x8, rfl⟩
  | c :: l, best, x6, x7, x8, hb, hl => by
    have hc := hl c (by simp)
    obtain ⟨z7, z8, e⟩ := jb_step (D := D) (O := O) (F := F) (K := K) (x7 := x7) (x8 := x8) hn hb hc
    obtain ⟨y6, y7, y8, e2⟩ := jb_loop (D := D) (O := O) (F := F) (K := K) hn l (jb now best c) (some (.dat (pD c))) z7 z8 (jb_sm hb hc) fun x hx => hl x (by simp [hx])
    refine ⟨y6, y7, y8, ?_⟩
    rw [List.map_cons, List.foldl_cons, ← e2, forL]
    show (match L_u_law_hull_0 [D, O, F, K, some (.dat (pD now)), some (.dat (pD best)), some (.dat (pD c)), x7, x8] with
      | .nx ρ2 => _ | .ct ρ2 => _ | .bk ρ2 => _ | .rt s ρ2 => _ | .exc x ρ2 => _ | .bad => _) = _
    rw [e]
theorem lhull_turn {D k : PyData} {OL F : List PyData} {O1 : S} {a b p0 o1 o2 : Cn} {x4 x5 x6 x7 x8 : Option S} (hO : O1 = .lst OL ∨ O1 = .dat (.list OL)) (h1 : atI OL 0 = some (pD o1)) (h2 : atI OL 1 = some (pD o2)) (hF : atI F ((F.length : Int) - 1) = some (pD a)) (hF0 : atI F 0 = some (pD p0)) (hl : F.length < 100000)
    (hloop : ∀ x6 x7 x8, ∃ y6 y7 y8, forL (cgName 6) L_u_law_hull_0 OL [some (.dat D), some (.dat (.list OL)), some (.lst F), some (.dat k), some (.dat (pD a)), some (.dat (pD (if o1 ≠ a then o1 else o2))), x6, x7, x8] = .nx [some (.dat D), some (.dat (.list OL)), some (.lst F), some (.dat k), some (.dat (pD a)), some (.dat (pD b)), y6, y7, y8]) :
    ∃ y4 y5 y6 y7 y8, L_u_law_hull_1 [some (.dat D), some O1, some (.lst F), some (.dat k), x4, x5, x6, x7, x8] =
      bif decide (b = p0) then .rt (.dat (.tuple F)) [some (.dat D), some (.dat (.list OL)), some (.dat (.list F)), some (.dat k), y4, y5, y6, y7, y8]
      else .nx [some (.dat D), some (.dat (.list OL)), some (.lst (F ++ [pD b])), some (.dat k), y4, y5, y6, y7, y8] := by
  obtain ⟨y6, y7, y8, e⟩ := hloop x6 x7 x8
  have hz : decide (F.length < sizeLine) = true := decide_eq_true (by have := ch_cls; omega)
  refine ⟨some (.dat (pD a)), some (.dat (pD b)), y6, y7, y8, ?_⟩
  unfold L_u_law_hull_1
  by_cases q : o1 = a
  · have q1 : decide (o1 = a) = true := decide_eq_true q
    rw [if_neg (by simpa using q)] at e
    rcases hO with rfl | rfl <;> (cases r : decide (b = p0) <;> simp -implicitDefEqProofs only [k1_0, k1_e, k1_c, c1_r, k2b_0, k2b_e, k2b_c, k2a_0, k2a_e, k2a_c, c2_r, kN_0, kN_e, kN_c, cN_r, kTup_0, kTup_e, kTup_c, cTup_r, kLst_0, kLst_e, kLst_c, cLst_r, cK_r, caNil_r, kcb_0, kcb_e, kcb_c, kca_0, kca_e, kca_c, caCons_r, cxNil_r, kxb_0, kxb_e, kxb_c, kxa_0, kxa_e, kxa_c, cxD_r, cxS_r, kxs_0, cCall_r, kc1_0, kc1_e, kc2_0, kc3_0, kc3_e, kc3_c, ssOf_n, ss1_0, ss2_0, ssOf_d, ssOf_s, pb_n, pb_d, pb_s, so_n, so_d, so_s, di_n, di_1, di_c, cSeq_r, cNext_r, cRetN_r, cBrk_r, cCnt_r, kRet_0, kRet_e, kRet_c, cRet_r, kDrop_0, kDrop_e, kDrop_c, cDrop_r, kSet_0, kSet_e, kSet_c, cSet_r, kAs_0, kAsg_0, kAsg_e, kAsg_c, cAsg_r, cgName_r, cgNil_r, kgc_0, cgCons_r, cgTup_r, cgLst_r, kPar_0, kPar_e, kPar_c, cPar_r, kPar3_0, kPar3_e, kPar3_c, cPar3_r, kap3_0, kap2_0, kap2_e, kap2_c, kap1_0, cApp_r, ksi3_0, ksi4_0, ksi2_0, ksi2_e, ksi2_c, ksi1_0, ksi0_0, ksi0_e, ksi0_c, cSetIx_r, kix_l, kix_t, kix_s, kSq_0, kSq_e, kSq_c, ciSeq_r, kr1_0, kr1_e, kr1_c, ciRange1_r, kr2_0, kr2_e, kr2_c, ciRange2_r, kFor_0, kFor_e, kFor_c, cFor_r, forL_c, forL_n, kf1_0, kf2_nx, kf2_ct, kf2_bk, kf2_rt, kf2_exc, kf2_cond, kb_0, kbb_0, kb1_0, kb1_c, kb1_e, cB1_r, kb3_0, kb3_e, kb3_c, kb2_0, kb2_c, kb2_e, cB2_r, kres_0, res_d, res_s, kbn_0, cbN_r, kbD_0, kbD_e, kbD_c, cbD_r, kv_0, cV_r, kvm_0, cVm_r, cV_0, st_0, gt_0, cV_1, st_1, gt_1, cV_2, st_2, gt_2, cV_3, st_3, gt_3, cV_4, st_4, gt_4, cV_5, st_5, gt_5, cV_6, st_6, gt_6, cV_7, st_7, gt_7, cV_8, st_8, gt_8, cV_9, st_9, gt_9, cV_10, st_10, gt_10, cV_11, st_11, gt_11, cV_12, st_12, gt_12, cV_13, st_13, gt_13, cV_14, st_14, gt_14, cV_15, st_15, gt_15, cV_16, st_16, gt_16, cV_17, st_17, gt_17, cV_18, st_18, gt_18, cV_19, st_19, gt_19, cV_20, st_20, gt_20, cV_21, st_21, gt_21, cV_22, st_22, gt_22, cV_23, st_23, gt_23, tCh2_0, tCh2_e, tCh1_0, tCh0b_0, tCh0b_e, tCh0a_0, tCh0a_e, cChain_r, lcL_nil, lcL_c, ml1_0, ml2_t, ml2_f, ml2_b, ml3_0, ml5_0, ml4_0, ml4_e, ml4_c, cLc_r, nO_d, nO_n, nO_l, noOwn_n, noOwn_c, wipe_n, wipe_c, rsE_0, rest_n, rest_c, mkF_r, fo_0, fx_0, fin_nx', fin_rt', fin_exc', ob_0, og_0, od_0, outs_n, outs_c, lift_some, S_d, S_l, gAdd, gSub, gNeg, gNot, gLt, gLe, gGt, gGe, gEq_ii, gNe_ii, gLen, gAbs, gInt, tru_b, gMax2, gMin2, gGcd, gList, gTuple, gAll, gAny, bools_nil, bools_cons, gIs_bb, gIsN_bb, gPow, gMul, gFd, gMod, atI_0, atI_1, atI_2, atI_3, ixL_1, ixL_2, ixL_3, ixN_41, ixN_42, ixN_43, List.getElem?_cons_zero, List.getElem?_cons_succ, List.set_cons_zero, List.set_cons_succ, List.map_cons, List.map_nil, List.length_cons, List.length_nil, List.cons_append, List.nil_append, List.replicate_succ, List.replicate_zero, List.length_map, ↓cond_true, ↓cond_false, cond_true, cond_false, Option.map_some, beq_self_eq_true, List.contains_cons, List.contains_nil, Bool.or_false, Bool.false_or, Bool.or_true, Bool.and_true, Bool.true_and, Bool.not_true, Bool.not_false, Nat.reduceBEq, Nat.reduceAdd, Nat.reduceSub, Nat.reduceEqDiff, reduceCtorEq, Bool.false_eq_true, sq_nx, sq_rt, sq_bad, sq_bk, sq_ct, sq_exc, dz0, dz1, dz2, dz3, dz4, dz5, dz6, dz7, dz8, dz9, dz10, dz11, dz12, ic0, ic1, ic2, ic3, ic4, tAnd_ok, tOr_ok, tIf_ok, tIfS_ok, tAnd_exc, tOr_exc, tIf_exc, tIfS_exc, cAnd_t, cOr_t, cIf_t, cIfS_t, co_and, co_or, tAnd_cond, tOr_cond, tIfS_cond, sq_cond, fin_cond, rangeL_2, rangeL_3, List.all_cons, List.all_nil, List.any_cons, List.any_nil, id, rng1_t, rng2_t, Int.reduceToNat, if_true, ite_true, if_false, eq_self, decide_true, decide_false, isi_int_n, isi_int_b, isi_int_i, isi_int_s, isi_int_l, isi_int_t, isi_bool_n, isi_bool_b, isi_bool_i, isi_bool_s, isi_bool_l, isi_bool_t, isi_str_n, isi_str_b, isi_str_i, isi_str_s, isi_str_l, isi_str_t, isi_list_n, isi_list_b, isi_list_i, isi_list_s, isi_list_l, isi_list_t, isi_tuple_n, isi_tuple_b, isi_tuple_i, isi_tuple_s, isi_tuple_l, isi_tuple_t, isi_dict_n, isi_dict_b, isi_dict_i, isi_dict_s, isi_dict_l, isi_dict_t, nh_d, nh_l, nh_k, nh_o, nh_fn, nh_fc, ss3_0, sat_n, sat_0, sat_c, sup_n, sup_c, supc_0, fsg_c, fsg_n, fss_c, fss_n, pbs_0, pb_t, so_t, ssOf_t, gIx_l, gIx_t, S_k, Option.map_none, h1, h2, hF, hF0, gNe_pD, gEq_pD, q1, e, r, hz])
  · have q1 : decide (o1 = a) = false := decide_eq_false q
    rw [if_pos q] at e
    rcases hO with rfl | rfl <;> (cases r : decide (b = p0) <;> simp -implicitDefEqProofs only [k1_0, k1_e, k1_c, c1_r, k2b_0, k2b_e, k2b_c, k2a_0, k2a_e, k2a_c, c2_r, kN_0, kN_e, kN_c, cN_r, kTup_0, kTup_e, kTup_c, cTup_r, kLst_0, kLst_e, kLst_c, cLst_r, cK_r, caNil_r, kcb_0, kcb_e, kcb_c, kca_0, kca_e, kca_c, caCons_r, cxNil_r, kxb_0, kxb_e, kxb_c, kxa_0, kxa_e, kxa_c, cxD_r, cxS_r, kxs_0, cCall_r, kc1_0, kc1_e, kc2_0, kc3_0, kc3_e, kc3_c, ssOf_n, ss1_0, ss2_0, ssOf_d, ssOf_s, pb_n, pb_d, pb_s, so_n, so_d, so_s, di_n, di_1, di_c, cSeq_r, cNext_r, cRetN_r, cBrk_r, cCnt_r, kRet_0, kRet_e, kRet_c, cRet_r, kDrop_0, kDrop_e, kDrop_c, cDrop_r, kSet_0, kSet_e, kSet_c, cSet_r, kAs_0, kAsg_0, kAsg_e, kAsg_c, cAsg_r, cgName_r, cgNil_r, kgc_0, cgCons_r, cgTup_r, cgLst_r, kPar_0, kPar_e, kPar_c, cPar_r, kPar3_0, kPar3_e, kPar3_c, cPar3_r, kap3_0, kap2_0, kap2_e, kap2_c, kap1_0, cApp_r, ksi3_0, ksi4_0, ksi2_0, ksi2_e, ksi2_c, ksi1_0, ksi0_0, ksi0_e, ksi0_c, cSetIx_r, kix_l, kix_t, kix_s, kSq_0, kSq_e, kSq_c, ciSeq_r, kr1_0, kr1_e, kr1_c, ciRange1_r, kr2_0, kr2_e, kr2_c, ciRange2_r, kFor_0, kFor_e, kFor_c, cFor_r, forL_c, forL_n, kf1_0, kf2_nx, kf2_ct, kf2_bk, kf2_rt, kf2_exc, kf2_cond, kb_0, kbb_0, kb1_0, kb1_c, kb1_e, cB1_r, kb3_0, kb3_e, kb3_c, kb2_0, kb2_c, kb2_e, cB2_r, kres_0, res_d, res_s, kbn_0, cbN_r, kbD_0, kbD_e, kbD_c, cbD_r, kv_0, cV_r, kvm_0, cVm_r, cV_0, st_0, gt_0, cV_1, st_1, gt_1, cV_2, st_2, gt_2, cV_3, st_3, gt_3, cV_4, st_4, gt_4, cV_5, st_5, gt_5, cV_6, st_6, gt_6, cV_7, st_7, gt_7, cV_8, st_8, gt_8, cV_9, st_9, gt_9, cV_10, st_10, gt_10, cV_11, st_11, gt_11, cV_12, st_12, gt_12, cV_13, st_13, gt_13, cV_14, st_14, gt_14, cV_15, st_15, gt_15, cV_16, st_16, gt_16, cV_17, st_17, gt_17, cV_18, st_18, gt_18, cV_19, st_19, gt_19, cV_20, st_20, gt_20, cV_21, st_21, gt_21, cV_22, st_22, gt_22, cV_23, st_23, gt_23, tCh2_0, tCh2_e, tCh1_0, tCh0b_0, tCh0b_e, tCh0a_0, tCh0a_e, cChain_r, lcL_nil, lcL_c, ml1_0, ml2_t, ml2_f, ml2_b, ml3_0, ml5_0, ml4_0, ml4_e, ml4_c, cLc_r, nO_d, nO_n, nO_l, noOwn_n, noOwn_c, wipe_n, wipe_c, rsE_0, rest_n, rest_c, mkF_r, fo_0, fx_0, fin_nx', fin_rt', fin_exc', ob_0, og_0, od_0, outs_n, outs_c, lift_some, S_d, S_l, gAdd, gSub, gNeg, gNot, gLt, gLe, gGt, gGe, gEq_ii, gNe_ii, gLen, gAbs, gInt, tru_b, gMax2, gMin2, gGcd, gList, gTuple, gAll, gAny, bools_nil, bools_cons, gIs_bb, gIsN_bb, gPow, gMul, gFd, gMod, atI_0, atI_1, atI_2, atI_3, ixL_1, ixL_2, ixL_3, ixN_41, ixN_42, ixN_43, List.getElem?_cons_zero, List.getElem?_cons_succ, List.set_cons_zero, List.set_cons_succ, List.map_cons, List.map_nil, List.length_cons, List.length_nil, List.cons_append, List.nil_append, List.replicate_succ, List.replicate_zero, List.length_map, ↓cond_true, ↓cond_false, cond_true, cond_false, Option.map_some, beq_self_eq_true, List.contains_cons, List.contains_nil, Bool.or_false, Bool.false_or, Bool.or_true, Bool.and_true, Bool.true_and, Bool.not_true, Bool.not_false, Nat.reduceBEq, Nat.reduceAdd, Nat.reduceSub, Nat.reduceEqDiff, reduceCtorEq, Bool.false_eq_true, sq_nx, sq_rt, sq_bad, sq_bk, sq_ct, sq_exc, dz0, dz1, dz2, dz3, dz4, dz5, dz6, dz7, dz8, dz9, dz10, dz11, dz12, ic0, ic1, ic2, ic3, ic4, tAnd_ok, tOr_ok, tIf_ok, tIfS_ok, tAnd_exc, tOr_exc, tIf_exc, tIfS_exc, cAnd_t, cOr_t, cIf_t, cIfS_t, co_and, co_or, tAnd_cond, tOr_cond, tIfS_cond, sq_cond, fin_cond, rangeL_2, rangeL_3, List.all_cons, List.all_nil, List.any_cons, List.any_nil, id, rng1_t, rng2_t, Int.reduceToNat, if_true, ite_true, if_false, eq_self, decide_true, decide_false, isi_int_n, isi_int_b, isi_int_i, isi_int_s, isi_int_l, isi_int_t, isi_bool_n, isi_bool_b, isi_bool_i, isi_bool_s, isi_bool_l, isi_bool_t, isi_str_n, isi_str_b, isi_str_i, isi_str_s, isi_str_l, isi_str_t, isi_list_n, isi_list_b, isi_list_i, isi_list_s, isi_list_l, isi_list_t, isi_tuple_n, isi_tuple_b, isi_tuple_i, isi_tuple_s, isi_tuple_l, isi_tuple_t, isi_dict_n, isi_dict_b, isi_dict_i, isi_dict_s, isi_dict_l, isi_dict_t, nh_d, nh_l, nh_k, nh_o, nh_fn, nh_fc, ss3_0, sat_n, sat_0, sat_c, sup_n, sup_c, supc_0, fsg_c, fsg_n, fss_c, fss_n, pbs_0, pb_t, so_t, ssOf_t, gIx_l, gIx_t, S_k, Option.map_none, h1, h2, hF, hF0, gNe_pD, gEq_pD, q1, e, r, hz])
theorem lhull_loop {D : PyData} {s P : List Cn} {p0 o1 o2 : Cn} {l : List Cn} (hs : s = o1 :: o2 :: l) (hno : o1 ≠ o2) (hsm : ∀ c ∈ s, Sm c) (hP : P.length < 100000) : ∀ (r pre : List Cn) (a : Cn) (ks : List PyData) (O1 : S) (x3 x4 x5 x6 x7 x8 : Option S),
    (O1 = .lst (s.map pD) ∨ O1 = .dat (.list (s.map pD))) → Ch s a r p0 → a ∈ s → P = pre ++ a :: r → (pre ++ [a])[0]? = some p0 → p0 ∉ r → r.length < ks.length →
    ∃ ρ', forL (cgName 3) L_u_law_hull_1 ks [some (.dat D), some O1, some (.lst ((pre ++ [a]).map pD)), x3, x4, x5, x6, x7, x8] = .rt (.dat (.tuple (P.map pD))) ρ' := by
  intro r
  induction r with
  | nil =>
    intro pre a ks O1 x3 x4 x5 x6 x7 x8 hO hc ha hp h0 _ hk
    match ks, hk with
    | k :: ks, _ =>
      have hb : p0 ∈ s := hc.1
      have best : (if o1 ≠ a then o1 else o2) ∈ s := by rw [hs]; split <;> simp
      obtain ⟨y4, y5, y6, y7, y8, e⟩ := lhull_turn (D := D) (k := k) (OL := s.map pD) (F := (pre ++ [a]).map pD) (O1 := O1) (a := a) (b := p0) (p0 := p0) (o1 := o1) (o2 := o2) (x4 := x4) (x5 := x5) (x6 := x6) (x7 := x7) (x8 := x8) hO (by rw [hs]; exact atI_0) (by rw [hs]; exact atI_1)
        (by rw [List.length_map, List.length_append]; exact atI_pos (j := pre.length) (by simp) (by simp)) (atI_pos (j := 0) rfl (by rw [List.getElem?_map, h0]; rfl)) (by rw [hp] at hP; simp at hP ⊢; omega) (fun x6 x7 x8 => by
          have := jb_loop (D := some (.dat D)) (O := some (.dat (.list (s.map pD)))) (F := some (.lst ((pre ++ [a]).map pD))) (K := some (.dat k)) (now := a) (hsm a ha) s (if o1 ≠ a then o1 else o2) x6 x7 x8 (hsm _ best) hsm
          rw [jb_fold hc (fun c hc => hc) best (.inr hb)] at this
          exact this)
      refine ⟨[some (.dat D), some (.dat (.list (s.map pD))), some (.dat (.list ((pre ++ [a]).map pD))), some (.dat k), y4, y5, y6, y7, y8], ?_⟩
      rw [forL]
      show (match L_u_law_hull_1 [some (.dat D), some O1, some (.lst ((pre ++ [a]).map pD)), some (.dat k), x4, x5, x6, x7, x8] with
        | .nx ρ2 => _ | .ct ρ2 => _ | .bk ρ2 => _ | .rt s ρ2 => _ | .exc x ρ2 => _ | .bad => _) = _
      rw [e, decide_eq_true rfl, cond_true, hp]
  | cons b r ih =>
    intro pre a ks O1 x3 x4 x5 x6 x7 x8 hO hc ha hp h0 hn hk
    match ks, hk with
    | k :: ks, hk =>
      have hb : b ∈ s := hc.1.1
      have best : (if o1 ≠ a then o1 else o2) ∈ s := by rw [hs]; split <;> simp
      have hbp : b ≠ p0 := fun e => hn (by rw [e]; simp)
      obtain ⟨y4, y5, y6, y7, y8, e⟩ := lhull_turn (D := D) (k := k) (OL := s.map pD) (F := (pre ++ [a]).map pD) (O1 := O1) (a := a) (b := b) (p0 := p0) (o1 := o1) (o2 := o2) (x4 := x4) (x5 := x5) (x6 := x6) (x7 := x7) (x8 := x8) hO (by rw [hs]; exact atI_0) (by rw [hs]; exact atI_1)
        (by rw [List.length_map, List.length_append]; exact atI_pos (j := pre.length) (by simp) (by simp)) (atI_pos (j := 0) rfl (by rw [List.getElem?_map, h0]; rfl)) (by rw [hp] at hP; simp at hP ⊢; omega) (fun x6 x7 x8 => by
          have := jb_loop (D := some (.dat D)) (O := some (.dat (.list (s.map pD)))) (F := some (.lst ((pre ++ [a]).map pD))) (K := some (.dat k)) (now := a) (hsm a ha) s (if o1 ≠ a then o1 else o2) x6 x7 x8 (hsm _ best) hsm
          rw [jb_fold hc.1 (fun c hc => hc) best (.inr hb)] at this
          exact this)
      obtain ⟨ρ', e2⟩ := ih (pre ++ [a]) b ks (.dat (.list (s.map pD))) (some (.dat k)) y4 y5 y6 y7 y8 (.inr rfl) hc.2 hb (by rw [hp]; simp) (by rw [List.getElem?_append_left (by simp)]; exact h0) (fun m => hn (by simp [m])) (by simp only [List.length_cons] at hk; omega)
      refine ⟨ρ', ?_⟩
      rw [← e2, forL]
      show (match L_u_law_hull_1 [some (.dat D), some O1, some (.lst ((pre ++ [a]).map pD)), some (.dat k), x4, x5, x6, x7, x8] with
        | .nx ρ2 => _ | .ct ρ2 => _ | .bk ρ2 => _ | .rt s ρ2 => _ | .exc x ρ2 => _ | .bad => _) = _
      rw [e, decide_eq_false hbp, cond_false]
      show forL _ _ _ [_, _, some (.lst ((pre ++ [a]).map pD ++ [pD b])), _, _, _, _, _, _] = _
      rw [List.map_append (l₁ := pre ++ [a])]
      rfl
theorem src_0 {D : PyData} {cs : List Cn} (hD : D = .list (cs.map pD) ∨ D = .tuple (cs.map pD)) {ρ : En} (hρ : ρ[0]? = some (some (.dat D))) : ciSeq (cV 0) ρ = .ok (cs.map pD) ρ := by
  have hset : ρ.set 0 (some (.dat D)) = ρ := by
    cases ρ with
    | nil => cases hρ
    | cons a b => cases hρ; rfl
  have e : cV 0 ρ = .ok (.dat D) ρ := by unfold cV; rw [hρ]; show R.ok (S.dat D) (ρ.set 0 (some (.dat D))) = _; rw [hset]
  rcases hD with rfl | rfl <;> simp only [ciSeq_r, e, kSq_0, S_d, kix_l, kix_t]
theorem lc_pairs {D : PyData} {cs : List Cn} (hD : D = .list (cs.map pD) ∨ D = .tuple (cs.map pD)) (hl : cs.length ≤ 50000) : cLc [6] (ciSeq (cV 0)) (cgName 6) (cK (.bool true)) (cTup (caCons (cV 6) (caCons (cK (.bool true)) caNil))) [some (.dat D), none, none, none, none, none, none, none, none] =
      .ok (.lst ((cs.map pD).map fun d => .tuple [d, .bool true])) [some (.dat D), none, none, none, none, none, none, none, none] :=
    cLc_map (fun d => .tuple [d, .bool true]) (src_0 hD rfl) rfl (by rw [List.length_map]; have := ch_cls; omega) fun d hd => ⟨_, _, _, _, rfl, rfl, rfl, rfl, rfl⟩
theorem prs_pairs : ∀ cs : List Cn, prsOf ((cs.map pD).map fun d => PyData.tuple [d, .bool true]) = some (cs.map pT)
  | [] => rfl
  | c :: cs => by
    show (prsOf ((cs.map pD).map fun d => PyData.tuple [d, .bool true])).map ((pD c, .bool true) :: ·) = _
    rw [prs_pairs cs]
    rfl
theorem gd_pairs (cs : List Cn) : gDict [.list ((cs.map pD).map fun d => PyData.tuple [d, .bool true])] = some (.dic ((keysC cs).map pT)) := by
  unfold gDict
  have hN : ((cs.map pT).all fun p => isN p.1) = true := by rw [List.all_map]; exact List.all_eq_true.mpr fun c _ => isN_pD c
  simp only [prs_pairs, hN, Bool.or_true, cond_true]
  rw [show dAll [] (cs.map pT) = (keysC cs).map pT from dAll_pT (ks := [])]
theorem lhull_one {D : PyData} {cs : List Cn} {p : Cn} (lc : cLc [6] (ciSeq (cV 0)) (cgName 6) (cK (.bool true)) (cTup (caCons (cV 6) (caCons (cK (.bool true)) caNil))) [some (.dat D), none, none, none, none, none, none, none, none] =
      .ok (.lst ((cs.map pD).map fun d => .tuple [d, .bool true])) [some (.dat D), none, none, none, none, none, none, none, none]) (hs : ordC cs = [p]) : F_u_law_hull [.dat D] = .ok (.dat (.tuple ([p].map pD))) [.dat D] := by
  have gd := gd_pairs cs
  have hb : ((1 : Int) == 1) = true := rfl
  have h1 : ((0 + 1 : Nat) : Int) = 1 := rfl
  have so := sorted_keys (cs := cs)
  rw [hs] at so
  unfold F_u_law_hull M_u_law_hull
  simp -implicitDefEqProofs only [k1_0, k1_e, k1_c, c1_r, k2b_0, k2b_e, k2b_c, k2a_0, k2a_e, k2a_c, c2_r, kN_0, kN_e, kN_c, cN_r, kTup_0, kTup_e, kTup_c, cTup_r, kLst_0, kLst_e, kLst_c, cLst_r, cK_r, caNil_r, kcb_0, kcb_e, kcb_c, kca_0, kca_e, kca_c, caCons_r, cxNil_r, kxb_0, kxb_e, kxb_c, kxa_0, kxa_e, kxa_c, cxD_r, cxS_r, kxs_0, cCall_r, kc1_0, kc1_e, kc2_0, kc3_0, kc3_e, kc3_c, ssOf_n, ss1_0, ss2_0, ssOf_d, ssOf_s, pb_n, pb_d, pb_s, so_n, so_d, so_s, di_n, di_1, di_c, cSeq_r, cNext_r, cRetN_r, cBrk_r, cCnt_r, kRet_0, kRet_e, kRet_c, cRet_r, kDrop_0, kDrop_e, kDrop_c, cDrop_r, kSet_0, kSet_e, kSet_c, cSet_r, kAs_0, kAsg_0, kAsg_e, kAsg_c, cAsg_r, cgName_r, cgNil_r, kgc_0, cgCons_r, cgTup_r, cgLst_r, kPar_0, kPar_e, kPar_c, cPar_r, kPar3_0, kPar3_e, kPar3_c, cPar3_r, kap3_0, kap2_0, kap2_e, kap2_c, kap1_0, cApp_r, ksi3_0, ksi4_0, ksi2_0, ksi2_e, ksi2_c, ksi1_0, ksi0_0, ksi0_e, ksi0_c, cSetIx_r, kix_l, kix_t, kix_s, kSq_0, kSq_e, kSq_c, ciSeq_r, kr1_0, kr1_e, kr1_c, ciRange1_r, kr2_0, kr2_e, kr2_c, ciRange2_r, kFor_0, kFor_e, kFor_c, cFor_r, forL_c, forL_n, kf1_0, kf2_nx, kf2_ct, kf2_bk, kf2_rt, kf2_exc, kf2_cond, kb_0, kbb_0, kb1_0, kb1_c, kb1_e, cB1_r, kb3_0, kb3_e, kb3_c, kb2_0, kb2_c, kb2_e, cB2_r, kres_0, res_d, res_s, kbn_0, cbN_r, kbD_0, kbD_e, kbD_c, cbD_r, kv_0, cV_r, kvm_0, cVm_r, cV_0, st_0, gt_0, cV_1, st_1, gt_1, cV_2, st_2, gt_2, cV_3, st_3, gt_3, cV_4, st_4, gt_4, cV_5, st_5, gt_5, cV_6, st_6, gt_6, cV_7, st_7, gt_7, cV_8, st_8, gt_8, cV_9, st_9, gt_9, cV_10, st_10, gt_10, cV_11, st_11, gt_11, cV_12, st_12, gt_12, cV_13, st_13, gt_13, cV_14, st_14, gt_14, cV_15, st_15, gt_15, cV_16, st_16, gt_16, cV_17, st_17, gt_17, cV_18, st_18, gt_18, cV_19, st_19, gt_19, cV_20, st_20, gt_20, cV_21, st_21, gt_21, cV_22, st_22, gt_22, cV_23, st_23, gt_23, tCh2_0, tCh2_e, tCh1_0, tCh0b_0, tCh0b_e, tCh0a_0, tCh0a_e, cChain_r, lcL_nil, lcL_c, ml1_0, ml2_t, ml2_f, ml2_b, ml3_0, ml5_0, ml4_0, ml4_e, ml4_c, nO_d, nO_n, nO_l, noOwn_n, noOwn_c, wipe_n, wipe_c, rsE_0, rest_n, rest_c, mkF_r, fo_0, fx_0, fin_nx', fin_rt', fin_exc', ob_0, og_0, od_0, outs_n, outs_c, lift_some, S_d, S_l, gAdd, gSub, gNeg, gNot, gLt, gLe, gGt, gGe, gEq_ii, gNe_ii, gLen, gAbs, gInt, tru_b, gMax2, gMin2, gGcd, gList, gTuple, gAll, gAny, bools_nil, bools_cons, gIs_bb, gIsN_bb, gPow, gMul, gFd, gMod, atI_0, atI_1, atI_2, atI_3, ixL_1, ixL_2, ixL_3, ixN_41, ixN_42, ixN_43, List.getElem?_cons_zero, List.getElem?_cons_succ, List.set_cons_zero, List.set_cons_succ, List.map_cons, List.map_nil, List.length_cons, List.length_nil, List.cons_append, List.nil_append, List.replicate_succ, List.replicate_zero, List.length_map, ↓cond_true, ↓cond_false, cond_true, cond_false, Option.map_some, beq_self_eq_true, List.contains_cons, List.contains_nil, Bool.or_false, Bool.false_or, Bool.or_true, Bool.and_true, Bool.true_and, Bool.not_true, Bool.not_false, Nat.reduceBEq, Nat.reduceAdd, Nat.reduceSub, Nat.reduceEqDiff, reduceCtorEq, Bool.false_eq_true, sq_nx, sq_rt, sq_bad, sq_bk, sq_ct, sq_exc, dz0, dz1, dz2, dz3, dz4, dz5, dz6, dz7, dz8, dz9, dz10, dz11, dz12, ic0, ic1, ic2, ic3, ic4, tAnd_ok, tOr_ok, tIf_ok, tIfS_ok, tAnd_exc, tOr_exc, tIf_exc, tIfS_exc, cAnd_t, cOr_t, cIf_t, cIfS_t, co_and, co_or, tAnd_cond, tOr_cond, tIfS_cond, sq_cond, fin_cond, rangeL_2, rangeL_3, List.all_cons, List.all_nil, List.any_cons, List.any_nil, id, rng1_t, rng2_t, Int.reduceToNat, if_true, ite_true, if_false, eq_self, decide_true, decide_false, isi_int_n, isi_int_b, isi_int_i, isi_int_s, isi_int_l, isi_int_t, isi_bool_n, isi_bool_b, isi_bool_i, isi_bool_s, isi_bool_l, isi_bool_t, isi_str_n, isi_str_b, isi_str_i, isi_str_s, isi_str_l, isi_str_t, isi_list_n, isi_list_b, isi_list_i, isi_list_s, isi_list_l, isi_list_t, isi_tuple_n, isi_tuple_b, isi_tuple_i, isi_tuple_s, isi_tuple_l, isi_tuple_t, isi_dict_n, isi_dict_b, isi_dict_i, isi_dict_s, isi_dict_l, isi_dict_t, nh_d, nh_l, nh_k, nh_o, nh_fn, nh_fc, ss3_0, sat_n, sat_0, sat_c, sup_n, sup_c, supc_0, fsg_c, fsg_n, fss_c, fss_n, pbs_0, pb_t, so_t, ssOf_t, gIx_l, gIx_t, S_k, Option.map_none, lc, gd, so, h1, hb]
theorem lhull_more {D : PyData} {cs : List Cn} {p0 : PyData} {L T : List PyData} {ρ' : En} (lc : cLc [6] (ciSeq (cV 0)) (cgName 6) (cK (.bool true)) (cTup (caCons (cV 6) (caCons (cK (.bool true)) caNil))) [some (.dat D), none, none, none, none, none, none, none, none] =
      .ok (.lst ((cs.map pD).map fun d => .tuple [d, .bool true])) [some (.dat D), none, none, none, none, none, none, none, none]) (hL : (ordC cs).map pD = L) (hb : ((L.length : Int) == 1) = false) (f0 : atI L 0 = some p0) (rl : Sml (L.length : Int))
    (tn : ((L.length : Nat) : Int).toNat = L.length) (e : forL (cgName 3) L_u_law_hull_1 (rangeL 0 L.length) [some (.dat D), some (.lst L), some (.lst [p0]), none, none, none, none, none, none] = .rt (.dat (.tuple T)) ρ') (ho : outs [] ρ' 0 [.dat D] = some [.dat D]) :
    F_u_law_hull [.dat D] = .ok (.dat (.tuple T)) [.dat D] := by
  have gd := gd_pairs cs
  have so := sorted_keys (cs := cs)
  rw [hL] at so
  have s1 : (cSet 1 (cN gSorted (caCons (cN gDict (caCons (cLc [6] (ciSeq (cV 0)) (cgName 6) (cK (.bool true)) (cTup (caCons (cV 6) (caCons (cK (.bool true)) (caNil))))) (caNil))) (caNil)))) [some (.dat D), none, none, none, none, none, none, none, none] = .nx [some (.dat D), some (.lst L), none, none, none, none, none, none, none] := by
    simp -implicitDefEqProofs only [k1_0, k1_e, k1_c, c1_r, k2b_0, k2b_e, k2b_c, k2a_0, k2a_e, k2a_c, c2_r, kN_0, kN_e, kN_c, cN_r, kTup_0, kTup_e, kTup_c, cTup_r, kLst_0, kLst_e, kLst_c, cLst_r, cK_r, caNil_r, kcb_0, kcb_e, kcb_c, kca_0, kca_e, kca_c, caCons_r, cxNil_r, kxb_0, kxb_e, kxb_c, kxa_0, kxa_e, kxa_c, cxD_r, cxS_r, kxs_0, cCall_r, kc1_0, kc1_e, kc2_0, kc3_0, kc3_e, kc3_c, ssOf_n, ss1_0, ss2_0, ssOf_d, ssOf_s, pb_n, pb_d, pb_s, so_n, so_d, so_s, di_n, di_1, di_c, cSeq_r, cNext_r, cRetN_r, cBrk_r, cCnt_r, kRet_0, kRet_e, kRet_c, cRet_r, kDrop_0, kDrop_e, kDrop_c, cDrop_r, kSet_0, kSet_e, kSet_c, cSet_r, kAs_0, kAsg_0, kAsg_e, kAsg_c, cAsg_r, cgName_r, cgNil_r, kgc_0, cgCons_r, cgTup_r, cgLst_r, kPar_0, kPar_e, kPar_c, cPar_r, kPar3_0, kPar3_e, kPar3_c, cPar3_r, kap3_0, kap2_0, kap2_e, kap2_c, kap1_0, cApp_r, ksi3_0, ksi4_0, ksi2_0, ksi2_e, ksi2_c, ksi1_0, ksi0_0, ksi0_e, ksi0_c, cSetIx_r, kix_l, kix_t, kix_s, kSq_0, kSq_e, kSq_c, ciSeq_r, kr1_e, kr1_c, ciRange1_r, kr2_e, kr2_c, ciRange2_r, kFor_0, kFor_e, kFor_c, cFor_r, forL_c, forL_n, kf1_0, kf2_nx, kf2_ct, kf2_bk, kf2_rt, kf2_exc, kf2_cond, kb_0, kbb_0, kb1_0, kb1_c, kb1_e, cB1_r, kb3_0, kb3_e, kb3_c, kb2_0, kb2_c, kb2_e, cB2_r, kres_0, res_d, res_s, kbn_0, cbN_r, kbD_0, kbD_e, kbD_c, cbD_r, kv_0, cV_r, kvm_0, cVm_r, cV_0, st_0, gt_0, cV_1, st_1, gt_1, cV_2, st_2, gt_2, cV_3, st_3, gt_3, cV_4, st_4, gt_4, cV_5, st_5, gt_5, cV_6, st_6, gt_6, cV_7, st_7, gt_7, cV_8, st_8, gt_8, cV_9, st_9, gt_9, cV_10, st_10, gt_10, cV_11, st_11, gt_11, cV_12, st_12, gt_12, cV_13, st_13, gt_13, cV_14, st_14, gt_14, cV_15, st_15, gt_15, cV_16, st_16, gt_16, cV_17, st_17, gt_17, cV_18, st_18, gt_18, cV_19, st_19, gt_19, cV_20, st_20, gt_20, cV_21, st_21, gt_21, cV_22, st_22, gt_22, cV_23, st_23, gt_23, tCh2_0, tCh2_e, tCh1_0, tCh0b_0, tCh0b_e, tCh0a_0, tCh0a_e, cChain_r, lcL_nil, lcL_c, ml1_0, ml2_t, ml2_f, ml2_b, ml3_0, ml5_0, ml4_0, ml4_e, ml4_c, nO_d, nO_n, nO_l, noOwn_n, noOwn_c, wipe_n, wipe_c, rsE_0, rest_n, rest_c, mkF_r, fo_0, fx_0, fin_nx', fin_rt', fin_exc', ob_0, og_0, od_0, outs_n, outs_c, lift_some, S_d, S_l, gAdd, gSub, gNeg, gNot, gLt, gLe, gGt, gGe, gEq_ii, gNe_ii, gLen, gAbs, gInt, tru_b, gMax2, gMin2, gGcd, gList, gTuple, gAll, gAny, bools_nil, bools_cons, gIs_bb, gIsN_bb, gPow, gMul, gFd, gMod, atI_0, atI_1, atI_2, atI_3, ixL_1, ixL_2, ixL_3, ixN_41, ixN_42, ixN_43, List.getElem?_cons_zero, List.getElem?_cons_succ, List.set_cons_zero, List.set_cons_succ, List.map_cons, List.map_nil, List.length_cons, List.length_nil, List.cons_append, List.nil_append, List.replicate_succ, List.replicate_zero, List.length_map, ↓cond_true, ↓cond_false, cond_true, cond_false, Option.map_some, beq_self_eq_true, List.contains_cons, List.contains_nil, Bool.or_false, Bool.false_or, Bool.or_true, Bool.and_true, Bool.true_and, Bool.not_true, Bool.not_false, Nat.reduceBEq, Nat.reduceAdd, Nat.reduceSub, Nat.reduceEqDiff, reduceCtorEq, Bool.false_eq_true, sq_nx, sq_rt, sq_bad, sq_bk, sq_ct, sq_exc, dz0, dz1, dz2, dz3, dz4, dz5, dz6, dz7, dz8, dz9, dz10, dz11, dz12, ic0, ic1, ic2, ic3, ic4, tAnd_ok, tOr_ok, tIf_ok, tIfS_ok, tAnd_exc, tOr_exc, tIf_exc, tIfS_exc, cAnd_t, cOr_t, cIf_t, cIfS_t, co_and, co_or, tAnd_cond, tOr_cond, tIfS_cond, sq_cond, fin_cond, rangeL_2, rangeL_3, List.all_cons, List.all_nil, List.any_cons, List.any_nil, id, rng1_t, rng2_t, Int.reduceToNat, if_true, ite_true, if_false, eq_self, decide_true, decide_false, isi_int_n, isi_int_b, isi_int_i, isi_int_s, isi_int_l, isi_int_t, isi_bool_n, isi_bool_b, isi_bool_i, isi_bool_s, isi_bool_l, isi_bool_t, isi_str_n, isi_str_b, isi_str_i, isi_str_s, isi_str_l, isi_str_t, isi_list_n, isi_list_b, isi_list_i, isi_list_s, isi_list_l, isi_list_t, isi_tuple_n, isi_tuple_b, isi_tuple_i, isi_tuple_s, isi_tuple_l, isi_tuple_t, isi_dict_n, isi_dict_b, isi_dict_i, isi_dict_s, isi_dict_l, isi_dict_t, nh_d, nh_l, nh_k, nh_o, nh_fn, nh_fc, ss3_0, sat_n, sat_0, sat_c, sup_n, sup_c, supc_0, fsg_c, fsg_n, fss_c, fss_n, pbs_0, pb_t, so_t, ssOf_t, gIx_l, gIx_t, S_k, Option.map_none, lc, gd, so]
  have s2 : (cIfS (c2 gEq (cB1 gLen (cbN 1)) (cK (.int 1))) (cRet (cN gTuple (caCons (cV 1) (caNil)))) (cNext)) [some (.dat D), some (.lst L), none, none, none, none, none, none, none] = .nx [some (.dat D), some (.lst L), none, none, none, none, none, none, none] := by
    simp -implicitDefEqProofs only [k1_0, k1_e, k1_c, c1_r, k2b_0, k2b_e, k2b_c, k2a_0, k2a_e, k2a_c, c2_r, kN_0, kN_e, kN_c, cN_r, kTup_0, kTup_e, kTup_c, cTup_r, kLst_0, kLst_e, kLst_c, cLst_r, cK_r, caNil_r, kcb_0, kcb_e, kcb_c, kca_0, kca_e, kca_c, caCons_r, cxNil_r, kxb_0, kxb_e, kxb_c, kxa_0, kxa_e, kxa_c, cxD_r, cxS_r, kxs_0, cCall_r, kc1_0, kc1_e, kc2_0, kc3_0, kc3_e, kc3_c, ssOf_n, ss1_0, ss2_0, ssOf_d, ssOf_s, pb_n, pb_d, pb_s, so_n, so_d, so_s, di_n, di_1, di_c, cSeq_r, cNext_r, cRetN_r, cBrk_r, cCnt_r, kRet_0, kRet_e, kRet_c, cRet_r, kDrop_0, kDrop_e, kDrop_c, cDrop_r, kSet_0, kSet_e, kSet_c, cSet_r, kAs_0, kAsg_0, kAsg_e, kAsg_c, cAsg_r, cgName_r, cgNil_r, kgc_0, cgCons_r, cgTup_r, cgLst_r, kPar_0, kPar_e, kPar_c, cPar_r, kPar3_0, kPar3_e, kPar3_c, cPar3_r, kap3_0, kap2_0, kap2_e, kap2_c, kap1_0, cApp_r, ksi3_0, ksi4_0, ksi2_0, ksi2_e, ksi2_c, ksi1_0, ksi0_0, ksi0_e, ksi0_c, cSetIx_r, kix_l, kix_t, kix_s, kSq_0, kSq_e, kSq_c, ciSeq_r, kr1_e, kr1_c, ciRange1_r, kr2_e, kr2_c, ciRange2_r, kFor_0, kFor_e, kFor_c, cFor_r, forL_c, forL_n, kf1_0, kf2_nx, kf2_ct, kf2_bk, kf2_rt, kf2_exc, kf2_cond, kb_0, kbb_0, kb1_0, kb1_c, kb1_e, cB1_r, kb3_0, kb3_e, kb3_c, kb2_0, kb2_c, kb2_e, cB2_r, kres_0, res_d, res_s, kbn_0, cbN_r, kbD_0, kbD_e, kbD_c, cbD_r, kv_0, cV_r, kvm_0, cVm_r, cV_0, st_0, gt_0, cV_1, st_1, gt_1, cV_2, st_2, gt_2, cV_3, st_3, gt_3, cV_4, st_4, gt_4, cV_5, st_5, gt_5, cV_6, st_6, gt_6, cV_7, st_7, gt_7, cV_8, st_8, gt_8, cV_9, st_9, gt_9, cV_10, st_10, gt_10, cV_11, st_11, gt_11, cV_12, st_12, gt_12, cV_13, st_13, gt_13, cV_14, st_14, gt_14, cV_15, st_15, gt_15, cV_16, st_16, gt_16, cV_17, st_17, gt_17, cV_18, st_18, gt_18, cV_19, st_19, gt_19, cV_20, st_20, gt_20, cV_21, st_21, gt_21, cV_22, st_22, gt_22, cV_23, st_23, gt_23, tCh2_0, tCh2_e, tCh1_0, tCh0b_0, tCh0b_e, tCh0a_0, tCh0a_e, cChain_r, lcL_nil, lcL_c, ml1_0, ml2_t, ml2_f, ml2_b, ml3_0, ml5_0, ml4_0, ml4_e, ml4_c, nO_d, nO_n, nO_l, noOwn_n, noOwn_c, wipe_n, wipe_c, rsE_0, rest_n, rest_c, mkF_r, fo_0, fx_0, fin_nx', fin_rt', fin_exc', ob_0, og_0, od_0, outs_n, outs_c, lift_some, S_d, S_l, gAdd, gSub, gNeg, gNot, gLt, gLe, gGt, gGe, gEq_ii, gNe_ii, gLen, gAbs, gInt, tru_b, gMax2, gMin2, gGcd, gList, gTuple, gAll, gAny, bools_nil, bools_cons, gIs_bb, gIsN_bb, gPow, gMul, gFd, gMod, atI_0, atI_1, atI_2, atI_3, ixL_1, ixL_2, ixL_3, ixN_41, ixN_42, ixN_43, List.getElem?_cons_zero, List.getElem?_cons_succ, List.set_cons_zero, List.set_cons_succ, List.map_cons, List.map_nil, List.length_cons, List.length_nil, List.cons_append, List.nil_append, List.replicate_succ, List.replicate_zero, List.length_map, ↓cond_true, ↓cond_false, cond_true, cond_false, Option.map_some, beq_self_eq_true, List.contains_cons, List.contains_nil, Bool.or_false, Bool.false_or, Bool.or_true, Bool.and_true, Bool.true_and, Bool.not_true, Bool.not_false, Nat.reduceBEq, Nat.reduceAdd, Nat.reduceSub, Nat.reduceEqDiff, reduceCtorEq, Bool.false_eq_true, sq_nx, sq_rt, sq_bad, sq_bk, sq_ct, sq_exc, dz0, dz1, dz2, dz3, dz4, dz5, dz6, dz7, dz8, dz9, dz10, dz11, dz12, ic0, ic1, ic2, ic3, ic4, tAnd_ok, tOr_ok, tIf_ok, tIfS_ok, tAnd_exc, tOr_exc, tIf_exc, tIfS_exc, cAnd_t, cOr_t, cIf_t, cIfS_t, co_and, co_or, tAnd_cond, tOr_cond, tIfS_cond, sq_cond, fin_cond, rangeL_2, rangeL_3, List.all_cons, List.all_nil, List.any_cons, List.any_nil, id, rng1_t, rng2_t, Int.reduceToNat, if_true, ite_true, if_false, eq_self, decide_true, decide_false, isi_int_n, isi_int_b, isi_int_i, isi_int_s, isi_int_l, isi_int_t, isi_bool_n, isi_bool_b, isi_bool_i, isi_bool_s, isi_bool_l, isi_bool_t, isi_str_n, isi_str_b, isi_str_i, isi_str_s, isi_str_l, isi_str_t, isi_list_n, isi_list_b, isi_list_i, isi_list_s, isi_list_l, isi_list_t, isi_tuple_n, isi_tuple_b, isi_tuple_i, isi_tuple_s, isi_tuple_l, isi_tuple_t, isi_dict_n, isi_dict_b, isi_dict_i, isi_dict_s, isi_dict_l, isi_dict_t, nh_d, nh_l, nh_k, nh_o, nh_fn, nh_fc, ss3_0, sat_n, sat_0, sat_c, sup_n, sup_c, supc_0, fsg_c, fsg_n, fss_c, fss_n, pbs_0, pb_t, so_t, ssOf_t, gIx_l, gIx_t, S_k, Option.map_none, hb]
  have s3 : (cSet 2 (cLst (caCons (cB2 gIx (cbN 1) (cK (.int 0))) (caNil)))) [some (.dat D), some (.lst L), none, none, none, none, none, none, none] = .nx [some (.dat D), some (.lst L), some (.lst [p0]), none, none, none, none, none, none] := by
    simp -implicitDefEqProofs only [k1_0, k1_e, k1_c, c1_r, k2b_0, k2b_e, k2b_c, k2a_0, k2a_e, k2a_c, c2_r, kN_0, kN_e, kN_c, cN_r, kTup_0, kTup_e, kTup_c, cTup_r, kLst_0, kLst_e, kLst_c, cLst_r, cK_r, caNil_r, kcb_0, kcb_e, kcb_c, kca_0, kca_e, kca_c, caCons_r, cxNil_r, kxb_0, kxb_e, kxb_c, kxa_0, kxa_e, kxa_c, cxD_r, cxS_r, kxs_0, cCall_r, kc1_0, kc1_e, kc2_0, kc3_0, kc3_e, kc3_c, ssOf_n, ss1_0, ss2_0, ssOf_d, ssOf_s, pb_n, pb_d, pb_s, so_n, so_d, so_s, di_n, di_1, di_c, cSeq_r, cNext_r, cRetN_r, cBrk_r, cCnt_r, kRet_0, kRet_e, kRet_c, cRet_r, kDrop_0, kDrop_e, kDrop_c, cDrop_r, kSet_0, kSet_e, kSet_c, cSet_r, kAs_0, kAsg_0, kAsg_e, kAsg_c, cAsg_r, cgName_r, cgNil_r, kgc_0, cgCons_r, cgTup_r, cgLst_r, kPar_0, kPar_e, kPar_c, cPar_r, kPar3_0, kPar3_e, kPar3_c, cPar3_r, kap3_0, kap2_0, kap2_e, kap2_c, kap1_0, cApp_r, ksi3_0, ksi4_0, ksi2_0, ksi2_e, ksi2_c, ksi1_0, ksi0_0, ksi0_e, ksi0_c, cSetIx_r, kix_l, kix_t, kix_s, kSq_0, kSq_e, kSq_c, ciSeq_r, kr1_e, kr1_c, ciRange1_r, kr2_e, kr2_c, ciRange2_r, kFor_0, kFor_e, kFor_c, cFor_r, forL_c, forL_n, kf1_0, kf2_nx, kf2_ct, kf2_bk, kf2_rt, kf2_exc, kf2_cond, kb_0, kbb_0, kb1_0, kb1_c, kb1_e, cB1_r, kb3_0, kb3_e, kb3_c, kb2_0, kb2_c, kb2_e, cB2_r, kres_0, res_d, res_s, kbn_0, cbN_r, kbD_0, kbD_e, kbD_c, cbD_r, kv_0, cV_r, kvm_0, cVm_r, cV_0, st_0, gt_0, cV_1, st_1, gt_1, cV_2, st_2, gt_2, cV_3, st_3, gt_3, cV_4, st_4, gt_4, cV_5, st_5, gt_5, cV_6, st_6, gt_6, cV_7, st_7, gt_7, cV_8, st_8, gt_8, cV_9, st_9, gt_9, cV_10, st_10, gt_10, cV_11, st_11, gt_11, cV_12, st_12, gt_12, cV_13, st_13, gt_13, cV_14, st_14, gt_14, cV_15, st_15, gt_15, cV_16, st_16, gt_16, cV_17, st_17, gt_17, cV_18, st_18, gt_18, cV_19, st_19, gt_19, cV_20, st_20, gt_20, cV_21, st_21, gt_21, cV_22, st_22, gt_22, cV_23, st_23, gt_23, tCh2_0, tCh2_e, tCh1_0, tCh0b_0, tCh0b_e, tCh0a_0, tCh0a_e, cChain_r, lcL_nil, lcL_c, ml1_0, ml2_t, ml2_f, ml2_b, ml3_0, ml5_0, ml4_0, ml4_e, ml4_c, nO_d, nO_n, nO_l, noOwn_n, noOwn_c, wipe_n, wipe_c, rsE_0, rest_n, rest_c, mkF_r, fo_0, fx_0, fin_nx', fin_rt', fin_exc', ob_0, og_0, od_0, outs_n, outs_c, lift_some, S_d, S_l, gAdd, gSub, gNeg, gNot, gLt, gLe, gGt, gGe, gEq_ii, gNe_ii, gLen, gAbs, gInt, tru_b, gMax2, gMin2, gGcd, gList, gTuple, gAll, gAny, bools_nil, bools_cons, gIs_bb, gIsN_bb, gPow, gMul, gFd, gMod, atI_0, atI_1, atI_2, atI_3, ixL_1, ixL_2, ixL_3, ixN_41, ixN_42, ixN_43, List.getElem?_cons_zero, List.getElem?_cons_succ, List.set_cons_zero, List.set_cons_succ, List.map_cons, List.map_nil, List.length_cons, List.length_nil, List.cons_append, List.nil_append, List.replicate_succ, List.replicate_zero, List.length_map, ↓cond_true, ↓cond_false, cond_true, cond_false, Option.map_some, beq_self_eq_true, List.contains_cons, List.contains_nil, Bool.or_false, Bool.false_or, Bool.or_true, Bool.and_true, Bool.true_and, Bool.not_true, Bool.not_false, Nat.reduceBEq, Nat.reduceAdd, Nat.reduceSub, Nat.reduceEqDiff, reduceCtorEq, Bool.false_eq_true, sq_nx, sq_rt, sq_bad, sq_bk, sq_ct, sq_exc, dz0, dz1, dz2, dz3, dz4, dz5, dz6, dz7, dz8, dz9, dz10, dz11, dz12, ic0, ic1, ic2, ic3, ic4, tAnd_ok, tOr_ok, tIf_ok, tIfS_ok, tAnd_exc, tOr_exc, tIf_exc, tIfS_exc, cAnd_t, cOr_t, cIf_t, cIfS_t, co_and, co_or, tAnd_cond, tOr_cond, tIfS_cond, sq_cond, fin_cond, rangeL_2, rangeL_3, List.all_cons, List.all_nil, List.any_cons, List.any_nil, id, rng1_t, rng2_t, Int.reduceToNat, if_true, ite_true, if_false, eq_self, decide_true, decide_false, isi_int_n, isi_int_b, isi_int_i, isi_int_s, isi_int_l, isi_int_t, isi_bool_n, isi_bool_b, isi_bool_i, isi_bool_s, isi_bool_l, isi_bool_t, isi_str_n, isi_str_b, isi_str_i, isi_str_s, isi_str_l, isi_str_t, isi_list_n, isi_list_b, isi_list_i, isi_list_s, isi_list_l, isi_list_t, isi_tuple_n, isi_tuple_b, isi_tuple_i, isi_tuple_s, isi_tuple_l, isi_tuple_t, isi_dict_n, isi_dict_b, isi_dict_i, isi_dict_s, isi_dict_l, isi_dict_t, nh_d, nh_l, nh_k, nh_o, nh_fn, nh_fc, ss3_0, sat_n, sat_0, sat_c, sup_n, sup_c, supc_0, fsg_c, fsg_n, fss_c, fss_n, pbs_0, pb_t, so_t, ssOf_t, gIx_l, gIx_t, S_k, Option.map_none, f0]
  have s4 : cFor (ciRange1 (caCons (cB1 gLen (cbN 1)) (caNil))) (cgName 3) (L_u_law_hull_1) [some (.dat D), some (.lst L), some (.lst [p0]), none, none, none, none, none, none] = .rt (.dat (.tuple T)) ρ' := by
    simp -implicitDefEqProofs only [k1_0, k1_e, k1_c, c1_r, k2b_0, k2b_e, k2b_c, k2a_0, k2a_e, k2a_c, c2_r, kN_0, kN_e, kN_c, cN_r, kTup_0, kTup_e, kTup_c, cTup_r, kLst_0, kLst_e, kLst_c, cLst_r, cK_r, caNil_r, kcb_0, kcb_e, kcb_c, kca_0, kca_e, kca_c, caCons_r, cxNil_r, kxb_0, kxb_e, kxb_c, kxa_0, kxa_e, kxa_c, cxD_r, cxS_r, kxs_0, cCall_r, kc1_0, kc1_e, kc2_0, kc3_0, kc3_e, kc3_c, ssOf_n, ss1_0, ss2_0, ssOf_d, ssOf_s, pb_n, pb_d, pb_s, so_n, so_d, so_s, di_n, di_1, di_c, cSeq_r, cNext_r, cRetN_r, cBrk_r, cCnt_r, kRet_0, kRet_e, kRet_c, cRet_r, kDrop_0, kDrop_e, kDrop_c, cDrop_r, kSet_0, kSet_e, kSet_c, cSet_r, kAs_0, kAsg_0, kAsg_e, kAsg_c, cAsg_r, cgName_r, cgNil_r, kgc_0, cgCons_r, cgTup_r, cgLst_r, kPar_0, kPar_e, kPar_c, cPar_r, kPar3_0, kPar3_e, kPar3_c, cPar3_r, kap3_0, kap2_0, kap2_e, kap2_c, kap1_0, cApp_r, ksi3_0, ksi4_0, ksi2_0, ksi2_e, ksi2_c, ksi1_0, ksi0_0, ksi0_e, ksi0_c, cSetIx_r, kix_l, kix_t, kix_s, kSq_0, kSq_e, kSq_c, ciSeq_r, kr1_e, kr1_c, ciRange1_r, kr2_e, kr2_c, ciRange2_r, kFor_0, kFor_e, kFor_c, cFor_r, forL_c, forL_n, kf1_0, kf2_nx, kf2_ct, kf2_bk, kf2_rt, kf2_exc, kf2_cond, kb_0, kbb_0, kb1_0, kb1_c, kb1_e, cB1_r, kb3_0, kb3_e, kb3_c, kb2_0, kb2_c, kb2_e, cB2_r, kres_0, res_d, res_s, kbn_0, cbN_r, kbD_0, kbD_e, kbD_c, cbD_r, kv_0, cV_r, kvm_0, cVm_r, cV_0, st_0, gt_0, cV_1, st_1, gt_1, cV_2, st_2, gt_2, cV_3, st_3, gt_3, cV_4, st_4, gt_4, cV_5, st_5, gt_5, cV_6, st_6, gt_6, cV_7, st_7, gt_7, cV_8, st_8, gt_8, cV_9, st_9, gt_9, cV_10, st_10, gt_10, cV_11, st_11, gt_11, cV_12, st_12, gt_12, cV_13, st_13, gt_13, cV_14, st_14, gt_14, cV_15, st_15, gt_15, cV_16, st_16, gt_16, cV_17, st_17, gt_17, cV_18, st_18, gt_18, cV_19, st_19, gt_19, cV_20, st_20, gt_20, cV_21, st_21, gt_21, cV_22, st_22, gt_22, cV_23, st_23, gt_23, tCh2_0, tCh2_e, tCh1_0, tCh0b_0, tCh0b_e, tCh0a_0, tCh0a_e, cChain_r, lcL_nil, lcL_c, ml1_0, ml2_t, ml2_f, ml2_b, ml3_0, ml5_0, ml4_0, ml4_e, ml4_c, nO_d, nO_n, nO_l, noOwn_n, noOwn_c, wipe_n, wipe_c, rsE_0, rest_n, rest_c, mkF_r, fo_0, fx_0, fin_nx', fin_rt', fin_exc', ob_0, og_0, od_0, outs_n, outs_c, lift_some, S_d, S_l, gAdd, gSub, gNeg, gNot, gLt, gLe, gGt, gGe, gEq_ii, gNe_ii, gLen, gAbs, gInt, tru_b, gMax2, gMin2, gGcd, gList, gTuple, gAll, gAny, bools_nil, bools_cons, gIs_bb, gIsN_bb, gPow, gMul, gFd, gMod, atI_0, atI_1, atI_2, atI_3, ixL_1, ixL_2, ixL_3, ixN_41, ixN_42, ixN_43, List.getElem?_cons_zero, List.getElem?_cons_succ, List.set_cons_zero, List.set_cons_succ, List.map_cons, List.map_nil, List.length_cons, List.length_nil, List.cons_append, List.nil_append, List.replicate_succ, List.replicate_zero, List.length_map, ↓cond_true, ↓cond_false, cond_true, cond_false, Option.map_some, beq_self_eq_true, List.contains_cons, List.contains_nil, Bool.or_false, Bool.false_or, Bool.or_true, Bool.and_true, Bool.true_and, Bool.not_true, Bool.not_false, Nat.reduceBEq, Nat.reduceAdd, Nat.reduceSub, Nat.reduceEqDiff, reduceCtorEq, Bool.false_eq_true, sq_nx, sq_rt, sq_bad, sq_bk, sq_ct, sq_exc, dz0, dz1, dz2, dz3, dz4, dz5, dz6, dz7, dz8, dz9, dz10, dz11, dz12, ic0, ic1, ic2, ic3, ic4, tAnd_ok, tOr_ok, tIf_ok, tIfS_ok, tAnd_exc, tOr_exc, tIf_exc, tIfS_exc, cAnd_t, cOr_t, cIf_t, cIfS_t, co_and, co_or, tAnd_cond, tOr_cond, tIfS_cond, sq_cond, fin_cond, rangeL_2, rangeL_3, List.all_cons, List.all_nil, List.any_cons, List.any_nil, id, rng1_t, rng2_t, Int.reduceToNat, if_true, ite_true, if_false, eq_self, decide_true, decide_false, isi_int_n, isi_int_b, isi_int_i, isi_int_s, isi_int_l, isi_int_t, isi_bool_n, isi_bool_b, isi_bool_i, isi_bool_s, isi_bool_l, isi_bool_t, isi_str_n, isi_str_b, isi_str_i, isi_str_s, isi_str_l, isi_str_t, isi_list_n, isi_list_b, isi_list_i, isi_list_s, isi_list_l, isi_list_t, isi_tuple_n, isi_tuple_b, isi_tuple_i, isi_tuple_s, isi_tuple_l, isi_tuple_t, isi_dict_n, isi_dict_b, isi_dict_i, isi_dict_s, isi_dict_l, isi_dict_t, nh_d, nh_l, nh_k, nh_o, nh_fn, nh_fc, ss3_0, sat_n, sat_0, sat_c, sup_n, sup_c, supc_0, fsg_c, fsg_n, fss_c, fss_n, pbs_0, pb_t, so_t, ssOf_t, gIx_l, gIx_t, S_k, Option.map_none, kr1_s rl, tn, e]
  unfold F_u_law_hull M_u_law_hull
  rw [mkF_r]
  show finish [] [.dat D] (cSeq _ _ [some (.dat D), none, none, none, none, none, none, none, none]) = _
  rw [cSeq_r, s1, sq_nx, cSeq_r, s2, sq_nx, cSeq_r, s3, sq_nx, cSeq_r, s4, sq_rt, fin_rt', ho, fo_0]
theorem lhull_spec {D : PyData} {cs P : List Cn} (hD : D = .list (cs.map pD) ∨ D = .tuple (cs.map pD)) (h : ∀ c ∈ cs, Sm c) (hl : cs.length ≤ 50000) (hP : Hl cs P) : F_u_law_hull [.dat D] = .ok (.dat (.tuple (P.map pD))) [.dat D] := by
  obtain ⟨o1, o2, o3⟩ := ordC_ok cs
  have hP' : Hl (ordC cs) P := hP.same fun c => (o2 c).symm
  have lc := lc_pairs hD hl
  have sm : ∀ c ∈ ordC cs, Sm c := fun c hc => h c ((o2 c).mp hc)
  generalize hs : ordC cs = s at o1 o2 o3 hP' sm
  match s, hP' with
  | [], hP' =>
    cases hP' with
    | one h _ => cases h
    | poly _ h _ _ _ => cases h
  | [p], hP' =>
    have e := hP'.uniq (Q := [p]) (.one (by simp) fun c hc => by simpa using hc)
    rw [e]
    exact lhull_one lc hs
  | p :: q :: l, hP' =>
    have hpq : p ≠ q := ((List.pairwise_cons.mp o1).1 q (by simp)).elim (fun h e => by rw [e] at h; omega) fun h e => by rw [e] at h; omega
    cases hP' with
    | one h1 h2 =>
      rename_i z
      exact absurd ((h2 p (by simp)).trans (h2 q (by simp)).symm) hpq
    | poly n h1 h2 h3 h4 =>
      rename_i p0 r
      have hp0 : p0 = p := le_anti (h2 p (by simp)) (by
        rcases List.mem_cons.mp h1 with e | e
        · rw [e]; exact le_rf _
        · exact Le.of ((List.pairwise_cons.mp o1).1 p0 e))
      subst hp0
      have hlen := (Hl.poly n h1 h2 h3 h4).len
      have hl2 : (p0 :: q :: l).length ≤ 50000 := Nat.le_trans o3 hl
      obtain ⟨ρ', e⟩ := lhull_loop (D := D) (s := p0 :: q :: l) (P := p0 :: r) (p0 := p0) rfl hpq sm (by omega) r [] p0 (rangeL 0 (p0 :: q :: l).length) (.lst ((p0 :: q :: l).map pD)) none none none none none none (.inl rfl) h4 (by simp) rfl rfl (List.nodup_cons.mp h3).1 (by rw [rangeL_length]; simp only [List.length_cons] at hlen ⊢; omega)
      refine lhull_more (L := (p0 :: q :: l).map pD) (ρ' := ρ') lc (by rw [hs]) (beq_eq_false_iff_ne.mpr (by rw [List.length_map, List.length_cons, List.length_cons]; omega)) atI_0 (by rw [List.length_map]; unfold Sml; omega) rfl (by rw [List.length_map]; exact e) rfl
structure PotOk (l : List PyData) : Prop where
  ex : ∃ (ns : List Int) (i : Nat) (c s : Int), l = [.list (ns.map .int), .int i, .int c, .int s] ∧ i ≤ ns.length ∧ 0 ≤ c ∧ 0 ≤ s ∧ s < 2147483647
theorem small_mul {i : Int} {j : Int} (h : i.natAbs < 2 ^ 64) (h2 : j.natAbs < 2 ^ 64) : decide (CMulW i j) = true := decide_eq_true (wide_mul h h2 (by decide) (by decide) (by decide))
theorem next_spec {l : List PyData} {m : Int} (h : PotOk l) (hm : 0 < m) (hm2 : m.natAbs.log2 < 9000) : ∃ r l', F_u_law_next [.lst l, .dat (.int m)] = .ok (.dat (.int r)) [.lst l', .dat (.int m)] ∧ 0 ≤ r ∧ r < m ∧ PotOk l' := by
  obtain ⟨ns, i, c, s, rfl, hi, hc, hs, hs2⟩ := h.ex
  have m0 : decide ((0 : Int) < m) = true := decide_eq_true hm
  have mf : ∀ x, decide (CFd x m) = true := fun x => decide_eq_true ⟨by omega, hm2⟩
  have p1 : decide (CPow 10 18) = true := by decide
  have p2 : ((10 : Int) ^ (18 : Nat)) = 1000000000000000000 := by decide
  have r0 : ∀ x : Int, 0 ≤ x % m := fun x => Int.emod_nonneg x (by omega)
  have r1 : ∀ x : Int, x % m < m := fun x => Int.emod_lt_of_pos x hm
  have p3 : decide ((0 : Int) < 2147483647) = true := by decide
  have p4 : decide ((0 : Int) < 2147483629) = true := by decide
  have p5 : ∀ x, decide (CFd x 127) = true := fun x => decide_eq_true ⟨by decide, by decide⟩
  have big : ∀ (c : Int), 0 < c → ∃ r l', F_u_law_next [.lst [.list (ns.map .int), .int i, .int c, .int s], .dat (.int m)] = .ok (.dat (.int r)) [.lst l', .dat (.int m)] ∧ 0 ≤ r ∧ r < m ∧ PotOk l' := fun c hc => by
    have c1' : (c == 0) = false := beq_eq_false_iff_ne.mpr (by omega)
    have c2' : decide (0 < c) = true := decide_eq_true hc
    unfold F_u_law_next M_u_law_next
    simp -implicitDefEqProofs only [k1_0, k1_e, k1_c, c1_r, k2b_0, k2b_e, k2b_c, k2a_0, k2a_e, k2a_c, c2_r, kN_0, kN_e, kN_c, cN_r, kTup_0, kTup_e, kTup_c, cTup_r, kLst_0, kLst_e, kLst_c, cLst_r, cK_r, caNil_r, kcb_0, kcb_e, kcb_c, kca_0, kca_e, kca_c, caCons_r, cxNil_r, kxb_0, kxb_e, kxb_c, kxa_0, kxa_e, kxa_c, cxD_r, cxS_r, kxs_0, cCall_r, kc1_0, kc1_e, kc2_0, kc3_0, kc3_e, kc3_c, ssOf_n, ss1_0, ss2_0, ssOf_d, ssOf_s, pb_n, pb_d, pb_s, so_n, so_d, so_s, di_n, di_1, di_c, cSeq_r, cNext_r, cRetN_r, cBrk_r, cCnt_r, kRet_0, kRet_e, kRet_c, cRet_r, kDrop_0, kDrop_e, kDrop_c, cDrop_r, kSet_0, kSet_e, kSet_c, cSet_r, kAs_0, kAsg_0, kAsg_e, kAsg_c, cAsg_r, cgName_r, cgNil_r, kgc_0, cgCons_r, cgTup_r, cgLst_r, kPar_0, kPar_e, kPar_c, cPar_r, kPar3_0, kPar3_e, kPar3_c, cPar3_r, kap3_0, kap2_0, kap2_e, kap2_c, kap1_0, cApp_r, ksi3_0, ksi4_0, ksi2_0, ksi2_e, ksi2_c, ksi1_0, ksi0_0, ksi0_e, ksi0_c, cSetIx_r, kix_l, kix_t, kix_s, kSq_0, kSq_e, kSq_c, ciSeq_r, kr1_0, kr1_e, kr1_c, ciRange1_r, kr2_0, kr2_e, kr2_c, ciRange2_r, kFor_0, kFor_e, kFor_c, cFor_r, forL_c, forL_n, kf1_0, kf2_nx, kf2_ct, kf2_bk, kf2_rt, kf2_exc, kf2_cond, kb_0, kbb_0, kb1_0, kb1_c, kb1_e, cB1_r, kb3_0, kb3_e, kb3_c, kb2_0, kb2_c, kb2_e, cB2_r, kres_0, res_d, res_s, kbn_0, cbN_r, kbD_0, kbD_e, kbD_c, cbD_r, kv_0, cV_r, kvm_0, cVm_r, cV_0, st_0, gt_0, cV_1, st_1, gt_1, cV_2, st_2, gt_2, cV_3, st_3, gt_3, cV_4, st_4, gt_4, cV_5, st_5, gt_5, cV_6, st_6, gt_6, cV_7, st_7, gt_7, cV_8, st_8, gt_8, cV_9, st_9, gt_9, cV_10, st_10, gt_10, cV_11, st_11, gt_11, cV_12, st_12, gt_12, cV_13, st_13, gt_13, cV_14, st_14, gt_14, cV_15, st_15, gt_15, cV_16, st_16, gt_16, cV_17, st_17, gt_17, cV_18, st_18, gt_18, cV_19, st_19, gt_19, cV_20, st_20, gt_20, cV_21, st_21, gt_21, cV_22, st_22, gt_22, cV_23, st_23, gt_23, tCh2_0, tCh2_e, tCh1_0, tCh0b_0, tCh0b_e, tCh0a_0, tCh0a_e, cChain_r, lcL_nil, lcL_c, ml1_0, ml2_t, ml2_f, ml2_b, ml3_0, ml5_0, ml4_0, ml4_e, ml4_c, cLc_r, nO_d, nO_n, nO_l, noOwn_n, noOwn_c, wipe_n, wipe_c, rsE_0, rest_n, rest_c, mkF_r, fo_0, fx_0, fin_nx', fin_rt', fin_exc', ob_0, og_0, od_0, outs_n, outs_c, lift_some, S_d, S_l, gAdd, gSub, gNeg, gNot, gLt, gLe, gGt, gGe, gEq_ii, gNe_ii, gLen, gAbs, gInt, tru_b, gMax2, gMin2, gGcd, gList, gTuple, gAll, gAny, bools_nil, bools_cons, gIs_bb, gIsN_bb, gPow, gMul, gFd, gMod, atI_0, atI_1, atI_2, atI_3, ixL_1, ixL_2, ixL_3, ixN_41, ixN_42, ixN_43, List.getElem?_cons_zero, List.getElem?_cons_succ, List.set_cons_zero, List.set_cons_succ, List.map_cons, List.map_nil, List.length_cons, List.length_nil, List.cons_append, List.nil_append, List.replicate_succ, List.replicate_zero, List.length_map, ↓cond_true, ↓cond_false, cond_true, cond_false, Option.map_some, beq_self_eq_true, List.contains_cons, List.contains_nil, Bool.or_false, Bool.false_or, Bool.or_true, Bool.and_true, Bool.true_and, Bool.not_true, Bool.not_false, Nat.reduceBEq, Nat.reduceAdd, Nat.reduceSub, Nat.reduceEqDiff, reduceCtorEq, Bool.false_eq_true, sq_nx, sq_rt, sq_bad, sq_bk, sq_ct, sq_exc, dz0, dz1, dz2, dz3, dz4, dz5, dz6, dz7, dz8, dz9, dz10, dz11, dz12, ic0, ic1, ic2, ic3, ic4, tAnd_ok, tOr_ok, tIf_ok, tIfS_ok, tAnd_exc, tOr_exc, tIf_exc, tIfS_exc, cAnd_t, cOr_t, cIf_t, cIfS_t, co_and, co_or, tAnd_cond, tOr_cond, tIfS_cond, sq_cond, fin_cond, rangeL_2, rangeL_3, List.all_cons, List.all_nil, List.any_cons, List.any_nil, id, rng1_t, rng2_t, Int.reduceToNat, if_true, ite_true, if_false, eq_self, decide_true, decide_false, isi_int_n, isi_int_b, isi_int_i, isi_int_s, isi_int_l, isi_int_t, isi_bool_n, isi_bool_b, isi_bool_i, isi_bool_s, isi_bool_l, isi_bool_t, isi_str_n, isi_str_b, isi_str_i, isi_str_s, isi_str_l, isi_str_t, isi_list_n, isi_list_b, isi_list_i, isi_list_s, isi_list_l, isi_list_t, isi_tuple_n, isi_tuple_b, isi_tuple_i, isi_tuple_s, isi_tuple_l, isi_tuple_t, isi_dict_n, isi_dict_b, isi_dict_i, isi_dict_s, isi_dict_l, isi_dict_t, nh_d, nh_l, nh_k, nh_o, nh_fn, nh_fc, ss3_0, sat_n, sat_0, sat_c, sup_n, sup_c, supc_0, fsg_c, fsg_n, fss_c, fss_n, pbs_0, pb_t, so_t, ssOf_t, gIx_l, gIx_t, S_k, Option.map_none, c1', c2', m0, mf]
    refine ⟨_, _, rfl, r0 _, r1 _, ⟨ns, i, _, s, rfl, hi, ?_, hs, hs2⟩⟩
    rw [Int.fdiv_eq_ediv_of_nonneg _ (by omega)]
    exact Int.ediv_nonneg (by omega) (by omega)
  by_cases c0 : c = 0
  · subst c0
    have z0 : decide ((0 : Int) < 0) = false := by decide
    by_cases hlt : i < ns.length
    · have hx : atI (ns.map PyData.int) (i : Int) = some (.int ns[i]) := by rw [atI_lt (by simpa using hlt)]; simp
      have hl : decide ((i : Int) < (ns.length : Int)) = true := decide_eq_true (by omega)
      obtain ⟨v, hv⟩ : ∃ v, v = (if ns[i] < 0 then -ns[i] else ns[i]) := ⟨_, rfl⟩
      have hv0 : 0 ≤ v := by rw [hv]; split <;> omega
      by_cases hs18 : v < 1000000000000000000
      · have d18 : decide (v < 1000000000000000000) = true := decide_eq_true hs18
        unfold F_u_law_next M_u_law_next
        simp -implicitDefEqProofs only [k1_0, k1_e, k1_c, c1_r, k2b_0, k2b_e, k2b_c, k2a_0, k2a_e, k2a_c, c2_r, kN_0, kN_e, kN_c, cN_r, kTup_0, kTup_e, kTup_c, cTup_r, kLst_0, kLst_e, kLst_c, cLst_r, cK_r, caNil_r, kcb_0, kcb_e, kcb_c, kca_0, kca_e, kca_c, caCons_r, cxNil_r, kxb_0, kxb_e, kxb_c, kxa_0, kxa_e, kxa_c, cxD_r, cxS_r, kxs_0, cCall_r, kc1_0, kc1_e, kc2_0, kc3_0, kc3_e, kc3_c, ssOf_n, ss1_0, ss2_0, ssOf_d, ssOf_s, pb_n, pb_d, pb_s, so_n, so_d, so_s, di_n, di_1, di_c, cSeq_r, cNext_r, cRetN_r, cBrk_r, cCnt_r, kRet_0, kRet_e, kRet_c, cRet_r, kDrop_0, kDrop_e, kDrop_c, cDrop_r, kSet_0, kSet_e, kSet_c, cSet_r, kAs_0, kAsg_0, kAsg_e, kAsg_c, cAsg_r, cgName_r, cgNil_r, kgc_0, cgCons_r, cgTup_r, cgLst_r, kPar_0, kPar_e, kPar_c, cPar_r, kPar3_0, kPar3_e, kPar3_c, cPar3_r, kap3_0, kap2_0, kap2_e, kap2_c, kap1_0, cApp_r, ksi3_0, ksi4_0, ksi2_0, ksi2_e, ksi2_c, ksi1_0, ksi0_0, ksi0_e, ksi0_c, cSetIx_r, kix_l, kix_t, kix_s, kSq_0, kSq_e, kSq_c, ciSeq_r, kr1_0, kr1_e, kr1_c, ciRange1_r, kr2_0, kr2_e, kr2_c, ciRange2_r, kFor_0, kFor_e, kFor_c, cFor_r, forL_c, forL_n, kf1_0, kf2_nx, kf2_ct, kf2_bk, kf2_rt, kf2_exc, kf2_cond, kb_0, kbb_0, kb1_0, kb1_c, kb1_e, cB1_r, kb3_0, kb3_e, kb3_c, kb2_0, kb2_c, kb2_e, cB2_r, kres_0, res_d, res_s, kbn_0, cbN_r, kbD_0, kbD_e, kbD_c, cbD_r, kv_0, cV_r, kvm_0, cVm_r, cV_0, st_0, gt_0, cV_1, st_1, gt_1, cV_2, st_2, gt_2, cV_3, st_3, gt_3, cV_4, st_4, gt_4, cV_5, st_5, gt_5, cV_6, st_6, gt_6, cV_7, st_7, gt_7, cV_8, st_8, gt_8, cV_9, st_9, gt_9, cV_10, st_10, gt_10, cV_11, st_11, gt_11, cV_12, st_12, gt_12, cV_13, st_13, gt_13, cV_14, st_14, gt_14, cV_15, st_15, gt_15, cV_16, st_16, gt_16, cV_17, st_17, gt_17, cV_18, st_18, gt_18, cV_19, st_19, gt_19, cV_20, st_20, gt_20, cV_21, st_21, gt_21, cV_22, st_22, gt_22, cV_23, st_23, gt_23, tCh2_0, tCh2_e, tCh1_0, tCh0b_0, tCh0b_e, tCh0a_0, tCh0a_e, cChain_r, lcL_nil, lcL_c, ml1_0, ml2_t, ml2_f, ml2_b, ml3_0, ml5_0, ml4_0, ml4_e, ml4_c, cLc_r, nO_d, nO_n, nO_l, noOwn_n, noOwn_c, wipe_n, wipe_c, rsE_0, rest_n, rest_c, mkF_r, fo_0, fx_0, fin_nx', fin_rt', fin_exc', ob_0, og_0, od_0, outs_n, outs_c, lift_some, S_d, S_l, gAdd, gSub, gNeg, gNot, gLt, gLe, gGt, gGe, gEq_ii, gNe_ii, gLen, gAbs, gInt, tru_b, gMax2, gMin2, gGcd, gList, gTuple, gAll, gAny, bools_nil, bools_cons, gIs_bb, gIsN_bb, gPow, gMul, gFd, gMod, atI_0, atI_1, atI_2, atI_3, ixL_1, ixL_2, ixL_3, ixN_41, ixN_42, ixN_43, List.getElem?_cons_zero, List.getElem?_cons_succ, List.set_cons_zero, List.set_cons_succ, List.map_cons, List.map_nil, List.length_cons, List.length_nil, List.cons_append, List.nil_append, List.replicate_succ, List.replicate_zero, List.length_map, ↓cond_true, ↓cond_false, cond_true, cond_false, Option.map_some, beq_self_eq_true, List.contains_cons, List.contains_nil, Bool.or_false, Bool.false_or, Bool.or_true, Bool.and_true, Bool.true_and, Bool.not_true, Bool.not_false, Nat.reduceBEq, Nat.reduceAdd, Nat.reduceSub, Nat.reduceEqDiff, reduceCtorEq, Bool.false_eq_true, sq_nx, sq_rt, sq_bad, sq_bk, sq_ct, sq_exc, dz0, dz1, dz2, dz3, dz4, dz5, dz6, dz7, dz8, dz9, dz10, dz11, dz12, ic0, ic1, ic2, ic3, ic4, tAnd_ok, tOr_ok, tIf_ok, tIfS_ok, tAnd_exc, tOr_exc, tIf_exc, tIfS_exc, cAnd_t, cOr_t, cIf_t, cIfS_t, co_and, co_or, tAnd_cond, tOr_cond, tIfS_cond, sq_cond, fin_cond, rangeL_2, rangeL_3, List.all_cons, List.all_nil, List.any_cons, List.any_nil, id, rng1_t, rng2_t, Int.reduceToNat, if_true, ite_true, if_false, eq_self, decide_true, decide_false, isi_int_n, isi_int_b, isi_int_i, isi_int_s, isi_int_l, isi_int_t, isi_bool_n, isi_bool_b, isi_bool_i, isi_bool_s, isi_bool_l, isi_bool_t, isi_str_n, isi_str_b, isi_str_i, isi_str_s, isi_str_l, isi_str_t, isi_list_n, isi_list_b, isi_list_i, isi_list_s, isi_list_l, isi_list_t, isi_tuple_n, isi_tuple_b, isi_tuple_i, isi_tuple_s, isi_tuple_l, isi_tuple_t, isi_dict_n, isi_dict_b, isi_dict_i, isi_dict_s, isi_dict_l, isi_dict_t, nh_d, nh_l, nh_k, nh_o, nh_fn, nh_fc, ss3_0, sat_n, sat_0, sat_c, sup_n, sup_c, supc_0, fsg_c, fsg_n, fss_c, fss_n, pbs_0, pb_t, so_t, ssOf_t, gIx_l, gIx_t, S_k, Option.map_none, hl, hx, ← hv, p1, p2, d18, m0]
        exact ⟨_, _, rfl, r0 _, r1 _, ⟨ns, i + 1, 0, s, by simp, by omega, by omega, hs, hs2⟩⟩
      · have d18 : decide (v < 1000000000000000000) = false := decide_eq_false hs18
        have c2' : decide (0 < v) = true := decide_eq_true (by omega)
        unfold F_u_law_next M_u_law_next
        simp -implicitDefEqProofs only [k1_0, k1_e, k1_c, c1_r, k2b_0, k2b_e, k2b_c, k2a_0, k2a_e, k2a_c, c2_r, kN_0, kN_e, kN_c, cN_r, kTup_0, kTup_e, kTup_c, cTup_r, kLst_0, kLst_e, kLst_c, cLst_r, cK_r, caNil_r, kcb_0, kcb_e, kcb_c, kca_0, kca_e, kca_c, caCons_r, cxNil_r, kxb_0, kxb_e, kxb_c, kxa_0, kxa_e, kxa_c, cxD_r, cxS_r, kxs_0, cCall_r, kc1_0, kc1_e, kc2_0, kc3_0, kc3_e, kc3_c, ssOf_n, ss1_0, ss2_0, ssOf_d, ssOf_s, pb_n, pb_d, pb_s, so_n, so_d, so_s, di_n, di_1, di_c, cSeq_r, cNext_r, cRetN_r, cBrk_r, cCnt_r, kRet_0, kRet_e, kRet_c, cRet_r, kDrop_0, kDrop_e, kDrop_c, cDrop_r, kSet_0, kSet_e, kSet_c, cSet_r, kAs_0, kAsg_0, kAsg_e, kAsg_c, cAsg_r, cgName_r, cgNil_r, kgc_0, cgCons_r, cgTup_r, cgLst_r, kPar_0, kPar_e, kPar_c, cPar_r, kPar3_0, kPar3_e, kPar3_c, cPar3_r, kap3_0, kap2_0, kap2_e, kap2_c, kap1_0, cApp_r, ksi3_0, ksi4_0, ksi2_0, ksi2_e, ksi2_c, ksi1_0, ksi0_0, ksi0_e, ksi0_c, cSetIx_r, kix_l, kix_t, kix_s, kSq_0, kSq_e, kSq_c, ciSeq_r, kr1_0, kr1_e, kr1_c, ciRange1_r, kr2_0, kr2_e, kr2_c, ciRange2_r, kFor_0, kFor_e, kFor_c, cFor_r, forL_c, forL_n, kf1_0, kf2_nx, kf2_ct, kf2_bk, kf2_rt, kf2_exc, kf2_cond, kb_0, kbb_0, kb1_0, kb1_c, kb1_e, cB1_r, kb3_0, kb3_e, kb3_c, kb2_0, kb2_c, kb2_e, cB2_r, kres_0, res_d, res_s, kbn_0, cbN_r, kbD_0, kbD_e, kbD_c, cbD_r, kv_0, cV_r, kvm_0, cVm_r, cV_0, st_0, gt_0, cV_1, st_1, gt_1, cV_2, st_2, gt_2, cV_3, st_3, gt_3, cV_4, st_4, gt_4, cV_5, st_5, gt_5, cV_6, st_6, gt_6, cV_7, st_7, gt_7, cV_8, st_8, gt_8, cV_9, st_9, gt_9, cV_10, st_10, gt_10, cV_11, st_11, gt_11, cV_12, st_12, gt_12, cV_13, st_13, gt_13, cV_14, st_14, gt_14, cV_15, st_15, gt_15, cV_16, st_16, gt_16, cV_17, st_17, gt_17, cV_18, st_18, gt_18, cV_19, st_19, gt_19, cV_20, st_20, gt_20, cV_21, st_21, gt_21, cV_22, st_22, gt_22, cV_23, st_23, gt_23, tCh2_0, tCh2_e, tCh1_0, tCh0b_0, tCh0b_e, tCh0a_0, tCh0a_e, cChain_r, lcL_nil, lcL_c, ml1_0, ml2_t, ml2_f, ml2_b, ml3_0, ml5_0, ml4_0, ml4_e, ml4_c, cLc_r, nO_d, nO_n, nO_l, noOwn_n, noOwn_c, wipe_n, wipe_c, rsE_0, rest_n, rest_c, mkF_r, fo_0, fx_0, fin_nx', fin_rt', fin_exc', ob_0, og_0, od_0, outs_n, outs_c, lift_some, S_d, S_l, gAdd, gSub, gNeg, gNot, gLt, gLe, gGt, gGe, gEq_ii, gNe_ii, gLen, gAbs, gInt, tru_b, gMax2, gMin2, gGcd, gList, gTuple, gAll, gAny, bools_nil, bools_cons, gIs_bb, gIsN_bb, gPow, gMul, gFd, gMod, atI_0, atI_1, atI_2, atI_3, ixL_1, ixL_2, ixL_3, ixN_41, ixN_42, ixN_43, List.getElem?_cons_zero, List.getElem?_cons_succ, List.set_cons_zero, List.set_cons_succ, List.map_cons, List.map_nil, List.length_cons, List.length_nil, List.cons_append, List.nil_append, List.replicate_succ, List.replicate_zero, List.length_map, ↓cond_true, ↓cond_false, cond_true, cond_false, Option.map_some, beq_self_eq_true, List.contains_cons, List.contains_nil, Bool.or_false, Bool.false_or, Bool.or_true, Bool.and_true, Bool.true_and, Bool.not_true, Bool.not_false, Nat.reduceBEq, Nat.reduceAdd, Nat.reduceSub, Nat.reduceEqDiff, reduceCtorEq, Bool.false_eq_true, sq_nx, sq_rt, sq_bad, sq_bk, sq_ct, sq_exc, dz0, dz1, dz2, dz3, dz4, dz5, dz6, dz7, dz8, dz9, dz10, dz11, dz12, ic0, ic1, ic2, ic3, ic4, tAnd_ok, tOr_ok, tIf_ok, tIfS_ok, tAnd_exc, tOr_exc, tIf_exc, tIfS_exc, cAnd_t, cOr_t, cIf_t, cIfS_t, co_and, co_or, tAnd_cond, tOr_cond, tIfS_cond, sq_cond, fin_cond, rangeL_2, rangeL_3, List.all_cons, List.all_nil, List.any_cons, List.any_nil, id, rng1_t, rng2_t, Int.reduceToNat, if_true, ite_true, if_false, eq_self, decide_true, decide_false, isi_int_n, isi_int_b, isi_int_i, isi_int_s, isi_int_l, isi_int_t, isi_bool_n, isi_bool_b, isi_bool_i, isi_bool_s, isi_bool_l, isi_bool_t, isi_str_n, isi_str_b, isi_str_i, isi_str_s, isi_str_l, isi_str_t, isi_list_n, isi_list_b, isi_list_i, isi_list_s, isi_list_l, isi_list_t, isi_tuple_n, isi_tuple_b, isi_tuple_i, isi_tuple_s, isi_tuple_l, isi_tuple_t, isi_dict_n, isi_dict_b, isi_dict_i, isi_dict_s, isi_dict_l, isi_dict_t, nh_d, nh_l, nh_k, nh_o, nh_fn, nh_fc, ss3_0, sat_n, sat_0, sat_c, sup_n, sup_c, supc_0, fsg_c, fsg_n, fss_c, fss_n, pbs_0, pb_t, so_t, ssOf_t, gIx_l, gIx_t, S_k, Option.map_none, hl, hx, ← hv, p1, p2, d18, m0, c2', mf]
        refine ⟨_, _, rfl, r0 _, r1 _, ⟨ns, i + 1, _, s, rfl, by omega, ?_, hs, hs2⟩⟩
        rw [Int.fdiv_eq_ediv_of_nonneg _ (by omega)]
        exact Int.ediv_nonneg (by omega) (by omega)
    · have hl : decide ((i : Int) < (ns.length : Int)) = false := decide_eq_false (by omega)
      have mu1 : decide (CMulW s 48271) = true := small_mul (by omega) (by decide)
      obtain ⟨t, ht⟩ : ∃ t, t = (s * 48271 + 12345) % 2147483647 := ⟨_, rfl⟩
      have ht0 : 0 ≤ t ∧ t < 2147483647 := by omega
      have mu2 : decide (CMulW t 69621) = true := small_mul (by omega) (by decide)
      unfold F_u_law_next M_u_law_next
      simp -implicitDefEqProofs only [k1_0, k1_e, k1_c, c1_r, k2b_0, k2b_e, k2b_c, k2a_0, k2a_e, k2a_c, c2_r, kN_0, kN_e, kN_c, cN_r, kTup_0, kTup_e, kTup_c, cTup_r, kLst_0, kLst_e, kLst_c, cLst_r, cK_r, caNil_r, kcb_0, kcb_e, kcb_c, kca_0, kca_e, kca_c, caCons_r, cxNil_r, kxb_0, kxb_e, kxb_c, kxa_0, kxa_e, kxa_c, cxD_r, cxS_r, kxs_0, cCall_r, kc1_0, kc1_e, kc2_0, kc3_0, kc3_e, kc3_c, ssOf_n, ss1_0, ss2_0, ssOf_d, ssOf_s, pb_n, pb_d, pb_s, so_n, so_d, so_s, di_n, di_1, di_c, cSeq_r, cNext_r, cRetN_r, cBrk_r, cCnt_r, kRet_0, kRet_e, kRet_c, cRet_r, kDrop_0, kDrop_e, kDrop_c, cDrop_r, kSet_0, kSet_e, kSet_c, cSet_r, kAs_0, kAsg_0, kAsg_e, kAsg_c, cAsg_r, cgName_r, cgNil_r, kgc_0, cgCons_r, cgTup_r, cgLst_r, kPar_0, kPar_e, kPar_c, cPar_r, kPar3_0, kPar3_e, kPar3_c, cPar3_r, kap3_0, kap2_0, kap2_e, kap2_c, kap1_0, cApp_r, ksi3_0, ksi4_0, ksi2_0, ksi2_e, ksi2_c, ksi1_0, ksi0_0, ksi0_e, ksi0_c, cSetIx_r, kix_l, kix_t, kix_s, kSq_0, kSq_e, kSq_c, ciSeq_r, kr1_0, kr1_e, kr1_c, ciRange1_r, kr2_0, kr2_e, kr2_c, ciRange2_r, kFor_0, kFor_e, kFor_c, cFor_r, forL_c, forL_n, kf1_0, kf2_nx, kf2_ct, kf2_bk, kf2_rt, kf2_exc, kf2_cond, kb_0, kbb_0, kb1_0, kb1_c, kb1_e, cB1_r, kb3_0, kb3_e, kb3_c, kb2_0, kb2_c, kb2_e, cB2_r, kres_0, res_d, res_s, kbn_0, cbN_r, kbD_0, kbD_e, kbD_c, cbD_r, kv_0, cV_r, kvm_0, cVm_r, cV_0, st_0, gt_0, cV_1, st_1, gt_1, cV_2, st_2, gt_2, cV_3, st_3, gt_3, cV_4, st_4, gt_4, cV_5, st_5, gt_5, cV_6, st_6, gt_6, cV_7, st_7, gt_7, cV_8, st_8, gt_8, cV_9, st_9, gt_9, cV_10, st_10, gt_10, cV_11, st_11, gt_11, cV_12, st_12, gt_12, cV_13, st_13, gt_13, cV_14, st_14, gt_14, cV_15, st_15, gt_15, cV_16, st_16, gt_16, cV_17, st_17, gt_17, cV_18, st_18, gt_18, cV_19, st_19, gt_19, cV_20, st_20, gt_20, cV_21, st_21, gt_21, cV_22, st_22, gt_22, cV_23, st_23, gt_23, tCh2_0, tCh2_e, tCh1_0, tCh0b_0, tCh0b_e, tCh0a_0, tCh0a_e, cChain_r, lcL_nil, lcL_c, ml1_0, ml2_t, ml2_f, ml2_b, ml3_0, ml5_0, ml4_0, ml4_e, ml4_c, cLc_r, nO_d, nO_n, nO_l, noOwn_n, noOwn_c, wipe_n, wipe_c, rsE_0, rest_n, rest_c, mkF_r, fo_0, fx_0, fin_nx', fin_rt', fin_exc', ob_0, og_0, od_0, outs_n, outs_c, lift_some, S_d, S_l, gAdd, gSub, gNeg, gNot, gLt, gLe, gGt, gGe, gEq_ii, gNe_ii, gLen, gAbs, gInt, tru_b, gMax2, gMin2, gGcd, gList, gTuple, gAll, gAny, bools_nil, bools_cons, gIs_bb, gIsN_bb, gPow, gMul, gFd, gMod, atI_0, atI_1, atI_2, atI_3, ixL_1, ixL_2, ixL_3, ixN_41, ixN_42, ixN_43, List.getElem?_cons_zero, List.getElem?_cons_succ, List.set_cons_zero, List.set_cons_succ, List.map_cons, List.map_nil, List.length_cons, List.length_nil, List.cons_append, List.nil_append, List.replicate_succ, List.replicate_zero, List.length_map, ↓cond_true, ↓cond_false, cond_true, cond_false, Option.map_some, beq_self_eq_true, List.contains_cons, List.contains_nil, Bool.or_false, Bool.false_or, Bool.or_true, Bool.and_true, Bool.true_and, Bool.not_true, Bool.not_false, Nat.reduceBEq, Nat.reduceAdd, Nat.reduceSub, Nat.reduceEqDiff, reduceCtorEq, Bool.false_eq_true, sq_nx, sq_rt, sq_bad, sq_bk, sq_ct, sq_exc, dz0, dz1, dz2, dz3, dz4, dz5, dz6, dz7, dz8, dz9, dz10, dz11, dz12, ic0, ic1, ic2, ic3, ic4, tAnd_ok, tOr_ok, tIf_ok, tIfS_ok, tAnd_exc, tOr_exc, tIf_exc, tIfS_exc, cAnd_t, cOr_t, cIf_t, cIfS_t, co_and, co_or, tAnd_cond, tOr_cond, tIfS_cond, sq_cond, fin_cond, rangeL_2, rangeL_3, List.all_cons, List.all_nil, List.any_cons, List.any_nil, id, rng1_t, rng2_t, Int.reduceToNat, if_true, ite_true, if_false, eq_self, decide_true, decide_false, isi_int_n, isi_int_b, isi_int_i, isi_int_s, isi_int_l, isi_int_t, isi_bool_n, isi_bool_b, isi_bool_i, isi_bool_s, isi_bool_l, isi_bool_t, isi_str_n, isi_str_b, isi_str_i, isi_str_s, isi_str_l, isi_str_t, isi_list_n, isi_list_b, isi_list_i, isi_list_s, isi_list_l, isi_list_t, isi_tuple_n, isi_tuple_b, isi_tuple_i, isi_tuple_s, isi_tuple_l, isi_tuple_t, isi_dict_n, isi_dict_b, isi_dict_i, isi_dict_s, isi_dict_l, isi_dict_t, nh_d, nh_l, nh_k, nh_o, nh_fn, nh_fc, ss3_0, sat_n, sat_0, sat_c, sup_n, sup_c, supc_0, fsg_c, fsg_n, fss_c, fss_n, pbs_0, pb_t, so_t, ssOf_t, gIx_l, gIx_t, S_k, Option.map_none, hl, z0, mu1, p3, ← ht, mu2, p5, p4, m0]
      exact ⟨_, _, rfl, r0 _, r1 _, ⟨ns, i, 0, t, rfl, hi, by omega, ht0.1, ht0.2⟩⟩
  · exact big c (by omega)
theorem pot_spec (ns : List Int) : ∃ l, F_u_law_pot [.dat (.list (ns.map .int))] = .ok (.lst l) [.dat (.list (ns.map .int))] ∧ PotOk l := by
  obtain ⟨ρ', e, _, s, x, rfl, h0, h1⟩ := forL_nx (g := cgName 2) (body := L_u_law_pot_0)
    (fun ds ρ => (∃ ms : List Int, ds = ms.map .int) ∧ ∃ (s : Int) (x : Option S), ρ = [some (.dat (.list (ns.map .int))), some (.dat (.int s)), x] ∧ 0 ≤ s ∧ s < 2147483647)
    (fun d ds ρ h => by
      obtain ⟨⟨ms, hm⟩, s, x, rfl, h0, h1⟩ := h
      cases ms with
      | nil => cases hm
      | cons m ms =>
        cases hm
        have mu : decide (CMulW s 31) = true := small_mul (by omega) (by decide)
        have p3 : decide ((0 : Int) < 2147483647) = true := by decide
        refine ⟨_, _, rfl, ?_, ⟨ms, rfl⟩, (s * 31 + m) % 2147483647, some (.dat (.int m)), rfl, by omega, by omega⟩
        simp only [L_u_law_pot_0, k1_0, k1_e, k1_c, c1_r, k2b_0, k2b_e, k2b_c, k2a_0, k2a_e, k2a_c, c2_r, kN_0, kN_e, kN_c, cN_r, kTup_0, kTup_e, kTup_c, cTup_r, kLst_0, kLst_e, kLst_c, cLst_r, cK_r, caNil_r, kcb_0, kcb_e, kcb_c, kca_0, kca_e, kca_c, caCons_r, cxNil_r, kxb_0, kxb_e, kxb_c, kxa_0, kxa_e, kxa_c, cxD_r, cxS_r, kxs_0, cCall_r, kc1_0, kc1_e, kc2_0, kc3_0, kc3_e, kc3_c, ssOf_n, ss1_0, ss2_0, ssOf_d, ssOf_s, pb_n, pb_d, pb_s, so_n, so_d, so_s, di_n, di_1, di_c, cSeq_r, cNext_r, cRetN_r, cBrk_r, cCnt_r, kRet_0, kRet_e, kRet_c, cRet_r, kDrop_0, kDrop_e, kDrop_c, cDrop_r, kSet_0, kSet_e, kSet_c, cSet_r, kAs_0, kAsg_0, kAsg_e, kAsg_c, cAsg_r, cgName_r, cgNil_r, kgc_0, cgCons_r, cgTup_r, cgLst_r, kPar_0, kPar_e, kPar_c, cPar_r, kPar3_0, kPar3_e, kPar3_c, cPar3_r, kap3_0, kap2_0, kap2_e, kap2_c, kap1_0, cApp_r, ksi3_0, ksi4_0, ksi2_0, ksi2_e, ksi2_c, ksi1_0, ksi0_0, ksi0_e, ksi0_c, cSetIx_r, kix_l, kix_t, kix_s, kSq_0, kSq_e, kSq_c, ciSeq_r, kr1_0, kr1_e, kr1_c, ciRange1_r, kr2_0, kr2_e, kr2_c, ciRange2_r, kFor_0, kFor_e, kFor_c, cFor_r, forL_c, forL_n, kf1_0, kf2_nx, kf2_ct, kf2_bk, kf2_rt, kf2_exc, kf2_cond, kb_0, kbb_0, kb1_0, kb1_c, kb1_e, cB1_r, kb3_0, kb3_e, kb3_c, kb2_0, kb2_c, kb2_e, cB2_r, kres_0, res_d, res_s, kbn_0, cbN_r, kbD_0, kbD_e, kbD_c, cbD_r, kv_0, cV_r, kvm_0, cVm_r, cV_0, st_0, gt_0, cV_1, st_1, gt_1, cV_2, st_2, gt_2, cV_3, st_3, gt_3, cV_4, st_4, gt_4, cV_5, st_5, gt_5, cV_6, st_6, gt_6, cV_7, st_7, gt_7, cV_8, st_8, gt_8, cV_9, st_9, gt_9, cV_10, st_10, gt_10, cV_11, st_11, gt_11, cV_12, st_12, gt_12, cV_13, st_13, gt_13, cV_14, st_14, gt_14, cV_15, st_15, gt_15, cV_16, st_16, gt_16, cV_17, st_17, gt_17, cV_18, st_18, gt_18, cV_19, st_19, gt_19, cV_20, st_20, gt_20, cV_21, st_21, gt_21, cV_22, st_22, gt_22, cV_23, st_23, gt_23, tCh2_0, tCh2_e, tCh1_0, tCh0b_0, tCh0b_e, tCh0a_0, tCh0a_e, cChain_r, lcL_nil, lcL_c, ml1_0, ml2_t, ml2_f, ml2_b, ml3_0, ml5_0, ml4_0, ml4_e, ml4_c, cLc_r, nO_d, nO_n, nO_l, noOwn_n, noOwn_c, wipe_n, wipe_c, rsE_0, rest_n, rest_c, mkF_r, fo_0, fx_0, fin_nx', fin_rt', fin_exc', ob_0, og_0, od_0, outs_n, outs_c, lift_some, S_d, S_l, gAdd, gSub, gNeg, gNot, gLt, gLe, gGt, gGe, gEq_ii, gNe_ii, gLen, gAbs, gInt, tru_b, gMax2, gMin2, gGcd, gList, gTuple, gAll, gAny, bools_nil, bools_cons, gIs_bb, gIsN_bb, gPow, gMul, gFd, gMod, atI_0, atI_1, atI_2, atI_3, ixL_1, ixL_2, ixL_3, ixN_41, ixN_42, ixN_43, List.getElem?_cons_zero, List.getElem?_cons_succ, List.set_cons_zero, List.set_cons_succ, List.map_cons, List.map_nil, List.length_cons, List.length_nil, List.cons_append, List.nil_append, List.replicate_succ, List.replicate_zero, List.length_map, ↓cond_true, ↓cond_false, cond_true, cond_false, Option.map_some, beq_self_eq_true, List.contains_cons, List.contains_nil, Bool.or_false, Bool.false_or, Bool.or_true, Bool.and_true, Bool.true_and, Bool.not_true, Bool.not_false, Nat.reduceBEq, Nat.reduceAdd, Nat.reduceSub, Nat.reduceEqDiff, reduceCtorEq, Bool.false_eq_true, sq_nx, sq_rt, sq_bad, sq_bk, sq_ct, sq_exc, dz0, dz1, dz2, dz3, dz4, dz5, dz6, dz7, dz8, dz9, dz10, dz11, dz12, ic0, ic1, ic2, ic3, ic4, tAnd_ok, tOr_ok, tIf_ok, tIfS_ok, tAnd_exc, tOr_exc, tIf_exc, tIfS_exc, cAnd_t, cOr_t, cIf_t, cIfS_t, co_and, co_or, tAnd_cond, tOr_cond, tIfS_cond, sq_cond, fin_cond, rangeL_2, rangeL_3, List.all_cons, List.all_nil, List.any_cons, List.any_nil, id, rng1_t, rng2_t, Int.reduceToNat, if_true, ite_true, if_false, eq_self, decide_true, decide_false, isi_int_n, isi_int_b, isi_int_i, isi_int_s, isi_int_l, isi_int_t, isi_bool_n, isi_bool_b, isi_bool_i, isi_bool_s, isi_bool_l, isi_bool_t, isi_str_n, isi_str_b, isi_str_i, isi_str_s, isi_str_l, isi_str_t, isi_list_n, isi_list_b, isi_list_i, isi_list_s, isi_list_l, isi_list_t, isi_tuple_n, isi_tuple_b, isi_tuple_i, isi_tuple_s, isi_tuple_l, isi_tuple_t, isi_dict_n, isi_dict_b, isi_dict_i, isi_dict_s, isi_dict_l, isi_dict_t, nh_d, nh_l, nh_k, nh_o, nh_fn, nh_fc, ss3_0, sat_n, sat_0, sat_c, sup_n, sup_c, supc_0, fsg_c, fsg_n, fss_c, fss_n, pbs_0, pb_t, so_t, ssOf_t, gIx_l, gIx_t, S_k, Option.map_none, mu, p3]) (ns.map .int) [some (.dat (.list (ns.map .int))), some (.dat (.int 1)), none] ⟨⟨ns, rfl⟩, 1, none, rfl, by omega, by omega⟩
  refine ⟨[.list (ns.map .int), .int (0 : Nat), .int 0, .int s], ?_, ⟨ns, 0, 0, s, rfl, by omega, by omega, h0, h1⟩⟩
  unfold F_u_law_pot M_u_law_pot
  simp -implicitDefEqProofs only [k1_0, k1_e, k1_c, c1_r, k2b_0, k2b_e, k2b_c, k2a_0, k2a_e, k2a_c, c2_r, kN_0, kN_e, kN_c, cN_r, kTup_0, kTup_e, kTup_c, cTup_r, kLst_0, kLst_e, kLst_c, cLst_r, cK_r, caNil_r, kcb_0, kcb_e, kcb_c, kca_0, kca_e, kca_c, caCons_r, cxNil_r, kxb_0, kxb_e, kxb_c, kxa_0, kxa_e, kxa_c, cxD_r, cxS_r, kxs_0, cCall_r, kc1_0, kc1_e, kc2_0, kc3_0, kc3_e, kc3_c, ssOf_n, ss1_0, ss2_0, ssOf_d, ssOf_s, pb_n, pb_d, pb_s, so_n, so_d, so_s, di_n, di_1, di_c, cSeq_r, cNext_r, cRetN_r, cBrk_r, cCnt_r, kRet_0, kRet_e, kRet_c, cRet_r, kDrop_0, kDrop_e, kDrop_c, cDrop_r, kSet_0, kSet_e, kSet_c, cSet_r, kAs_0, kAsg_0, kAsg_e, kAsg_c, cAsg_r, cgName_r, cgNil_r, kgc_0, cgCons_r, cgTup_r, cgLst_r, kPar_0, kPar_e, kPar_c, cPar_r, kPar3_0, kPar3_e, kPar3_c, cPar3_r, kap3_0, kap2_0, kap2_e, kap2_c, kap1_0, cApp_r, ksi3_0, ksi4_0, ksi2_0, ksi2_e, ksi2_c, ksi1_0, ksi0_0, ksi0_e, ksi0_c, cSetIx_r, kix_l, kix_t, kix_s, kSq_0, kSq_e, kSq_c, ciSeq_r, kr1_0, kr1_e, kr1_c, ciRange1_r, kr2_0, kr2_e, kr2_c, ciRange2_r, kFor_0, kFor_e, kFor_c, cFor_r, forL_c, forL_n, kf1_0, kf2_nx, kf2_ct, kf2_bk, kf2_rt, kf2_exc, kf2_cond, kb_0, kbb_0, kb1_0, kb1_c, kb1_e, cB1_r, kb3_0, kb3_e, kb3_c, kb2_0, kb2_c, kb2_e, cB2_r, kres_0, res_d, res_s, kbn_0, cbN_r, kbD_0, kbD_e, kbD_c, cbD_r, kv_0, cV_r, kvm_0, cVm_r, cV_0, st_0, gt_0, cV_1, st_1, gt_1, cV_2, st_2, gt_2, cV_3, st_3, gt_3, cV_4, st_4, gt_4, cV_5, st_5, gt_5, cV_6, st_6, gt_6, cV_7, st_7, gt_7, cV_8, st_8, gt_8, cV_9, st_9, gt_9, cV_10, st_10, gt_10, cV_11, st_11, gt_11, cV_12, st_12, gt_12, cV_13, st_13, gt_13, cV_14, st_14, gt_14, cV_15, st_15, gt_15, cV_16, st_16, gt_16, cV_17, st_17, gt_17, cV_18, st_18, gt_18, cV_19, st_19, gt_19, cV_20, st_20, gt_20, cV_21, st_21, gt_21, cV_22, st_22, gt_22, cV_23, st_23, gt_23, tCh2_0, tCh2_e, tCh1_0, tCh0b_0, tCh0b_e, tCh0a_0, tCh0a_e, cChain_r, lcL_nil, lcL_c, ml1_0, ml2_t, ml2_f, ml2_b, ml3_0, ml5_0, ml4_0, ml4_e, ml4_c, cLc_r, nO_d, nO_n, nO_l, noOwn_n, noOwn_c, wipe_n, wipe_c, rsE_0, rest_n, rest_c, mkF_r, fo_0, fx_0, fin_nx', fin_rt', fin_exc', ob_0, og_0, od_0, outs_n, outs_c, lift_some, S_d, S_l, gAdd, gSub, gNeg, gNot, gLt, gLe, gGt, gGe, gEq_ii, gNe_ii, gLen, gAbs, gInt, tru_b, gMax2, gMin2, gGcd, gList, gTuple, gAll, gAny, bools_nil, bools_cons, gIs_bb, gIsN_bb, gPow, gMul, gFd, gMod, atI_0, atI_1, atI_2, atI_3, ixL_1, ixL_2, ixL_3, ixN_41, ixN_42, ixN_43, List.getElem?_cons_zero, List.getElem?_cons_succ, List.set_cons_zero, List.set_cons_succ, List.map_cons, List.map_nil, List.length_cons, List.length_nil, List.cons_append, List.nil_append, List.replicate_succ, List.replicate_zero, List.length_map, ↓cond_true, ↓cond_false, cond_true, cond_false, Option.map_some, beq_self_eq_true, List.contains_cons, List.contains_nil, Bool.or_false, Bool.false_or, Bool.or_true, Bool.and_true, Bool.true_and, Bool.not_true, Bool.not_false, Nat.reduceBEq, Nat.reduceAdd, Nat.reduceSub, Nat.reduceEqDiff, reduceCtorEq, Bool.false_eq_true, sq_nx, sq_rt, sq_bad, sq_bk, sq_ct, sq_exc, dz0, dz1, dz2, dz3, dz4, dz5, dz6, dz7, dz8, dz9, dz10, dz11, dz12, ic0, ic1, ic2, ic3, ic4, tAnd_ok, tOr_ok, tIf_ok, tIfS_ok, tAnd_exc, tOr_exc, tIf_exc, tIfS_exc, cAnd_t, cOr_t, cIf_t, cIfS_t, co_and, co_or, tAnd_cond, tOr_cond, tIfS_cond, sq_cond, fin_cond, rangeL_2, rangeL_3, List.all_cons, List.all_nil, List.any_cons, List.any_nil, id, rng1_t, rng2_t, Int.reduceToNat, if_true, ite_true, if_false, eq_self, decide_true, decide_false, isi_int_n, isi_int_b, isi_int_i, isi_int_s, isi_int_l, isi_int_t, isi_bool_n, isi_bool_b, isi_bool_i, isi_bool_s, isi_bool_l, isi_bool_t, isi_str_n, isi_str_b, isi_str_i, isi_str_s, isi_str_l, isi_str_t, isi_list_n, isi_list_b, isi_list_i, isi_list_s, isi_list_l, isi_list_t, isi_tuple_n, isi_tuple_b, isi_tuple_i, isi_tuple_s, isi_tuple_l, isi_tuple_t, isi_dict_n, isi_dict_b, isi_dict_i, isi_dict_s, isi_dict_l, isi_dict_t, nh_d, nh_l, nh_k, nh_o, nh_fn, nh_fc, ss3_0, sat_n, sat_0, sat_c, sup_n, sup_c, supc_0, fsg_c, fsg_n, fss_c, fss_n, pbs_0, pb_t, so_t, ssOf_t, gIx_l, gIx_t, S_k, Option.map_none, e]
/-! ### the law's own test, walked -/
abbrev Hm := Int × Int × Int
def hD (p : Hm) : PyData := .tuple [.int p.1, .int p.2.1, .int p.2.2]
def cD (c : Cn) : PyData := hD (c.1, c.2, 1)
def dt (a b c : Hm) : Int := (b.1 * a.2.2 - a.1 * b.2.2) * (c.2.1 * a.2.2 - a.2.1 * c.2.2) - (b.2.1 * a.2.2 - a.2.1 * b.2.2) * (c.1 * a.2.2 - a.1 * c.2.2)
def sg (x : Int) : Int := (if 0 < x then 1 else 0) - (if x < 0 then 1 else 0)
def Hs (p : Hm) : Prop := Bd 200 p.1 ∧ Bd 200 p.2.1 ∧ Bd 200 p.2.2
theorem det_spec {a b c : Hm} (ha : Hs a) (hb : Hs b) (hc : Hs c) : F_u_law_det [.dat (hD a), .dat (hD b), .dat (hD c)] = .ok (.dat (.int (sg (dt a b c)))) [.dat (hD a), .dat (hD b), .dat (hD c)] := by
  obtain ⟨a1, a2, a3⟩ := ha
  obtain ⟨b1, b2, b3⟩ := hb
  obtain ⟨c1, c2, c3⟩ := hc
  have e : ∀ l r : Int, sg (l - r) = (if decide (r < l) = true then 1 else 0) - (if decide (l < r) = true then 1 else 0) := fun l r => by
    unfold sg
    have h1 : (0 < l - r) = (r < l) := by rw [eq_iff_iff]; omega
    have h2 : (l - r < 0) = (l < r) := by rw [eq_iff_iff]; omega
    simp [h1, h2]
  unfold F_u_law_det M_u_law_det hD dt
  rw [e]
  simp -implicitDefEqProofs (disch := first | with_reducible assumption | ((with_reducible apply Bdx.id); exact Bdx.of (by (repeat' first | with_reducible assumption | apply Bd.mul | apply Bd.sub2 | apply Bd.add2 | apply Bd.neg | exact Bd.lit rfl)) (by decide)) | ((with_reducible apply Sml.id); exact Sml.lit rfl) | fail) only [k1_0, k1_e, k1_c, c1_r, k2b_0, k2b_e, k2b_c, k2a_0, k2a_e, k2a_c, c2_r, kN_0, kN_e, kN_c, cN_r, kTup_0, kTup_e, kTup_c, cTup_r, kLst_0, kLst_e, kLst_c, cLst_r, cK_r, caNil_r, kcb_0, kcb_e, kcb_c, kca_0, kca_e, kca_c, caCons_r, cxNil_r, kxb_0, kxb_e, kxb_c, kxa_0, kxa_e, kxa_c, cxD_r, cxS_r, kxs_0, cCall_r, kc1_0, kc1_e, kc2_0, kc3_0, kc3_e, kc3_c, ssOf_n, ss1_0, ss2_0, ssOf_d, ssOf_s, pb_n, pb_d, pb_s, so_n, so_d, so_s, di_n, di_1, di_c, cSeq_r, cNext_r, cRetN_r, cBrk_r, cCnt_r, kRet_0, kRet_e, kRet_c, cRet_r, kDrop_0, kDrop_e, kDrop_c, cDrop_r, kSet_0, kSet_e, kSet_c, cSet_r, kAs_0, kAsg_0, kAsg_e, kAsg_c, cAsg_r, cgName_r, cgNil_r, kgc_0, cgCons_r, cgTup_r, cgLst_r, kPar_0, kPar_e, kPar_c, cPar_r, kPar3_0, kPar3_e, kPar3_c, cPar3_r, kap3_0, kap2_0, kap2_e, kap2_c, kap1_0, cApp_r, ksi3_0, ksi4_0, ksi2_0, ksi2_e, ksi2_c, ksi1_0, ksi0_0, ksi0_e, ksi0_c, cSetIx_r, kix_l, kix_t, kix_s, kSq_0, kSq_e, kSq_c, ciSeq_r, kr1_0, kr1_e, kr1_c, ciRange1_r, kr2_0, kr2_e, kr2_c, ciRange2_r, kFor_0, kFor_e, kFor_c, cFor_r, forL_c, forL_n, kf1_0, kf2_nx, kf2_ct, kf2_bk, kf2_rt, kf2_exc, kf2_cond, kb_0, kbb_0, kb1_0, kb1_c, kb1_e, cB1_r, kb3_0, kb3_e, kb3_c, kb2_0, kb2_c, kb2_e, cB2_r, kres_0, res_d, res_s, kbn_0, cbN_r, kbD_0, kbD_e, kbD_c, cbD_r, kv_0, cV_r, kvm_0, cVm_r, cV_0, st_0, gt_0, cV_1, st_1, gt_1, cV_2, st_2, gt_2, cV_3, st_3, gt_3, cV_4, st_4, gt_4, cV_5, st_5, gt_5, cV_6, st_6, gt_6, cV_7, st_7, gt_7, cV_8, st_8, gt_8, cV_9, st_9, gt_9, cV_10, st_10, gt_10, cV_11, st_11, gt_11, cV_12, st_12, gt_12, cV_13, st_13, gt_13, cV_14, st_14, gt_14, cV_15, st_15, gt_15, cV_16, st_16, gt_16, cV_17, st_17, gt_17, cV_18, st_18, gt_18, cV_19, st_19, gt_19, cV_20, st_20, gt_20, cV_21, st_21, gt_21, cV_22, st_22, gt_22, cV_23, st_23, gt_23, tCh2_0, tCh2_e, tCh1_0, tCh0b_0, tCh0b_e, tCh0a_0, tCh0a_e, cChain_r, lcL_nil, lcL_c, ml1_0, ml2_t, ml2_f, ml2_b, ml3_0, ml5_0, ml4_0, ml4_e, ml4_c, cLc_r, nO_d, nO_n, nO_l, noOwn_n, noOwn_c, wipe_n, wipe_c, rsE_0, rest_n, rest_c, mkF_r, fo_0, fx_0, fin_nx', fin_rt', fin_exc', ob_0, og_0, od_0, outs_n, outs_c, lift_some, S_d, S_l, gAdd, gSub, gNeg, gNot, gLt, gLe, gGt, gGe, gEq_ii, gNe_ii, gLen, gAbs, gInt, tru_b, gMax2, gMin2, gGcd, gList, gTuple, gAll, gAny, bools_nil, bools_cons, gIs_bb, gIsN_bb, gPow, gMul, gFd, gMod, atI_0, atI_1, atI_2, atI_3, ixL_1, ixL_2, ixL_3, ixN_41, ixN_42, ixN_43, List.getElem?_cons_zero, List.getElem?_cons_succ, List.set_cons_zero, List.set_cons_succ, List.map_cons, List.map_nil, List.length_cons, List.length_nil, List.cons_append, List.nil_append, List.replicate_succ, List.replicate_zero, List.length_map, ↓cond_true, ↓cond_false, cond_true, cond_false, Option.map_some, beq_self_eq_true, List.contains_cons, List.contains_nil, Bool.or_false, Bool.false_or, Bool.or_true, Bool.and_true, Bool.true_and, Bool.not_true, Bool.not_false, Nat.reduceBEq, Nat.reduceAdd, Nat.reduceSub, Nat.reduceEqDiff, reduceCtorEq, Bool.false_eq_true, sq_nx, sq_rt, sq_bad, sq_bk, sq_ct, sq_exc, dz0, dz1, dz2, dz3, dz4, dz5, dz6, dz7, dz8, dz9, dz10, dz11, dz12, ic0, ic1, ic2, ic3, ic4, tAnd_ok, tOr_ok, tIf_ok, tIfS_ok, tAnd_exc, tOr_exc, tIf_exc, tIfS_exc, cAnd_t, cOr_t, cIf_t, cIfS_t, co_and, co_or, tAnd_cond, tOr_cond, tIfS_cond, sq_cond, fin_cond, rangeL_2, rangeL_3, List.all_cons, List.all_nil, List.any_cons, List.any_nil, id, rng1_t, rng2_t, Int.reduceToNat, if_true, ite_true, if_false, eq_self, decide_true, decide_false, isi_int_n, isi_int_b, isi_int_i, isi_int_s, isi_int_l, isi_int_t, isi_bool_n, isi_bool_b, isi_bool_i, isi_bool_s, isi_bool_l, isi_bool_t, isi_str_n, isi_str_b, isi_str_i, isi_str_s, isi_str_l, isi_str_t, isi_list_n, isi_list_b, isi_list_i, isi_list_s, isi_list_l, isi_list_t, isi_tuple_n, isi_tuple_b, isi_tuple_i, isi_tuple_s, isi_tuple_l, isi_tuple_t, isi_dict_n, isi_dict_b, isi_dict_i, isi_dict_s, isi_dict_l, isi_dict_t, nh_d, nh_l, nh_k, nh_o, nh_fn, nh_fc, ss3_0, sat_n, sat_0, sat_c, sup_n, sup_c, supc_0, fsg_c, fsg_n, fss_c, fss_n, pbs_0, pb_t, so_t, ssOf_t, gIx_l, gIx_t, S_k, Option.map_none, cmulW_t]
theorem sg_neg {x : Int} : decide (sg x < 0) = decide (x < 0) := by
  unfold sg
  by_cases h : 0 < x
  · have h2 : ¬ x < 0 := by omega
    simp [h, h2]
  · by_cases h2 : x < 0 <;> simp [h, h2]
theorem sg_pos {x : Int} : decide (0 < sg x) = decide (0 < x) := by
  unfold sg
  by_cases h : 0 < x
  · have h2 : ¬ x < 0 := by omega
    simp [h, h2]
  · by_cases h2 : x < 0 <;> simp [h, h2]
theorem sg_zero {x : Int} : (sg x == 0) = decide (x = 0) := by
  unfold sg
  by_cases h : 0 < x
  · have h2 : ¬ x < 0 := by omega
    have h3 : ¬ x = 0 := by omega
    simp [h, h2, h3]
  · by_cases h2 : x < 0
    · have h3 : ¬ x = 0 := by omega
      simp [h, h2, h3]
    · have h3 : x = 0 := by omega
      simp [h3]
def Mid (a b c : Int) : Prop := (a ≤ b ∧ b ≤ c) ∨ (c ≤ b ∧ b ≤ a)
instance {a b c : Int} : Decidable (Mid a b c) := inferInstanceAs (Decidable (_ ∨ _))
theorem mid_spec {a b c : Int} : F_u_law_mid [.dat (.int a), .dat (.int b), .dat (.int c)] = .ok (.dat (.bool (decide (Mid a b c)))) [.dat (.int a), .dat (.int b), .dat (.int c)] := by
  have e : decide (Mid a b c) = ((decide (a ≤ b) && decide (b ≤ c)) || (decide (c ≤ b) && decide (b ≤ a))) := by
    rw [Bool.eq_iff_iff]
    simp only [decide_eq_true_eq, Bool.or_eq_true, Bool.and_eq_true]
    exact Iff.rfl
  rw [e]
  unfold F_u_law_mid M_u_law_mid
  simp -implicitDefEqProofs only [k1_0, k1_e, k1_c, c1_r, k2b_0, k2b_e, k2b_c, k2a_0, k2a_e, k2a_c, c2_r, kN_0, kN_e, kN_c, cN_r, kTup_0, kTup_e, kTup_c, cTup_r, kLst_0, kLst_e, kLst_c, cLst_r, cK_r, caNil_r, kcb_0, kcb_e, kcb_c, kca_0, kca_e, kca_c, caCons_r, cxNil_r, kxb_0, kxb_e, kxb_c, kxa_0, kxa_e, kxa_c, cxD_r, cxS_r, kxs_0, cCall_r, kc1_0, kc1_e, kc2_0, kc3_0, kc3_e, kc3_c, ssOf_n, ss1_0, ss2_0, ssOf_d, ssOf_s, pb_n, pb_d, pb_s, so_n, so_d, so_s, di_n, di_1, di_c, cSeq_r, cNext_r, cRetN_r, cBrk_r, cCnt_r, kRet_0, kRet_e, kRet_c, cRet_r, kDrop_0, kDrop_e, kDrop_c, cDrop_r, kSet_0, kSet_e, kSet_c, cSet_r, kAs_0, kAsg_0, kAsg_e, kAsg_c, cAsg_r, cgName_r, cgNil_r, kgc_0, cgCons_r, cgTup_r, cgLst_r, kPar_0, kPar_e, kPar_c, cPar_r, kPar3_0, kPar3_e, kPar3_c, cPar3_r, kap3_0, kap2_0, kap2_e, kap2_c, kap1_0, cApp_r, ksi3_0, ksi4_0, ksi2_0, ksi2_e, ksi2_c, ksi1_0, ksi0_0, ksi0_e, ksi0_c, cSetIx_r, kix_l, kix_t, kix_s, kSq_0, kSq_e, kSq_c, ciSeq_r, kr1_0, kr1_e, kr1_c, ciRange1_r, kr2_0, kr2_e, kr2_c, ciRange2_r, kFor_0, kFor_e, kFor_c, cFor_r, forL_c, forL_n, kf1_0, kf2_nx, kf2_ct, kf2_bk, kf2_rt, kf2_exc, kf2_cond, kb_0, kbb_0, kb1_0, kb1_c, kb1_e, cB1_r, kb3_0, kb3_e, kb3_c, kb2_0, kb2_c, kb2_e, cB2_r, kres_0, res_d, res_s, kbn_0, cbN_r, kbD_0, kbD_e, kbD_c, cbD_r, kv_0, cV_r, kvm_0, cVm_r, cV_0, st_0, gt_0, cV_1, st_1, gt_1, cV_2, st_2, gt_2, cV_3, st_3, gt_3, cV_4, st_4, gt_4, cV_5, st_5, gt_5, cV_6, st_6, gt_6, cV_7, st_7, gt_7, cV_8, st_8, gt_8, cV_9, st_9, gt_9, cV_10, st_10, gt_10, cV_11, st_11, gt_11, cV_12, st_12, gt_12, cV_13, st_13, gt_13, cV_14, st_14, gt_14, cV_15, st_15, gt_15, cV_16, st_16, gt_16, cV_17, st_17, gt_17, cV_18, st_18, gt_18, cV_19, st_19, gt_19, cV_20, st_20, gt_20, cV_21, st_21, gt_21, cV_22, st_22, gt_22, cV_23, st_23, gt_23, tCh2_0, tCh2_e, tCh1_0, tCh0b_0, tCh0b_e, tCh0a_0, tCh0a_e, cChain_r, lcL_nil, lcL_c, ml1_0, ml2_t, ml2_f, ml2_b, ml3_0, ml5_0, ml4_0, ml4_e, ml4_c, cLc_r, nO_d, nO_n, nO_l, noOwn_n, noOwn_c, wipe_n, wipe_c, rsE_0, rest_n, rest_c, mkF_r, fo_0, fx_0, fin_nx', fin_rt', fin_exc', ob_0, og_0, od_0, outs_n, outs_c, lift_some, S_d, S_l, gAdd, gSub, gNeg, gNot, gLt, gLe, gGt, gGe, gEq_ii, gNe_ii, gLen, gAbs, gInt, tru_b, gMax2, gMin2, gGcd, gList, gTuple, gAll, gAny, bools_nil, bools_cons, gIs_bb, gIsN_bb, gPow, gMul, gFd, gMod, atI_0, atI_1, atI_2, atI_3, ixL_1, ixL_2, ixL_3, ixN_41, ixN_42, ixN_43, List.getElem?_cons_zero, List.getElem?_cons_succ, List.set_cons_zero, List.set_cons_succ, List.map_cons, List.map_nil, List.length_cons, List.length_nil, List.cons_append, List.nil_append, List.replicate_succ, List.replicate_zero, List.length_map, ↓cond_true, ↓cond_false, cond_true, cond_false, Option.map_some, beq_self_eq_true, List.contains_cons, List.contains_nil, Bool.or_false, Bool.false_or, Bool.or_true, Bool.and_true, Bool.true_and, Bool.not_true, Bool.not_false, Nat.reduceBEq, Nat.reduceAdd, Nat.reduceSub, Nat.reduceEqDiff, reduceCtorEq, Bool.false_eq_true, sq_nx, sq_rt, sq_bad, sq_bk, sq_ct, sq_exc, dz0, dz1, dz2, dz3, dz4, dz5, dz6, dz7, dz8, dz9, dz10, dz11, dz12, ic0, ic1, ic2, ic3, ic4, tAnd_ok, tOr_ok, tIf_ok, tIfS_ok, tAnd_exc, tOr_exc, tIf_exc, tIfS_exc, cAnd_t, cOr_t, cIf_t, cIfS_t, co_and, co_or, tAnd_cond, tOr_cond, tIfS_cond, sq_cond, fin_cond, rangeL_2, rangeL_3, List.all_cons, List.all_nil, List.any_cons, List.any_nil, id, rng1_t, rng2_t, Int.reduceToNat, if_true, ite_true, if_false, eq_self, decide_true, decide_false, isi_int_n, isi_int_b, isi_int_i, isi_int_s, isi_int_l, isi_int_t, isi_bool_n, isi_bool_b, isi_bool_i, isi_bool_s, isi_bool_l, isi_bool_t, isi_str_n, isi_str_b, isi_str_i, isi_str_s, isi_str_l, isi_str_t, isi_list_n, isi_list_b, isi_list_i, isi_list_s, isi_list_l, isi_list_t, isi_tuple_n, isi_tuple_b, isi_tuple_i, isi_tuple_s, isi_tuple_l, isi_tuple_t, isi_dict_n, isi_dict_b, isi_dict_i, isi_dict_s, isi_dict_l, isi_dict_t, nh_d, nh_l, nh_k, nh_o, nh_fn, nh_fc, ss3_0, sat_n, sat_0, sat_c, sup_n, sup_c, supc_0, fsg_c, fsg_n, fss_c, fss_n, pbs_0, pb_t, so_t, ssOf_t, gIx_l, gIx_t, S_k, Option.map_none]
/-- p is on the segment from a to b -/
def On (p a b : Hm) : Prop := dt a b p = 0 ∧ Mid (a.1 * b.2.2 * p.2.2) (p.1 * (a.2.2 * b.2.2)) (b.1 * a.2.2 * p.2.2) ∧ Mid (a.2.1 * b.2.2 * p.2.2) (p.2.1 * (a.2.2 * b.2.2)) (b.2.1 * a.2.2 * p.2.2)
instance {a b c : Hm} : Decidable (On a b c) := inferInstanceAs (Decidable (_ ∧ _))
theorem on_spec {p a b : Hm} (hp : Hs p) (ha : Hs a) (hb : Hs b) : F_u_law_on [.dat (hD p), .dat (hD a), .dat (hD b)] = .ok (.dat (.bool (decide (On p a b)))) [.dat (hD p), .dat (hD a), .dat (hD b)] := by
  have d := det_spec ha hb hp
  obtain ⟨a1, a2, a3⟩ := ha
  obtain ⟨b1, b2, b3⟩ := hb
  obtain ⟨p1, p2, p3⟩ := hp
  unfold hD at d ⊢
  unfold F_u_law_on M_u_law_on
  by_cases h : dt a b p = 0
  · have e : (sg (dt a b p) == 0) = true := by rw [sg_zero]; exact decide_eq_true h
    have f : decide (On p a b) = (decide (Mid (a.1 * b.2.2 * p.2.2) (p.1 * (a.2.2 * b.2.2)) (b.1 * a.2.2 * p.2.2)) && decide (Mid (a.2.1 * b.2.2 * p.2.2) (p.2.1 * (a.2.2 * b.2.2)) (b.2.1 * a.2.2 * p.2.2))) := by
      rw [Bool.eq_iff_iff]
      simp only [decide_eq_true_eq, Bool.and_eq_true]
      exact ⟨fun q => q.2, fun q => ⟨h, q⟩⟩
    rw [f]
    simp -implicitDefEqProofs (disch := first | with_reducible assumption | ((with_reducible apply Bdx.id); exact Bdx.of (by (repeat' first | with_reducible assumption | apply Bd.mul | apply Bd.sub2 | apply Bd.add2 | apply Bd.neg | exact Bd.lit rfl)) (by decide)) | ((with_reducible apply Sml.id); exact Sml.lit rfl) | fail) only [k1_0, k1_e, k1_c, c1_r, k2b_0, k2b_e, k2b_c, k2a_0, k2a_e, k2a_c, c2_r, kN_0, kN_e, kN_c, cN_r, kTup_0, kTup_e, kTup_c, cTup_r, kLst_0, kLst_e, kLst_c, cLst_r, cK_r, caNil_r, kcb_0, kcb_e, kcb_c, kca_0, kca_e, kca_c, caCons_r, cxNil_r, kxb_0, kxb_e, kxb_c, kxa_0, kxa_e, kxa_c, cxD_r, cxS_r, kxs_0, cCall_r, kc1_0, kc1_e, kc2_0, kc3_0, kc3_e, kc3_c, ssOf_n, ss1_0, ss2_0, ssOf_d, ssOf_s, pb_n, pb_d, pb_s, so_n, so_d, so_s, di_n, di_1, di_c, cSeq_r, cNext_r, cRetN_r, cBrk_r, cCnt_r, kRet_0, kRet_e, kRet_c, cRet_r, kDrop_0, kDrop_e, kDrop_c, cDrop_r, kSet_0, kSet_e, kSet_c, cSet_r, kAs_0, kAsg_0, kAsg_e, kAsg_c, cAsg_r, cgName_r, cgNil_r, kgc_0, cgCons_r, cgTup_r, cgLst_r, kPar_0, kPar_e, kPar_c, cPar_r, kPar3_0, kPar3_e, kPar3_c, cPar3_r, kap3_0, kap2_0, kap2_e, kap2_c, kap1_0, cApp_r, ksi3_0, ksi4_0, ksi2_0, ksi2_e, ksi2_c, ksi1_0, ksi0_0, ksi0_e, ksi0_c, cSetIx_r, kix_l, kix_t, kix_s, kSq_0, kSq_e, kSq_c, ciSeq_r, kr1_0, kr1_e, kr1_c, ciRange1_r, kr2_0, kr2_e, kr2_c, ciRange2_r, kFor_0, kFor_e, kFor_c, cFor_r, forL_c, forL_n, kf1_0, kf2_nx, kf2_ct, kf2_bk, kf2_rt, kf2_exc, kf2_cond, kb_0, kbb_0, kb1_0, kb1_c, kb1_e, cB1_r, kb3_0, kb3_e, kb3_c, kb2_0, kb2_c, kb2_e, cB2_r, kres_0, res_d, res_s, kbn_0, cbN_r, kbD_0, kbD_e, kbD_c, cbD_r, kv_0, cV_r, kvm_0, cVm_r, cV_0, st_0, gt_0, cV_1, st_1, gt_1, cV_2, st_2, gt_2, cV_3, st_3, gt_3, cV_4, st_4, gt_4, cV_5, st_5, gt_5, cV_6, st_6, gt_6, cV_7, st_7, gt_7, cV_8, st_8, gt_8, cV_9, st_9, gt_9, cV_10, st_10, gt_10, cV_11, st_11, gt_11, cV_12, st_12, gt_12, cV_13, st_13, gt_13, cV_14, st_14, gt_14, cV_15, st_15, gt_15, cV_16, st_16, gt_16, cV_17, st_17, gt_17, cV_18, st_18, gt_18, cV_19, st_19, gt_19, cV_20, st_20, gt_20, cV_21, st_21, gt_21, cV_22, st_22, gt_22, cV_23, st_23, gt_23, tCh2_0, tCh2_e, tCh1_0, tCh0b_0, tCh0b_e, tCh0a_0, tCh0a_e, cChain_r, lcL_nil, lcL_c, ml1_0, ml2_t, ml2_f, ml2_b, ml3_0, ml5_0, ml4_0, ml4_e, ml4_c, cLc_r, nO_d, nO_n, nO_l, noOwn_n, noOwn_c, wipe_n, wipe_c, rsE_0, rest_n, rest_c, mkF_r, fo_0, fx_0, fin_nx', fin_rt', fin_exc', ob_0, og_0, od_0, outs_n, outs_c, lift_some, S_d, S_l, gAdd, gSub, gNeg, gNot, gLt, gLe, gGt, gGe, gEq_ii, gNe_ii, gLen, gAbs, gInt, tru_b, gMax2, gMin2, gGcd, gList, gTuple, gAll, gAny, bools_nil, bools_cons, gIs_bb, gIsN_bb, gPow, gMul, gFd, gMod, atI_0, atI_1, atI_2, atI_3, ixL_1, ixL_2, ixL_3, ixN_41, ixN_42, ixN_43, List.getElem?_cons_zero, List.getElem?_cons_succ, List.set_cons_zero, List.set_cons_succ, List.map_cons, List.map_nil, List.length_cons, List.length_nil, List.cons_append, List.nil_append, List.replicate_succ, List.replicate_zero, List.length_map, ↓cond_true, ↓cond_false, cond_true, cond_false, Option.map_some, beq_self_eq_true, List.contains_cons, List.contains_nil, Bool.or_false, Bool.false_or, Bool.or_true, Bool.and_true, Bool.true_and, Bool.not_true, Bool.not_false, Nat.reduceBEq, Nat.reduceAdd, Nat.reduceSub, Nat.reduceEqDiff, reduceCtorEq, Bool.false_eq_true, sq_nx, sq_rt, sq_bad, sq_bk, sq_ct, sq_exc, dz0, dz1, dz2, dz3, dz4, dz5, dz6, dz7, dz8, dz9, dz10, dz11, dz12, ic0, ic1, ic2, ic3, ic4, tAnd_ok, tOr_ok, tIf_ok, tIfS_ok, tAnd_exc, tOr_exc, tIf_exc, tIfS_exc, cAnd_t, cOr_t, cIf_t, cIfS_t, co_and, co_or, tAnd_cond, tOr_cond, tIfS_cond, sq_cond, fin_cond, rangeL_2, rangeL_3, List.all_cons, List.all_nil, List.any_cons, List.any_nil, id, rng1_t, rng2_t, Int.reduceToNat, if_true, ite_true, if_false, eq_self, decide_true, decide_false, isi_int_n, isi_int_b, isi_int_i, isi_int_s, isi_int_l, isi_int_t, isi_bool_n, isi_bool_b, isi_bool_i, isi_bool_s, isi_bool_l, isi_bool_t, isi_str_n, isi_str_b, isi_str_i, isi_str_s, isi_str_l, isi_str_t, isi_list_n, isi_list_b, isi_list_i, isi_list_s, isi_list_l, isi_list_t, isi_tuple_n, isi_tuple_b, isi_tuple_i, isi_tuple_s, isi_tuple_l, isi_tuple_t, isi_dict_n, isi_dict_b, isi_dict_i, isi_dict_s, isi_dict_l, isi_dict_t, nh_d, nh_l, nh_k, nh_o, nh_fn, nh_fc, ss3_0, sat_n, sat_0, sat_c, sup_n, sup_c, supc_0, fsg_c, fsg_n, fss_c, fss_n, pbs_0, pb_t, so_t, ssOf_t, gIx_l, gIx_t, S_k, Option.map_none, cmulW_t, rng1_t, d, e, mid_spec]
  · have e : (sg (dt a b p) == 0) = false := by rw [sg_zero]; exact decide_eq_false h
    have f : decide (On p a b) = false := decide_eq_false fun q => h q.1
    rw [f]
    simp -implicitDefEqProofs (disch := first | with_reducible assumption | ((with_reducible apply Bdx.id); exact Bdx.of (by (repeat' first | with_reducible assumption | apply Bd.mul | apply Bd.sub2 | apply Bd.add2 | apply Bd.neg | exact Bd.lit rfl)) (by decide)) | ((with_reducible apply Sml.id); exact Sml.lit rfl) | fail) only [k1_0, k1_e, k1_c, c1_r, k2b_0, k2b_e, k2b_c, k2a_0, k2a_e, k2a_c, c2_r, kN_0, kN_e, kN_c, cN_r, kTup_0, kTup_e, kTup_c, cTup_r, kLst_0, kLst_e, kLst_c, cLst_r, cK_r, caNil_r, kcb_0, kcb_e, kcb_c, kca_0, kca_e, kca_c, caCons_r, cxNil_r, kxb_0, kxb_e, kxb_c, kxa_0, kxa_e, kxa_c, cxD_r, cxS_r, kxs_0, cCall_r, kc1_0, kc1_e, kc2_0, kc3_0, kc3_e, kc3_c, ssOf_n, ss1_0, ss2_0, ssOf_d, ssOf_s, pb_n, pb_d, pb_s, so_n, so_d, so_s, di_n, di_1, di_c, cSeq_r, cNext_r, cRetN_r, cBrk_r, cCnt_r, kRet_0, kRet_e, kRet_c, cRet_r, kDrop_0, kDrop_e, kDrop_c, cDrop_r, kSet_0, kSet_e, kSet_c, cSet_r, kAs_0, kAsg_0, kAsg_e, kAsg_c, cAsg_r, cgName_r, cgNil_r, kgc_0, cgCons_r, cgTup_r, cgLst_r, kPar_0, kPar_e, kPar_c, cPar_r, kPar3_0, kPar3_e, kPar3_c, cPar3_r, kap3_0, kap2_0, kap2_e, kap2_c, kap1_0, cApp_r, ksi3_0, ksi4_0, ksi2_0, ksi2_e, ksi2_c, ksi1_0, ksi0_0, ksi0_e, ksi0_c, cSetIx_r, kix_l, kix_t, kix_s, kSq_0, kSq_e, kSq_c, ciSeq_r, kr1_0, kr1_e, kr1_c, ciRange1_r, kr2_0, kr2_e, kr2_c, ciRange2_r, kFor_0, kFor_e, kFor_c, cFor_r, forL_c, forL_n, kf1_0, kf2_nx, kf2_ct, kf2_bk, kf2_rt, kf2_exc, kf2_cond, kb_0, kbb_0, kb1_0, kb1_c, kb1_e, cB1_r, kb3_0, kb3_e, kb3_c, kb2_0, kb2_c, kb2_e, cB2_r, kres_0, res_d, res_s, kbn_0, cbN_r, kbD_0, kbD_e, kbD_c, cbD_r, kv_0, cV_r, kvm_0, cVm_r, cV_0, st_0, gt_0, cV_1, st_1, gt_1, cV_2, st_2, gt_2, cV_3, st_3, gt_3, cV_4, st_4, gt_4, cV_5, st_5, gt_5, cV_6, st_6, gt_6, cV_7, st_7, gt_7, cV_8, st_8, gt_8, cV_9, st_9, gt_9, cV_10, st_10, gt_10, cV_11, st_11, gt_11, cV_12, st_12, gt_12, cV_13, st_13, gt_13, cV_14, st_14, gt_14, cV_15, st_15, gt_15, cV_16, st_16, gt_16, cV_17, st_17, gt_17, cV_18, st_18, gt_18, cV_19, st_19, gt_19, cV_20, st_20, gt_20, cV_21, st_21, gt_21, cV_22, st_22, gt_22, cV_23, st_23, gt_23, tCh2_0, tCh2_e, tCh1_0, tCh0b_0, tCh0b_e, tCh0a_0, tCh0a_e, cChain_r, lcL_nil, lcL_c, ml1_0, ml2_t, ml2_f, ml2_b, ml3_0, ml5_0, ml4_0, ml4_e, ml4_c, cLc_r, nO_d, nO_n, nO_l, noOwn_n, noOwn_c, wipe_n, wipe_c, rsE_0, rest_n, rest_c, mkF_r, fo_0, fx_0, fin_nx', fin_rt', fin_exc', ob_0, og_0, od_0, outs_n, outs_c, lift_some, S_d, S_l, gAdd, gSub, gNeg, gNot, gLt, gLe, gGt, gGe, gEq_ii, gNe_ii, gLen, gAbs, gInt, tru_b, gMax2, gMin2, gGcd, gList, gTuple, gAll, gAny, bools_nil, bools_cons, gIs_bb, gIsN_bb, gPow, gMul, gFd, gMod, atI_0, atI_1, atI_2, atI_3, ixL_1, ixL_2, ixL_3, ixN_41, ixN_42, ixN_43, List.getElem?_cons_zero, List.getElem?_cons_succ, List.set_cons_zero, List.set_cons_succ, List.map_cons, List.map_nil, List.length_cons, List.length_nil, List.cons_append, List.nil_append, List.replicate_succ, List.replicate_zero, List.length_map, ↓cond_true, ↓cond_false, cond_true, cond_false, Option.map_some, beq_self_eq_true, List.contains_cons, List.contains_nil, Bool.or_false, Bool.false_or, Bool.or_true, Bool.and_true, Bool.true_and, Bool.not_true, Bool.not_false, Nat.reduceBEq, Nat.reduceAdd, Nat.reduceSub, Nat.reduceEqDiff, reduceCtorEq, Bool.false_eq_true, sq_nx, sq_rt, sq_bad, sq_bk, sq_ct, sq_exc, dz0, dz1, dz2, dz3, dz4, dz5, dz6, dz7, dz8, dz9, dz10, dz11, dz12, ic0, ic1, ic2, ic3, ic4, tAnd_ok, tOr_ok, tIf_ok, tIfS_ok, tAnd_exc, tOr_exc, tIf_exc, tIfS_exc, cAnd_t, cOr_t, cIf_t, cIfS_t, co_and, co_or, tAnd_cond, tOr_cond, tIfS_cond, sq_cond, fin_cond, rangeL_2, rangeL_3, List.all_cons, List.all_nil, List.any_cons, List.any_nil, id, rng1_t, rng2_t, Int.reduceToNat, if_true, ite_true, if_false, eq_self, decide_true, decide_false, isi_int_n, isi_int_b, isi_int_i, isi_int_s, isi_int_l, isi_int_t, isi_bool_n, isi_bool_b, isi_bool_i, isi_bool_s, isi_bool_l, isi_bool_t, isi_str_n, isi_str_b, isi_str_i, isi_str_s, isi_str_l, isi_str_t, isi_list_n, isi_list_b, isi_list_i, isi_list_s, isi_list_l, isi_list_t, isi_tuple_n, isi_tuple_b, isi_tuple_i, isi_tuple_s, isi_tuple_l, isi_tuple_t, isi_dict_n, isi_dict_b, isi_dict_i, isi_dict_s, isi_dict_l, isi_dict_t, nh_d, nh_l, nh_k, nh_o, nh_fn, nh_fc, ss3_0, sat_n, sat_0, sat_c, sup_n, sup_c, supc_0, fsg_c, fsg_n, fss_c, fss_n, pbs_0, pb_t, so_t, ssOf_t, gIx_l, gIx_t, S_k, Option.map_none, cmulW_t, d, e]
theorem dt_one {a b : Cn} {p : Hm} : dt (a.1, a.2, 1) (b.1, b.2, 1) p = hh a b p := by unfold dt hh; grind
theorem hs_one {c : Cn} (h : Sm c) : Hs (c.1, c.2, 1) := ⟨h.1.mono (by decide), h.2.mono (by decide), (Bd.lit (i := 1) rfl).mono (by decide)⟩
instance {o x y : Cn} {p : Hm} : Decidable (Tri o x y p) := inferInstanceAs (Decidable (_ ∧ _))
theorem in_step {p : Hm} {o u v : Cn} {D : PyData} {L : List PyData} {k : Int} {x3 : Option S} (hp : Hs p) (ho : Sm o) (hu : Sm u) (hv : Sm v) (h0 : atI L 0 = some (cD o)) (h1 : atI L k = some (cD u)) (h2 : atI L (k + 1) = some (cD v)) :
    ∃ y3, L_u_law_in_0 [some (.dat (hD p)), some (.dat (.list L)), some (.dat (.int k)), x3, none] = bif decide (Tri o u v p) then .rt (.dat (.bool true)) [some (.dat (hD p)), some (.dat (.list L)), some (.dat (.int k)), y3, none] else .nx [some (.dat (hD p)), some (.dat (.list L)), some (.dat (.int k)), y3, none] := by
  have d1 := det_spec (hs_one ho) (hs_one hu) hp
  have d2 := det_spec (hs_one hu) (hs_one hv) hp
  have d3 := det_spec (hs_one hv) (hs_one ho) hp
  simp only [dt_one] at d1 d2 d3
  have e : decide (Tri o u v p) = !(decide (hh o u p < 0) || (decide (hh u v p < 0) || decide (hh v o p < 0))) := by
    rw [Bool.eq_iff_iff]
    simp only [decide_eq_true_eq, Bool.not_eq_true', Bool.or_eq_false_iff, decide_eq_false_iff_not, Int.not_lt]
    exact Iff.rfl
  refine ⟨some (.dat (.list [.int (sg (hh o u p)), .int (sg (hh u v p)), .int (sg (hh v o p))])), ?_⟩
  rw [e]
  unfold cD at *
  unfold L_u_law_in_0
  simp -implicitDefEqProofs only [k1_0, k1_e, k1_c, c1_r, k2b_0, k2b_e, k2b_c, k2a_0, k2a_e, k2a_c, c2_r, kN_0, kN_e, kN_c, cN_r, kTup_0, kTup_e, kTup_c, cTup_r, kLst_0, kLst_e, kLst_c, cLst_r, cK_r, caNil_r, kcb_0, kcb_e, kcb_c, kca_0, kca_e, kca_c, caCons_r, cxNil_r, kxb_0, kxb_e, kxb_c, kxa_0, kxa_e, kxa_c, cxD_r, cxS_r, kxs_0, cCall_r, kc1_0, kc1_e, kc2_0, kc3_0, kc3_e, kc3_c, ssOf_n, ss1_0, ss2_0, ssOf_d, ssOf_s, pb_n, pb_d, pb_s, so_n, so_d, so_s, di_n, di_1, di_c, cSeq_r, cNext_r, cRetN_r, cBrk_r, cCnt_r, kRet_0, kRet_e, kRet_c, cRet_r, kDrop_0, kDrop_e, kDrop_c, cDrop_r, kSet_0, kSet_e, kSet_c, cSet_r, kAs_0, kAsg_0, kAsg_e, kAsg_c, cAsg_r, cgName_r, cgNil_r, kgc_0, cgCons_r, cgTup_r, cgLst_r, kPar_0, kPar_e, kPar_c, cPar_r, kPar3_0, kPar3_e, kPar3_c, cPar3_r, kap3_0, kap2_0, kap2_e, kap2_c, kap1_0, cApp_r, ksi3_0, ksi4_0, ksi2_0, ksi2_e, ksi2_c, ksi1_0, ksi0_0, ksi0_e, ksi0_c, cSetIx_r, kix_l, kix_t, kix_s, kSq_0, kSq_e, kSq_c, ciSeq_r, kr1_0, kr1_e, kr1_c, ciRange1_r, kr2_0, kr2_e, kr2_c, ciRange2_r, kFor_0, kFor_e, kFor_c, cFor_r, forL_c, forL_n, kf1_0, kf2_nx, kf2_ct, kf2_bk, kf2_rt, kf2_exc, kf2_cond, kb_0, kbb_0, kb1_0, kb1_c, kb1_e, cB1_r, kb3_0, kb3_e, kb3_c, kb2_0, kb2_c, kb2_e, cB2_r, kres_0, res_d, res_s, kbn_0, cbN_r, kbD_0, kbD_e, kbD_c, cbD_r, kv_0, cV_r, kvm_0, cVm_r, cV_0, st_0, gt_0, cV_1, st_1, gt_1, cV_2, st_2, gt_2, cV_3, st_3, gt_3, cV_4, st_4, gt_4, cV_5, st_5, gt_5, cV_6, st_6, gt_6, cV_7, st_7, gt_7, cV_8, st_8, gt_8, cV_9, st_9, gt_9, cV_10, st_10, gt_10, cV_11, st_11, gt_11, cV_12, st_12, gt_12, cV_13, st_13, gt_13, cV_14, st_14, gt_14, cV_15, st_15, gt_15, cV_16, st_16, gt_16, cV_17, st_17, gt_17, cV_18, st_18, gt_18, cV_19, st_19, gt_19, cV_20, st_20, gt_20, cV_21, st_21, gt_21, cV_22, st_22, gt_22, cV_23, st_23, gt_23, tCh2_0, tCh2_e, tCh1_0, tCh0b_0, tCh0b_e, tCh0a_0, tCh0a_e, cChain_r, lcL_nil, lcL_c, ml1_0, ml2_t, ml2_f, ml2_b, ml3_0, ml5_0, ml4_0, ml4_e, ml4_c, cLc_r, nO_d, nO_n, nO_l, noOwn_n, noOwn_c, wipe_n, wipe_c, rsE_0, rest_n, rest_c, mkF_r, fo_0, fx_0, fin_nx', fin_rt', fin_exc', ob_0, og_0, od_0, outs_n, outs_c, lift_some, S_d, S_l, gAdd, gSub, gNeg, gNot, gLt, gLe, gGt, gGe, gEq_ii, gNe_ii, gLen, gAbs, gInt, tru_b, gMax2, gMin2, gGcd, gList, gTuple, gAll, gAny, bools_nil, bools_cons, gIs_bb, gIsN_bb, gPow, gMul, gFd, gMod, atI_0, atI_1, atI_2, atI_3, ixL_1, ixL_2, ixL_3, ixN_41, ixN_42, ixN_43, List.getElem?_cons_zero, List.getElem?_cons_succ, List.set_cons_zero, List.set_cons_succ, List.map_cons, List.map_nil, List.length_cons, List.length_nil, List.cons_append, List.nil_append, List.replicate_succ, List.replicate_zero, List.length_map, ↓cond_true, ↓cond_false, cond_true, cond_false, Option.map_some, beq_self_eq_true, List.contains_cons, List.contains_nil, Bool.or_false, Bool.false_or, Bool.or_true, Bool.and_true, Bool.true_and, Bool.not_true, Bool.not_false, Nat.reduceBEq, Nat.reduceAdd, Nat.reduceSub, Nat.reduceEqDiff, reduceCtorEq, Bool.false_eq_true, sq_nx, sq_rt, sq_bad, sq_bk, sq_ct, sq_exc, dz0, dz1, dz2, dz3, dz4, dz5, dz6, dz7, dz8, dz9, dz10, dz11, dz12, ic0, ic1, ic2, ic3, ic4, tAnd_ok, tOr_ok, tIf_ok, tIfS_ok, tAnd_exc, tOr_exc, tIf_exc, tIfS_exc, cAnd_t, cOr_t, cIf_t, cIfS_t, co_and, co_or, tAnd_cond, tOr_cond, tIfS_cond, sq_cond, fin_cond, rangeL_2, rangeL_3, List.all_cons, List.all_nil, List.any_cons, List.any_nil, id, rng1_t, rng2_t, Int.reduceToNat, if_true, ite_true, if_false, eq_self, decide_true, decide_false, isi_int_n, isi_int_b, isi_int_i, isi_int_s, isi_int_l, isi_int_t, isi_bool_n, isi_bool_b, isi_bool_i, isi_bool_s, isi_bool_l, isi_bool_t, isi_str_n, isi_str_b, isi_str_i, isi_str_s, isi_str_l, isi_str_t, isi_list_n, isi_list_b, isi_list_i, isi_list_s, isi_list_l, isi_list_t, isi_tuple_n, isi_tuple_b, isi_tuple_i, isi_tuple_s, isi_tuple_l, isi_tuple_t, isi_dict_n, isi_dict_b, isi_dict_i, isi_dict_s, isi_dict_l, isi_dict_t, nh_d, nh_l, nh_k, nh_o, nh_fn, nh_fc, ss3_0, sat_n, sat_0, sat_c, sup_n, sup_c, supc_0, fsg_c, fsg_n, fss_c, fss_n, pbs_0, pb_t, so_t, ssOf_t, gIx_l, gIx_t, S_k, Option.map_none, h0, h1, h2, d1, d2, d3, sg_neg]
/-- the law's own test -/
def LawIn (p : Hm) : List Cn → Prop
  | [] => False
  | [a] => On p (a.1, a.2, 1) (a.1, a.2, 1)
  | [a, b] => On p (a.1, a.2, 1) (b.1, b.2, 1)
  | a :: b :: c :: r => ∃ (k : Nat) (u v : Cn), (b :: c :: r)[k]? = some u ∧ (b :: c :: r)[k + 1]? = some v ∧ Tri a u v p
theorem in_loop {p : Hm} {o : Cn} {r : List Cn} (hp : Hs p) (ho : Sm o) (hr : ∀ c ∈ r, Sm c) : ∀ (n j : Nat) (x2 x3 : Option S), j + n + 1 = r.length →
    ∃ y2 y3, (forL (cgName 2) L_u_law_in_0 ((List.range' j n).map fun (k : Nat) => PyData.int (1 + k)) [some (.dat (hD p)), some (.dat (.list ((o :: r).map cD))), x2, x3, none] = .nx [some (.dat (hD p)), some (.dat (.list ((o :: r).map cD))), y2, y3, none] ∧ ∀ (k : Nat) (u v : Cn), j ≤ k → r[k]? = some u → r[k + 1]? = some v → ¬ Tri o u v p) ∨
      (forL (cgName 2) L_u_law_in_0 ((List.range' j n).map fun (k : Nat) => PyData.int (1 + k)) [some (.dat (hD p)), some (.dat (.list ((o :: r).map cD))), x2, x3, none] = .rt (.dat (.bool true)) [some (.dat (hD p)), some (.dat (.list ((o :: r).map cD))), y2, y3, none] ∧ ∃ (k : Nat) (u v : Cn), r[k]? = some u ∧ r[k + 1]? = some v ∧ Tri o u v p)
  | 0, j, x2, x3, h => ⟨x2, x3, .inl ⟨rfl, fun k u v hk h1 h2 => by have := (List.getElem?_eq_some_iff.mp h2).1; omega⟩⟩
  | n + 1, j, x2, x3, h => by
    have hu : r[j]? = some r[j] := List.getElem?_eq_getElem (by omega)
    have hv : r[j + 1]? = some r[j + 1] := List.getElem?_eq_getElem (by omega)
    generalize r[j]'(by omega) = u at hu
    generalize r[j + 1]'(by omega) = v at hv
    obtain ⟨y3, e⟩ := in_step (D := .none) (L := (o :: r).map cD) (k := 1 + (j : Int)) (x3 := x3) hp ho (hr u (List.mem_of_getElem? hu)) (hr v (List.mem_of_getElem? hv)) atI_0 (atI_pos (j := j + 1) (by omega) (by simp [hu])) (atI_pos (j := j + 2) (by omega) (by simp [hv]))
    have hl : ((List.range' j (n + 1)).map fun (k : Nat) => PyData.int (1 + k)) = .int (1 + (j : Int)) :: (List.range' (j + 1) n).map fun (k : Nat) => PyData.int (1 + k) := by rw [List.range'_succ]; rfl
    have hf : ∀ ds, forL (cgName 2) L_u_law_in_0 (.int (1 + (j : Int)) :: ds) [some (.dat (hD p)), some (.dat (.list ((o :: r).map cD))), x2, x3, none] = (match L_u_law_in_0 [some (.dat (hD p)), some (.dat (.list ((o :: r).map cD))), some (.dat (.int (1 + (j : Int)))), x3, none] with
      | .nx ρ2 => forL (cgName 2) L_u_law_in_0 ds ρ2
      | .ct ρ2 => forL (cgName 2) L_u_law_in_0 ds ρ2
      | .bk ρ2 => .nx ρ2
      | .rt s ρ2 => .rt s ρ2
      | .exc x ρ2 => .exc x ρ2
      | .bad => .bad) := fun ds => rfl
    rw [hl, hf, e]
    by_cases t : Tri o u v p
    · rw [decide_eq_true t, cond_true]
      exact ⟨some (.dat (.int (1 + (j : Int)))), y3, .inr ⟨rfl, j, u, v, hu, hv, t⟩⟩
    · rw [decide_eq_false t, cond_false]
      obtain ⟨z2, z3, hz⟩ := in_loop hp ho hr n (j + 1) (some (.dat (.int (1 + (j : Int))))) y3 (by omega)
      refine ⟨z2, z3, hz.imp (fun h => ⟨h.1, fun k u' v' hk h1 h2 => ?_⟩) id⟩
      by_cases e : k = j
      · subst e
        rw [hu] at h1
        rw [hv] at h2
        cases h1
        cases h2
        exact t
      · exact h.2 k u' v' (by omega) h1 h2
theorem rangeL_1 (n : Nat) : rangeL 1 n = (List.range' 0 n).map fun (k : Nat) => PyData.int (1 + k) := by
  unfold rangeL
  rw [List.range_eq_range']
theorem mk25 {c : CS} {s t : S} : mkF 2 5 [] c [s, t] = finish [] [s, t] (c [some s, some t, none, none, none]) := rfl
theorem in_spec {p : Hm} {P : List Cn} (hp : Hs p) (hP : ∀ c ∈ P, Sm c) (hn : P ≠ []) (hl : P.length ≤ 1000) : ∃ b : Bool, F_u_law_in [.dat (hD p), .dat (.list (P.map cD))] = .ok (.dat (.bool b)) [.dat (hD p), .dat (.list (P.map cD))] ∧ (b = true ↔ LawIn p P) := by
  match P, hn with
  | [a], _ =>
    have o := on_spec hp (hs_one (hP a (by simp))) (hs_one (hP a (by simp)))
    have e1 : decide ((1 : Int) < 3) = true := by decide
    have e2 : (1 : Int) - 1 = 0 := by decide
    refine ⟨decide (On p (a.1, a.2, 1) (a.1, a.2, 1)), ?_, decide_eq_true_iff⟩
    unfold F_u_law_in M_u_law_in
    unfold cD at *
    simp -implicitDefEqProofs only [k1_0, k1_e, k1_c, c1_r, k2b_0, k2b_e, k2b_c, k2a_0, k2a_e, k2a_c, c2_r, kN_0, kN_e, kN_c, cN_r, kTup_0, kTup_e, kTup_c, cTup_r, kLst_0, kLst_e, kLst_c, cLst_r, cK_r, caNil_r, kcb_0, kcb_e, kcb_c, kca_0, kca_e, kca_c, caCons_r, cxNil_r, kxb_0, kxb_e, kxb_c, kxa_0, kxa_e, kxa_c, cxD_r, cxS_r, kxs_0, cCall_r, kc1_0, kc1_e, kc2_0, kc3_0, kc3_e, kc3_c, ssOf_n, ss1_0, ss2_0, ssOf_d, ssOf_s, pb_n, pb_d, pb_s, so_n, so_d, so_s, di_n, di_1, di_c, cSeq_r, cNext_r, cRetN_r, cBrk_r, cCnt_r, kRet_0, kRet_e, kRet_c, cRet_r, kDrop_0, kDrop_e, kDrop_c, cDrop_r, kSet_0, kSet_e, kSet_c, cSet_r, kAs_0, kAsg_0, kAsg_e, kAsg_c, cAsg_r, cgName_r, cgNil_r, kgc_0, cgCons_r, cgTup_r, cgLst_r, kPar_0, kPar_e, kPar_c, cPar_r, kPar3_0, kPar3_e, kPar3_c, cPar3_r, kap3_0, kap2_0, kap2_e, kap2_c, kap1_0, cApp_r, ksi3_0, ksi4_0, ksi2_0, ksi2_e, ksi2_c, ksi1_0, ksi0_0, ksi0_e, ksi0_c, cSetIx_r, kix_l, kix_t, kix_s, kSq_0, kSq_e, kSq_c, ciSeq_r, kr1_0, kr1_e, kr1_c, ciRange1_r, kr2_0, kr2_e, kr2_c, ciRange2_r, kFor_0, kFor_e, kFor_c, cFor_r, forL_c, forL_n, kf1_0, kf2_nx, kf2_ct, kf2_bk, kf2_rt, kf2_exc, kf2_cond, kb_0, kbb_0, kb1_0, kb1_c, kb1_e, cB1_r, kb3_0, kb3_e, kb3_c, kb2_0, kb2_c, kb2_e, cB2_r, kres_0, res_d, res_s, kbn_0, cbN_r, kbD_0, kbD_e, kbD_c, cbD_r, kv_0, cV_r, kvm_0, cVm_r, cV_0, st_0, gt_0, cV_1, st_1, gt_1, cV_2, st_2, gt_2, cV_3, st_3, gt_3, cV_4, st_4, gt_4, cV_5, st_5, gt_5, cV_6, st_6, gt_6, cV_7, st_7, gt_7, cV_8, st_8, gt_8, cV_9, st_9, gt_9, cV_10, st_10, gt_10, cV_11, st_11, gt_11, cV_12, st_12, gt_12, cV_13, st_13, gt_13, cV_14, st_14, gt_14, cV_15, st_15, gt_15, cV_16, st_16, gt_16, cV_17, st_17, gt_17, cV_18, st_18, gt_18, cV_19, st_19, gt_19, cV_20, st_20, gt_20, cV_21, st_21, gt_21, cV_22, st_22, gt_22, cV_23, st_23, gt_23, tCh2_0, tCh2_e, tCh1_0, tCh0b_0, tCh0b_e, tCh0a_0, tCh0a_e, cChain_r, lcL_nil, lcL_c, ml1_0, ml2_t, ml2_f, ml2_b, ml3_0, ml5_0, ml4_0, ml4_e, ml4_c, cLc_r, nO_d, nO_n, nO_l, noOwn_n, noOwn_c, wipe_n, wipe_c, rsE_0, rest_n, rest_c, mkF_r, fo_0, fx_0, fin_nx', fin_rt', fin_exc', ob_0, og_0, od_0, outs_n, outs_c, lift_some, S_d, S_l, gAdd, gSub, gNeg, gNot, gLt, gLe, gGt, gGe, gEq_ii, gNe_ii, gLen, gAbs, gInt, tru_b, gMax2, gMin2, gGcd, gList, gTuple, gAll, gAny, bools_nil, bools_cons, gIs_bb, gIsN_bb, gPow, gMul, gFd, gMod, atI_0, atI_1, atI_2, atI_3, ixL_1, ixL_2, ixL_3, ixN_41, ixN_42, ixN_43, List.getElem?_cons_zero, List.getElem?_cons_succ, List.set_cons_zero, List.set_cons_succ, List.map_cons, List.map_nil, List.length_cons, List.length_nil, List.cons_append, List.nil_append, List.replicate_succ, List.replicate_zero, List.length_map, ↓cond_true, ↓cond_false, cond_true, cond_false, Option.map_some, beq_self_eq_true, List.contains_cons, List.contains_nil, Bool.or_false, Bool.false_or, Bool.or_true, Bool.and_true, Bool.true_and, Bool.not_true, Bool.not_false, Nat.reduceBEq, Nat.reduceAdd, Nat.reduceSub, Nat.reduceEqDiff, reduceCtorEq, Bool.false_eq_true, sq_nx, sq_rt, sq_bad, sq_bk, sq_ct, sq_exc, dz0, dz1, dz2, dz3, dz4, dz5, dz6, dz7, dz8, dz9, dz10, dz11, dz12, ic0, ic1, ic2, ic3, ic4, tAnd_ok, tOr_ok, tIf_ok, tIfS_ok, tAnd_exc, tOr_exc, tIf_exc, tIfS_exc, cAnd_t, cOr_t, cIf_t, cIfS_t, co_and, co_or, tAnd_cond, tOr_cond, tIfS_cond, sq_cond, fin_cond, rangeL_2, rangeL_3, List.all_cons, List.all_nil, List.any_cons, List.any_nil, id, rng1_t, rng2_t, Int.reduceToNat, if_true, ite_true, if_false, eq_self, decide_true, decide_false, isi_int_n, isi_int_b, isi_int_i, isi_int_s, isi_int_l, isi_int_t, isi_bool_n, isi_bool_b, isi_bool_i, isi_bool_s, isi_bool_l, isi_bool_t, isi_str_n, isi_str_b, isi_str_i, isi_str_s, isi_str_l, isi_str_t, isi_list_n, isi_list_b, isi_list_i, isi_list_s, isi_list_l, isi_list_t, isi_tuple_n, isi_tuple_b, isi_tuple_i, isi_tuple_s, isi_tuple_l, isi_tuple_t, isi_dict_n, isi_dict_b, isi_dict_i, isi_dict_s, isi_dict_l, isi_dict_t, nh_d, nh_l, nh_k, nh_o, nh_fn, nh_fc, ss3_0, sat_n, sat_0, sat_c, sup_n, sup_c, supc_0, fsg_c, fsg_n, fss_c, fss_n, pbs_0, pb_t, so_t, ssOf_t, gIx_l, gIx_t, S_k, Option.map_none, e1, e2, o]
  | [a, b], _ =>
    have o := on_spec hp (hs_one (hP a (by simp))) (hs_one (hP b (by simp)))
    have e1 : decide ((2 : Int) < 3) = true := by decide
    have e2 : (2 : Int) - 1 = 1 := by decide
    refine ⟨decide (On p (a.1, a.2, 1) (b.1, b.2, 1)), ?_, decide_eq_true_iff⟩
    unfold F_u_law_in M_u_law_in
    unfold cD at *
    simp -implicitDefEqProofs only [k1_0, k1_e, k1_c, c1_r, k2b_0, k2b_e, k2b_c, k2a_0, k2a_e, k2a_c, c2_r, kN_0, kN_e, kN_c, cN_r, kTup_0, kTup_e, kTup_c, cTup_r, kLst_0, kLst_e, kLst_c, cLst_r, cK_r, caNil_r, kcb_0, kcb_e, kcb_c, kca_0, kca_e, kca_c, caCons_r, cxNil_r, kxb_0, kxb_e, kxb_c, kxa_0, kxa_e, kxa_c, cxD_r, cxS_r, kxs_0, cCall_r, kc1_0, kc1_e, kc2_0, kc3_0, kc3_e, kc3_c, ssOf_n, ss1_0, ss2_0, ssOf_d, ssOf_s, pb_n, pb_d, pb_s, so_n, so_d, so_s, di_n, di_1, di_c, cSeq_r, cNext_r, cRetN_r, cBrk_r, cCnt_r, kRet_0, kRet_e, kRet_c, cRet_r, kDrop_0, kDrop_e, kDrop_c, cDrop_r, kSet_0, kSet_e, kSet_c, cSet_r, kAs_0, kAsg_0, kAsg_e, kAsg_c, cAsg_r, cgName_r, cgNil_r, kgc_0, cgCons_r, cgTup_r, cgLst_r, kPar_0, kPar_e, kPar_c, cPar_r, kPar3_0, kPar3_e, kPar3_c, cPar3_r, kap3_0, kap2_0, kap2_e, kap2_c, kap1_0, cApp_r, ksi3_0, ksi4_0, ksi2_0, ksi2_e, ksi2_c, ksi1_0, ksi0_0, ksi0_e, ksi0_c, cSetIx_r, kix_l, kix_t, kix_s, kSq_0, kSq_e, kSq_c, ciSeq_r, kr1_0, kr1_e, kr1_c, ciRange1_r, kr2_0, kr2_e, kr2_c, ciRange2_r, kFor_0, kFor_e, kFor_c, cFor_r, forL_c, forL_n, kf1_0, kf2_nx, kf2_ct, kf2_bk, kf2_rt, kf2_exc, kf2_cond, kb_0, kbb_0, kb1_0, kb1_c, kb1_e, cB1_r, kb3_0, kb3_e, kb3_c, kb2_0, kb2_c, kb2_e, cB2_r, kres_0, res_d, res_s, kbn_0, cbN_r, kbD_0, kbD_e, kbD_c, cbD_r, kv_0, cV_r, kvm_0, cVm_r, cV_0, st_0, gt_0, cV_1, st_1, gt_1, cV_2, st_2, gt_2, cV_3, st_3, gt_3, cV_4, st_4, gt_4, cV_5, st_5, gt_5, cV_6, st_6, gt_6, cV_7, st_7, gt_7, cV_8, st_8, gt_8, cV_9, st_9, gt_9, cV_10, st_10, gt_10, cV_11, st_11, gt_11, cV_12, st_12, gt_12, cV_13, st_13, gt_13, cV_14, st_14, gt_14, cV_15, st_15, gt_15, cV_16, st_16, gt_16, cV_17, st_17, gt_17, cV_18, st_18, gt_18, cV_19, st_19, gt_19, cV_20, st_20, gt_20, cV_21, st_21, gt_21, cV_22, st_22, gt_22, cV_23, st_23, gt_23, tCh2_0, tCh2_e, tCh1_0, tCh0b_0, tCh0b_e, tCh0a_0, tCh0a_e, cChain_r, lcL_nil, lcL_c, ml1_0, ml2_t, ml2_f, ml2_b, ml3_0, ml5_0, ml4_0, ml4_e, ml4_c, cLc_r, nO_d, nO_n, nO_l, noOwn_n, noOwn_c, wipe_n, wipe_c, rsE_0, rest_n, rest_c, mkF_r, fo_0, fx_0, fin_nx', fin_rt', fin_exc', ob_0, og_0, od_0, outs_n, outs_c, lift_some, S_d, S_l, gAdd, gSub, gNeg, gNot, gLt, gLe, gGt, gGe, gEq_ii, gNe_ii, gLen, gAbs, gInt, tru_b, gMax2, gMin2, gGcd, gList, gTuple, gAll, gAny, bools_nil, bools_cons, gIs_bb, gIsN_bb, gPow, gMul, gFd, gMod, atI_0, atI_1, atI_2, atI_3, ixL_1, ixL_2, ixL_3, ixN_41, ixN_42, ixN_43, List.getElem?_cons_zero, List.getElem?_cons_succ, List.set_cons_zero, List.set_cons_succ, List.map_cons, List.map_nil, List.length_cons, List.length_nil, List.cons_append, List.nil_append, List.replicate_succ, List.replicate_zero, List.length_map, ↓cond_true, ↓cond_false, cond_true, cond_false, Option.map_some, beq_self_eq_true, List.contains_cons, List.contains_nil, Bool.or_false, Bool.false_or, Bool.or_true, Bool.and_true, Bool.true_and, Bool.not_true, Bool.not_false, Nat.reduceBEq, Nat.reduceAdd, Nat.reduceSub, Nat.reduceEqDiff, reduceCtorEq, Bool.false_eq_true, sq_nx, sq_rt, sq_bad, sq_bk, sq_ct, sq_exc, dz0, dz1, dz2, dz3, dz4, dz5, dz6, dz7, dz8, dz9, dz10, dz11, dz12, ic0, ic1, ic2, ic3, ic4, tAnd_ok, tOr_ok, tIf_ok, tIfS_ok, tAnd_exc, tOr_exc, tIf_exc, tIfS_exc, cAnd_t, cOr_t, cIf_t, cIfS_t, co_and, co_or, tAnd_cond, tOr_cond, tIfS_cond, sq_cond, fin_cond, rangeL_2, rangeL_3, List.all_cons, List.all_nil, List.any_cons, List.any_nil, id, rng1_t, rng2_t, Int.reduceToNat, if_true, ite_true, if_false, eq_self, decide_true, decide_false, isi_int_n, isi_int_b, isi_int_i, isi_int_s, isi_int_l, isi_int_t, isi_bool_n, isi_bool_b, isi_bool_i, isi_bool_s, isi_bool_l, isi_bool_t, isi_str_n, isi_str_b, isi_str_i, isi_str_s, isi_str_l, isi_str_t, isi_list_n, isi_list_b, isi_list_i, isi_list_s, isi_list_l, isi_list_t, isi_tuple_n, isi_tuple_b, isi_tuple_i, isi_tuple_s, isi_tuple_l, isi_tuple_t, isi_dict_n, isi_dict_b, isi_dict_i, isi_dict_s, isi_dict_l, isi_dict_t, nh_d, nh_l, nh_k, nh_o, nh_fn, nh_fc, ss3_0, sat_n, sat_0, sat_c, sup_n, sup_c, supc_0, fsg_c, fsg_n, fss_c, fss_n, pbs_0, pb_t, so_t, ssOf_t, gIx_l, gIx_t, S_k, Option.map_none, e1, e2, o]
  | o :: b :: c :: r, _ =>
    have lc := in_loop (p := p) (o := o) (r := b :: c :: r) hp (hP o (by simp)) (fun x hx => hP x (by simp [hx])) (r.length + 1) 0 none none (by simp)
    rw [← rangeL_1] at lc
    have hlen : (((o :: b :: c :: r).map cD).length : Int) = (r.length : Int) + 3 := by simp; omega
    simp only [List.length_cons] at hl
    generalize hL : (o :: b :: c :: r).map cD = L at *
    have e1 : decide ((L.length : Int) < 3) = false := decide_eq_false (by omega)
    have sm : Sml ((L.length : Int) - 1) := by unfold Sml; omega
    have s1 : Sml 1 := by unfold Sml; omega
    have tn : ((L.length : Int) - 1 - 1).toNat = r.length + 1 := by omega
    have step : ∀ o : O, forL (cgName 2) L_u_law_in_0 (rangeL 1 (r.length + 1)) [some (.dat (hD p)), some (.dat (.list L)), none, none, none] = o → cFor (ciRange2 (caCons (cK (.int 1)) (caCons (c2 gSub (cB1 gLen (cbN 1)) (cK (.int 1))) (caNil)))) (cgName 2) (L_u_law_in_0) [some (.dat (hD p)), some (.dat (.list L)), none, none, none] = o := fun o ho => by
      simp -implicitDefEqProofs only [k1_0, k1_e, k1_c, c1_r, k2b_0, k2b_e, k2b_c, k2a_0, k2a_e, k2a_c, c2_r, kN_0, kN_e, kN_c, cN_r, kTup_0, kTup_e, kTup_c, cTup_r, kLst_0, kLst_e, kLst_c, cLst_r, cK_r, caNil_r, kcb_0, kcb_e, kcb_c, kca_0, kca_e, kca_c, caCons_r, cxNil_r, kxb_0, kxb_e, kxb_c, kxa_0, kxa_e, kxa_c, cxD_r, cxS_r, kxs_0, cCall_r, kc1_0, kc1_e, kc2_0, kc3_0, kc3_e, kc3_c, ssOf_n, ss1_0, ss2_0, ssOf_d, ssOf_s, pb_n, pb_d, pb_s, so_n, so_d, so_s, di_n, di_1, di_c, cSeq_r, cNext_r, cRetN_r, cBrk_r, cCnt_r, kRet_0, kRet_e, kRet_c, cRet_r, kDrop_0, kDrop_e, kDrop_c, cDrop_r, kSet_0, kSet_e, kSet_c, cSet_r, kAs_0, kAsg_0, kAsg_e, kAsg_c, cAsg_r, cgName_r, cgNil_r, kgc_0, cgCons_r, cgTup_r, cgLst_r, kPar_0, kPar_e, kPar_c, cPar_r, kPar3_0, kPar3_e, kPar3_c, cPar3_r, kap3_0, kap2_0, kap2_e, kap2_c, kap1_0, cApp_r, ksi3_0, ksi4_0, ksi2_0, ksi2_e, ksi2_c, ksi1_0, ksi0_0, ksi0_e, ksi0_c, cSetIx_r, kix_l, kix_t, kix_s, kSq_0, kSq_e, kSq_c, ciSeq_r, kr1_e, kr1_c, ciRange1_r, kr2_e, kr2_c, ciRange2_r, kFor_0, kFor_e, kFor_c, cFor_r, forL_c, forL_n, kf1_0, kf2_nx, kf2_ct, kf2_bk, kf2_rt, kf2_exc, kf2_cond, kb_0, kbb_0, kb1_0, kb1_c, kb1_e, cB1_r, kb3_0, kb3_e, kb3_c, kb2_0, kb2_c, kb2_e, cB2_r, kres_0, res_d, res_s, kbn_0, cbN_r, kbD_0, kbD_e, kbD_c, cbD_r, kv_0, cV_r, kvm_0, cVm_r, cV_0, st_0, gt_0, cV_1, st_1, gt_1, cV_2, st_2, gt_2, cV_3, st_3, gt_3, cV_4, st_4, gt_4, cV_5, st_5, gt_5, cV_6, st_6, gt_6, cV_7, st_7, gt_7, cV_8, st_8, gt_8, cV_9, st_9, gt_9, cV_10, st_10, gt_10, cV_11, st_11, gt_11, cV_12, st_12, gt_12, cV_13, st_13, gt_13, cV_14, st_14, gt_14, cV_15, st_15, gt_15, cV_16, st_16, gt_16, cV_17, st_17, gt_17, cV_18, st_18, gt_18, cV_19, st_19, gt_19, cV_20, st_20, gt_20, cV_21, st_21, gt_21, cV_22, st_22, gt_22, cV_23, st_23, gt_23, tCh2_0, tCh2_e, tCh1_0, tCh0b_0, tCh0b_e, tCh0a_0, tCh0a_e, cChain_r, lcL_nil, lcL_c, ml1_0, ml2_t, ml2_f, ml2_b, ml3_0, ml5_0, ml4_0, ml4_e, ml4_c, nO_d, nO_n, nO_l, noOwn_n, noOwn_c, wipe_n, wipe_c, rsE_0, rest_n, rest_c, mkF_r, fo_0, fx_0, fin_nx', fin_rt', fin_exc', ob_0, og_0, od_0, outs_n, outs_c, lift_some, S_d, S_l, gAdd, gSub, gNeg, gNot, gLt, gLe, gGt, gGe, gEq_ii, gNe_ii, gLen, gAbs, gInt, tru_b, gMax2, gMin2, gGcd, gList, gTuple, gAll, gAny, bools_nil, bools_cons, gIs_bb, gIsN_bb, gPow, gMul, gFd, gMod, atI_0, atI_1, atI_2, atI_3, ixL_1, ixL_2, ixL_3, ixN_41, ixN_42, ixN_43, List.getElem?_cons_zero, List.getElem?_cons_succ, List.set_cons_zero, List.set_cons_succ, List.map_cons, List.map_nil, List.length_cons, List.length_nil, List.cons_append, List.nil_append, List.replicate_succ, List.replicate_zero, List.length_map, ↓cond_true, ↓cond_false, cond_true, cond_false, Option.map_some, beq_self_eq_true, List.contains_cons, List.contains_nil, Bool.or_false, Bool.false_or, Bool.or_true, Bool.and_true, Bool.true_and, Bool.not_true, Bool.not_false, Nat.reduceBEq, Nat.reduceAdd, Nat.reduceSub, Nat.reduceEqDiff, reduceCtorEq, Bool.false_eq_true, sq_nx, sq_rt, sq_bad, sq_bk, sq_ct, sq_exc, dz0, dz1, dz2, dz3, dz4, dz5, dz6, dz7, dz8, dz9, dz10, dz11, dz12, ic0, ic1, ic2, ic3, ic4, tAnd_ok, tOr_ok, tIf_ok, tIfS_ok, tAnd_exc, tOr_exc, tIf_exc, tIfS_exc, cAnd_t, cOr_t, cIf_t, cIfS_t, co_and, co_or, tAnd_cond, tOr_cond, tIfS_cond, sq_cond, fin_cond, rangeL_2, rangeL_3, List.all_cons, List.all_nil, List.any_cons, List.any_nil, id, rng1_t, rng2_t, Int.reduceToNat, if_true, ite_true, if_false, eq_self, decide_true, decide_false, isi_int_n, isi_int_b, isi_int_i, isi_int_s, isi_int_l, isi_int_t, isi_bool_n, isi_bool_b, isi_bool_i, isi_bool_s, isi_bool_l, isi_bool_t, isi_str_n, isi_str_b, isi_str_i, isi_str_s, isi_str_l, isi_str_t, isi_list_n, isi_list_b, isi_list_i, isi_list_s, isi_list_l, isi_list_t, isi_tuple_n, isi_tuple_b, isi_tuple_i, isi_tuple_s, isi_tuple_l, isi_tuple_t, isi_dict_n, isi_dict_b, isi_dict_i, isi_dict_s, isi_dict_l, isi_dict_t, nh_d, nh_l, nh_k, nh_o, nh_fn, nh_fc, ss3_0, sat_n, sat_0, sat_c, sup_n, sup_c, supc_0, fsg_c, fsg_n, fss_c, fss_n, pbs_0, pb_t, so_t, ssOf_t, gIx_l, gIx_t, S_k, Option.map_none, kr2_s s1 sm, tn, ho]
    have s0 : (cIfS (c2 gLt (cB1 gLen (cbN 1)) (cK (.int 3))) (cRet (cCall F_u_law_on (cxD (cV 0) (cxD (cB2 gIx (cbN 1) (cK (.int 0))) (cxD (cB2 gIx (cbN 1) (c2 gSub (cB1 gLen (cbN 1)) (cK (.int 1)))) (cxNil)))))) (cNext)) [some (.dat (hD p)), some (.dat (.list L)), none, none, none] = .nx [some (.dat (hD p)), some (.dat (.list L)), none, none, none] := by
      simp -implicitDefEqProofs only [k1_0, k1_e, k1_c, c1_r, k2b_0, k2b_e, k2b_c, k2a_0, k2a_e, k2a_c, c2_r, kN_0, kN_e, kN_c, cN_r, kTup_0, kTup_e, kTup_c, cTup_r, kLst_0, kLst_e, kLst_c, cLst_r, cK_r, caNil_r, kcb_0, kcb_e, kcb_c, kca_0, kca_e, kca_c, caCons_r, cxNil_r, kxb_0, kxb_e, kxb_c, kxa_0, kxa_e, kxa_c, cxD_r, cxS_r, kxs_0, cCall_r, kc1_0, kc1_e, kc2_0, kc3_0, kc3_e, kc3_c, ssOf_n, ss1_0, ss2_0, ssOf_d, ssOf_s, pb_n, pb_d, pb_s, so_n, so_d, so_s, di_n, di_1, di_c, cSeq_r, cNext_r, cRetN_r, cBrk_r, cCnt_r, kRet_0, kRet_e, kRet_c, cRet_r, kDrop_0, kDrop_e, kDrop_c, cDrop_r, kSet_0, kSet_e, kSet_c, cSet_r, kAs_0, kAsg_0, kAsg_e, kAsg_c, cAsg_r, cgName_r, cgNil_r, kgc_0, cgCons_r, cgTup_r, cgLst_r, kPar_0, kPar_e, kPar_c, cPar_r, kPar3_0, kPar3_e, kPar3_c, cPar3_r, kap3_0, kap2_0, kap2_e, kap2_c, kap1_0, cApp_r, ksi3_0, ksi4_0, ksi2_0, ksi2_e, ksi2_c, ksi1_0, ksi0_0, ksi0_e, ksi0_c, cSetIx_r, kix_l, kix_t, kix_s, kSq_0, kSq_e, kSq_c, ciSeq_r, kr1_e, kr1_c, ciRange1_r, kr2_e, kr2_c, ciRange2_r, kFor_0, kFor_e, kFor_c, cFor_r, forL_c, forL_n, kf1_0, kf2_nx, kf2_ct, kf2_bk, kf2_rt, kf2_exc, kf2_cond, kb_0, kbb_0, kb1_0, kb1_c, kb1_e, cB1_r, kb3_0, kb3_e, kb3_c, kb2_0, kb2_c, kb2_e, cB2_r, kres_0, res_d, res_s, kbn_0, cbN_r, kbD_0, kbD_e, kbD_c, cbD_r, kv_0, cV_r, kvm_0, cVm_r, cV_0, st_0, gt_0, cV_1, st_1, gt_1, cV_2, st_2, gt_2, cV_3, st_3, gt_3, cV_4, st_4, gt_4, cV_5, st_5, gt_5, cV_6, st_6, gt_6, cV_7, st_7, gt_7, cV_8, st_8, gt_8, cV_9, st_9, gt_9, cV_10, st_10, gt_10, cV_11, st_11, gt_11, cV_12, st_12, gt_12, cV_13, st_13, gt_13, cV_14, st_14, gt_14, cV_15, st_15, gt_15, cV_16, st_16, gt_16, cV_17, st_17, gt_17, cV_18, st_18, gt_18, cV_19, st_19, gt_19, cV_20, st_20, gt_20, cV_21, st_21, gt_21, cV_22, st_22, gt_22, cV_23, st_23, gt_23, tCh2_0, tCh2_e, tCh1_0, tCh0b_0, tCh0b_e, tCh0a_0, tCh0a_e, cChain_r, lcL_nil, lcL_c, ml1_0, ml2_t, ml2_f, ml2_b, ml3_0, ml5_0, ml4_0, ml4_e, ml4_c, nO_d, nO_n, nO_l, noOwn_n, noOwn_c, wipe_n, wipe_c, rsE_0, rest_n, rest_c, mkF_r, fo_0, fx_0, fin_nx', fin_rt', fin_exc', ob_0, og_0, od_0, outs_n, outs_c, lift_some, S_d, S_l, gAdd, gSub, gNeg, gNot, gLt, gLe, gGt, gGe, gEq_ii, gNe_ii, gLen, gAbs, gInt, tru_b, gMax2, gMin2, gGcd, gList, gTuple, gAll, gAny, bools_nil, bools_cons, gIs_bb, gIsN_bb, gPow, gMul, gFd, gMod, atI_0, atI_1, atI_2, atI_3, ixL_1, ixL_2, ixL_3, ixN_41, ixN_42, ixN_43, List.getElem?_cons_zero, List.getElem?_cons_succ, List.set_cons_zero, List.set_cons_succ, List.map_cons, List.map_nil, List.length_cons, List.length_nil, List.cons_append, List.nil_append, List.replicate_succ, List.replicate_zero, List.length_map, ↓cond_true, ↓cond_false, cond_true, cond_false, Option.map_some, beq_self_eq_true, List.contains_cons, List.contains_nil, Bool.or_false, Bool.false_or, Bool.or_true, Bool.and_true, Bool.true_and, Bool.not_true, Bool.not_false, Nat.reduceBEq, Nat.reduceAdd, Nat.reduceSub, Nat.reduceEqDiff, reduceCtorEq, Bool.false_eq_true, sq_nx, sq_rt, sq_bad, sq_bk, sq_ct, sq_exc, dz0, dz1, dz2, dz3, dz4, dz5, dz6, dz7, dz8, dz9, dz10, dz11, dz12, ic0, ic1, ic2, ic3, ic4, tAnd_ok, tOr_ok, tIf_ok, tIfS_ok, tAnd_exc, tOr_exc, tIf_exc, tIfS_exc, cAnd_t, cOr_t, cIf_t, cIfS_t, co_and, co_or, tAnd_cond, tOr_cond, tIfS_cond, sq_cond, fin_cond, rangeL_2, rangeL_3, List.all_cons, List.all_nil, List.any_cons, List.any_nil, id, rng1_t, rng2_t, Int.reduceToNat, if_true, ite_true, if_false, eq_self, decide_true, decide_false, isi_int_n, isi_int_b, isi_int_i, isi_int_s, isi_int_l, isi_int_t, isi_bool_n, isi_bool_b, isi_bool_i, isi_bool_s, isi_bool_l, isi_bool_t, isi_str_n, isi_str_b, isi_str_i, isi_str_s, isi_str_l, isi_str_t, isi_list_n, isi_list_b, isi_list_i, isi_list_s, isi_list_l, isi_list_t, isi_tuple_n, isi_tuple_b, isi_tuple_i, isi_tuple_s, isi_tuple_l, isi_tuple_t, isi_dict_n, isi_dict_b, isi_dict_i, isi_dict_s, isi_dict_l, isi_dict_t, nh_d, nh_l, nh_k, nh_o, nh_fn, nh_fc, ss3_0, sat_n, sat_0, sat_c, sup_n, sup_c, supc_0, fsg_c, fsg_n, fss_c, fss_n, pbs_0, pb_t, so_t, ssOf_t, gIx_l, gIx_t, S_k, Option.map_none, e1]
    have fin : ∀ o : O, cFor (ciRange2 (caCons (cK (.int 1)) (caCons (c2 gSub (cB1 gLen (cbN 1)) (cK (.int 1))) (caNil)))) (cgName 2) (L_u_law_in_0) [some (.dat (hD p)), some (.dat (.list L)), none, none, none] = o → F_u_law_in [.dat (hD p), .dat (.list L)] = finish [] [.dat (hD p), .dat (.list L)] (o.sq (cRet (cK (.bool false)))) := fun o ho => by
      unfold F_u_law_in M_u_law_in
      rw [mk25, cSeq_r, s0, sq_nx, cSeq_r, ho]
    obtain ⟨y2, y3, h⟩ := lc
    rcases h with ⟨e, n⟩ | ⟨e, n⟩
    · refine ⟨false, ?_, by simp only [Bool.false_eq_true, false_iff]; rintro ⟨k, u, v, h1, h2, h3⟩; exact n k u v (Nat.zero_le _) h1 h2 h3⟩
      rw [fin _ (step _ e)]
      rfl
    · refine ⟨true, ?_, by simp only [true_iff]; exact n⟩
      rw [fin _ (step _ e)]
      rfl
/-! ### plain: what the law asks of a hull -/
theorem nx_or {s : List Cn} {a b c : Cn} (h : Nx s a b) (hc : c ∈ s) : 0 ≤ ar a b c := (h.2.2 c hc).elim Int.le_of_lt fun q => Int.le_of_eq q.1.symm
theorem on_of {a b c : Cn} (h : ar a b c = 0) (g : Bt a c b) : On (c.1, c.2, 1) (a.1, a.2, 1) (b.1, b.2, 1) := by
  obtain ⟨h1, h2⟩ := bt_co h g
  refine ⟨?_, ?_, ?_⟩
  · rw [dt_one, hh_one]; exact h
  · unfold Mid; simp only [Int.mul_one]; exact h1
  · unfold Mid; simp only [Int.mul_one]; exact h2
theorem law_in_all {s P : List Cn} (h : Hl s P) {c : Cn} (hc : c ∈ s) : LawIn (c.1, c.2, 1) P := by
  cases h with
  | one h g =>
    rw [g c hc]
    exact on_of ar_self (.inl ⟨le_rf _, le_rf _⟩)
  | poly n h1 h2 h3 h4 =>
    rename_i p r
    match r, n with
    | [q], _ =>
      have e1 := h4.1.2.2 c hc
      have e2 := nx_or h4.2 hc
      have e3 : ar q p c = -ar p q c := by unfold ar; grind
      rcases e1 with e | e
      · omega
      · exact on_of e.1 e.2
    | b :: x :: r, _ =>
      have h5 := ch_prs h4
      exact fan_of (by simp) (by rw [hh_one]; exact nx_or h4.1 hc) fun e he => by rw [hh_one]; exact nx_or (h5 e (List.mem_cons_of_mem _ he)) hc
theorem nx_strict {s : List Cn} {x y z : Cn} (h : Nx s x y) (g : Nx s y z) (n : x ≠ z) (hx : x ∈ s) : 0 < ar x y z := by
  rcases h.2.2 z g.1 with e | e
  · exact e
  · exfalso
    have e2 : ar y z x = 0 := by have := e.1; unfold ar at *; grind
    have n1 := h.2.1
    rcases g.2.2 x hx with k | k
    · omega
    · have k1 := e.2
      have k2 := k.2
      have ng := g.2.1
      refine n ?_
      rcases lt_or n with q | q <;> rcases lt_or n1 with q1 | q1 <;> rcases lt_or ng with q2 | q2 <;> rcases k1 with k1 | k1 <;> rcases k2 with k2 | k2 <;> (exfalso; omega)
/-- each corner and the one behind it -/
theorem ch_at {s : List Cn} {z : Cn} : ∀ {r : List Cn} {a : Cn} {i : Nat} {x y : Cn}, Ch s a r z → (a :: r)[i]? = some x → ((a :: r)[i + 1]? = some y ∨ (i = r.length ∧ y = z)) → Nx s x y
  | [], a, i, x, y, h, h1, h2 => by
    cases i with
    | zero =>
      cases h1
      rcases h2 with h2 | h2
      · cases h2
      · rw [h2.2]; exact h
    | succ i => simp at h1
  | b :: r, a, i, x, y, h, h1, h2 => by
    cases i with
    | zero =>
      cases h1
      rcases h2 with h2 | h2
      · cases h2; exact h.1
      · simp at h2
    | succ i => exact ch_at (i := i) h.2 (by simpa using h1) (by simpa using h2)
theorem Hl.nx {s P : List Cn} (h : Hl s P) (h2 : 2 ≤ P.length) {k : Int} (h0 : 0 ≤ k) (hk : k < P.length) {x y : Cn} (hx : atI P (k - 1) = some x) (hy : atI P k = some y) : Nx s x y := by
  cases h with
  | one _ _ => simp at h2
  | poly n h1 h2' h3 h4 =>
    rename_i p r
    obtain ⟨j, rfl⟩ : ∃ j : Nat, k = j := ⟨k.toNat, by omega⟩
    have hj : (p :: r)[j]? = some y := by
      rw [List.getElem?_eq_getElem (by omega), ← atI_lt (by omega)]; exact hy
    cases j with
    | zero =>
      have hl : (p :: r)[r.length]? = some x := by
        have e := atI_neg (l := p :: r) (k := ((0 : Nat) : Int) - 1) (j := 1) (x := (p :: r)[r.length]'(by simp)) (by decide) (by omega) (by simp) (by simp [List.getElem?_eq_getElem])
        rw [hx] at e
        rw [e, List.getElem?_eq_getElem (by simp)]
      cases hj
      exact ch_at h4 hl (.inr ⟨rfl, rfl⟩)
    | succ j =>
      have hl : (p :: r)[j]? = some x := by
        have e1 : ((j + 1 : Nat) : Int) - 1 = (j : Int) := by omega
        rw [e1] at hx
        rw [List.getElem?_eq_getElem (by omega), ← atI_lt (by omega)]; exact hx
      exact ch_at h4 hl (.inl hj)
theorem atI_some {α : Type} {l : List α} {k : Int} (h : -(l.length : Int) ≤ k) (h2 : k < l.length) : ∃ x, atI l k = some x ∧ x ∈ l := by
  by_cases h0 : 0 ≤ k
  · obtain ⟨j, rfl⟩ : ∃ j : Nat, k = j := ⟨k.toNat, by omega⟩
    exact ⟨l[j]'(by omega), atI_lt (by omega), List.getElem_mem _⟩
  · obtain ⟨j, rfl⟩ : ∃ j : Nat, k = -(j : Int) := ⟨(-k).toNat, by omega⟩
    have : l.length - j < l.length := by omega
    exact ⟨l[l.length - j], atI_neg (j := j) (by omega) rfl (by omega) (List.getElem?_eq_getElem this), List.getElem_mem _⟩
/-- the turns of three corners that follow each other -/
theorem Hl.turns {s P : List Cn} (h : Hl s P) (h3 : 3 ≤ P.length) {k : Int} (h0 : 0 ≤ k) (hk : k < P.length) : ∃ x y z, atI P (k - 2) = some x ∧ atI P (k - 1) = some y ∧ atI P k = some z ∧ x ∈ P ∧ y ∈ P ∧ z ∈ P ∧ 0 < ar x y z := by
  obtain ⟨x, hx, mx⟩ := atI_some (l := P) (k := k - 2) (by omega) (by omega)
  obtain ⟨y, hy, my⟩ := atI_some (l := P) (k := k - 1) (by omega) (by omega)
  obtain ⟨z, hz, mz⟩ := atI_some (l := P) (k := k) (by omega) (by omega)
  have n2 := h.nx (by omega) h0 hk hy hz
  have back : ∀ {i : Int}, i < 0 → -(P.length : Int) ≤ i → atI P i = atI P (i + P.length) := fun {i} h1 h2 => by
    unfold atI ixN
    rw [if_neg (by omega), if_pos (by omega), if_pos (by omega), if_pos (by omega)]
  have n1 : Nx s x y := by
    by_cases k0 : 0 ≤ k - 1
    · exact h.nx (by omega) k0 (by omega) (by rw [show k - 1 - 1 = k - 2 by omega]; exact hx) hy
    · rw [back (by omega) (by omega)] at hx hy
      exact h.nx (k := k - 1 + P.length) (by omega) (by omega) (by omega) (by rw [show k - 1 + (P.length : Int) - 1 = k - 2 + P.length by omega]; exact hx) hy
  refine ⟨x, y, z, hx, hy, hz, mx, my, mz, nx_strict n1 n2 (fun e => ?_) (h.sub x mx)⟩
  have nd := h.nodup
  have un : ∀ {i j : Nat} {u : Cn}, P[i]? = some u → P[j]? = some u → i = j := fun {i j u} h1 h2 => by
    have l1 := (List.getElem?_eq_some_iff.mp h1)
    obtain ⟨a1, a2⟩ := l1
    obtain ⟨b1, b2⟩ := List.getElem?_eq_some_iff.mp h2
    have pw := List.pairwise_iff_getElem.mp nd
    rcases Nat.lt_trichotomy i j with q | q | q
    · exact absurd (a2.trans b2.symm) (pw i j a1 b1 q)
    · exact q
    · exact absurd (b2.trans a2.symm) (pw j i b1 a1 q)
  have get : ∀ {i : Int} {u : Cn}, atI P i = some u → -(P.length : Int) ≤ i → i < P.length → P[(if 0 ≤ i then i else i + P.length).toNat]? = some u := fun {i u} h1 h2 h3 => by
    unfold atI ixN at h1
    by_cases h0 : 0 ≤ i
    · rw [if_pos h0, if_pos h3] at h1
      rw [if_pos h0]
      exact h1
    · rw [if_neg h0, if_pos h2] at h1
      rw [if_neg h0]
      exact h1
  have g1 := get hx (by omega) (by omega)
  have g2 := get hz (by omega) (by omega)
  rw [e] at g1
  have := un g1 g2
  rw [if_pos h0] at this
  split at this <;> omega
theorem Hl.fix {s P : List Cn} (h : Hl s P) {Q P' : List Cn} (hQ : ∀ c, c ∈ Q ↔ c ∈ P) (h' : Hl Q P') : P' = P := h'.uniq (h.self.same fun c => (hQ c).symm)
theorem Hl.head_least {s P : List Cn} (h : Hl s P) : ∃ p r, P = p :: r ∧ p ∈ s ∧ ∀ c ∈ s, Le p c := by
  cases h with
  | one h g => exact ⟨_, _, rfl, h, fun c hc => by rw [g c hc]; exact le_rf _⟩
  | poly _ h g _ _ => exact ⟨_, _, rfl, h, g⟩
/-! #### min of corners -/
theorem intsOf_pD {c : Cn} {cs : List Cn} : intsOf ((c :: cs).map pD) = none := rfl
theorem minD_go : ∀ (l : List Cn) (m : Cn), ∃ m', (l.map pD).foldl (fun a y => if PySem.W.dataLt y a then y else a) (pD m) = pD m' ∧ (m' = m ∨ m' ∈ l) ∧ Le m' m ∧ ∀ c ∈ l, Le m' c
  | [], m => ⟨m, rfl, .inl rfl, le_rf _, fun _ h => by cases h⟩
  | c :: l, m => by
    have e : (if PySem.W.dataLt (pD c) (pD m) = true then pD c else pD m) = pD (if SrtO.lexB c m = true then c else m) := by rw [dataLt_pD]; split <;> rfl
    obtain ⟨m', h1, h2, h3, h4⟩ := minD_go l (if SrtO.lexB c m = true then c else m)
    refine ⟨m', ?_, ?_, ?_, ?_⟩
    · rw [List.map_cons, List.foldl_cons, e]; exact h1
    · rcases h2 with h2 | h2
      · split at h2
        · exact .inr (by rw [h2]; simp)
        · exact .inl h2
      · exact .inr (by simp [h2])
    · split at h3
      · rename_i q
        have := SrtO.lexB_iff.mp q
        omega
      · exact h3
    · intro x hx
      rcases List.mem_cons.mp hx with rfl | hx
      · split at h3
        · exact h3
        · rename_i q
          have q : SrtO.lexB x m = false := by cases h : SrtO.lexB x m with
            | true => exact absurd h q
            | false => rfl
          have := SrtO.lexB_no.mp q
          omega
      · exact h4 x hx
theorem alikeOk_pD {cs : List Cn} : alikeOk (cs.map pD) = true := by
  unfold alikeOk
  have h1 : ((cs.map pD).all fun d => (cs.map pD).all fun e => PySem.W.alike d e) = true := by
    refine List.all_eq_true.mpr fun d hd => List.all_eq_true.mpr fun e he => ?_
    obtain ⟨a, _, rfl⟩ := List.mem_map.mp hd
    obtain ⟨b, _, rfl⟩ := List.mem_map.mp he
    rfl
  have h2 : decide (PyData.depthAll (cs.map pD) ≤ 60) = true := decide_eq_true (by have := dep_pD (P := cs); omega)
  rw [h1, h2, plains_pD]
  simp only [List.all_map, Bool.true_and, Bool.and_true]
  exact List.all_eq_true.mpr fun c _ => rfl
theorem min_spec {cs : List Cn} (hn : cs ≠ []) : ∃ m, gMinX [.list (cs.map pD)] = some (.dat (pD m)) ∧ m ∈ cs ∧ ∀ c ∈ cs, Le m c := by
  match cs, hn with
  | c :: cs, _ =>
    obtain ⟨m, h1, h2, h3, h4⟩ := minD_go cs c
    refine ⟨m, ?_, ?_, ?_⟩
    · show (gMin1 [.list ((c :: cs).map pD)] <|> gMinD [.list ((c :: cs).map pD)]) = _
      have e : gMin1 [.list ((c :: cs).map pD)] = none := rfl
      rw [e]
      show (bif alikeOk ((c :: cs).map pD) then some (S.dat (PySem.W.minD (pD c) (cs.map pD))) else none) = _
      rw [alikeOk_pD, cond_true]
      unfold PySem.W.minD
      rw [h1]
    · rcases h2 with h2 | h2
      · rw [h2]; simp
      · simp [h2]
    · intro x hx
      rcases List.mem_cons.mp hx with rfl | hx
      · exact h3
      · exact h4 x hx
/-! ### the law's draws, walked -/
abbrev Fq := Int × Int
def fqD (p : Fq) : PyData := .tuple [.int p.1, .int p.2]
abbrev Pq := Fq × Fq
def pqD (p : Pq) : PyData := .tuple [fqD p.1, fqD p.2]
def scl (p : Pq) : Hm := (p.1.1 * p.2.2, p.2.1 * p.1.2, p.1.2 * p.2.2)
def FqOk (p : Fq) : Prop := Bd 60 p.1 ∧ Bd 60 p.2 ∧ 0 < p.2
def PqOk (p : Pq) : Prop := FqOk p.1 ∧ FqOk p.2
theorem scl_hs {p : Pq} (h : PqOk p) : Hs (scl p) := ⟨(h.1.1.mul h.2.2.1).mono (by decide), (h.2.1.mul h.1.2.1).mono (by decide), (h.1.2.1.mul h.2.2.1).mono (by decide)⟩
theorem scl_pos {p : Pq} (h : PqOk p) : 0 < (scl p).2.2 := mul_ps h.1.2.2 h.2.2.2
theorem scaled_spec {p : Pq} (h : PqOk p) : F_scaled [.dat (pqD p)] = .ok (.dat (hD (scl p))) [.dat (pqD p)] := by
  obtain ⟨⟨a1, a2, _⟩, b1, b2, _⟩ := h
  unfold F_scaled M_scaled pqD fqD scl hD
  simp -implicitDefEqProofs (disch := first | with_reducible assumption | ((with_reducible apply Bdx.id); exact Bdx.of (by (repeat' first | with_reducible assumption | apply Bd.mul | apply Bd.sub2 | apply Bd.add2 | apply Bd.neg | exact Bd.lit rfl)) (by decide)) | ((with_reducible apply Sml.id); exact Sml.lit rfl) | fail) only [k1_0, k1_e, k1_c, c1_r, k2b_0, k2b_e, k2b_c, k2a_0, k2a_e, k2a_c, c2_r, kN_0, kN_e, kN_c, cN_r, kTup_0, kTup_e, kTup_c, cTup_r, kLst_0, kLst_e, kLst_c, cLst_r, cK_r, caNil_r, kcb_0, kcb_e, kcb_c, kca_0, kca_e, kca_c, caCons_r, cxNil_r, kxb_0, kxb_e, kxb_c, kxa_0, kxa_e, kxa_c, cxD_r, cxS_r, kxs_0, cCall_r, kc1_0, kc1_e, kc2_0, kc3_0, kc3_e, kc3_c, ssOf_n, ss1_0, ss2_0, ssOf_d, ssOf_s, pb_n, pb_d, pb_s, so_n, so_d, so_s, di_n, di_1, di_c, cSeq_r, cNext_r, cRetN_r, cBrk_r, cCnt_r, kRet_0, kRet_e, kRet_c, cRet_r, kDrop_0, kDrop_e, kDrop_c, cDrop_r, kSet_0, kSet_e, kSet_c, cSet_r, kAs_0, kAsg_0, kAsg_e, kAsg_c, cAsg_r, cgName_r, cgNil_r, kgc_0, cgCons_r, cgTup_r, cgLst_r, kPar_0, kPar_e, kPar_c, cPar_r, kPar3_0, kPar3_e, kPar3_c, cPar3_r, kap3_0, kap2_0, kap2_e, kap2_c, kap1_0, cApp_r, ksi3_0, ksi4_0, ksi2_0, ksi2_e, ksi2_c, ksi1_0, ksi0_0, ksi0_e, ksi0_c, cSetIx_r, kix_l, kix_t, kix_s, kSq_0, kSq_e, kSq_c, ciSeq_r, kr1_0, kr1_e, kr1_c, ciRange1_r, kr2_0, kr2_e, kr2_c, ciRange2_r, kFor_0, kFor_e, kFor_c, cFor_r, forL_c, forL_n, kf1_0, kf2_nx, kf2_ct, kf2_bk, kf2_rt, kf2_exc, kf2_cond, kb_0, kbb_0, kb1_0, kb1_c, kb1_e, cB1_r, kb3_0, kb3_e, kb3_c, kb2_0, kb2_c, kb2_e, cB2_r, kres_0, res_d, res_s, kbn_0, cbN_r, kbD_0, kbD_e, kbD_c, cbD_r, kv_0, cV_r, kvm_0, cVm_r, cV_0, st_0, gt_0, cV_1, st_1, gt_1, cV_2, st_2, gt_2, cV_3, st_3, gt_3, cV_4, st_4, gt_4, cV_5, st_5, gt_5, cV_6, st_6, gt_6, cV_7, st_7, gt_7, cV_8, st_8, gt_8, cV_9, st_9, gt_9, cV_10, st_10, gt_10, cV_11, st_11, gt_11, cV_12, st_12, gt_12, cV_13, st_13, gt_13, cV_14, st_14, gt_14, cV_15, st_15, gt_15, cV_16, st_16, gt_16, cV_17, st_17, gt_17, cV_18, st_18, gt_18, cV_19, st_19, gt_19, cV_20, st_20, gt_20, cV_21, st_21, gt_21, cV_22, st_22, gt_22, cV_23, st_23, gt_23, tCh2_0, tCh2_e, tCh1_0, tCh0b_0, tCh0b_e, tCh0a_0, tCh0a_e, cChain_r, lcL_nil, lcL_c, ml1_0, ml2_t, ml2_f, ml2_b, ml3_0, ml5_0, ml4_0, ml4_e, ml4_c, cLc_r, nO_d, nO_n, nO_l, noOwn_n, noOwn_c, wipe_n, wipe_c, rsE_0, rest_n, rest_c, mkF_r, fo_0, fx_0, fin_nx', fin_rt', fin_exc', ob_0, og_0, od_0, outs_n, outs_c, lift_some, S_d, S_l, gAdd, gSub, gNeg, gNot, gLt, gLe, gGt, gGe, gEq_ii, gNe_ii, gLen, gAbs, gInt, tru_b, gMax2, gMin2, gGcd, gList, gTuple, gAll, gAny, bools_nil, bools_cons, gIs_bb, gIsN_bb, gPow, gMul, gFd, gMod, atI_0, atI_1, atI_2, atI_3, ixL_1, ixL_2, ixL_3, ixN_41, ixN_42, ixN_43, List.getElem?_cons_zero, List.getElem?_cons_succ, List.set_cons_zero, List.set_cons_succ, List.map_cons, List.map_nil, List.length_cons, List.length_nil, List.cons_append, List.nil_append, List.replicate_succ, List.replicate_zero, List.length_map, ↓cond_true, ↓cond_false, cond_true, cond_false, Option.map_some, beq_self_eq_true, List.contains_cons, List.contains_nil, Bool.or_false, Bool.false_or, Bool.or_true, Bool.and_true, Bool.true_and, Bool.not_true, Bool.not_false, Nat.reduceBEq, Nat.reduceAdd, Nat.reduceSub, Nat.reduceEqDiff, reduceCtorEq, Bool.false_eq_true, sq_nx, sq_rt, sq_bad, sq_bk, sq_ct, sq_exc, dz0, dz1, dz2, dz3, dz4, dz5, dz6, dz7, dz8, dz9, dz10, dz11, dz12, ic0, ic1, ic2, ic3, ic4, tAnd_ok, tOr_ok, tIf_ok, tIfS_ok, tAnd_exc, tOr_exc, tIf_exc, tIfS_exc, cAnd_t, cOr_t, cIf_t, cIfS_t, co_and, co_or, tAnd_cond, tOr_cond, tIfS_cond, sq_cond, fin_cond, rangeL_2, rangeL_3, List.all_cons, List.all_nil, List.any_cons, List.any_nil, id, rng1_t, rng2_t, Int.reduceToNat, if_true, ite_true, if_false, eq_self, decide_true, decide_false, isi_int_n, isi_int_b, isi_int_i, isi_int_s, isi_int_l, isi_int_t, isi_bool_n, isi_bool_b, isi_bool_i, isi_bool_s, isi_bool_l, isi_bool_t, isi_str_n, isi_str_b, isi_str_i, isi_str_s, isi_str_l, isi_str_t, isi_list_n, isi_list_b, isi_list_i, isi_list_s, isi_list_l, isi_list_t, isi_tuple_n, isi_tuple_b, isi_tuple_i, isi_tuple_s, isi_tuple_l, isi_tuple_t, isi_dict_n, isi_dict_b, isi_dict_i, isi_dict_s, isi_dict_l, isi_dict_t, nh_d, nh_l, nh_k, nh_o, nh_fn, nh_fc, ss3_0, sat_n, sat_0, sat_c, sup_n, sup_c, supc_0, fsg_c, fsg_n, fss_c, fss_n, pbs_0, pb_t, so_t, ssOf_t, gIx_l, gIx_t, S_k, Option.map_none, cmulW_t]
theorem lscale_spec {p : Pq} (h : PqOk p) : F_u_law_scale [.dat (pqD p)] = .ok (.dat (hD (scl p))) [.dat (pqD p)] := by
  obtain ⟨⟨a1, a2, _⟩, b1, b2, _⟩ := h
  unfold F_u_law_scale M_u_law_scale pqD fqD scl hD
  simp -implicitDefEqProofs (disch := first | with_reducible assumption | ((with_reducible apply Bdx.id); exact Bdx.of (by (repeat' first | with_reducible assumption | apply Bd.mul | apply Bd.sub2 | apply Bd.add2 | apply Bd.neg | exact Bd.lit rfl)) (by decide)) | ((with_reducible apply Sml.id); exact Sml.lit rfl) | fail) only [k1_0, k1_e, k1_c, c1_r, k2b_0, k2b_e, k2b_c, k2a_0, k2a_e, k2a_c, c2_r, kN_0, kN_e, kN_c, cN_r, kTup_0, kTup_e, kTup_c, cTup_r, kLst_0, kLst_e, kLst_c, cLst_r, cK_r, caNil_r, kcb_0, kcb_e, kcb_c, kca_0, kca_e, kca_c, caCons_r, cxNil_r, kxb_0, kxb_e, kxb_c, kxa_0, kxa_e, kxa_c, cxD_r, cxS_r, kxs_0, cCall_r, kc1_0, kc1_e, kc2_0, kc3_0, kc3_e, kc3_c, ssOf_n, ss1_0, ss2_0, ssOf_d, ssOf_s, pb_n, pb_d, pb_s, so_n, so_d, so_s, di_n, di_1, di_c, cSeq_r, cNext_r, cRetN_r, cBrk_r, cCnt_r, kRet_0, kRet_e, kRet_c, cRet_r, kDrop_0, kDrop_e, kDrop_c, cDrop_r, kSet_0, kSet_e, kSet_c, cSet_r, kAs_0, kAsg_0, kAsg_e, kAsg_c, cAsg_r, cgName_r, cgNil_r, kgc_0, cgCons_r, cgTup_r, cgLst_r, kPar_0, kPar_e, kPar_c, cPar_r, kPar3_0, kPar3_e, kPar3_c, cPar3_r, kap3_0, kap2_0, kap2_e, kap2_c, kap1_0, cApp_r, ksi3_0, ksi4_0, ksi2_0, ksi2_e, ksi2_c, ksi1_0, ksi0_0, ksi0_e, ksi0_c, cSetIx_r, kix_l, kix_t, kix_s, kSq_0, kSq_e, kSq_c, ciSeq_r, kr1_0, kr1_e, kr1_c, ciRange1_r, kr2_0, kr2_e, kr2_c, ciRange2_r, kFor_0, kFor_e, kFor_c, cFor_r, forL_c, forL_n, kf1_0, kf2_nx, kf2_ct, kf2_bk, kf2_rt, kf2_exc, kf2_cond, kb_0, kbb_0, kb1_0, kb1_c, kb1_e, cB1_r, kb3_0, kb3_e, kb3_c, kb2_0, kb2_c, kb2_e, cB2_r, kres_0, res_d, res_s, kbn_0, cbN_r, kbD_0, kbD_e, kbD_c, cbD_r, kv_0, cV_r, kvm_0, cVm_r, cV_0, st_0, gt_0, cV_1, st_1, gt_1, cV_2, st_2, gt_2, cV_3, st_3, gt_3, cV_4, st_4, gt_4, cV_5, st_5, gt_5, cV_6, st_6, gt_6, cV_7, st_7, gt_7, cV_8, st_8, gt_8, cV_9, st_9, gt_9, cV_10, st_10, gt_10, cV_11, st_11, gt_11, cV_12, st_12, gt_12, cV_13, st_13, gt_13, cV_14, st_14, gt_14, cV_15, st_15, gt_15, cV_16, st_16, gt_16, cV_17, st_17, gt_17, cV_18, st_18, gt_18, cV_19, st_19, gt_19, cV_20, st_20, gt_20, cV_21, st_21, gt_21, cV_22, st_22, gt_22, cV_23, st_23, gt_23, tCh2_0, tCh2_e, tCh1_0, tCh0b_0, tCh0b_e, tCh0a_0, tCh0a_e, cChain_r, lcL_nil, lcL_c, ml1_0, ml2_t, ml2_f, ml2_b, ml3_0, ml5_0, ml4_0, ml4_e, ml4_c, cLc_r, nO_d, nO_n, nO_l, noOwn_n, noOwn_c, wipe_n, wipe_c, rsE_0, rest_n, rest_c, mkF_r, fo_0, fx_0, fin_nx', fin_rt', fin_exc', ob_0, og_0, od_0, outs_n, outs_c, lift_some, S_d, S_l, gAdd, gSub, gNeg, gNot, gLt, gLe, gGt, gGe, gEq_ii, gNe_ii, gLen, gAbs, gInt, tru_b, gMax2, gMin2, gGcd, gList, gTuple, gAll, gAny, bools_nil, bools_cons, gIs_bb, gIsN_bb, gPow, gMul, gFd, gMod, atI_0, atI_1, atI_2, atI_3, ixL_1, ixL_2, ixL_3, ixN_41, ixN_42, ixN_43, List.getElem?_cons_zero, List.getElem?_cons_succ, List.set_cons_zero, List.set_cons_succ, List.map_cons, List.map_nil, List.length_cons, List.length_nil, List.cons_append, List.nil_append, List.replicate_succ, List.replicate_zero, List.length_map, ↓cond_true, ↓cond_false, cond_true, cond_false, Option.map_some, beq_self_eq_true, List.contains_cons, List.contains_nil, Bool.or_false, Bool.false_or, Bool.or_true, Bool.and_true, Bool.true_and, Bool.not_true, Bool.not_false, Nat.reduceBEq, Nat.reduceAdd, Nat.reduceSub, Nat.reduceEqDiff, reduceCtorEq, Bool.false_eq_true, sq_nx, sq_rt, sq_bad, sq_bk, sq_ct, sq_exc, dz0, dz1, dz2, dz3, dz4, dz5, dz6, dz7, dz8, dz9, dz10, dz11, dz12, ic0, ic1, ic2, ic3, ic4, tAnd_ok, tOr_ok, tIf_ok, tIfS_ok, tAnd_exc, tOr_exc, tIf_exc, tIfS_exc, cAnd_t, cOr_t, cIf_t, cIfS_t, co_and, co_or, tAnd_cond, tOr_cond, tIfS_cond, sq_cond, fin_cond, rangeL_2, rangeL_3, List.all_cons, List.all_nil, List.any_cons, List.any_nil, id, rng1_t, rng2_t, Int.reduceToNat, if_true, ite_true, if_false, eq_self, decide_true, decide_false, isi_int_n, isi_int_b, isi_int_i, isi_int_s, isi_int_l, isi_int_t, isi_bool_n, isi_bool_b, isi_bool_i, isi_bool_s, isi_bool_l, isi_bool_t, isi_str_n, isi_str_b, isi_str_i, isi_str_s, isi_str_l, isi_str_t, isi_list_n, isi_list_b, isi_list_i, isi_list_s, isi_list_l, isi_list_t, isi_tuple_n, isi_tuple_b, isi_tuple_i, isi_tuple_s, isi_tuple_l, isi_tuple_t, isi_dict_n, isi_dict_b, isi_dict_i, isi_dict_s, isi_dict_l, isi_dict_t, nh_d, nh_l, nh_k, nh_o, nh_fn, nh_fc, ss3_0, sat_n, sat_0, sat_c, sup_n, sup_c, supc_0, fsg_c, fsg_n, fss_c, fss_n, pbs_0, pb_t, so_t, ssOf_t, gIx_l, gIx_t, S_k, Option.map_none, cmulW_t]
/-- what a step of _law_ratio keeps -/
def RtOk (N : Nat) (n d : Int) : Prop := n.natAbs ≤ N ∧ 0 < d ∧ d ≤ 1000
theorem fdiv_le {n k : Int} {N : Nat} (h : n.natAbs ≤ N) (hk : 2 ≤ k) (h0 : n % k = 0) : (n.fdiv k).natAbs ≤ N := by
  rw [Int.fdiv_eq_ediv_of_nonneg _ (by omega)]
  have e := Int.emod_add_mul_ediv n k
  rw [h0] at e
  generalize n / k = q at *
  have e : k * q = n := by omega
  refine Nat.le_trans ?_ h
  rw [← e, Int.natAbs_mul]
  exact Nat.le_mul_of_pos_left _ (by omega)
theorem ratio_step {N : Nat} {n d k : Int} {x3 : Option S} (h : RtOk N n d) (hk : k = 2 ∨ k = 3 ∨ k = 5) : ∃ n' d', L_u_law_ratio_0 [some (.dat (.int n)), some (.dat (.int d)), some (.dat (.int k)), x3] = .nx [some (.dat (.int n')), some (.dat (.int d')), some (.dat (.int k)), x3] ∧ RtOk N n' d' := by
  obtain ⟨h1, h2, h3⟩ := h
  have k0 : decide (0 < k) = true := decide_eq_true (by omega)
  have cf : ∀ i, decide (CFd i k) = true := fun i => decide_eq_true ⟨by omega, by
    have : k.natAbs.log2 ≤ k.natAbs := Nat.log2_le_self _
    omega⟩
  by_cases e1 : n % k = 0
  · have d1 : (n % k == 0) = true := by rw [e1]; rfl
    by_cases e2 : d % k = 0
    · have d2 : (d % k == 0) = true := by rw [e2]; rfl
      by_cases e3 : 1 < d
      · have d3 : decide (1 < d) = true := decide_eq_true e3
        refine ⟨n.fdiv k, d.fdiv k, ?_, fdiv_le h1 (by omega) e1, ?_, ?_⟩
        · unfold L_u_law_ratio_0
          simp -implicitDefEqProofs only [k1_0, k1_e, k1_c, c1_r, k2b_0, k2b_e, k2b_c, k2a_0, k2a_e, k2a_c, c2_r, kN_0, kN_e, kN_c, cN_r, kTup_0, kTup_e, kTup_c, cTup_r, kLst_0, kLst_e, kLst_c, cLst_r, cK_r, caNil_r, kcb_0, kcb_e, kcb_c, kca_0, kca_e, kca_c, caCons_r, cxNil_r, kxb_0, kxb_e, kxb_c, kxa_0, kxa_e, kxa_c, cxD_r, cxS_r, kxs_0, cCall_r, kc1_0, kc1_e, kc2_0, kc3_0, kc3_e, kc3_c, ssOf_n, ss1_0, ss2_0, ssOf_d, ssOf_s, pb_n, pb_d, pb_s, so_n, so_d, so_s, di_n, di_1, di_c, cSeq_r, cNext_r, cRetN_r, cBrk_r, cCnt_r, kRet_0, kRet_e, kRet_c, cRet_r, kDrop_0, kDrop_e, kDrop_c, cDrop_r, kSet_0, kSet_e, kSet_c, cSet_r, kAs_0, kAsg_0, kAsg_e, kAsg_c, cAsg_r, cgName_r, cgNil_r, kgc_0, cgCons_r, cgTup_r, cgLst_r, kPar_0, kPar_e, kPar_c, cPar_r, kPar3_0, kPar3_e, kPar3_c, cPar3_r, kap3_0, kap2_0, kap2_e, kap2_c, kap1_0, cApp_r, ksi3_0, ksi4_0, ksi2_0, ksi2_e, ksi2_c, ksi1_0, ksi0_0, ksi0_e, ksi0_c, cSetIx_r, kix_l, kix_t, kix_s, kSq_0, kSq_e, kSq_c, ciSeq_r, kr1_0, kr1_e, kr1_c, ciRange1_r, kr2_0, kr2_e, kr2_c, ciRange2_r, kFor_0, kFor_e, kFor_c, cFor_r, forL_c, forL_n, kf1_0, kf2_nx, kf2_ct, kf2_bk, kf2_rt, kf2_exc, kf2_cond, kb_0, kbb_0, kb1_0, kb1_c, kb1_e, cB1_r, kb3_0, kb3_e, kb3_c, kb2_0, kb2_c, kb2_e, cB2_r, kres_0, res_d, res_s, kbn_0, cbN_r, kbD_0, kbD_e, kbD_c, cbD_r, kv_0, cV_r, kvm_0, cVm_r, cV_0, st_0, gt_0, cV_1, st_1, gt_1, cV_2, st_2, gt_2, cV_3, st_3, gt_3, cV_4, st_4, gt_4, cV_5, st_5, gt_5, cV_6, st_6, gt_6, cV_7, st_7, gt_7, cV_8, st_8, gt_8, cV_9, st_9, gt_9, cV_10, st_10, gt_10, cV_11, st_11, gt_11, cV_12, st_12, gt_12, cV_13, st_13, gt_13, cV_14, st_14, gt_14, cV_15, st_15, gt_15, cV_16, st_16, gt_16, cV_17, st_17, gt_17, cV_18, st_18, gt_18, cV_19, st_19, gt_19, cV_20, st_20, gt_20, cV_21, st_21, gt_21, cV_22, st_22, gt_22, cV_23, st_23, gt_23, tCh2_0, tCh2_e, tCh1_0, tCh0b_0, tCh0b_e, tCh0a_0, tCh0a_e, cChain_r, lcL_nil, lcL_c, ml1_0, ml2_t, ml2_f, ml2_b, ml3_0, ml5_0, ml4_0, ml4_e, ml4_c, cLc_r, nO_d, nO_n, nO_l, noOwn_n, noOwn_c, wipe_n, wipe_c, rsE_0, rest_n, rest_c, mkF_r, fo_0, fx_0, fin_nx', fin_rt', fin_exc', ob_0, og_0, od_0, outs_n, outs_c, lift_some, S_d, S_l, gAdd, gSub, gNeg, gNot, gLt, gLe, gGt, gGe, gEq_ii, gNe_ii, gLen, gAbs, gInt, tru_b, gMax2, gMin2, gGcd, gList, gTuple, gAll, gAny, bools_nil, bools_cons, gIs_bb, gIsN_bb, gPow, gMul, gFd, gMod, atI_0, atI_1, atI_2, atI_3, ixL_1, ixL_2, ixL_3, ixN_41, ixN_42, ixN_43, List.getElem?_cons_zero, List.getElem?_cons_succ, List.set_cons_zero, List.set_cons_succ, List.map_cons, List.map_nil, List.length_cons, List.length_nil, List.cons_append, List.nil_append, List.replicate_succ, List.replicate_zero, List.length_map, ↓cond_true, ↓cond_false, cond_true, cond_false, Option.map_some, beq_self_eq_true, List.contains_cons, List.contains_nil, Bool.or_false, Bool.false_or, Bool.or_true, Bool.and_true, Bool.true_and, Bool.not_true, Bool.not_false, Nat.reduceBEq, Nat.reduceAdd, Nat.reduceSub, Nat.reduceEqDiff, reduceCtorEq, Bool.false_eq_true, sq_nx, sq_rt, sq_bad, sq_bk, sq_ct, sq_exc, dz0, dz1, dz2, dz3, dz4, dz5, dz6, dz7, dz8, dz9, dz10, dz11, dz12, ic0, ic1, ic2, ic3, ic4, tAnd_ok, tOr_ok, tIf_ok, tIfS_ok, tAnd_exc, tOr_exc, tIf_exc, tIfS_exc, cAnd_t, cOr_t, cIf_t, cIfS_t, co_and, co_or, tAnd_cond, tOr_cond, tIfS_cond, sq_cond, fin_cond, rangeL_2, rangeL_3, List.all_cons, List.all_nil, List.any_cons, List.any_nil, id, rng1_t, rng2_t, Int.reduceToNat, if_true, ite_true, if_false, eq_self, decide_true, decide_false, isi_int_n, isi_int_b, isi_int_i, isi_int_s, isi_int_l, isi_int_t, isi_bool_n, isi_bool_b, isi_bool_i, isi_bool_s, isi_bool_l, isi_bool_t, isi_str_n, isi_str_b, isi_str_i, isi_str_s, isi_str_l, isi_str_t, isi_list_n, isi_list_b, isi_list_i, isi_list_s, isi_list_l, isi_list_t, isi_tuple_n, isi_tuple_b, isi_tuple_i, isi_tuple_s, isi_tuple_l, isi_tuple_t, isi_dict_n, isi_dict_b, isi_dict_i, isi_dict_s, isi_dict_l, isi_dict_t, nh_d, nh_l, nh_k, nh_o, nh_fn, nh_fc, ss3_0, sat_n, sat_0, sat_c, sup_n, sup_c, supc_0, fsg_c, fsg_n, fss_c, fss_n, pbs_0, pb_t, so_t, ssOf_t, gIx_l, gIx_t, S_k, Option.map_none, k0, cf, d1, d2, d3]
        · rw [Int.fdiv_eq_ediv_of_nonneg _ (by omega)]
          have e := Int.emod_add_mul_ediv d k
          rcases Int.lt_or_le 0 (d / k) with q | q
          · exact q
          · have := Int.mul_nonneg (show 0 ≤ k by omega) (show 0 ≤ -(d / k) by omega)
            grind
        · rw [Int.fdiv_eq_ediv_of_nonneg _ (by omega)]
          have : d / k ≤ d := Int.ediv_le_self _ (by omega)
          omega
      · have d3 : decide (1 < d) = false := decide_eq_false e3
        refine ⟨n, d, ?_, h1, h2, h3⟩
        unfold L_u_law_ratio_0
        simp -implicitDefEqProofs only [k1_0, k1_e, k1_c, c1_r, k2b_0, k2b_e, k2b_c, k2a_0, k2a_e, k2a_c, c2_r, kN_0, kN_e, kN_c, cN_r, kTup_0, kTup_e, kTup_c, cTup_r, kLst_0, kLst_e, kLst_c, cLst_r, cK_r, caNil_r, kcb_0, kcb_e, kcb_c, kca_0, kca_e, kca_c, caCons_r, cxNil_r, kxb_0, kxb_e, kxb_c, kxa_0, kxa_e, kxa_c, cxD_r, cxS_r, kxs_0, cCall_r, kc1_0, kc1_e, kc2_0, kc3_0, kc3_e, kc3_c, ssOf_n, ss1_0, ss2_0, ssOf_d, ssOf_s, pb_n, pb_d, pb_s, so_n, so_d, so_s, di_n, di_1, di_c, cSeq_r, cNext_r, cRetN_r, cBrk_r, cCnt_r, kRet_0, kRet_e, kRet_c, cRet_r, kDrop_0, kDrop_e, kDrop_c, cDrop_r, kSet_0, kSet_e, kSet_c, cSet_r, kAs_0, kAsg_0, kAsg_e, kAsg_c, cAsg_r, cgName_r, cgNil_r, kgc_0, cgCons_r, cgTup_r, cgLst_r, kPar_0, kPar_e, kPar_c, cPar_r, kPar3_0, kPar3_e, kPar3_c, cPar3_r, kap3_0, kap2_0, kap2_e, kap2_c, kap1_0, cApp_r, ksi3_0, ksi4_0, ksi2_0, ksi2_e, ksi2_c, ksi1_0, ksi0_0, ksi0_e, ksi0_c, cSetIx_r, kix_l, kix_t, kix_s, kSq_0, kSq_e, kSq_c, ciSeq_r, kr1_0, kr1_e, kr1_c, ciRange1_r, kr2_0, kr2_e, kr2_c, ciRange2_r, kFor_0, kFor_e, kFor_c, cFor_r, forL_c, forL_n, kf1_0, kf2_nx, kf2_ct, kf2_bk, kf2_rt, kf2_exc, kf2_cond, kb_0, kbb_0, kb1_0, kb1_c, kb1_e, cB1_r, kb3_0, kb3_e, kb3_c, kb2_0, kb2_c, kb2_e, cB2_r, kres_0, res_d, res_s, kbn_0, cbN_r, kbD_0, kbD_e, kbD_c, cbD_r, kv_0, cV_r, kvm_0, cVm_r, cV_0, st_0, gt_0, cV_1, st_1, gt_1, cV_2, st_2, gt_2, cV_3, st_3, gt_3, cV_4, st_4, gt_4, cV_5, st_5, gt_5, cV_6, st_6, gt_6, cV_7, st_7, gt_7, cV_8, st_8, gt_8, cV_9, st_9, gt_9, cV_10, st_10, gt_10, cV_11, st_11, gt_11, cV_12, st_12, gt_12, cV_13, st_13, gt_13, cV_14, st_14, gt_14, cV_15, st_15, gt_15, cV_16, st_16, gt_16, cV_17, st_17, gt_17, cV_18, st_18, gt_18, cV_19, st_19, gt_19, cV_20, st_20, gt_20, cV_21, st_21, gt_21, cV_22, st_22, gt_22, cV_23, st_23, gt_23, tCh2_0, tCh2_e, tCh1_0, tCh0b_0, tCh0b_e, tCh0a_0, tCh0a_e, cChain_r, lcL_nil, lcL_c, ml1_0, ml2_t, ml2_f, ml2_b, ml3_0, ml5_0, ml4_0, ml4_e, ml4_c, cLc_r, nO_d, nO_n, nO_l, noOwn_n, noOwn_c, wipe_n, wipe_c, rsE_0, rest_n, rest_c, mkF_r, fo_0, fx_0, fin_nx', fin_rt', fin_exc', ob_0, og_0, od_0, outs_n, outs_c, lift_some, S_d, S_l, gAdd, gSub, gNeg, gNot, gLt, gLe, gGt, gGe, gEq_ii, gNe_ii, gLen, gAbs, gInt, tru_b, gMax2, gMin2, gGcd, gList, gTuple, gAll, gAny, bools_nil, bools_cons, gIs_bb, gIsN_bb, gPow, gMul, gFd, gMod, atI_0, atI_1, atI_2, atI_3, ixL_1, ixL_2, ixL_3, ixN_41, ixN_42, ixN_43, List.getElem?_cons_zero, List.getElem?_cons_succ, List.set_cons_zero, List.set_cons_succ, List.map_cons, List.map_nil, List.length_cons, List.length_nil, List.cons_append, List.nil_append, List.replicate_succ, List.replicate_zero, List.length_map, ↓cond_true, ↓cond_false, cond_true, cond_false, Option.map_some, beq_self_eq_true, List.contains_cons, List.contains_nil, Bool.or_false, Bool.false_or, Bool.or_true, Bool.and_true, Bool.true_and, Bool.not_true, Bool.not_false, Nat.reduceBEq, Nat.reduceAdd, Nat.reduceSub, Nat.reduceEqDiff, reduceCtorEq, Bool.false_eq_true, sq_nx, sq_rt, sq_bad, sq_bk, sq_ct, sq_exc, dz0, dz1, dz2, dz3, dz4, dz5, dz6, dz7, dz8, dz9, dz10, dz11, dz12, ic0, ic1, ic2, ic3, ic4, tAnd_ok, tOr_ok, tIf_ok, tIfS_ok, tAnd_exc, tOr_exc, tIf_exc, tIfS_exc, cAnd_t, cOr_t, cIf_t, cIfS_t, co_and, co_or, tAnd_cond, tOr_cond, tIfS_cond, sq_cond, fin_cond, rangeL_2, rangeL_3, List.all_cons, List.all_nil, List.any_cons, List.any_nil, id, rng1_t, rng2_t, Int.reduceToNat, if_true, ite_true, if_false, eq_self, decide_true, decide_false, isi_int_n, isi_int_b, isi_int_i, isi_int_s, isi_int_l, isi_int_t, isi_bool_n, isi_bool_b, isi_bool_i, isi_bool_s, isi_bool_l, isi_bool_t, isi_str_n, isi_str_b, isi_str_i, isi_str_s, isi_str_l, isi_str_t, isi_list_n, isi_list_b, isi_list_i, isi_list_s, isi_list_l, isi_list_t, isi_tuple_n, isi_tuple_b, isi_tuple_i, isi_tuple_s, isi_tuple_l, isi_tuple_t, isi_dict_n, isi_dict_b, isi_dict_i, isi_dict_s, isi_dict_l, isi_dict_t, nh_d, nh_l, nh_k, nh_o, nh_fn, nh_fc, ss3_0, sat_n, sat_0, sat_c, sup_n, sup_c, supc_0, fsg_c, fsg_n, fss_c, fss_n, pbs_0, pb_t, so_t, ssOf_t, gIx_l, gIx_t, S_k, Option.map_none, k0, cf, d1, d2, d3]
    · have d2 : (d % k == 0) = false := beq_eq_false_iff_ne.mpr e2
      refine ⟨n, d, ?_, h1, h2, h3⟩
      unfold L_u_law_ratio_0
      simp -implicitDefEqProofs only [k1_0, k1_e, k1_c, c1_r, k2b_0, k2b_e, k2b_c, k2a_0, k2a_e, k2a_c, c2_r, kN_0, kN_e, kN_c, cN_r, kTup_0, kTup_e, kTup_c, cTup_r, kLst_0, kLst_e, kLst_c, cLst_r, cK_r, caNil_r, kcb_0, kcb_e, kcb_c, kca_0, kca_e, kca_c, caCons_r, cxNil_r, kxb_0, kxb_e, kxb_c, kxa_0, kxa_e, kxa_c, cxD_r, cxS_r, kxs_0, cCall_r, kc1_0, kc1_e, kc2_0, kc3_0, kc3_e, kc3_c, ssOf_n, ss1_0, ss2_0, ssOf_d, ssOf_s, pb_n, pb_d, pb_s, so_n, so_d, so_s, di_n, di_1, di_c, cSeq_r, cNext_r, cRetN_r, cBrk_r, cCnt_r, kRet_0, kRet_e, kRet_c, cRet_r, kDrop_0, kDrop_e, kDrop_c, cDrop_r, kSet_0, kSet_e, kSet_c, cSet_r, kAs_0, kAsg_0, kAsg_e, kAsg_c, cAsg_r, cgName_r, cgNil_r, kgc_0, cgCons_r, cgTup_r, cgLst_r, kPar_0, kPar_e, kPar_c, cPar_r, kPar3_0, kPar3_e, kPar3_c, cPar3_r, kap3_0, kap2_0, kap2_e, kap2_c, kap1_0, cApp_r, ksi3_0, ksi4_0, ksi2_0, ksi2_e, ksi2_c, ksi1_0, ksi0_0, ksi0_e, ksi0_c, cSetIx_r, kix_l, kix_t, kix_s, kSq_0, kSq_e, kSq_c, ciSeq_r, kr1_0, kr1_e, kr1_c, ciRange1_r, kr2_0, kr2_e, kr2_c, ciRange2_r, kFor_0, kFor_e, kFor_c, cFor_r, forL_c, forL_n, kf1_0, kf2_nx, kf2_ct, kf2_bk, kf2_rt, kf2_exc, kf2_cond, kb_0, kbb_0, kb1_0, kb1_c, kb1_e, cB1_r, kb3_0, kb3_e, kb3_c, kb2_0, kb2_c, kb2_e, cB2_r, kres_0, res_d, res_s, kbn_0, cbN_r, kbD_0, kbD_e, kbD_c, cbD_r, kv_0, cV_r, kvm_0, cVm_r, cV_0, st_0, gt_0, cV_1, st_1, gt_1, cV_2, st_2, gt_2, cV_3, st_3, gt_3, cV_4, st_4, gt_4, cV_5, st_5, gt_5, cV_6, st_6, gt_6, cV_7, st_7, gt_7, cV_8, st_8, gt_8, cV_9, st_9, gt_9, cV_10, st_10, gt_10, cV_11, st_11, gt_11, cV_12, st_12, gt_12, cV_13, st_13, gt_13, cV_14, st_14, gt_14, cV_15, st_15, gt_15, cV_16, st_16, gt_16, cV_17, st_17, gt_17, cV_18, st_18, gt_18, cV_19, st_19, gt_19, cV_20, st_20, gt_20, cV_21, st_21, gt_21, cV_22, st_22, gt_22, cV_23, st_23, gt_23, tCh2_0, tCh2_e, tCh1_0, tCh0b_0, tCh0b_e, tCh0a_0, tCh0a_e, cChain_r, lcL_nil, lcL_c, ml1_0, ml2_t, ml2_f, ml2_b, ml3_0, ml5_0, ml4_0, ml4_e, ml4_c, cLc_r, nO_d, nO_n, nO_l, noOwn_n, noOwn_c, wipe_n, wipe_c, rsE_0, rest_n, rest_c, mkF_r, fo_0, fx_0, fin_nx', fin_rt', fin_exc', ob_0, og_0, od_0, outs_n, outs_c, lift_some, S_d, S_l, gAdd, gSub, gNeg, gNot, gLt, gLe, gGt, gGe, gEq_ii, gNe_ii, gLen, gAbs, gInt, tru_b, gMax2, gMin2, gGcd, gList, gTuple, gAll, gAny, bools_nil, bools_cons, gIs_bb, gIsN_bb, gPow, gMul, gFd, gMod, atI_0, atI_1, atI_2, atI_3, ixL_1, ixL_2, ixL_3, ixN_41, ixN_42, ixN_43, List.getElem?_cons_zero, List.getElem?_cons_succ, List.set_cons_zero, List.set_cons_succ, List.map_cons, List.map_nil, List.length_cons, List.length_nil, List.cons_append, List.nil_append, List.replicate_succ, List.replicate_zero, List.length_map, ↓cond_true, ↓cond_false, cond_true, cond_false, Option.map_some, beq_self_eq_true, List.contains_cons, List.contains_nil, Bool.or_false, Bool.false_or, Bool.or_true, Bool.and_true, Bool.true_and, Bool.not_true, Bool.not_false, Nat.reduceBEq, Nat.reduceAdd, Nat.reduceSub, Nat.reduceEqDiff, reduceCtorEq, Bool.false_eq_true, sq_nx, sq_rt, sq_bad, sq_bk, sq_ct, sq_exc, dz0, dz1, dz2, dz3, dz4, dz5, dz6, dz7, dz8, dz9, dz10, dz11, dz12, ic0, ic1, ic2, ic3, ic4, tAnd_ok, tOr_ok, tIf_ok, tIfS_ok, tAnd_exc, tOr_exc, tIf_exc, tIfS_exc, cAnd_t, cOr_t, cIf_t, cIfS_t, co_and, co_or, tAnd_cond, tOr_cond, tIfS_cond, sq_cond, fin_cond, rangeL_2, rangeL_3, List.all_cons, List.all_nil, List.any_cons, List.any_nil, id, rng1_t, rng2_t, Int.reduceToNat, if_true, ite_true, if_false, eq_self, decide_true, decide_false, isi_int_n, isi_int_b, isi_int_i, isi_int_s, isi_int_l, isi_int_t, isi_bool_n, isi_bool_b, isi_bool_i, isi_bool_s, isi_bool_l, isi_bool_t, isi_str_n, isi_str_b, isi_str_i, isi_str_s, isi_str_l, isi_str_t, isi_list_n, isi_list_b, isi_list_i, isi_list_s, isi_list_l, isi_list_t, isi_tuple_n, isi_tuple_b, isi_tuple_i, isi_tuple_s, isi_tuple_l, isi_tuple_t, isi_dict_n, isi_dict_b, isi_dict_i, isi_dict_s, isi_dict_l, isi_dict_t, nh_d, nh_l, nh_k, nh_o, nh_fn, nh_fc, ss3_0, sat_n, sat_0, sat_c, sup_n, sup_c, supc_0, fsg_c, fsg_n, fss_c, fss_n, pbs_0, pb_t, so_t, ssOf_t, gIx_l, gIx_t, S_k, Option.map_none, k0, cf, d1, d2]
  · have d1 : (n % k == 0) = false := beq_eq_false_iff_ne.mpr e1
    refine ⟨n, d, ?_, h1, h2, h3⟩
    unfold L_u_law_ratio_0
    simp -implicitDefEqProofs only [k1_0, k1_e, k1_c, c1_r, k2b_0, k2b_e, k2b_c, k2a_0, k2a_e, k2a_c, c2_r, kN_0, kN_e, kN_c, cN_r, kTup_0, kTup_e, kTup_c, cTup_r, kLst_0, kLst_e, kLst_c, cLst_r, cK_r, caNil_r, kcb_0, kcb_e, kcb_c, kca_0, kca_e, kca_c, caCons_r, cxNil_r, kxb_0, kxb_e, kxb_c, kxa_0, kxa_e, kxa_c, cxD_r, cxS_r, kxs_0, cCall_r, kc1_0, kc1_e, kc2_0, kc3_0, kc3_e, kc3_c, ssOf_n, ss1_0, ss2_0, ssOf_d, ssOf_s, pb_n, pb_d, pb_s, so_n, so_d, so_s, di_n, di_1, di_c, cSeq_r, cNext_r, cRetN_r, cBrk_r, cCnt_r, kRet_0, kRet_e, kRet_c, cRet_r, kDrop_0, kDrop_e, kDrop_c, cDrop_r, kSet_0, kSet_e, kSet_c, cSet_r, kAs_0, kAsg_0, kAsg_e, kAsg_c, cAsg_r, cgName_r, cgNil_r, kgc_0, cgCons_r, cgTup_r, cgLst_r, kPar_0, kPar_e, kPar_c, cPar_r, kPar3_0, kPar3_e, kPar3_c, cPar3_r, kap3_0, kap2_0, kap2_e, kap2_c, kap1_0, cApp_r, ksi3_0, ksi4_0, ksi2_0, ksi2_e, ksi2_c, ksi1_0, ksi0_0, ksi0_e, ksi0_c, cSetIx_r, kix_l, kix_t, kix_s, kSq_0, kSq_e, kSq_c, ciSeq_r, kr1_0, kr1_e, kr1_c, ciRange1_r, kr2_0, kr2_e, kr2_c, ciRange2_r, kFor_0, kFor_e, kFor_c, cFor_r, forL_c, forL_n, kf1_0, kf2_nx, kf2_ct, kf2_bk, kf2_rt, kf2_exc, kf2_cond, kb_0, kbb_0, kb1_0, kb1_c, kb1_e, cB1_r, kb3_0, kb3_e, kb3_c, kb2_0, kb2_c, kb2_e, cB2_r, kres_0, res_d, res_s, kbn_0, cbN_r, kbD_0, kbD_e, kbD_c, cbD_r, kv_0, cV_r, kvm_0, cVm_r, cV_0, st_0, gt_0, cV_1, st_1, gt_1, cV_2, st_2, gt_2, cV_3, st_3, gt_3, cV_4, st_4, gt_4, cV_5, st_5, gt_5, cV_6, st_6, gt_6, cV_7, st_7, gt_7, cV_8, st_8, gt_8, cV_9, st_9, gt_9, cV_10, st_10, gt_10, cV_11, st_11, gt_11, cV_12, st_12, gt_12, cV_13, st_13, gt_13, cV_14, st_14, gt_14, cV_15, st_15, gt_15, cV_16, st_16, gt_16, cV_17, st_17, gt_17, cV_18, st_18, gt_18, cV_19, st_19, gt_19, cV_20, st_20, gt_20, cV_21, st_21, gt_21, cV_22, st_22, gt_22, cV_23, st_23, gt_23, tCh2_0, tCh2_e, tCh1_0, tCh0b_0, tCh0b_e, tCh0a_0, tCh0a_e, cChain_r, lcL_nil, lcL_c, ml1_0, ml2_t, ml2_f, ml2_b, ml3_0, ml5_0, ml4_0, ml4_e, ml4_c, cLc_r, nO_d, nO_n, nO_l, noOwn_n, noOwn_c, wipe_n, wipe_c, rsE_0, rest_n, rest_c, mkF_r, fo_0, fx_0, fin_nx', fin_rt', fin_exc', ob_0, og_0, od_0, outs_n, outs_c, lift_some, S_d, S_l, gAdd, gSub, gNeg, gNot, gLt, gLe, gGt, gGe, gEq_ii, gNe_ii, gLen, gAbs, gInt, tru_b, gMax2, gMin2, gGcd, gList, gTuple, gAll, gAny, bools_nil, bools_cons, gIs_bb, gIsN_bb, gPow, gMul, gFd, gMod, atI_0, atI_1, atI_2, atI_3, ixL_1, ixL_2, ixL_3, ixN_41, ixN_42, ixN_43, List.getElem?_cons_zero, List.getElem?_cons_succ, List.set_cons_zero, List.set_cons_succ, List.map_cons, List.map_nil, List.length_cons, List.length_nil, List.cons_append, List.nil_append, List.replicate_succ, List.replicate_zero, List.length_map, ↓cond_true, ↓cond_false, cond_true, cond_false, Option.map_some, beq_self_eq_true, List.contains_cons, List.contains_nil, Bool.or_false, Bool.false_or, Bool.or_true, Bool.and_true, Bool.true_and, Bool.not_true, Bool.not_false, Nat.reduceBEq, Nat.reduceAdd, Nat.reduceSub, Nat.reduceEqDiff, reduceCtorEq, Bool.false_eq_true, sq_nx, sq_rt, sq_bad, sq_bk, sq_ct, sq_exc, dz0, dz1, dz2, dz3, dz4, dz5, dz6, dz7, dz8, dz9, dz10, dz11, dz12, ic0, ic1, ic2, ic3, ic4, tAnd_ok, tOr_ok, tIf_ok, tIfS_ok, tAnd_exc, tOr_exc, tIf_exc, tIfS_exc, cAnd_t, cOr_t, cIf_t, cIfS_t, co_and, co_or, tAnd_cond, tOr_cond, tIfS_cond, sq_cond, fin_cond, rangeL_2, rangeL_3, List.all_cons, List.all_nil, List.any_cons, List.any_nil, id, rng1_t, rng2_t, Int.reduceToNat, if_true, ite_true, if_false, eq_self, decide_true, decide_false, isi_int_n, isi_int_b, isi_int_i, isi_int_s, isi_int_l, isi_int_t, isi_bool_n, isi_bool_b, isi_bool_i, isi_bool_s, isi_bool_l, isi_bool_t, isi_str_n, isi_str_b, isi_str_i, isi_str_s, isi_str_l, isi_str_t, isi_list_n, isi_list_b, isi_list_i, isi_list_s, isi_list_l, isi_list_t, isi_tuple_n, isi_tuple_b, isi_tuple_i, isi_tuple_s, isi_tuple_l, isi_tuple_t, isi_dict_n, isi_dict_b, isi_dict_i, isi_dict_s, isi_dict_l, isi_dict_t, nh_d, nh_l, nh_k, nh_o, nh_fn, nh_fc, ss3_0, sat_n, sat_0, sat_c, sup_n, sup_c, supc_0, fsg_c, fsg_n, fss_c, fss_n, pbs_0, pb_t, so_t, ssOf_t, gIx_l, gIx_t, S_k, Option.map_none, k0, cf, d1]
theorem ratio_in {N : Nat} {n d k : Int} {x3 : Option S} (h : RtOk N n d) (hk : k = 2 ∨ k = 3 ∨ k = 5) : ∃ n' d' y3, L_u_law_ratio_1 [some (.dat (.int n)), some (.dat (.int d)), some (.dat (.int k)), x3] = .nx [some (.dat (.int n')), some (.dat (.int d')), some (.dat (.int k)), y3] ∧ RtOk N n' d' := by
  obtain ⟨ρ', e, n', d', y3, rfl, h'⟩ := forL_nx (g := cgName 3) (body := L_u_law_ratio_0) (fun _ ρ => ∃ n d x3, ρ = [some (.dat (.int n)), some (.dat (.int d)), some (.dat (.int k)), x3] ∧ RtOk N n d)
    (fun a ds ρ h => by
      obtain ⟨n, d, x3, rfl, h⟩ := h
      obtain ⟨n', d', e, h'⟩ := ratio_step (x3 := some (.dat a)) h hk
      exact ⟨_, _, rfl, e, n', d', _, rfl, h'⟩) (rangeL 0 4) _ ⟨n, d, x3, rfl, h⟩
  refine ⟨n', d', y3, ?_, h'⟩
  have s4 : Sml 4 := by unfold Sml; omega
  have tn : (4 : Int).toNat = 4 := rfl
  unfold L_u_law_ratio_1
  simp -implicitDefEqProofs only [k1_0, k1_e, k1_c, c1_r, k2b_0, k2b_e, k2b_c, k2a_0, k2a_e, k2a_c, c2_r, kN_0, kN_e, kN_c, cN_r, kTup_0, kTup_e, kTup_c, cTup_r, kLst_0, kLst_e, kLst_c, cLst_r, cK_r, caNil_r, kcb_0, kcb_e, kcb_c, kca_0, kca_e, kca_c, caCons_r, cxNil_r, kxb_0, kxb_e, kxb_c, kxa_0, kxa_e, kxa_c, cxD_r, cxS_r, kxs_0, cCall_r, kc1_0, kc1_e, kc2_0, kc3_0, kc3_e, kc3_c, ssOf_n, ss1_0, ss2_0, ssOf_d, ssOf_s, pb_n, pb_d, pb_s, so_n, so_d, so_s, di_n, di_1, di_c, cSeq_r, cNext_r, cRetN_r, cBrk_r, cCnt_r, kRet_0, kRet_e, kRet_c, cRet_r, kDrop_0, kDrop_e, kDrop_c, cDrop_r, kSet_0, kSet_e, kSet_c, cSet_r, kAs_0, kAsg_0, kAsg_e, kAsg_c, cAsg_r, cgName_r, cgNil_r, kgc_0, cgCons_r, cgTup_r, cgLst_r, kPar_0, kPar_e, kPar_c, cPar_r, kPar3_0, kPar3_e, kPar3_c, cPar3_r, kap3_0, kap2_0, kap2_e, kap2_c, kap1_0, cApp_r, ksi3_0, ksi4_0, ksi2_0, ksi2_e, ksi2_c, ksi1_0, ksi0_0, ksi0_e, ksi0_c, cSetIx_r, kix_l, kix_t, kix_s, kSq_0, kSq_e, kSq_c, ciSeq_r, kr1_e, kr1_c, ciRange1_r, kr2_e, kr2_c, ciRange2_r, kFor_0, kFor_e, kFor_c, cFor_r, forL_c, forL_n, kf1_0, kf2_nx, kf2_ct, kf2_bk, kf2_rt, kf2_exc, kf2_cond, kb_0, kbb_0, kb1_0, kb1_c, kb1_e, cB1_r, kb3_0, kb3_e, kb3_c, kb2_0, kb2_c, kb2_e, cB2_r, kres_0, res_d, res_s, kbn_0, cbN_r, kbD_0, kbD_e, kbD_c, cbD_r, kv_0, cV_r, kvm_0, cVm_r, cV_0, st_0, gt_0, cV_1, st_1, gt_1, cV_2, st_2, gt_2, cV_3, st_3, gt_3, cV_4, st_4, gt_4, cV_5, st_5, gt_5, cV_6, st_6, gt_6, cV_7, st_7, gt_7, cV_8, st_8, gt_8, cV_9, st_9, gt_9, cV_10, st_10, gt_10, cV_11, st_11, gt_11, cV_12, st_12, gt_12, cV_13, st_13, gt_13, cV_14, st_14, gt_14, cV_15, st_15, gt_15, cV_16, st_16, gt_16, cV_17, st_17, gt_17, cV_18, st_18, gt_18, cV_19, st_19, gt_19, cV_20, st_20, gt_20, cV_21, st_21, gt_21, cV_22, st_22, gt_22, cV_23, st_23, gt_23, tCh2_0, tCh2_e, tCh1_0, tCh0b_0, tCh0b_e, tCh0a_0, tCh0a_e, cChain_r, lcL_nil, lcL_c, ml1_0, ml2_t, ml2_f, ml2_b, ml3_0, ml5_0, ml4_0, ml4_e, ml4_c, nO_d, nO_n, nO_l, noOwn_n, noOwn_c, wipe_n, wipe_c, rsE_0, rest_n, rest_c, mkF_r, fo_0, fx_0, fin_nx', fin_rt', fin_exc', ob_0, og_0, od_0, outs_n, outs_c, lift_some, S_d, S_l, gAdd, gSub, gNeg, gNot, gLt, gLe, gGt, gGe, gEq_ii, gNe_ii, gLen, gAbs, gInt, tru_b, gMax2, gMin2, gGcd, gList, gTuple, gAll, gAny, bools_nil, bools_cons, gIs_bb, gIsN_bb, gPow, gMul, gFd, gMod, atI_0, atI_1, atI_2, atI_3, ixL_1, ixL_2, ixL_3, ixN_41, ixN_42, ixN_43, List.getElem?_cons_zero, List.getElem?_cons_succ, List.set_cons_zero, List.set_cons_succ, List.map_cons, List.map_nil, List.length_cons, List.length_nil, List.cons_append, List.nil_append, List.replicate_succ, List.replicate_zero, List.length_map, ↓cond_true, ↓cond_false, cond_true, cond_false, Option.map_some, beq_self_eq_true, List.contains_cons, List.contains_nil, Bool.or_false, Bool.false_or, Bool.or_true, Bool.and_true, Bool.true_and, Bool.not_true, Bool.not_false, Nat.reduceBEq, Nat.reduceAdd, Nat.reduceSub, Nat.reduceEqDiff, reduceCtorEq, Bool.false_eq_true, sq_nx, sq_rt, sq_bad, sq_bk, sq_ct, sq_exc, dz0, dz1, dz2, dz3, dz4, dz5, dz6, dz7, dz8, dz9, dz10, dz11, dz12, ic0, ic1, ic2, ic3, ic4, tAnd_ok, tOr_ok, tIf_ok, tIfS_ok, tAnd_exc, tOr_exc, tIf_exc, tIfS_exc, cAnd_t, cOr_t, cIf_t, cIfS_t, co_and, co_or, tAnd_cond, tOr_cond, tIfS_cond, sq_cond, fin_cond, rangeL_2, rangeL_3, List.all_cons, List.all_nil, List.any_cons, List.any_nil, id, rng1_t, rng2_t, Int.reduceToNat, if_true, ite_true, if_false, eq_self, decide_true, decide_false, isi_int_n, isi_int_b, isi_int_i, isi_int_s, isi_int_l, isi_int_t, isi_bool_n, isi_bool_b, isi_bool_i, isi_bool_s, isi_bool_l, isi_bool_t, isi_str_n, isi_str_b, isi_str_i, isi_str_s, isi_str_l, isi_str_t, isi_list_n, isi_list_b, isi_list_i, isi_list_s, isi_list_l, isi_list_t, isi_tuple_n, isi_tuple_b, isi_tuple_i, isi_tuple_s, isi_tuple_l, isi_tuple_t, isi_dict_n, isi_dict_b, isi_dict_i, isi_dict_s, isi_dict_l, isi_dict_t, nh_d, nh_l, nh_k, nh_o, nh_fn, nh_fc, ss3_0, sat_n, sat_0, sat_c, sup_n, sup_c, supc_0, fsg_c, fsg_n, fss_c, fss_n, pbs_0, pb_t, so_t, ssOf_t, gIx_l, gIx_t, S_k, Option.map_none, kr1_s s4, tn, e]
theorem lratio_spec {N : Nat} {n d : Int} (h : n.natAbs ≤ N) (h0 : 0 < d) (h1 : d ≤ 1000) : ∃ f : Fq, F_u_law_ratio [.dat (.int n), .dat (.int d)] = .ok (.dat (fqD f)) [.dat (.int n), .dat (.int d)] ∧ f.1.natAbs ≤ N ∧ 0 < f.2 ∧ f.2 ≤ 1000 := by
  obtain ⟨n1, d1, y1, e1, k1⟩ := ratio_in (k := 2) (x3 := none) (show RtOk N n d from ⟨h, h0, h1⟩) (.inl rfl)
  obtain ⟨n2, d2, y2, e2, k2⟩ := ratio_in (k := 3) (x3 := y1) k1 (.inr (.inl rfl))
  obtain ⟨n3, d3, y3, e3, k3⟩ := ratio_in (k := 5) (x3 := y2) k2 (.inr (.inr rfl))
  have loop : forL (cgName 2) L_u_law_ratio_1 [.int 2, .int 3, .int 5] [some (.dat (.int n)), some (.dat (.int d)), none, none] = .nx [some (.dat (.int n3)), some (.dat (.int d3)), some (.dat (.int 5)), y3] := by
    show (match L_u_law_ratio_1 [some (.dat (.int n)), some (.dat (.int d)), some (.dat (.int 2)), none] with | .nx ρ2 => _ | .ct ρ2 => _ | .bk ρ2 => _ | .rt s ρ2 => _ | .exc x ρ2 => _ | .bad => _) = _
    rw [e1]
    show (match L_u_law_ratio_1 [some (.dat (.int n1)), some (.dat (.int d1)), some (.dat (.int 3)), y1] with | .nx ρ2 => _ | .ct ρ2 => _ | .bk ρ2 => _ | .rt s ρ2 => _ | .exc x ρ2 => _ | .bad => _) = _
    rw [e2]
    show (match L_u_law_ratio_1 [some (.dat (.int n2)), some (.dat (.int d2)), some (.dat (.int 5)), y2] with | .nx ρ2 => _ | .ct ρ2 => _ | .bk ρ2 => _ | .rt s ρ2 => _ | .exc x ρ2 => _ | .bad => _) = _
    rw [e3]
    rfl
  by_cases z : n3 = 0
  · have dz : (n3 == 0) = true := by rw [z]; rfl
    refine ⟨(n3, 1), ?_, k3.1, Int.one_pos, by show (1 : Int) ≤ 1000; decide⟩
    unfold F_u_law_ratio M_u_law_ratio fqD
    simp -implicitDefEqProofs only [k1_0, k1_e, k1_c, c1_r, k2b_0, k2b_e, k2b_c, k2a_0, k2a_e, k2a_c, c2_r, kN_0, kN_e, kN_c, cN_r, kTup_0, kTup_e, kTup_c, cTup_r, kLst_0, kLst_e, kLst_c, cLst_r, cK_r, caNil_r, kcb_0, kcb_e, kcb_c, kca_0, kca_e, kca_c, caCons_r, cxNil_r, kxb_0, kxb_e, kxb_c, kxa_0, kxa_e, kxa_c, cxD_r, cxS_r, kxs_0, cCall_r, kc1_0, kc1_e, kc2_0, kc3_0, kc3_e, kc3_c, ssOf_n, ss1_0, ss2_0, ssOf_d, ssOf_s, pb_n, pb_d, pb_s, so_n, so_d, so_s, di_n, di_1, di_c, cSeq_r, cNext_r, cRetN_r, cBrk_r, cCnt_r, kRet_0, kRet_e, kRet_c, cRet_r, kDrop_0, kDrop_e, kDrop_c, cDrop_r, kSet_0, kSet_e, kSet_c, cSet_r, kAs_0, kAsg_0, kAsg_e, kAsg_c, cAsg_r, cgName_r, cgNil_r, kgc_0, cgCons_r, cgTup_r, cgLst_r, kPar_0, kPar_e, kPar_c, cPar_r, kPar3_0, kPar3_e, kPar3_c, cPar3_r, kap3_0, kap2_0, kap2_e, kap2_c, kap1_0, cApp_r, ksi3_0, ksi4_0, ksi2_0, ksi2_e, ksi2_c, ksi1_0, ksi0_0, ksi0_e, ksi0_c, cSetIx_r, kix_l, kix_t, kix_s, kSq_0, kSq_e, kSq_c, ciSeq_r, kr1_0, kr1_e, kr1_c, ciRange1_r, kr2_0, kr2_e, kr2_c, ciRange2_r, kFor_0, kFor_e, kFor_c, cFor_r, forL_c, forL_n, kf1_0, kf2_nx, kf2_ct, kf2_bk, kf2_rt, kf2_exc, kf2_cond, kb_0, kbb_0, kb1_0, kb1_c, kb1_e, cB1_r, kb3_0, kb3_e, kb3_c, kb2_0, kb2_c, kb2_e, cB2_r, kres_0, res_d, res_s, kbn_0, cbN_r, kbD_0, kbD_e, kbD_c, cbD_r, kv_0, cV_r, kvm_0, cVm_r, cV_0, st_0, gt_0, cV_1, st_1, gt_1, cV_2, st_2, gt_2, cV_3, st_3, gt_3, cV_4, st_4, gt_4, cV_5, st_5, gt_5, cV_6, st_6, gt_6, cV_7, st_7, gt_7, cV_8, st_8, gt_8, cV_9, st_9, gt_9, cV_10, st_10, gt_10, cV_11, st_11, gt_11, cV_12, st_12, gt_12, cV_13, st_13, gt_13, cV_14, st_14, gt_14, cV_15, st_15, gt_15, cV_16, st_16, gt_16, cV_17, st_17, gt_17, cV_18, st_18, gt_18, cV_19, st_19, gt_19, cV_20, st_20, gt_20, cV_21, st_21, gt_21, cV_22, st_22, gt_22, cV_23, st_23, gt_23, tCh2_0, tCh2_e, tCh1_0, tCh0b_0, tCh0b_e, tCh0a_0, tCh0a_e, cChain_r, lcL_nil, lcL_c, ml1_0, ml2_t, ml2_f, ml2_b, ml3_0, ml5_0, ml4_0, ml4_e, ml4_c, cLc_r, nO_d, nO_n, nO_l, noOwn_n, noOwn_c, wipe_n, wipe_c, rsE_0, rest_n, rest_c, mkF_r, fo_0, fx_0, fin_nx', fin_rt', fin_exc', ob_0, og_0, od_0, outs_n, outs_c, lift_some, S_d, S_l, gAdd, gSub, gNeg, gNot, gLt, gLe, gGt, gGe, gEq_ii, gNe_ii, gLen, gAbs, gInt, tru_b, gMax2, gMin2, gGcd, gList, gTuple, gAll, gAny, bools_nil, bools_cons, gIs_bb, gIsN_bb, gPow, gMul, gFd, gMod, atI_0, atI_1, atI_2, atI_3, ixL_1, ixL_2, ixL_3, ixN_41, ixN_42, ixN_43, List.getElem?_cons_zero, List.getElem?_cons_succ, List.set_cons_zero, List.set_cons_succ, List.map_cons, List.map_nil, List.length_cons, List.length_nil, List.cons_append, List.nil_append, List.replicate_succ, List.replicate_zero, List.length_map, ↓cond_true, ↓cond_false, cond_true, cond_false, Option.map_some, beq_self_eq_true, List.contains_cons, List.contains_nil, Bool.or_false, Bool.false_or, Bool.or_true, Bool.and_true, Bool.true_and, Bool.not_true, Bool.not_false, Nat.reduceBEq, Nat.reduceAdd, Nat.reduceSub, Nat.reduceEqDiff, reduceCtorEq, Bool.false_eq_true, sq_nx, sq_rt, sq_bad, sq_bk, sq_ct, sq_exc, dz0, dz1, dz2, dz3, dz4, dz5, dz6, dz7, dz8, dz9, dz10, dz11, dz12, ic0, ic1, ic2, ic3, ic4, tAnd_ok, tOr_ok, tIf_ok, tIfS_ok, tAnd_exc, tOr_exc, tIf_exc, tIfS_exc, cAnd_t, cOr_t, cIf_t, cIfS_t, co_and, co_or, tAnd_cond, tOr_cond, tIfS_cond, sq_cond, fin_cond, rangeL_2, rangeL_3, List.all_cons, List.all_nil, List.any_cons, List.any_nil, id, rng1_t, rng2_t, Int.reduceToNat, if_true, ite_true, if_false, eq_self, decide_true, decide_false, isi_int_n, isi_int_b, isi_int_i, isi_int_s, isi_int_l, isi_int_t, isi_bool_n, isi_bool_b, isi_bool_i, isi_bool_s, isi_bool_l, isi_bool_t, isi_str_n, isi_str_b, isi_str_i, isi_str_s, isi_str_l, isi_str_t, isi_list_n, isi_list_b, isi_list_i, isi_list_s, isi_list_l, isi_list_t, isi_tuple_n, isi_tuple_b, isi_tuple_i, isi_tuple_s, isi_tuple_l, isi_tuple_t, isi_dict_n, isi_dict_b, isi_dict_i, isi_dict_s, isi_dict_l, isi_dict_t, nh_d, nh_l, nh_k, nh_o, nh_fn, nh_fc, ss3_0, sat_n, sat_0, sat_c, sup_n, sup_c, supc_0, fsg_c, fsg_n, fss_c, fss_n, pbs_0, pb_t, so_t, ssOf_t, gIx_l, gIx_t, S_k, Option.map_none, loop, dz]
  · have dz : (n3 == 0) = false := beq_eq_false_iff_ne.mpr z
    refine ⟨(n3, d3), ?_, k3.1, k3.2.1, k3.2.2⟩
    unfold F_u_law_ratio M_u_law_ratio fqD
    simp -implicitDefEqProofs only [k1_0, k1_e, k1_c, c1_r, k2b_0, k2b_e, k2b_c, k2a_0, k2a_e, k2a_c, c2_r, kN_0, kN_e, kN_c, cN_r, kTup_0, kTup_e, kTup_c, cTup_r, kLst_0, kLst_e, kLst_c, cLst_r, cK_r, caNil_r, kcb_0, kcb_e, kcb_c, kca_0, kca_e, kca_c, caCons_r, cxNil_r, kxb_0, kxb_e, kxb_c, kxa_0, kxa_e, kxa_c, cxD_r, cxS_r, kxs_0, cCall_r, kc1_0, kc1_e, kc2_0, kc3_0, kc3_e, kc3_c, ssOf_n, ss1_0, ss2_0, ssOf_d, ssOf_s, pb_n, pb_d, pb_s, so_n, so_d, so_s, di_n, di_1, di_c, cSeq_r, cNext_r, cRetN_r, cBrk_r, cCnt_r, kRet_0, kRet_e, kRet_c, cRet_r, kDrop_0, kDrop_e, kDrop_c, cDrop_r, kSet_0, kSet_e, kSet_c, cSet_r, kAs_0, kAsg_0, kAsg_e, kAsg_c, cAsg_r, cgName_r, cgNil_r, kgc_0, cgCons_r, cgTup_r, cgLst_r, kPar_0, kPar_e, kPar_c, cPar_r, kPar3_0, kPar3_e, kPar3_c, cPar3_r, kap3_0, kap2_0, kap2_e, kap2_c, kap1_0, cApp_r, ksi3_0, ksi4_0, ksi2_0, ksi2_e, ksi2_c, ksi1_0, ksi0_0, ksi0_e, ksi0_c, cSetIx_r, kix_l, kix_t, kix_s, kSq_0, kSq_e, kSq_c, ciSeq_r, kr1_0, kr1_e, kr1_c, ciRange1_r, kr2_0, kr2_e, kr2_c, ciRange2_r, kFor_0, kFor_e, kFor_c, cFor_r, forL_c, forL_n, kf1_0, kf2_nx, kf2_ct, kf2_bk, kf2_rt, kf2_exc, kf2_cond, kb_0, kbb_0, kb1_0, kb1_c, kb1_e, cB1_r, kb3_0, kb3_e, kb3_c, kb2_0, kb2_c, kb2_e, cB2_r, kres_0, res_d, res_s, kbn_0, cbN_r, kbD_0, kbD_e, kbD_c, cbD_r, kv_0, cV_r, kvm_0, cVm_r, cV_0, st_0, gt_0, cV_1, st_1, gt_1, cV_2, st_2, gt_2, cV_3, st_3, gt_3, cV_4, st_4, gt_4, cV_5, st_5, gt_5, cV_6, st_6, gt_6, cV_7, st_7, gt_7, cV_8, st_8, gt_8, cV_9, st_9, gt_9, cV_10, st_10, gt_10, cV_11, st_11, gt_11, cV_12, st_12, gt_12, cV_13, st_13, gt_13, cV_14, st_14, gt_14, cV_15, st_15, gt_15, cV_16, st_16, gt_16, cV_17, st_17, gt_17, cV_18, st_18, gt_18, cV_19, st_19, gt_19, cV_20, st_20, gt_20, cV_21, st_21, gt_21, cV_22, st_22, gt_22, cV_23, st_23, gt_23, tCh2_0, tCh2_e, tCh1_0, tCh0b_0, tCh0b_e, tCh0a_0, tCh0a_e, cChain_r, lcL_nil, lcL_c, ml1_0, ml2_t, ml2_f, ml2_b, ml3_0, ml5_0, ml4_0, ml4_e, ml4_c, cLc_r, nO_d, nO_n, nO_l, noOwn_n, noOwn_c, wipe_n, wipe_c, rsE_0, rest_n, rest_c, mkF_r, fo_0, fx_0, fin_nx', fin_rt', fin_exc', ob_0, og_0, od_0, outs_n, outs_c, lift_some, S_d, S_l, gAdd, gSub, gNeg, gNot, gLt, gLe, gGt, gGe, gEq_ii, gNe_ii, gLen, gAbs, gInt, tru_b, gMax2, gMin2, gGcd, gList, gTuple, gAll, gAny, bools_nil, bools_cons, gIs_bb, gIsN_bb, gPow, gMul, gFd, gMod, atI_0, atI_1, atI_2, atI_3, ixL_1, ixL_2, ixL_3, ixN_41, ixN_42, ixN_43, List.getElem?_cons_zero, List.getElem?_cons_succ, List.set_cons_zero, List.set_cons_succ, List.map_cons, List.map_nil, List.length_cons, List.length_nil, List.cons_append, List.nil_append, List.replicate_succ, List.replicate_zero, List.length_map, ↓cond_true, ↓cond_false, cond_true, cond_false, Option.map_some, beq_self_eq_true, List.contains_cons, List.contains_nil, Bool.or_false, Bool.false_or, Bool.or_true, Bool.and_true, Bool.true_and, Bool.not_true, Bool.not_false, Nat.reduceBEq, Nat.reduceAdd, Nat.reduceSub, Nat.reduceEqDiff, reduceCtorEq, Bool.false_eq_true, sq_nx, sq_rt, sq_bad, sq_bk, sq_ct, sq_exc, dz0, dz1, dz2, dz3, dz4, dz5, dz6, dz7, dz8, dz9, dz10, dz11, dz12, ic0, ic1, ic2, ic3, ic4, tAnd_ok, tOr_ok, tIf_ok, tIfS_ok, tAnd_exc, tOr_exc, tIf_exc, tIfS_exc, cAnd_t, cOr_t, cIf_t, cIfS_t, co_and, co_or, tAnd_cond, tOr_cond, tIfS_cond, sq_cond, fin_cond, rangeL_2, rangeL_3, List.all_cons, List.all_nil, List.any_cons, List.any_nil, id, rng1_t, rng2_t, Int.reduceToNat, if_true, ite_true, if_false, eq_self, decide_true, decide_false, isi_int_n, isi_int_b, isi_int_i, isi_int_s, isi_int_l, isi_int_t, isi_bool_n, isi_bool_b, isi_bool_i, isi_bool_s, isi_bool_l, isi_bool_t, isi_str_n, isi_str_b, isi_str_i, isi_str_s, isi_str_l, isi_str_t, isi_list_n, isi_list_b, isi_list_i, isi_list_s, isi_list_l, isi_list_t, isi_tuple_n, isi_tuple_b, isi_tuple_i, isi_tuple_s, isi_tuple_l, isi_tuple_t, isi_dict_n, isi_dict_b, isi_dict_i, isi_dict_s, isi_dict_l, isi_dict_t, nh_d, nh_l, nh_k, nh_o, nh_fn, nh_fc, ss3_0, sat_n, sat_0, sat_c, sup_n, sup_c, supc_0, fsg_c, fsg_n, fss_c, fss_n, pbs_0, pb_t, so_t, ssOf_t, gIx_l, gIx_t, S_k, Option.map_none, loop, dz]
theorem fq_ok {f : Fq} {N : Nat} (h1 : f.1.natAbs ≤ N) (hN : N ≤ 1000000) (h2 : 0 < f.2) (h3 : f.2 ≤ 1000) : FqOk f := ⟨by unfold Bd; omega, by unfold Bd; omega, h2⟩
theorem log_small {m : Int} (h : m.natAbs ≤ 8000) : m.natAbs.log2 < 9000 := by
  have : m.natAbs.log2 ≤ m.natAbs := Nat.log2_le_self _
  omega
theorem pick4 {r : Int} (h0 : 0 ≤ r) (h1 : r < 4) : ∃ d : Int, atI [PyData.int 1, .int 1, .int 2, .int 3] r = some (.int d) ∧ 1 ≤ d ∧ d ≤ 3 := by
  have : r = 0 ∨ r = 1 ∨ r = 2 ∨ r = 3 := by omega
  rcases this with rfl | rfl | rfl | rfl
  · exact ⟨1, atI_0, by decide, by decide⟩
  · exact ⟨1, atI_1, by decide, by decide⟩
  · exact ⟨2, atI_2, by decide, by decide⟩
  · exact ⟨3, atI_3, by decide, by decide⟩
theorem place_spec {l : List PyData} {w h : Int} (hp : PotOk l) (w0 : 0 ≤ w) (w1 : w ≤ 100) (h0 : 0 ≤ h) (h1 : h ≤ 100) : ∃ l' p, F_u_law_place [.lst l, .dat (.int w), .dat (.int h)] = .ok (.dat (pqD p)) [.lst l', .dat (.int w), .dat (.int h)] ∧ PotOk l' ∧ PqOk p := by
  obtain ⟨r, l1, e1, p1, q1, k1⟩ := next_spec hp (m := 4) (by decide) (by decide)
  obtain ⟨d, hd, d0, d1⟩ := pick4 p1 q1
  have mw : w * d ≤ 300 ∧ 0 ≤ w * d := ⟨by have := Int.mul_nonneg (show 0 ≤ 100 - w by omega) (show 0 ≤ d by omega); have := Int.mul_nonneg w0 (show 0 ≤ d by omega); grind, Int.mul_nonneg w0 (by omega)⟩
  have mh : h * d ≤ 300 ∧ 0 ≤ h * d := ⟨by have := Int.mul_nonneg (show 0 ≤ 100 - h by omega) (show 0 ≤ d by omega); have := Int.mul_nonneg h0 (show 0 ≤ d by omega); grind, Int.mul_nonneg h0 (by omega)⟩
  obtain ⟨r2, l2, e2, p2, q2, k2⟩ := next_spec k1 (m := w * d + 1) (by omega) (log_small (by omega))
  obtain ⟨r3, l3, e3, p3, q3, k3⟩ := next_spec k2 (m := h * d + 1) (by omega) (log_small (by omega))
  obtain ⟨f, ef, f1, f2, f3⟩ := lratio_spec (N := 400) (n := r2) (d := d) (by omega) (by omega) (by omega)
  obtain ⟨g, eg, g1, g2, g3⟩ := lratio_spec (N := 400) (n := r3) (d := d) (by omega) (by omega) (by omega)
  have bw : Bd 60 w := by unfold Bd; omega
  have bh : Bd 60 h := by unfold Bd; omega
  have bd : Bd 60 d := by unfold Bd; omega
  refine ⟨l3, (f, g), ?_, k3, fq_ok f1 (by decide) f2 f3, fq_ok g1 (by decide) g2 g3⟩
  unfold F_u_law_place M_u_law_place pqD
  simp -implicitDefEqProofs (disch := first | with_reducible assumption | ((with_reducible apply Bdx.id); exact Bdx.of (by (repeat' first | with_reducible assumption | apply Bd.mul | apply Bd.sub2 | apply Bd.add2 | apply Bd.neg | exact Bd.lit rfl)) (by decide)) | ((with_reducible apply Sml.id); exact Sml.lit rfl) | fail) only [k1_0, k1_e, k1_c, c1_r, k2b_0, k2b_e, k2b_c, k2a_0, k2a_e, k2a_c, c2_r, kN_0, kN_e, kN_c, cN_r, kTup_0, kTup_e, kTup_c, cTup_r, kLst_0, kLst_e, kLst_c, cLst_r, cK_r, caNil_r, kcb_0, kcb_e, kcb_c, kca_0, kca_e, kca_c, caCons_r, cxNil_r, kxb_0, kxb_e, kxb_c, kxa_0, kxa_e, kxa_c, cxD_r, cxS_r, kxs_0, cCall_r, kc1_0, kc1_e, kc2_0, kc3_0, kc3_e, kc3_c, ssOf_n, ss1_0, ss2_0, ssOf_d, ssOf_s, pb_n, pb_d, pb_s, so_n, so_d, so_s, di_n, di_1, di_c, cSeq_r, cNext_r, cRetN_r, cBrk_r, cCnt_r, kRet_0, kRet_e, kRet_c, cRet_r, kDrop_0, kDrop_e, kDrop_c, cDrop_r, kSet_0, kSet_e, kSet_c, cSet_r, kAs_0, kAsg_0, kAsg_e, kAsg_c, cAsg_r, cgName_r, cgNil_r, kgc_0, cgCons_r, cgTup_r, cgLst_r, kPar_0, kPar_e, kPar_c, cPar_r, kPar3_0, kPar3_e, kPar3_c, cPar3_r, kap3_0, kap2_0, kap2_e, kap2_c, kap1_0, cApp_r, ksi3_0, ksi4_0, ksi2_0, ksi2_e, ksi2_c, ksi1_0, ksi0_0, ksi0_e, ksi0_c, cSetIx_r, kix_l, kix_t, kix_s, kSq_0, kSq_e, kSq_c, ciSeq_r, kr1_0, kr1_e, kr1_c, ciRange1_r, kr2_0, kr2_e, kr2_c, ciRange2_r, kFor_0, kFor_e, kFor_c, cFor_r, forL_c, forL_n, kf1_0, kf2_nx, kf2_ct, kf2_bk, kf2_rt, kf2_exc, kf2_cond, kb_0, kbb_0, kb1_0, kb1_c, kb1_e, cB1_r, kb3_0, kb3_e, kb3_c, kb2_0, kb2_c, kb2_e, cB2_r, kres_0, res_d, res_s, kbn_0, cbN_r, kbD_0, kbD_e, kbD_c, cbD_r, kv_0, cV_r, kvm_0, cVm_r, cV_0, st_0, gt_0, cV_1, st_1, gt_1, cV_2, st_2, gt_2, cV_3, st_3, gt_3, cV_4, st_4, gt_4, cV_5, st_5, gt_5, cV_6, st_6, gt_6, cV_7, st_7, gt_7, cV_8, st_8, gt_8, cV_9, st_9, gt_9, cV_10, st_10, gt_10, cV_11, st_11, gt_11, cV_12, st_12, gt_12, cV_13, st_13, gt_13, cV_14, st_14, gt_14, cV_15, st_15, gt_15, cV_16, st_16, gt_16, cV_17, st_17, gt_17, cV_18, st_18, gt_18, cV_19, st_19, gt_19, cV_20, st_20, gt_20, cV_21, st_21, gt_21, cV_22, st_22, gt_22, cV_23, st_23, gt_23, tCh2_0, tCh2_e, tCh1_0, tCh0b_0, tCh0b_e, tCh0a_0, tCh0a_e, cChain_r, lcL_nil, lcL_c, ml1_0, ml2_t, ml2_f, ml2_b, ml3_0, ml5_0, ml4_0, ml4_e, ml4_c, cLc_r, nO_d, nO_n, nO_l, noOwn_n, noOwn_c, wipe_n, wipe_c, rsE_0, rest_n, rest_c, mkF_r, fo_0, fx_0, fin_nx', fin_rt', fin_exc', ob_0, og_0, od_0, outs_n, outs_c, lift_some, S_d, S_l, gAdd, gSub, gNeg, gNot, gLt, gLe, gGt, gGe, gEq_ii, gNe_ii, gLen, gAbs, gInt, tru_b, gMax2, gMin2, gGcd, gList, gTuple, gAll, gAny, bools_nil, bools_cons, gIs_bb, gIsN_bb, gPow, gMul, gFd, gMod, atI_0, atI_1, atI_2, atI_3, ixL_1, ixL_2, ixL_3, ixN_41, ixN_42, ixN_43, List.getElem?_cons_zero, List.getElem?_cons_succ, List.set_cons_zero, List.set_cons_succ, List.map_cons, List.map_nil, List.length_cons, List.length_nil, List.cons_append, List.nil_append, List.replicate_succ, List.replicate_zero, List.length_map, ↓cond_true, ↓cond_false, cond_true, cond_false, Option.map_some, beq_self_eq_true, List.contains_cons, List.contains_nil, Bool.or_false, Bool.false_or, Bool.or_true, Bool.and_true, Bool.true_and, Bool.not_true, Bool.not_false, Nat.reduceBEq, Nat.reduceAdd, Nat.reduceSub, Nat.reduceEqDiff, reduceCtorEq, Bool.false_eq_true, sq_nx, sq_rt, sq_bad, sq_bk, sq_ct, sq_exc, dz0, dz1, dz2, dz3, dz4, dz5, dz6, dz7, dz8, dz9, dz10, dz11, dz12, ic0, ic1, ic2, ic3, ic4, tAnd_ok, tOr_ok, tIf_ok, tIfS_ok, tAnd_exc, tOr_exc, tIf_exc, tIfS_exc, cAnd_t, cOr_t, cIf_t, cIfS_t, co_and, co_or, tAnd_cond, tOr_cond, tIfS_cond, sq_cond, fin_cond, rangeL_2, rangeL_3, List.all_cons, List.all_nil, List.any_cons, List.any_nil, id, rng1_t, rng2_t, Int.reduceToNat, if_true, ite_true, if_false, eq_self, decide_true, decide_false, isi_int_n, isi_int_b, isi_int_i, isi_int_s, isi_int_l, isi_int_t, isi_bool_n, isi_bool_b, isi_bool_i, isi_bool_s, isi_bool_l, isi_bool_t, isi_str_n, isi_str_b, isi_str_i, isi_str_s, isi_str_l, isi_str_t, isi_list_n, isi_list_b, isi_list_i, isi_list_s, isi_list_l, isi_list_t, isi_tuple_n, isi_tuple_b, isi_tuple_i, isi_tuple_s, isi_tuple_l, isi_tuple_t, isi_dict_n, isi_dict_b, isi_dict_i, isi_dict_s, isi_dict_l, isi_dict_t, nh_d, nh_l, nh_k, nh_o, nh_fn, nh_fc, ss3_0, sat_n, sat_0, sat_c, sup_n, sup_c, supc_0, fsg_c, fsg_n, fss_c, fss_n, pbs_0, pb_t, so_t, ssOf_t, gIx_l, gIx_t, S_k, Option.map_none, e1, hd, cmulW_t, e2, ef, e3, eg]
/-! #### pieces -/
theorem many_pick {r : Int} (h0 : 0 ≤ r) (h1 : r < 6) : ∃ n : Nat, atI [PyData.int 1, .int 2, .int 3, .int 3, .int 4, .int 5] r = some (.int (n : Int)) ∧ 1 ≤ n ∧ n ≤ 5 := by
  have : r = 0 ∨ r = 1 ∨ r = 2 ∨ r = 3 ∨ r = 4 ∨ r = 5 := by omega
  rcases this with rfl | rfl | rfl | rfl | rfl | rfl
  · exact ⟨1, rfl, by decide, by decide⟩
  · exact ⟨2, rfl, by decide, by decide⟩
  · exact ⟨3, rfl, by decide, by decide⟩
  · exact ⟨3, rfl, by decide, by decide⟩
  · exact ⟨4, rfl, by decide, by decide⟩
  · exact ⟨5, rfl, by decide, by decide⟩
/-- a drawn corner -/
def InB (B : Int) (c : Cn) : Prop := (-B ≤ c.1 ∧ c.1 ≤ B) ∧ (-B ≤ c.2 ∧ c.2 ≤ B)
theorem InB.sm {B : Int} {c : Cn} (h : InB B c) (hB : B ≤ 1000000) : Sm c := by
  obtain ⟨⟨a, b⟩, c', d⟩ := h
  exact ⟨by unfold Bd; omega, by unfold Bd; omega⟩
theorem piece_step {l : List PyData} {a : Cn} {sz : Int} {cs : List Cn} {x3 d : PyData} {B : Int} (hp : PotOk l) (h0 : 0 < sz) (h1 : sz ≤ 1000) (hl : cs.length < 100000) (ha : InB B a) :
    ∃ l' c, L_u_law_piece_0 [some (.lst l), some (.dat (pD a)), some (.dat (.int sz)), some (.dat x3), some (.lst (cs.map pD)), some (.dat d)] = .nx [some (.lst l'), some (.dat (pD a)), some (.dat (.int sz)), some (.dat x3), some (.lst ((cs ++ [c]).map pD)), some (.dat d)] ∧ PotOk l' ∧ InB (B + 1000) c := by
  obtain ⟨r1, l1, e1, p1, q1, k1⟩ := next_spec hp h0 (log_small (by omega))
  obtain ⟨r2, l2, e2, p2, q2, k2⟩ := next_spec k1 h0 (log_small (by omega))
  have hz : decide (cs.length < sizeLine) = true := decide_eq_true (by have := ch_cls; omega)
  obtain ⟨⟨a1, a2⟩, a3, a4⟩ := ha
  refine ⟨l2, (a.1 + r1, a.2 + r2), ?_, k2, ⟨by show _ ≤ a.1 + r1; omega, by show a.1 + r1 ≤ _; omega⟩, ⟨by show _ ≤ a.2 + r2; omega, by show a.2 + r2 ≤ _; omega⟩⟩
  have e3 : (cs ++ [(a.1 + r1, a.2 + r2)]).map pD = cs.map pD ++ [.tuple [.int (a.1 + r1), .int (a.2 + r2)]] := by rw [List.map_append]; rfl
  rw [e3]
  unfold L_u_law_piece_0
  unfold pD
  simp -implicitDefEqProofs only [k1_0, k1_e, k1_c, c1_r, k2b_0, k2b_e, k2b_c, k2a_0, k2a_e, k2a_c, c2_r, kN_0, kN_e, kN_c, cN_r, kTup_0, kTup_e, kTup_c, cTup_r, kLst_0, kLst_e, kLst_c, cLst_r, cK_r, caNil_r, kcb_0, kcb_e, kcb_c, kca_0, kca_e, kca_c, caCons_r, cxNil_r, kxb_0, kxb_e, kxb_c, kxa_0, kxa_e, kxa_c, cxD_r, cxS_r, kxs_0, cCall_r, kc1_0, kc1_e, kc2_0, kc3_0, kc3_e, kc3_c, ssOf_n, ss1_0, ss2_0, ssOf_d, ssOf_s, pb_n, pb_d, pb_s, so_n, so_d, so_s, di_n, di_1, di_c, cSeq_r, cNext_r, cRetN_r, cBrk_r, cCnt_r, kRet_0, kRet_e, kRet_c, cRet_r, kDrop_0, kDrop_e, kDrop_c, cDrop_r, kSet_0, kSet_e, kSet_c, cSet_r, kAs_0, kAsg_0, kAsg_e, kAsg_c, cAsg_r, cgName_r, cgNil_r, kgc_0, cgCons_r, cgTup_r, cgLst_r, kPar_0, kPar_e, kPar_c, cPar_r, kPar3_0, kPar3_e, kPar3_c, cPar3_r, kap3_0, kap2_0, kap2_e, kap2_c, kap1_0, cApp_r, ksi3_0, ksi4_0, ksi2_0, ksi2_e, ksi2_c, ksi1_0, ksi0_0, ksi0_e, ksi0_c, cSetIx_r, kix_l, kix_t, kix_s, kSq_0, kSq_e, kSq_c, ciSeq_r, kr1_0, kr1_e, kr1_c, ciRange1_r, kr2_0, kr2_e, kr2_c, ciRange2_r, kFor_0, kFor_e, kFor_c, cFor_r, forL_c, forL_n, kf1_0, kf2_nx, kf2_ct, kf2_bk, kf2_rt, kf2_exc, kf2_cond, kb_0, kbb_0, kb1_0, kb1_c, kb1_e, cB1_r, kb3_0, kb3_e, kb3_c, kb2_0, kb2_c, kb2_e, cB2_r, kres_0, res_d, res_s, kbn_0, cbN_r, kbD_0, kbD_e, kbD_c, cbD_r, kv_0, cV_r, kvm_0, cVm_r, cV_0, st_0, gt_0, cV_1, st_1, gt_1, cV_2, st_2, gt_2, cV_3, st_3, gt_3, cV_4, st_4, gt_4, cV_5, st_5, gt_5, cV_6, st_6, gt_6, cV_7, st_7, gt_7, cV_8, st_8, gt_8, cV_9, st_9, gt_9, cV_10, st_10, gt_10, cV_11, st_11, gt_11, cV_12, st_12, gt_12, cV_13, st_13, gt_13, cV_14, st_14, gt_14, cV_15, st_15, gt_15, cV_16, st_16, gt_16, cV_17, st_17, gt_17, cV_18, st_18, gt_18, cV_19, st_19, gt_19, cV_20, st_20, gt_20, cV_21, st_21, gt_21, cV_22, st_22, gt_22, cV_23, st_23, gt_23, tCh2_0, tCh2_e, tCh1_0, tCh0b_0, tCh0b_e, tCh0a_0, tCh0a_e, cChain_r, lcL_nil, lcL_c, ml1_0, ml2_t, ml2_f, ml2_b, ml3_0, ml5_0, ml4_0, ml4_e, ml4_c, cLc_r, nO_d, nO_n, nO_l, noOwn_n, noOwn_c, wipe_n, wipe_c, rsE_0, rest_n, rest_c, mkF_r, fo_0, fx_0, fin_nx', fin_rt', fin_exc', ob_0, og_0, od_0, outs_n, outs_c, lift_some, S_d, S_l, gAdd, gSub, gNeg, gNot, gLt, gLe, gGt, gGe, gEq_ii, gNe_ii, gLen, gAbs, gInt, tru_b, gMax2, gMin2, gGcd, gList, gTuple, gAll, gAny, bools_nil, bools_cons, gIs_bb, gIsN_bb, gPow, gMul, gFd, gMod, atI_0, atI_1, atI_2, atI_3, ixL_1, ixL_2, ixL_3, ixN_41, ixN_42, ixN_43, List.getElem?_cons_zero, List.getElem?_cons_succ, List.set_cons_zero, List.set_cons_succ, List.map_cons, List.map_nil, List.length_cons, List.length_nil, List.cons_append, List.nil_append, List.replicate_succ, List.replicate_zero, List.length_map, ↓cond_true, ↓cond_false, cond_true, cond_false, Option.map_some, beq_self_eq_true, List.contains_cons, List.contains_nil, Bool.or_false, Bool.false_or, Bool.or_true, Bool.and_true, Bool.true_and, Bool.not_true, Bool.not_false, Nat.reduceBEq, Nat.reduceAdd, Nat.reduceSub, Nat.reduceEqDiff, reduceCtorEq, Bool.false_eq_true, sq_nx, sq_rt, sq_bad, sq_bk, sq_ct, sq_exc, dz0, dz1, dz2, dz3, dz4, dz5, dz6, dz7, dz8, dz9, dz10, dz11, dz12, ic0, ic1, ic2, ic3, ic4, tAnd_ok, tOr_ok, tIf_ok, tIfS_ok, tAnd_exc, tOr_exc, tIf_exc, tIfS_exc, cAnd_t, cOr_t, cIf_t, cIfS_t, co_and, co_or, tAnd_cond, tOr_cond, tIfS_cond, sq_cond, fin_cond, rangeL_2, rangeL_3, List.all_cons, List.all_nil, List.any_cons, List.any_nil, id, rng1_t, rng2_t, Int.reduceToNat, if_true, ite_true, if_false, eq_self, decide_true, decide_false, isi_int_n, isi_int_b, isi_int_i, isi_int_s, isi_int_l, isi_int_t, isi_bool_n, isi_bool_b, isi_bool_i, isi_bool_s, isi_bool_l, isi_bool_t, isi_str_n, isi_str_b, isi_str_i, isi_str_s, isi_str_l, isi_str_t, isi_list_n, isi_list_b, isi_list_i, isi_list_s, isi_list_l, isi_list_t, isi_tuple_n, isi_tuple_b, isi_tuple_i, isi_tuple_s, isi_tuple_l, isi_tuple_t, isi_dict_n, isi_dict_b, isi_dict_i, isi_dict_s, isi_dict_l, isi_dict_t, nh_d, nh_l, nh_k, nh_o, nh_fn, nh_fc, ss3_0, sat_n, sat_0, sat_c, sup_n, sup_c, supc_0, fsg_c, fsg_n, fss_c, fss_n, pbs_0, pb_t, so_t, ssOf_t, gIx_l, gIx_t, S_k, Option.map_none, e1, e2, hz]
theorem piece_loop {l : List PyData} {a : Cn} {sz : Int} {x3 : PyData} {B : Int} (n : Nat) (hn : n ≤ 1000) (hp : PotOk l) (h0 : 0 < sz) (h1 : sz ≤ 1000) (ha : InB B a) : ∃ (l' : List PyData) (cs : List Cn) (x5 : Option S), forL (cgName 5) L_u_law_piece_0 (rangeL 0 n) [some (.lst l), some (.dat (pD a)), some (.dat (.int sz)), some (.dat x3), some (.lst []), none] =
    .nx [some (.lst l'), some (.dat (pD a)), some (.dat (.int sz)), some (.dat x3), some (.lst (cs.map pD)), x5] ∧ cs.length = n ∧ (∀ c ∈ cs, InB (B + 1000) c) ∧ PotOk l' := by
  obtain ⟨ρ', e, l', cs, x5, rfl, h4, h2, h3⟩ := forL_nx (g := cgName 5) (body := L_u_law_piece_0)
    (fun ds ρ => ∃ (l : List PyData) (cs : List Cn) (x5 : Option S), ρ = [some (.lst l), some (.dat (pD a)), some (.dat (.int sz)), some (.dat x3), some (.lst (cs.map pD)), x5] ∧ PotOk l ∧ cs.length + ds.length = n ∧ (∀ c ∈ cs, InB (B + 1000) c))
    (fun d ds ρ h => by
      obtain ⟨l, cs, x5, rfl, k, k2, k3⟩ := h
      obtain ⟨l', c, e, k5, k6⟩ := piece_step (x3 := x3) (d := d) (cs := cs) k h0 h1 (by simp only [List.length_cons] at k2; omega) ha
      refine ⟨_, _, rfl, e, l', cs ++ [c], some (.dat d), rfl, k5, by simp only [List.length_append, List.length_cons, List.length_nil] at *; omega, fun x hx => ?_⟩
      rcases List.mem_append.mp hx with hx | hx
      · exact k3 x hx
      · rw [List.mem_singleton.mp hx]; exact k6) (rangeL 0 n) _ ⟨l, [], none, rfl, hp, by rw [rangeL_length]; simp, (fun _ h => by cases h)⟩
  exact ⟨l', cs, x5, e, by simpa using h2, h3, h4⟩
/-- a drawn piece -/
structure Drawn (B : Int) (P : List Cn) : Prop where
  ex : ∃ cs, Hl cs P
  inb : ∀ c ∈ P, InB B c
  len : P.length ≤ 5
theorem Drawn.ne {B : Int} {P : List Cn} (h : Drawn B P) : P ≠ [] := let ⟨_, hl⟩ := h.ex; hl.ne
theorem hl_ex {cs : List Cn} (h : cs ≠ []) : ∃ P, Hl cs P := by
  obtain ⟨o1, o2, o3⟩ := ordC_ok cs
  have on : ordC cs ≠ [] := fun e => by
    cases cs with
    | nil => exact h rfl
    | cons c cs =>
      have := (o2 c).mpr (by simp)
      rw [e] at this
      cases this
  exact ⟨_, (hull_ok o1 on).same o2⟩
theorem mk36 {c : CS} {s t u : S} : mkF 3 6 [0] c [s, t, u] = finish [0] [s, t, u] (c [some s, some t, some u, none, none, none]) := rfl
theorem lpiece_spec {l : List PyData} {a : Cn} {sz B : Int} (hp : PotOk l) (h0 : 0 < sz) (h1 : sz ≤ 1000) (hB : B ≤ 100000) (ha : InB B a) : ∃ l' P, F_u_law_piece [.lst l, .dat (pD a), .dat (.int sz)] = .ok (.dat (.tuple (P.map pD))) [.lst l', .dat (pD a), .dat (.int sz)] ∧ PotOk l' ∧ Drawn (B + 1000) P := by
  obtain ⟨r, l1, e1, p1, q1, k1⟩ := next_spec hp (m := 6) (by decide) (by decide)
  obtain ⟨n, hn, n0, n1⟩ := many_pick p1 q1
  obtain ⟨l2, cs, x5, e2, c1, c2, k2⟩ := piece_loop (x3 := .int n) n (by omega) k1 h0 h1 ha
  have hcs : cs ≠ [] := fun e => by rw [e] at c1; simp at c1; omega
  obtain ⟨P, hP⟩ := hl_ex hcs
  have e3 := lhull_spec (D := .list (cs.map pD)) (.inl rfl) (fun c hc => (c2 c hc).sm (by omega)) (by omega) hP
  have sm : Sml (n : Int) := by unfold Sml; omega
  have tn : (n : Int).toNat = n := rfl
  refine ⟨l2, P, ?_, k2, ⟨cs, hP⟩, fun c hc => c2 c (hP.sub c hc), by have := hP.len; omega⟩
  unfold F_u_law_piece M_u_law_piece
  rw [mk36, cSeq_r]
  simp -implicitDefEqProofs only [k1_0, k1_e, k1_c, c1_r, k2b_0, k2b_e, k2b_c, k2a_0, k2a_e, k2a_c, c2_r, kN_0, kN_e, kN_c, cN_r, kTup_0, kTup_e, kTup_c, cTup_r, kLst_0, kLst_e, kLst_c, cLst_r, cK_r, caNil_r, kcb_0, kcb_e, kcb_c, kca_0, kca_e, kca_c, caCons_r, cxNil_r, kxb_0, kxb_e, kxb_c, kxa_0, kxa_e, kxa_c, cxD_r, cxS_r, kxs_0, cCall_r, kc1_0, kc1_e, kc2_0, kc3_0, kc3_e, kc3_c, ssOf_n, ss1_0, ss2_0, ssOf_d, ssOf_s, pb_n, pb_d, pb_s, so_n, so_d, so_s, di_n, di_1, di_c, cNext_r, cRetN_r, cBrk_r, cCnt_r, kRet_0, kRet_e, kRet_c, cRet_r, kDrop_0, kDrop_e, kDrop_c, cDrop_r, kSet_0, kSet_e, kSet_c, cSet_r, kAs_0, kAsg_0, kAsg_e, kAsg_c, cAsg_r, cgName_r, cgNil_r, kgc_0, cgCons_r, cgTup_r, cgLst_r, kPar_0, kPar_e, kPar_c, cPar_r, kPar3_0, kPar3_e, kPar3_c, cPar3_r, kap3_0, kap2_0, kap2_e, kap2_c, kap1_0, cApp_r, ksi3_0, ksi4_0, ksi2_0, ksi2_e, ksi2_c, ksi1_0, ksi0_0, ksi0_e, ksi0_c, cSetIx_r, kix_l, kix_t, kix_s, kSq_0, kSq_e, kSq_c, ciSeq_r, kr1_e, kr1_c, ciRange1_r, kr2_e, kr2_c, ciRange2_r, kFor_0, kFor_e, kFor_c, cFor_r, forL_c, forL_n, kf1_0, kf2_nx, kf2_ct, kf2_bk, kf2_rt, kf2_exc, kf2_cond, kb_0, kbb_0, kb1_0, kb1_c, kb1_e, cB1_r, kb3_0, kb3_e, kb3_c, kb2_0, kb2_c, kb2_e, cB2_r, kres_0, res_d, res_s, kbn_0, cbN_r, kbD_0, kbD_e, kbD_c, cbD_r, kv_0, cV_r, kvm_0, cVm_r, cV_0, st_0, gt_0, cV_1, st_1, gt_1, cV_2, st_2, gt_2, cV_3, st_3, gt_3, cV_4, st_4, gt_4, cV_5, st_5, gt_5, cV_6, st_6, gt_6, cV_7, st_7, gt_7, cV_8, st_8, gt_8, cV_9, st_9, gt_9, cV_10, st_10, gt_10, cV_11, st_11, gt_11, cV_12, st_12, gt_12, cV_13, st_13, gt_13, cV_14, st_14, gt_14, cV_15, st_15, gt_15, cV_16, st_16, gt_16, cV_17, st_17, gt_17, cV_18, st_18, gt_18, cV_19, st_19, gt_19, cV_20, st_20, gt_20, cV_21, st_21, gt_21, cV_22, st_22, gt_22, cV_23, st_23, gt_23, tCh2_0, tCh2_e, tCh1_0, tCh0b_0, tCh0b_e, tCh0a_0, tCh0a_e, cChain_r, lcL_nil, lcL_c, ml1_0, ml2_t, ml2_f, ml2_b, ml3_0, ml5_0, ml4_0, ml4_e, ml4_c, nO_d, nO_n, nO_l, noOwn_n, noOwn_c, wipe_n, wipe_c, rsE_0, rest_n, rest_c, mkF_r, fo_0, fx_0, fin_nx', fin_rt', fin_exc', ob_0, og_0, od_0, outs_n, outs_c, lift_some, S_d, S_l, gAdd, gSub, gNeg, gNot, gLt, gLe, gGt, gGe, gEq_ii, gNe_ii, gLen, gAbs, gInt, tru_b, gMax2, gMin2, gGcd, gList, gTuple, gAll, gAny, bools_nil, bools_cons, gIs_bb, gIsN_bb, gPow, gMul, gFd, gMod, atI_0, atI_1, atI_2, atI_3, ixL_1, ixL_2, ixL_3, ixN_41, ixN_42, ixN_43, List.getElem?_cons_zero, List.getElem?_cons_succ, List.set_cons_zero, List.set_cons_succ, List.map_cons, List.map_nil, List.length_cons, List.length_nil, List.cons_append, List.nil_append, List.replicate_succ, List.replicate_zero, List.length_map, ↓cond_true, ↓cond_false, cond_true, cond_false, Option.map_some, beq_self_eq_true, List.contains_cons, List.contains_nil, Bool.or_false, Bool.false_or, Bool.or_true, Bool.and_true, Bool.true_and, Bool.not_true, Bool.not_false, Nat.reduceBEq, Nat.reduceAdd, Nat.reduceSub, Nat.reduceEqDiff, reduceCtorEq, Bool.false_eq_true, sq_nx, sq_rt, sq_bad, sq_bk, sq_ct, sq_exc, dz0, dz1, dz2, dz3, dz4, dz5, dz6, dz7, dz8, dz9, dz10, dz11, dz12, ic0, ic1, ic2, ic3, ic4, tAnd_ok, tOr_ok, tIf_ok, tIfS_ok, tAnd_exc, tOr_exc, tIf_exc, tIfS_exc, cAnd_t, cOr_t, cIf_t, cIfS_t, co_and, co_or, tAnd_cond, tOr_cond, tIfS_cond, sq_cond, fin_cond, rangeL_2, rangeL_3, List.all_cons, List.all_nil, List.any_cons, List.any_nil, id, rng1_t, rng2_t, Int.reduceToNat, if_true, ite_true, if_false, eq_self, decide_true, decide_false, isi_int_n, isi_int_b, isi_int_i, isi_int_s, isi_int_l, isi_int_t, isi_bool_n, isi_bool_b, isi_bool_i, isi_bool_s, isi_bool_l, isi_bool_t, isi_str_n, isi_str_b, isi_str_i, isi_str_s, isi_str_l, isi_str_t, isi_list_n, isi_list_b, isi_list_i, isi_list_s, isi_list_l, isi_list_t, isi_tuple_n, isi_tuple_b, isi_tuple_i, isi_tuple_s, isi_tuple_l, isi_tuple_t, isi_dict_n, isi_dict_b, isi_dict_i, isi_dict_s, isi_dict_l, isi_dict_t, nh_d, nh_l, nh_k, nh_o, nh_fn, nh_fc, ss3_0, sat_n, sat_0, sat_c, sup_n, sup_c, supc_0, fsg_c, fsg_n, fss_c, fss_n, pbs_0, pb_t, so_t, ssOf_t, gIx_l, gIx_t, S_k, Option.map_none, e1, hn]
  rw [cSeq_r]
  simp -implicitDefEqProofs only [k1_0, k1_e, k1_c, c1_r, k2b_0, k2b_e, k2b_c, k2a_0, k2a_e, k2a_c, c2_r, kN_0, kN_e, kN_c, cN_r, kTup_0, kTup_e, kTup_c, cTup_r, kLst_0, kLst_e, kLst_c, cLst_r, cK_r, caNil_r, kcb_0, kcb_e, kcb_c, kca_0, kca_e, kca_c, caCons_r, cxNil_r, kxb_0, kxb_e, kxb_c, kxa_0, kxa_e, kxa_c, cxD_r, cxS_r, kxs_0, cCall_r, kc1_0, kc1_e, kc2_0, kc3_0, kc3_e, kc3_c, ssOf_n, ss1_0, ss2_0, ssOf_d, ssOf_s, pb_n, pb_d, pb_s, so_n, so_d, so_s, di_n, di_1, di_c, cNext_r, cRetN_r, cBrk_r, cCnt_r, kRet_0, kRet_e, kRet_c, cRet_r, kDrop_0, kDrop_e, kDrop_c, cDrop_r, kSet_0, kSet_e, kSet_c, cSet_r, kAs_0, kAsg_0, kAsg_e, kAsg_c, cAsg_r, cgName_r, cgNil_r, kgc_0, cgCons_r, cgTup_r, cgLst_r, kPar_0, kPar_e, kPar_c, cPar_r, kPar3_0, kPar3_e, kPar3_c, cPar3_r, kap3_0, kap2_0, kap2_e, kap2_c, kap1_0, cApp_r, ksi3_0, ksi4_0, ksi2_0, ksi2_e, ksi2_c, ksi1_0, ksi0_0, ksi0_e, ksi0_c, cSetIx_r, kix_l, kix_t, kix_s, kSq_0, kSq_e, kSq_c, ciSeq_r, kr1_e, kr1_c, ciRange1_r, kr2_e, kr2_c, ciRange2_r, kFor_0, kFor_e, kFor_c, cFor_r, forL_c, forL_n, kf1_0, kf2_nx, kf2_ct, kf2_bk, kf2_rt, kf2_exc, kf2_cond, kb_0, kbb_0, kb1_0, kb1_c, kb1_e, cB1_r, kb3_0, kb3_e, kb3_c, kb2_0, kb2_c, kb2_e, cB2_r, kres_0, res_d, res_s, kbn_0, cbN_r, kbD_0, kbD_e, kbD_c, cbD_r, kv_0, cV_r, kvm_0, cVm_r, cV_0, st_0, gt_0, cV_1, st_1, gt_1, cV_2, st_2, gt_2, cV_3, st_3, gt_3, cV_4, st_4, gt_4, cV_5, st_5, gt_5, cV_6, st_6, gt_6, cV_7, st_7, gt_7, cV_8, st_8, gt_8, cV_9, st_9, gt_9, cV_10, st_10, gt_10, cV_11, st_11, gt_11, cV_12, st_12, gt_12, cV_13, st_13, gt_13, cV_14, st_14, gt_14, cV_15, st_15, gt_15, cV_16, st_16, gt_16, cV_17, st_17, gt_17, cV_18, st_18, gt_18, cV_19, st_19, gt_19, cV_20, st_20, gt_20, cV_21, st_21, gt_21, cV_22, st_22, gt_22, cV_23, st_23, gt_23, tCh2_0, tCh2_e, tCh1_0, tCh0b_0, tCh0b_e, tCh0a_0, tCh0a_e, cChain_r, lcL_nil, lcL_c, ml1_0, ml2_t, ml2_f, ml2_b, ml3_0, ml5_0, ml4_0, ml4_e, ml4_c, nO_d, nO_n, nO_l, noOwn_n, noOwn_c, wipe_n, wipe_c, rsE_0, rest_n, rest_c, mkF_r, fo_0, fx_0, fin_nx', fin_rt', fin_exc', ob_0, og_0, od_0, outs_n, outs_c, lift_some, S_d, S_l, gAdd, gSub, gNeg, gNot, gLt, gLe, gGt, gGe, gEq_ii, gNe_ii, gLen, gAbs, gInt, tru_b, gMax2, gMin2, gGcd, gList, gTuple, gAll, gAny, bools_nil, bools_cons, gIs_bb, gIsN_bb, gPow, gMul, gFd, gMod, atI_0, atI_1, atI_2, atI_3, ixL_1, ixL_2, ixL_3, ixN_41, ixN_42, ixN_43, List.getElem?_cons_zero, List.getElem?_cons_succ, List.set_cons_zero, List.set_cons_succ, List.map_cons, List.map_nil, List.length_cons, List.length_nil, List.cons_append, List.nil_append, List.replicate_succ, List.replicate_zero, List.length_map, ↓cond_true, ↓cond_false, cond_true, cond_false, Option.map_some, beq_self_eq_true, List.contains_cons, List.contains_nil, Bool.or_false, Bool.false_or, Bool.or_true, Bool.and_true, Bool.true_and, Bool.not_true, Bool.not_false, Nat.reduceBEq, Nat.reduceAdd, Nat.reduceSub, Nat.reduceEqDiff, reduceCtorEq, Bool.false_eq_true, sq_nx, sq_rt, sq_bad, sq_bk, sq_ct, sq_exc, dz0, dz1, dz2, dz3, dz4, dz5, dz6, dz7, dz8, dz9, dz10, dz11, dz12, ic0, ic1, ic2, ic3, ic4, tAnd_ok, tOr_ok, tIf_ok, tIfS_ok, tAnd_exc, tOr_exc, tIf_exc, tIfS_exc, cAnd_t, cOr_t, cIf_t, cIfS_t, co_and, co_or, tAnd_cond, tOr_cond, tIfS_cond, sq_cond, fin_cond, rangeL_2, rangeL_3, List.all_cons, List.all_nil, List.any_cons, List.any_nil, id, rng1_t, rng2_t, Int.reduceToNat, if_true, ite_true, if_false, eq_self, decide_true, decide_false, isi_int_n, isi_int_b, isi_int_i, isi_int_s, isi_int_l, isi_int_t, isi_bool_n, isi_bool_b, isi_bool_i, isi_bool_s, isi_bool_l, isi_bool_t, isi_str_n, isi_str_b, isi_str_i, isi_str_s, isi_str_l, isi_str_t, isi_list_n, isi_list_b, isi_list_i, isi_list_s, isi_list_l, isi_list_t, isi_tuple_n, isi_tuple_b, isi_tuple_i, isi_tuple_s, isi_tuple_l, isi_tuple_t, isi_dict_n, isi_dict_b, isi_dict_i, isi_dict_s, isi_dict_l, isi_dict_t, nh_d, nh_l, nh_k, nh_o, nh_fn, nh_fc, ss3_0, sat_n, sat_0, sat_c, sup_n, sup_c, supc_0, fsg_c, fsg_n, fss_c, fss_n, pbs_0, pb_t, so_t, ssOf_t, gIx_l, gIx_t, S_k, Option.map_none]
  rw [cSeq_r]
  simp -implicitDefEqProofs only [k1_0, k1_e, k1_c, c1_r, k2b_0, k2b_e, k2b_c, k2a_0, k2a_e, k2a_c, c2_r, kN_0, kN_e, kN_c, cN_r, kTup_0, kTup_e, kTup_c, cTup_r, kLst_0, kLst_e, kLst_c, cLst_r, cK_r, caNil_r, kcb_0, kcb_e, kcb_c, kca_0, kca_e, kca_c, caCons_r, cxNil_r, kxb_0, kxb_e, kxb_c, kxa_0, kxa_e, kxa_c, cxD_r, cxS_r, kxs_0, cCall_r, kc1_0, kc1_e, kc2_0, kc3_0, kc3_e, kc3_c, ssOf_n, ss1_0, ss2_0, ssOf_d, ssOf_s, pb_n, pb_d, pb_s, so_n, so_d, so_s, di_n, di_1, di_c, cNext_r, cRetN_r, cBrk_r, cCnt_r, kRet_0, kRet_e, kRet_c, cRet_r, kDrop_0, kDrop_e, kDrop_c, cDrop_r, kSet_0, kSet_e, kSet_c, cSet_r, kAs_0, kAsg_0, kAsg_e, kAsg_c, cAsg_r, cgName_r, cgNil_r, kgc_0, cgCons_r, cgTup_r, cgLst_r, kPar_0, kPar_e, kPar_c, cPar_r, kPar3_0, kPar3_e, kPar3_c, cPar3_r, kap3_0, kap2_0, kap2_e, kap2_c, kap1_0, cApp_r, ksi3_0, ksi4_0, ksi2_0, ksi2_e, ksi2_c, ksi1_0, ksi0_0, ksi0_e, ksi0_c, cSetIx_r, kix_l, kix_t, kix_s, kSq_0, kSq_e, kSq_c, ciSeq_r, kr1_e, kr1_c, ciRange1_r, kr2_e, kr2_c, ciRange2_r, kFor_0, kFor_e, kFor_c, cFor_r, forL_c, forL_n, kf1_0, kf2_nx, kf2_ct, kf2_bk, kf2_rt, kf2_exc, kf2_cond, kb_0, kbb_0, kb1_0, kb1_c, kb1_e, cB1_r, kb3_0, kb3_e, kb3_c, kb2_0, kb2_c, kb2_e, cB2_r, kres_0, res_d, res_s, kbn_0, cbN_r, kbD_0, kbD_e, kbD_c, cbD_r, kv_0, cV_r, kvm_0, cVm_r, cV_0, st_0, gt_0, cV_1, st_1, gt_1, cV_2, st_2, gt_2, cV_3, st_3, gt_3, cV_4, st_4, gt_4, cV_5, st_5, gt_5, cV_6, st_6, gt_6, cV_7, st_7, gt_7, cV_8, st_8, gt_8, cV_9, st_9, gt_9, cV_10, st_10, gt_10, cV_11, st_11, gt_11, cV_12, st_12, gt_12, cV_13, st_13, gt_13, cV_14, st_14, gt_14, cV_15, st_15, gt_15, cV_16, st_16, gt_16, cV_17, st_17, gt_17, cV_18, st_18, gt_18, cV_19, st_19, gt_19, cV_20, st_20, gt_20, cV_21, st_21, gt_21, cV_22, st_22, gt_22, cV_23, st_23, gt_23, tCh2_0, tCh2_e, tCh1_0, tCh0b_0, tCh0b_e, tCh0a_0, tCh0a_e, cChain_r, lcL_nil, lcL_c, ml1_0, ml2_t, ml2_f, ml2_b, ml3_0, ml5_0, ml4_0, ml4_e, ml4_c, nO_d, nO_n, nO_l, noOwn_n, noOwn_c, wipe_n, wipe_c, rsE_0, rest_n, rest_c, mkF_r, fo_0, fx_0, fin_nx', fin_rt', fin_exc', ob_0, og_0, od_0, outs_n, outs_c, lift_some, S_d, S_l, gAdd, gSub, gNeg, gNot, gLt, gLe, gGt, gGe, gEq_ii, gNe_ii, gLen, gAbs, gInt, tru_b, gMax2, gMin2, gGcd, gList, gTuple, gAll, gAny, bools_nil, bools_cons, gIs_bb, gIsN_bb, gPow, gMul, gFd, gMod, atI_0, atI_1, atI_2, atI_3, ixL_1, ixL_2, ixL_3, ixN_41, ixN_42, ixN_43, List.getElem?_cons_zero, List.getElem?_cons_succ, List.set_cons_zero, List.set_cons_succ, List.map_cons, List.map_nil, List.length_cons, List.length_nil, List.cons_append, List.nil_append, List.replicate_succ, List.replicate_zero, List.length_map, ↓cond_true, ↓cond_false, cond_true, cond_false, Option.map_some, beq_self_eq_true, List.contains_cons, List.contains_nil, Bool.or_false, Bool.false_or, Bool.or_true, Bool.and_true, Bool.true_and, Bool.not_true, Bool.not_false, Nat.reduceBEq, Nat.reduceAdd, Nat.reduceSub, Nat.reduceEqDiff, reduceCtorEq, Bool.false_eq_true, sq_nx, sq_rt, sq_bad, sq_bk, sq_ct, sq_exc, dz0, dz1, dz2, dz3, dz4, dz5, dz6, dz7, dz8, dz9, dz10, dz11, dz12, ic0, ic1, ic2, ic3, ic4, tAnd_ok, tOr_ok, tIf_ok, tIfS_ok, tAnd_exc, tOr_exc, tIf_exc, tIfS_exc, cAnd_t, cOr_t, cIf_t, cIfS_t, co_and, co_or, tAnd_cond, tOr_cond, tIfS_cond, sq_cond, fin_cond, rangeL_2, rangeL_3, List.all_cons, List.all_nil, List.any_cons, List.any_nil, id, rng1_t, rng2_t, Int.reduceToNat, if_true, ite_true, if_false, eq_self, decide_true, decide_false, isi_int_n, isi_int_b, isi_int_i, isi_int_s, isi_int_l, isi_int_t, isi_bool_n, isi_bool_b, isi_bool_i, isi_bool_s, isi_bool_l, isi_bool_t, isi_str_n, isi_str_b, isi_str_i, isi_str_s, isi_str_l, isi_str_t, isi_list_n, isi_list_b, isi_list_i, isi_list_s, isi_list_l, isi_list_t, isi_tuple_n, isi_tuple_b, isi_tuple_i, isi_tuple_s, isi_tuple_l, isi_tuple_t, isi_dict_n, isi_dict_b, isi_dict_i, isi_dict_s, isi_dict_l, isi_dict_t, nh_d, nh_l, nh_k, nh_o, nh_fn, nh_fc, ss3_0, sat_n, sat_0, sat_c, sup_n, sup_c, supc_0, fsg_c, fsg_n, fss_c, fss_n, pbs_0, pb_t, so_t, ssOf_t, gIx_l, gIx_t, S_k, Option.map_none, kr1_s sm, tn, e2]
  simp -implicitDefEqProofs only [k1_0, k1_e, k1_c, c1_r, k2b_0, k2b_e, k2b_c, k2a_0, k2a_e, k2a_c, c2_r, kN_0, kN_e, kN_c, cN_r, kTup_0, kTup_e, kTup_c, cTup_r, kLst_0, kLst_e, kLst_c, cLst_r, cK_r, caNil_r, kcb_0, kcb_e, kcb_c, kca_0, kca_e, kca_c, caCons_r, cxNil_r, kxb_0, kxb_e, kxb_c, kxa_0, kxa_e, kxa_c, cxD_r, cxS_r, kxs_0, cCall_r, kc1_0, kc1_e, kc2_0, kc3_0, kc3_e, kc3_c, ssOf_n, ss1_0, ss2_0, ssOf_d, ssOf_s, pb_n, pb_d, pb_s, so_n, so_d, so_s, di_n, di_1, di_c, cNext_r, cRetN_r, cBrk_r, cCnt_r, kRet_0, kRet_e, kRet_c, cRet_r, kDrop_0, kDrop_e, kDrop_c, cDrop_r, kSet_0, kSet_e, kSet_c, cSet_r, kAs_0, kAsg_0, kAsg_e, kAsg_c, cAsg_r, cgName_r, cgNil_r, kgc_0, cgCons_r, cgTup_r, cgLst_r, kPar_0, kPar_e, kPar_c, cPar_r, kPar3_0, kPar3_e, kPar3_c, cPar3_r, kap3_0, kap2_0, kap2_e, kap2_c, kap1_0, cApp_r, ksi3_0, ksi4_0, ksi2_0, ksi2_e, ksi2_c, ksi1_0, ksi0_0, ksi0_e, ksi0_c, cSetIx_r, kix_l, kix_t, kix_s, kSq_0, kSq_e, kSq_c, ciSeq_r, kr1_e, kr1_c, ciRange1_r, kr2_e, kr2_c, ciRange2_r, kFor_0, kFor_e, kFor_c, cFor_r, forL_c, forL_n, kf1_0, kf2_nx, kf2_ct, kf2_bk, kf2_rt, kf2_exc, kf2_cond, kb_0, kbb_0, kb1_0, kb1_c, kb1_e, cB1_r, kb3_0, kb3_e, kb3_c, kb2_0, kb2_c, kb2_e, cB2_r, kres_0, res_d, res_s, kbn_0, cbN_r, kbD_0, kbD_e, kbD_c, cbD_r, kv_0, cV_r, kvm_0, cVm_r, cV_0, st_0, gt_0, cV_1, st_1, gt_1, cV_2, st_2, gt_2, cV_3, st_3, gt_3, cV_4, st_4, gt_4, cV_5, st_5, gt_5, cV_6, st_6, gt_6, cV_7, st_7, gt_7, cV_8, st_8, gt_8, cV_9, st_9, gt_9, cV_10, st_10, gt_10, cV_11, st_11, gt_11, cV_12, st_12, gt_12, cV_13, st_13, gt_13, cV_14, st_14, gt_14, cV_15, st_15, gt_15, cV_16, st_16, gt_16, cV_17, st_17, gt_17, cV_18, st_18, gt_18, cV_19, st_19, gt_19, cV_20, st_20, gt_20, cV_21, st_21, gt_21, cV_22, st_22, gt_22, cV_23, st_23, gt_23, tCh2_0, tCh2_e, tCh1_0, tCh0b_0, tCh0b_e, tCh0a_0, tCh0a_e, cChain_r, lcL_nil, lcL_c, ml1_0, ml2_t, ml2_f, ml2_b, ml3_0, ml5_0, ml4_0, ml4_e, ml4_c, nO_d, nO_n, nO_l, noOwn_n, noOwn_c, wipe_n, wipe_c, rsE_0, rest_n, rest_c, mkF_r, fo_0, fx_0, fin_nx', fin_rt', fin_exc', ob_0, og_0, od_0, outs_n, outs_c, lift_some, S_d, S_l, gAdd, gSub, gNeg, gNot, gLt, gLe, gGt, gGe, gEq_ii, gNe_ii, gLen, gAbs, gInt, tru_b, gMax2, gMin2, gGcd, gList, gTuple, gAll, gAny, bools_nil, bools_cons, gIs_bb, gIsN_bb, gPow, gMul, gFd, gMod, atI_0, atI_1, atI_2, atI_3, ixL_1, ixL_2, ixL_3, ixN_41, ixN_42, ixN_43, List.getElem?_cons_zero, List.getElem?_cons_succ, List.set_cons_zero, List.set_cons_succ, List.map_cons, List.map_nil, List.length_cons, List.length_nil, List.cons_append, List.nil_append, List.replicate_succ, List.replicate_zero, List.length_map, ↓cond_true, ↓cond_false, cond_true, cond_false, Option.map_some, beq_self_eq_true, List.contains_cons, List.contains_nil, Bool.or_false, Bool.false_or, Bool.or_true, Bool.and_true, Bool.true_and, Bool.not_true, Bool.not_false, Nat.reduceBEq, Nat.reduceAdd, Nat.reduceSub, Nat.reduceEqDiff, reduceCtorEq, Bool.false_eq_true, sq_nx, sq_rt, sq_bad, sq_bk, sq_ct, sq_exc, dz0, dz1, dz2, dz3, dz4, dz5, dz6, dz7, dz8, dz9, dz10, dz11, dz12, ic0, ic1, ic2, ic3, ic4, tAnd_ok, tOr_ok, tIf_ok, tIfS_ok, tAnd_exc, tOr_exc, tIf_exc, tIfS_exc, cAnd_t, cOr_t, cIf_t, cIfS_t, co_and, co_or, tAnd_cond, tOr_cond, tIfS_cond, sq_cond, fin_cond, rangeL_2, rangeL_3, List.all_cons, List.all_nil, List.any_cons, List.any_nil, id, rng1_t, rng2_t, Int.reduceToNat, if_true, ite_true, if_false, eq_self, decide_true, decide_false, isi_int_n, isi_int_b, isi_int_i, isi_int_s, isi_int_l, isi_int_t, isi_bool_n, isi_bool_b, isi_bool_i, isi_bool_s, isi_bool_l, isi_bool_t, isi_str_n, isi_str_b, isi_str_i, isi_str_s, isi_str_l, isi_str_t, isi_list_n, isi_list_b, isi_list_i, isi_list_s, isi_list_l, isi_list_t, isi_tuple_n, isi_tuple_b, isi_tuple_i, isi_tuple_s, isi_tuple_l, isi_tuple_t, isi_dict_n, isi_dict_b, isi_dict_i, isi_dict_s, isi_dict_l, isi_dict_t, nh_d, nh_l, nh_k, nh_o, nh_fn, nh_fc, ss3_0, sat_n, sat_0, sat_c, sup_n, sup_c, supc_0, fsg_c, fsg_n, fss_c, fss_n, pbs_0, pb_t, so_t, ssOf_t, gIx_l, gIx_t, S_k, Option.map_none, e3]
/-! ### bounds, walked -/
def hpl (p q : Cn) : Hm := (p.2 - q.2, q.1 - p.1, -((p.2 - q.2) * p.1 + (q.1 - p.1) * p.2))
def hov (b q : Hm) : Int := b.1 * q.1 + b.2.1 * q.2.1 + b.2.2 * q.2.2
theorem hov_hpl {a b : Cn} {q : Hm} : hov (hpl a b) q = hh a b q := by unfold hov hpl hh; grind
theorem plane_spec {p q : Cn} (hp : Sm p) (hq : Sm q) : F_half_plane [.dat (pD p), .dat (pD q)] = .ok (.dat (hD (hpl p q))) [.dat (pD p), .dat (pD q)] := by
  obtain ⟨a1, a2⟩ := hp
  obtain ⟨b1, b2⟩ := hq
  unfold F_half_plane M_half_plane pD hD hpl
  simp -implicitDefEqProofs (disch := first | with_reducible assumption | ((with_reducible apply Bdx.id); exact Bdx.of (by (repeat' first | with_reducible assumption | apply Bd.mul | apply Bd.sub2 | apply Bd.add2 | apply Bd.neg | exact Bd.lit rfl)) (by decide)) | ((with_reducible apply Sml.id); exact Sml.lit rfl) | fail) only [k1_0, k1_e, k1_c, c1_r, k2b_0, k2b_e, k2b_c, k2a_0, k2a_e, k2a_c, c2_r, kN_0, kN_e, kN_c, cN_r, kTup_0, kTup_e, kTup_c, cTup_r, kLst_0, kLst_e, kLst_c, cLst_r, cK_r, caNil_r, kcb_0, kcb_e, kcb_c, kca_0, kca_e, kca_c, caCons_r, cxNil_r, kxb_0, kxb_e, kxb_c, kxa_0, kxa_e, kxa_c, cxD_r, cxS_r, kxs_0, cCall_r, kc1_0, kc1_e, kc2_0, kc3_0, kc3_e, kc3_c, ssOf_n, ss1_0, ss2_0, ssOf_d, ssOf_s, pb_n, pb_d, pb_s, so_n, so_d, so_s, di_n, di_1, di_c, cSeq_r, cNext_r, cRetN_r, cBrk_r, cCnt_r, kRet_0, kRet_e, kRet_c, cRet_r, kDrop_0, kDrop_e, kDrop_c, cDrop_r, kSet_0, kSet_e, kSet_c, cSet_r, kAs_0, kAsg_0, kAsg_e, kAsg_c, cAsg_r, cgName_r, cgNil_r, kgc_0, cgCons_r, cgTup_r, cgLst_r, kPar_0, kPar_e, kPar_c, cPar_r, kPar3_0, kPar3_e, kPar3_c, cPar3_r, kap3_0, kap2_0, kap2_e, kap2_c, kap1_0, cApp_r, ksi3_0, ksi4_0, ksi2_0, ksi2_e, ksi2_c, ksi1_0, ksi0_0, ksi0_e, ksi0_c, cSetIx_r, kix_l, kix_t, kix_s, kSq_0, kSq_e, kSq_c, ciSeq_r, kr1_0, kr1_e, kr1_c, ciRange1_r, kr2_0, kr2_e, kr2_c, ciRange2_r, kFor_0, kFor_e, kFor_c, cFor_r, forL_c, forL_n, kf1_0, kf2_nx, kf2_ct, kf2_bk, kf2_rt, kf2_exc, kf2_cond, kb_0, kbb_0, kb1_0, kb1_c, kb1_e, cB1_r, kb3_0, kb3_e, kb3_c, kb2_0, kb2_c, kb2_e, cB2_r, kres_0, res_d, res_s, kbn_0, cbN_r, kbD_0, kbD_e, kbD_c, cbD_r, kv_0, cV_r, kvm_0, cVm_r, cV_0, st_0, gt_0, cV_1, st_1, gt_1, cV_2, st_2, gt_2, cV_3, st_3, gt_3, cV_4, st_4, gt_4, cV_5, st_5, gt_5, cV_6, st_6, gt_6, cV_7, st_7, gt_7, cV_8, st_8, gt_8, cV_9, st_9, gt_9, cV_10, st_10, gt_10, cV_11, st_11, gt_11, cV_12, st_12, gt_12, cV_13, st_13, gt_13, cV_14, st_14, gt_14, cV_15, st_15, gt_15, cV_16, st_16, gt_16, cV_17, st_17, gt_17, cV_18, st_18, gt_18, cV_19, st_19, gt_19, cV_20, st_20, gt_20, cV_21, st_21, gt_21, cV_22, st_22, gt_22, cV_23, st_23, gt_23, tCh2_0, tCh2_e, tCh1_0, tCh0b_0, tCh0b_e, tCh0a_0, tCh0a_e, cChain_r, lcL_nil, lcL_c, ml1_0, ml2_t, ml2_f, ml2_b, ml3_0, ml5_0, ml4_0, ml4_e, ml4_c, cLc_r, nO_d, nO_n, nO_l, noOwn_n, noOwn_c, wipe_n, wipe_c, rsE_0, rest_n, rest_c, mkF_r, fo_0, fx_0, fin_nx', fin_rt', fin_exc', ob_0, og_0, od_0, outs_n, outs_c, lift_some, S_d, S_l, gAdd, gSub, gNeg, gNot, gLt, gLe, gGt, gGe, gEq_ii, gNe_ii, gLen, gAbs, gInt, tru_b, gMax2, gMin2, gGcd, gList, gTuple, gAll, gAny, bools_nil, bools_cons, gIs_bb, gIsN_bb, gPow, gMul, gFd, gMod, atI_0, atI_1, atI_2, atI_3, ixL_1, ixL_2, ixL_3, ixN_41, ixN_42, ixN_43, List.getElem?_cons_zero, List.getElem?_cons_succ, List.set_cons_zero, List.set_cons_succ, List.map_cons, List.map_nil, List.length_cons, List.length_nil, List.cons_append, List.nil_append, List.replicate_succ, List.replicate_zero, List.length_map, ↓cond_true, ↓cond_false, cond_true, cond_false, Option.map_some, beq_self_eq_true, List.contains_cons, List.contains_nil, Bool.or_false, Bool.false_or, Bool.or_true, Bool.and_true, Bool.true_and, Bool.not_true, Bool.not_false, Nat.reduceBEq, Nat.reduceAdd, Nat.reduceSub, Nat.reduceEqDiff, reduceCtorEq, Bool.false_eq_true, sq_nx, sq_rt, sq_bad, sq_bk, sq_ct, sq_exc, dz0, dz1, dz2, dz3, dz4, dz5, dz6, dz7, dz8, dz9, dz10, dz11, dz12, ic0, ic1, ic2, ic3, ic4, tAnd_ok, tOr_ok, tIf_ok, tIfS_ok, tAnd_exc, tOr_exc, tIf_exc, tIfS_exc, cAnd_t, cOr_t, cIf_t, cIfS_t, co_and, co_or, tAnd_cond, tOr_cond, tIfS_cond, sq_cond, fin_cond, rangeL_2, rangeL_3, List.all_cons, List.all_nil, List.any_cons, List.any_nil, id, rng1_t, rng2_t, Int.reduceToNat, if_true, ite_true, if_false, eq_self, decide_true, decide_false, isi_int_n, isi_int_b, isi_int_i, isi_int_s, isi_int_l, isi_int_t, isi_bool_n, isi_bool_b, isi_bool_i, isi_bool_s, isi_bool_l, isi_bool_t, isi_str_n, isi_str_b, isi_str_i, isi_str_s, isi_str_l, isi_str_t, isi_list_n, isi_list_b, isi_list_i, isi_list_s, isi_list_l, isi_list_t, isi_tuple_n, isi_tuple_b, isi_tuple_i, isi_tuple_s, isi_tuple_l, isi_tuple_t, isi_dict_n, isi_dict_b, isi_dict_i, isi_dict_s, isi_dict_l, isi_dict_t, nh_d, nh_l, nh_k, nh_o, nh_fn, nh_fc, ss3_0, sat_n, sat_0, sat_c, sup_n, sup_c, supc_0, fsg_c, fsg_n, fss_c, fss_n, pbs_0, pb_t, so_t, ssOf_t, gIx_l, gIx_t, S_k, Option.map_none, cmulW_t]
theorem height_spec {b q : Hm} (hb : Hs b) (hq : Hs q) : F_height_over [.dat (hD b), .dat (hD q)] = .ok (.dat (.int (hov b q))) [.dat (hD b), .dat (hD q)] := by
  obtain ⟨a1, a2, a3⟩ := hb
  obtain ⟨b1, b2, b3⟩ := hq
  unfold F_height_over M_height_over hD hov
  simp -implicitDefEqProofs (disch := first | with_reducible assumption | ((with_reducible apply Bdx.id); exact Bdx.of (by (repeat' first | with_reducible assumption | apply Bd.mul | apply Bd.sub2 | apply Bd.add2 | apply Bd.neg | exact Bd.lit rfl)) (by decide)) | ((with_reducible apply Sml.id); exact Sml.lit rfl) | fail) only [k1_0, k1_e, k1_c, c1_r, k2b_0, k2b_e, k2b_c, k2a_0, k2a_e, k2a_c, c2_r, kN_0, kN_e, kN_c, cN_r, kTup_0, kTup_e, kTup_c, cTup_r, kLst_0, kLst_e, kLst_c, cLst_r, cK_r, caNil_r, kcb_0, kcb_e, kcb_c, kca_0, kca_e, kca_c, caCons_r, cxNil_r, kxb_0, kxb_e, kxb_c, kxa_0, kxa_e, kxa_c, cxD_r, cxS_r, kxs_0, cCall_r, kc1_0, kc1_e, kc2_0, kc3_0, kc3_e, kc3_c, ssOf_n, ss1_0, ss2_0, ssOf_d, ssOf_s, pb_n, pb_d, pb_s, so_n, so_d, so_s, di_n, di_1, di_c, cSeq_r, cNext_r, cRetN_r, cBrk_r, cCnt_r, kRet_0, kRet_e, kRet_c, cRet_r, kDrop_0, kDrop_e, kDrop_c, cDrop_r, kSet_0, kSet_e, kSet_c, cSet_r, kAs_0, kAsg_0, kAsg_e, kAsg_c, cAsg_r, cgName_r, cgNil_r, kgc_0, cgCons_r, cgTup_r, cgLst_r, kPar_0, kPar_e, kPar_c, cPar_r, kPar3_0, kPar3_e, kPar3_c, cPar3_r, kap3_0, kap2_0, kap2_e, kap2_c, kap1_0, cApp_r, ksi3_0, ksi4_0, ksi2_0, ksi2_e, ksi2_c, ksi1_0, ksi0_0, ksi0_e, ksi0_c, cSetIx_r, kix_l, kix_t, kix_s, kSq_0, kSq_e, kSq_c, ciSeq_r, kr1_0, kr1_e, kr1_c, ciRange1_r, kr2_0, kr2_e, kr2_c, ciRange2_r, kFor_0, kFor_e, kFor_c, cFor_r, forL_c, forL_n, kf1_0, kf2_nx, kf2_ct, kf2_bk, kf2_rt, kf2_exc, kf2_cond, kb_0, kbb_0, kb1_0, kb1_c, kb1_e, cB1_r, kb3_0, kb3_e, kb3_c, kb2_0, kb2_c, kb2_e, cB2_r, kres_0, res_d, res_s, kbn_0, cbN_r, kbD_0, kbD_e, kbD_c, cbD_r, kv_0, cV_r, kvm_0, cVm_r, cV_0, st_0, gt_0, cV_1, st_1, gt_1, cV_2, st_2, gt_2, cV_3, st_3, gt_3, cV_4, st_4, gt_4, cV_5, st_5, gt_5, cV_6, st_6, gt_6, cV_7, st_7, gt_7, cV_8, st_8, gt_8, cV_9, st_9, gt_9, cV_10, st_10, gt_10, cV_11, st_11, gt_11, cV_12, st_12, gt_12, cV_13, st_13, gt_13, cV_14, st_14, gt_14, cV_15, st_15, gt_15, cV_16, st_16, gt_16, cV_17, st_17, gt_17, cV_18, st_18, gt_18, cV_19, st_19, gt_19, cV_20, st_20, gt_20, cV_21, st_21, gt_21, cV_22, st_22, gt_22, cV_23, st_23, gt_23, tCh2_0, tCh2_e, tCh1_0, tCh0b_0, tCh0b_e, tCh0a_0, tCh0a_e, cChain_r, lcL_nil, lcL_c, ml1_0, ml2_t, ml2_f, ml2_b, ml3_0, ml5_0, ml4_0, ml4_e, ml4_c, cLc_r, nO_d, nO_n, nO_l, noOwn_n, noOwn_c, wipe_n, wipe_c, rsE_0, rest_n, rest_c, mkF_r, fo_0, fx_0, fin_nx', fin_rt', fin_exc', ob_0, og_0, od_0, outs_n, outs_c, lift_some, S_d, S_l, gAdd, gSub, gNeg, gNot, gLt, gLe, gGt, gGe, gEq_ii, gNe_ii, gLen, gAbs, gInt, tru_b, gMax2, gMin2, gGcd, gList, gTuple, gAll, gAny, bools_nil, bools_cons, gIs_bb, gIsN_bb, gPow, gMul, gFd, gMod, atI_0, atI_1, atI_2, atI_3, ixL_1, ixL_2, ixL_3, ixN_41, ixN_42, ixN_43, List.getElem?_cons_zero, List.getElem?_cons_succ, List.set_cons_zero, List.set_cons_succ, List.map_cons, List.map_nil, List.length_cons, List.length_nil, List.cons_append, List.nil_append, List.replicate_succ, List.replicate_zero, List.length_map, ↓cond_true, ↓cond_false, cond_true, cond_false, Option.map_some, beq_self_eq_true, List.contains_cons, List.contains_nil, Bool.or_false, Bool.false_or, Bool.or_true, Bool.and_true, Bool.true_and, Bool.not_true, Bool.not_false, Nat.reduceBEq, Nat.reduceAdd, Nat.reduceSub, Nat.reduceEqDiff, reduceCtorEq, Bool.false_eq_true, sq_nx, sq_rt, sq_bad, sq_bk, sq_ct, sq_exc, dz0, dz1, dz2, dz3, dz4, dz5, dz6, dz7, dz8, dz9, dz10, dz11, dz12, ic0, ic1, ic2, ic3, ic4, tAnd_ok, tOr_ok, tIf_ok, tIfS_ok, tAnd_exc, tOr_exc, tIf_exc, tIfS_exc, cAnd_t, cOr_t, cIf_t, cIfS_t, co_and, co_or, tAnd_cond, tOr_cond, tIfS_cond, sq_cond, fin_cond, rangeL_2, rangeL_3, List.all_cons, List.all_nil, List.any_cons, List.any_nil, id, rng1_t, rng2_t, Int.reduceToNat, if_true, ite_true, if_false, eq_self, decide_true, decide_false, isi_int_n, isi_int_b, isi_int_i, isi_int_s, isi_int_l, isi_int_t, isi_bool_n, isi_bool_b, isi_bool_i, isi_bool_s, isi_bool_l, isi_bool_t, isi_str_n, isi_str_b, isi_str_i, isi_str_s, isi_str_l, isi_str_t, isi_list_n, isi_list_b, isi_list_i, isi_list_s, isi_list_l, isi_list_t, isi_tuple_n, isi_tuple_b, isi_tuple_i, isi_tuple_s, isi_tuple_l, isi_tuple_t, isi_dict_n, isi_dict_b, isi_dict_i, isi_dict_s, isi_dict_l, isi_dict_t, nh_d, nh_l, nh_k, nh_o, nh_fn, nh_fc, ss3_0, sat_n, sat_0, sat_c, sup_n, sup_c, supc_0, fsg_c, fsg_n, fss_c, fss_n, pbs_0, pb_t, so_t, ssOf_t, gIx_l, gIx_t, S_k, Option.map_none, cmulW_t]
def cycK (P : List Cn) (k : Int) : Cn := (atI P k).getD (0, 0)
def bnds (P : List Cn) : List Hm := match P with
  | [a] => [(1, 0, -a.1), (-1, 0, a.1), (0, 1, -a.2), (0, -1, a.2)]
  | [p, q] => [hpl p q, hpl q p, (q.1 - p.1, q.2 - p.2, -((q.1 - p.1) * p.1 + (q.2 - p.2) * p.2)), (-(q.1 - p.1), -(q.2 - p.2), (q.1 - p.1) * q.1 + (q.2 - p.2) * q.2)]
  | P => (List.range P.length).map fun (k : Nat) => hpl (cycK P (0 + (k : Int) - 1)) (cycK P (0 + (k : Int)))
theorem bnds_3 {P : List Cn} (h : 3 ≤ P.length) : bnds P = (List.range P.length).map fun (k : Nat) => hpl (cycK P (0 + (k : Int) - 1)) (cycK P (0 + (k : Int))) := by
  match P, h with
  | [], h => simp at h
  | [_], h => simp at h
  | [_, _], h => simp at h
  | _ :: _ :: _ :: _, _ => rfl
theorem hpl_hs {p q : Cn} (hp : Sm p) (hq : Sm q) : Hs (hpl p q) := by
  obtain ⟨a1, a2⟩ := hp
  obtain ⟨b1, b2⟩ := hq
  exact ⟨(a2.sub b2).mono (by decide), (b1.sub a1).mono (by decide), ((((a2.sub b2).mul a1).add ((b1.sub a1).mul a2)).neg).mono (by decide)⟩
theorem cycK_mem {P : List Cn} {k : Int} (h : -(P.length : Int) ≤ k) (h2 : k < P.length) : atI P k = some (cycK P k) ∧ cycK P k ∈ P := by
  obtain ⟨x, hx, m⟩ := atI_some h h2
  unfold cycK
  rw [hx]
  exact ⟨rfl, m⟩
theorem bd_lit {i : Int} (h : i.natAbs < 2 ^ 60) : Bd 60 i := h
theorem bnds_hs {P : List Cn} (hs : ∀ c ∈ P, Sm c) : ∀ b ∈ bnds P, Hs b := by
  match P with
  | [] => intro b hb; cases hb
  | [a] =>
    obtain ⟨a1, a2⟩ := hs a (by simp)
    intro b hb
    have l0 : Bd 60 (0 : Int) := bd_lit (by decide)
    have l1 : Bd 60 (1 : Int) := bd_lit (by decide)
    have l2 : Bd 60 (-1 : Int) := bd_lit (by decide)
    have mm : ∀ {i : Int}, Bd 60 i → Bd 200 i := fun h => h.mono (by decide)
    simp only [bnds, List.mem_cons, List.not_mem_nil, or_false] at hb
    rcases hb with rfl | rfl | rfl | rfl
    · exact ⟨mm l1, mm l0, mm a1.neg⟩
    · exact ⟨mm l2, mm l0, mm a1⟩
    · exact ⟨mm l0, mm l1, mm a2.neg⟩
    · exact ⟨mm l0, mm l2, mm a2⟩
  | [p, q] =>
    have sp := hs p (by simp)
    have sq := hs q (by simp)
    obtain ⟨a1, a2⟩ := sp
    obtain ⟨b1, b2⟩ := sq
    intro b hb
    simp only [bnds, List.mem_cons, List.not_mem_nil, or_false] at hb
    rcases hb with rfl | rfl | rfl | rfl
    · exact hpl_hs (hs p (by simp)) (hs q (by simp))
    · exact hpl_hs (hs q (by simp)) (hs p (by simp))
    · exact ⟨(b1.sub a1).mono (by decide), (b2.sub a2).mono (by decide), ((((b1.sub a1).mul a1).add ((b2.sub a2).mul a2)).neg).mono (by decide)⟩
    · exact ⟨(b1.sub a1).neg.mono (by decide), (b2.sub a2).neg.mono (by decide), ((((b1.sub a1).mul b1).add ((b2.sub a2).mul b2))).mono (by decide)⟩
  | a :: b :: c :: r =>
    intro x hx
    rw [bnds_3 (by simp)] at hx
    obtain ⟨k, hk, rfl⟩ := List.mem_map.mp hx
    have hk := List.mem_range.mp hk
    exact hpl_hs (hs _ (cycK_mem (by omega) (by omega)).2) (hs _ (cycK_mem (by omega) (by omega)).2)
theorem mk19 {c : CS} {s : S} : mkF 1 9 [] c [s] = finish [] [s] (c [some s, none, none, none, none, none, none, none, none]) := rfl
theorem bounds_spec {P : List Cn} (hs : ∀ c ∈ P, Sm c) (hn : P ≠ []) (hl : P.length ≤ 1000) : F_bounds_of [.dat (.tuple (P.map pD))] = .ok (.lst ((bnds P).map hD)) [.dat (.tuple (P.map pD))] := by
  match P, hn with
  | [a], _ =>
    obtain ⟨a1, a2⟩ := hs a (by simp)
    have h1 : ((1 : Int) == 1) = true := rfl
    unfold F_bounds_of M_bounds_of bnds hD
    unfold pD
    simp -implicitDefEqProofs only [k1_0, k1_e, k1_c, c1_r, k2b_0, k2b_e, k2b_c, k2a_0, k2a_e, k2a_c, c2_r, kN_0, kN_e, kN_c, cN_r, kTup_0, kTup_e, kTup_c, cTup_r, kLst_0, kLst_e, kLst_c, cLst_r, cK_r, caNil_r, kcb_0, kcb_e, kcb_c, kca_0, kca_e, kca_c, caCons_r, cxNil_r, kxb_0, kxb_e, kxb_c, kxa_0, kxa_e, kxa_c, cxD_r, cxS_r, kxs_0, cCall_r, kc1_0, kc1_e, kc2_0, kc3_0, kc3_e, kc3_c, ssOf_n, ss1_0, ss2_0, ssOf_d, ssOf_s, pb_n, pb_d, pb_s, so_n, so_d, so_s, di_n, di_1, di_c, cSeq_r, cNext_r, cRetN_r, cBrk_r, cCnt_r, kRet_0, kRet_e, kRet_c, cRet_r, kDrop_0, kDrop_e, kDrop_c, cDrop_r, kSet_0, kSet_e, kSet_c, cSet_r, kAs_0, kAsg_0, kAsg_e, kAsg_c, cAsg_r, cgName_r, cgNil_r, kgc_0, cgCons_r, cgTup_r, cgLst_r, kPar_0, kPar_e, kPar_c, cPar_r, kPar3_0, kPar3_e, kPar3_c, cPar3_r, kap3_0, kap2_0, kap2_e, kap2_c, kap1_0, cApp_r, ksi3_0, ksi4_0, ksi2_0, ksi2_e, ksi2_c, ksi1_0, ksi0_0, ksi0_e, ksi0_c, cSetIx_r, kix_l, kix_t, kix_s, kSq_0, kSq_e, kSq_c, ciSeq_r, kr1_0, kr1_e, kr1_c, ciRange1_r, kr2_0, kr2_e, kr2_c, ciRange2_r, kFor_0, kFor_e, kFor_c, cFor_r, forL_c, forL_n, kf1_0, kf2_nx, kf2_ct, kf2_bk, kf2_rt, kf2_exc, kf2_cond, kb_0, kbb_0, kb1_0, kb1_c, kb1_e, cB1_r, kb3_0, kb3_e, kb3_c, kb2_0, kb2_c, kb2_e, cB2_r, kres_0, res_d, res_s, kbn_0, cbN_r, kbD_0, kbD_e, kbD_c, cbD_r, kv_0, cV_r, kvm_0, cVm_r, cV_0, st_0, gt_0, cV_1, st_1, gt_1, cV_2, st_2, gt_2, cV_3, st_3, gt_3, cV_4, st_4, gt_4, cV_5, st_5, gt_5, cV_6, st_6, gt_6, cV_7, st_7, gt_7, cV_8, st_8, gt_8, cV_9, st_9, gt_9, cV_10, st_10, gt_10, cV_11, st_11, gt_11, cV_12, st_12, gt_12, cV_13, st_13, gt_13, cV_14, st_14, gt_14, cV_15, st_15, gt_15, cV_16, st_16, gt_16, cV_17, st_17, gt_17, cV_18, st_18, gt_18, cV_19, st_19, gt_19, cV_20, st_20, gt_20, cV_21, st_21, gt_21, cV_22, st_22, gt_22, cV_23, st_23, gt_23, tCh2_0, tCh2_e, tCh1_0, tCh0b_0, tCh0b_e, tCh0a_0, tCh0a_e, cChain_r, lcL_nil, lcL_c, ml1_0, ml2_t, ml2_f, ml2_b, ml3_0, ml5_0, ml4_0, ml4_e, ml4_c, cLc_r, nO_d, nO_n, nO_l, noOwn_n, noOwn_c, wipe_n, wipe_c, rsE_0, rest_n, rest_c, mkF_r, fo_0, fx_0, fin_nx', fin_rt', fin_exc', ob_0, og_0, od_0, outs_n, outs_c, lift_some, S_d, S_l, gAdd, gSub, gNeg, gNot, gLt, gLe, gGt, gGe, gEq_ii, gNe_ii, gLen, gAbs, gInt, tru_b, gMax2, gMin2, gGcd, gList, gTuple, gAll, gAny, bools_nil, bools_cons, gIs_bb, gIsN_bb, gPow, gMul, gFd, gMod, atI_0, atI_1, atI_2, atI_3, ixL_1, ixL_2, ixL_3, ixN_41, ixN_42, ixN_43, List.getElem?_cons_zero, List.getElem?_cons_succ, List.set_cons_zero, List.set_cons_succ, List.map_cons, List.map_nil, List.length_cons, List.length_nil, List.cons_append, List.nil_append, List.replicate_succ, List.replicate_zero, List.length_map, ↓cond_true, ↓cond_false, cond_true, cond_false, Option.map_some, beq_self_eq_true, List.contains_cons, List.contains_nil, Bool.or_false, Bool.false_or, Bool.or_true, Bool.and_true, Bool.true_and, Bool.not_true, Bool.not_false, Nat.reduceBEq, Nat.reduceAdd, Nat.reduceSub, Nat.reduceEqDiff, reduceCtorEq, Bool.false_eq_true, sq_nx, sq_rt, sq_bad, sq_bk, sq_ct, sq_exc, dz0, dz1, dz2, dz3, dz4, dz5, dz6, dz7, dz8, dz9, dz10, dz11, dz12, ic0, ic1, ic2, ic3, ic4, tAnd_ok, tOr_ok, tIf_ok, tIfS_ok, tAnd_exc, tOr_exc, tIf_exc, tIfS_exc, cAnd_t, cOr_t, cIf_t, cIfS_t, co_and, co_or, tAnd_cond, tOr_cond, tIfS_cond, sq_cond, fin_cond, rangeL_2, rangeL_3, List.all_cons, List.all_nil, List.any_cons, List.any_nil, id, rng1_t, rng2_t, Int.reduceToNat, if_true, ite_true, if_false, eq_self, decide_true, decide_false, isi_int_n, isi_int_b, isi_int_i, isi_int_s, isi_int_l, isi_int_t, isi_bool_n, isi_bool_b, isi_bool_i, isi_bool_s, isi_bool_l, isi_bool_t, isi_str_n, isi_str_b, isi_str_i, isi_str_s, isi_str_l, isi_str_t, isi_list_n, isi_list_b, isi_list_i, isi_list_s, isi_list_l, isi_list_t, isi_tuple_n, isi_tuple_b, isi_tuple_i, isi_tuple_s, isi_tuple_l, isi_tuple_t, isi_dict_n, isi_dict_b, isi_dict_i, isi_dict_s, isi_dict_l, isi_dict_t, nh_d, nh_l, nh_k, nh_o, nh_fn, nh_fc, ss3_0, sat_n, sat_0, sat_c, sup_n, sup_c, supc_0, fsg_c, fsg_n, fss_c, fss_n, pbs_0, pb_t, so_t, ssOf_t, gIx_l, gIx_t, S_k, Option.map_none, h1]
  | [p, q], _ =>
    have e1 := plane_spec (hs p (by simp)) (hs q (by simp))
    have e2 := plane_spec (hs q (by simp)) (hs p (by simp))
    obtain ⟨a1, a2⟩ := hs p (by simp)
    obtain ⟨b1, b2⟩ := hs q (by simp)
    have h1 : ((2 : Int) == 1) = false := rfl
    have h2 : ((2 : Int) == 2) = true := rfl
    have z : decide (2 + 2 ≤ sizeLine) = true := by decide
    have z4 : decide (4 ≤ sizeLine) = true := by decide
    unfold F_bounds_of M_bounds_of bnds
    unfold hD pD at *
    simp -implicitDefEqProofs (disch := first | with_reducible assumption | ((with_reducible apply Bdx.id); exact Bdx.of (by (repeat' first | with_reducible assumption | apply Bd.mul | apply Bd.sub2 | apply Bd.add2 | apply Bd.neg | exact Bd.lit rfl)) (by decide)) | ((with_reducible apply Sml.id); exact Sml.lit rfl) | fail) only [k1_0, k1_e, k1_c, c1_r, k2b_0, k2b_e, k2b_c, k2a_0, k2a_e, k2a_c, c2_r, kN_0, kN_e, kN_c, cN_r, kTup_0, kTup_e, kTup_c, cTup_r, kLst_0, kLst_e, kLst_c, cLst_r, cK_r, caNil_r, kcb_0, kcb_e, kcb_c, kca_0, kca_e, kca_c, caCons_r, cxNil_r, kxb_0, kxb_e, kxb_c, kxa_0, kxa_e, kxa_c, cxD_r, cxS_r, kxs_0, cCall_r, kc1_0, kc1_e, kc2_0, kc3_0, kc3_e, kc3_c, ssOf_n, ss1_0, ss2_0, ssOf_d, ssOf_s, pb_n, pb_d, pb_s, so_n, so_d, so_s, di_n, di_1, di_c, cSeq_r, cNext_r, cRetN_r, cBrk_r, cCnt_r, kRet_0, kRet_e, kRet_c, cRet_r, kDrop_0, kDrop_e, kDrop_c, cDrop_r, kSet_0, kSet_e, kSet_c, cSet_r, kAs_0, kAsg_0, kAsg_e, kAsg_c, cAsg_r, cgName_r, cgNil_r, kgc_0, cgCons_r, cgTup_r, cgLst_r, kPar_0, kPar_e, kPar_c, cPar_r, kPar3_0, kPar3_e, kPar3_c, cPar3_r, kap3_0, kap2_0, kap2_e, kap2_c, kap1_0, cApp_r, ksi3_0, ksi4_0, ksi2_0, ksi2_e, ksi2_c, ksi1_0, ksi0_0, ksi0_e, ksi0_c, cSetIx_r, kix_l, kix_t, kix_s, kSq_0, kSq_e, kSq_c, ciSeq_r, kr1_0, kr1_e, kr1_c, ciRange1_r, kr2_0, kr2_e, kr2_c, ciRange2_r, kFor_0, kFor_e, kFor_c, cFor_r, forL_c, forL_n, kf1_0, kf2_nx, kf2_ct, kf2_bk, kf2_rt, kf2_exc, kf2_cond, kb_0, kbb_0, kb1_0, kb1_c, kb1_e, cB1_r, kb3_0, kb3_e, kb3_c, kb2_0, kb2_c, kb2_e, cB2_r, kres_0, res_d, res_s, kbn_0, cbN_r, kbD_0, kbD_e, kbD_c, cbD_r, kv_0, cV_r, kvm_0, cVm_r, cV_0, st_0, gt_0, cV_1, st_1, gt_1, cV_2, st_2, gt_2, cV_3, st_3, gt_3, cV_4, st_4, gt_4, cV_5, st_5, gt_5, cV_6, st_6, gt_6, cV_7, st_7, gt_7, cV_8, st_8, gt_8, cV_9, st_9, gt_9, cV_10, st_10, gt_10, cV_11, st_11, gt_11, cV_12, st_12, gt_12, cV_13, st_13, gt_13, cV_14, st_14, gt_14, cV_15, st_15, gt_15, cV_16, st_16, gt_16, cV_17, st_17, gt_17, cV_18, st_18, gt_18, cV_19, st_19, gt_19, cV_20, st_20, gt_20, cV_21, st_21, gt_21, cV_22, st_22, gt_22, cV_23, st_23, gt_23, tCh2_0, tCh2_e, tCh1_0, tCh0b_0, tCh0b_e, tCh0a_0, tCh0a_e, cChain_r, lcL_nil, lcL_c, ml1_0, ml2_t, ml2_f, ml2_b, ml3_0, ml5_0, ml4_0, ml4_e, ml4_c, cLc_r, nO_d, nO_n, nO_l, noOwn_n, noOwn_c, wipe_n, wipe_c, rsE_0, rest_n, rest_c, mkF_r, fo_0, fx_0, fin_nx', fin_rt', fin_exc', ob_0, og_0, od_0, outs_n, outs_c, lift_some, S_d, S_l, gAdd, gSub, gNeg, gNot, gLt, gLe, gGt, gGe, gEq_ii, gNe_ii, gLen, gAbs, gInt, tru_b, gMax2, gMin2, gGcd, gList, gTuple, gAll, gAny, bools_nil, bools_cons, gIs_bb, gIsN_bb, gPow, gMul, gFd, gMod, atI_0, atI_1, atI_2, atI_3, ixL_1, ixL_2, ixL_3, ixN_41, ixN_42, ixN_43, List.getElem?_cons_zero, List.getElem?_cons_succ, List.set_cons_zero, List.set_cons_succ, List.map_cons, List.map_nil, List.length_cons, List.length_nil, List.cons_append, List.nil_append, List.replicate_succ, List.replicate_zero, List.length_map, ↓cond_true, ↓cond_false, cond_true, cond_false, Option.map_some, beq_self_eq_true, List.contains_cons, List.contains_nil, Bool.or_false, Bool.false_or, Bool.or_true, Bool.and_true, Bool.true_and, Bool.not_true, Bool.not_false, Nat.reduceBEq, Nat.reduceAdd, Nat.reduceSub, Nat.reduceEqDiff, reduceCtorEq, Bool.false_eq_true, sq_nx, sq_rt, sq_bad, sq_bk, sq_ct, sq_exc, dz0, dz1, dz2, dz3, dz4, dz5, dz6, dz7, dz8, dz9, dz10, dz11, dz12, ic0, ic1, ic2, ic3, ic4, tAnd_ok, tOr_ok, tIf_ok, tIfS_ok, tAnd_exc, tOr_exc, tIf_exc, tIfS_exc, cAnd_t, cOr_t, cIf_t, cIfS_t, co_and, co_or, tAnd_cond, tOr_cond, tIfS_cond, sq_cond, fin_cond, rangeL_2, rangeL_3, List.all_cons, List.all_nil, List.any_cons, List.any_nil, id, rng1_t, rng2_t, Int.reduceToNat, if_true, ite_true, if_false, eq_self, decide_true, decide_false, isi_int_n, isi_int_b, isi_int_i, isi_int_s, isi_int_l, isi_int_t, isi_bool_n, isi_bool_b, isi_bool_i, isi_bool_s, isi_bool_l, isi_bool_t, isi_str_n, isi_str_b, isi_str_i, isi_str_s, isi_str_l, isi_str_t, isi_list_n, isi_list_b, isi_list_i, isi_list_s, isi_list_l, isi_list_t, isi_tuple_n, isi_tuple_b, isi_tuple_i, isi_tuple_s, isi_tuple_l, isi_tuple_t, isi_dict_n, isi_dict_b, isi_dict_i, isi_dict_s, isi_dict_l, isi_dict_t, nh_d, nh_l, nh_k, nh_o, nh_fn, nh_fc, ss3_0, sat_n, sat_0, sat_c, sup_n, sup_c, supc_0, fsg_c, fsg_n, fss_c, fss_n, pbs_0, pb_t, so_t, ssOf_t, gIx_l, gIx_t, S_k, Option.map_none, h1, h2, cmulW_t, e1, e2, z, z4]
  | a :: b :: c :: r, _ =>
    rw [bnds_3 (by simp)]
    generalize hP : a :: b :: c :: r = P at *
    have h3 : 3 ≤ P.length := by rw [← hP]; simp
    have h1 : ((P.length : Int) == 1) = false := beq_eq_false_iff_ne.mpr (by omega)
    have h2 : ((P.length : Int) == 2) = false := beq_eq_false_iff_ne.mpr (by omega)
    have sm : Sml (P.length : Int) := by unfold Sml; omega
    have tn : (P.length : Int).toNat = P.length := rfl
    have lc : cLc [8] (ciRange1 (caCons (cB1 gLen (cbN 0)) (caNil))) (cgName 8) (cK (.bool true)) (cCall F_half_plane (cxD (cB2 gIx (cbN 0) (c2 gSub (cV 8) (cK (.int 1)))) (cxD (cB2 gIx (cbN 0) (cV 8)) (cxNil)))) [some (.dat (.tuple (P.map pD))), none, none, none, none, none, none, none, none] =
        .ok (.lst ((rangeL 0 P.length).map fun d => match d with
          | .int k => hD (hpl (cycK P (k - 1)) (cycK P k))
          | _ => .none)) [some (.dat (.tuple (P.map pD))), none, none, none, none, none, none, none, none] := by
      refine cLc_map (ρ1 := [some (.dat (.tuple (P.map pD))), none, none, none, none, none, none, none, none]) _ ?_ rfl (by rw [rangeL_length]; have := ch_cls; omega) fun d hd => ?_
      · simp -implicitDefEqProofs only [k1_0, k1_e, k1_c, c1_r, k2b_0, k2b_e, k2b_c, k2a_0, k2a_e, k2a_c, c2_r, kN_0, kN_e, kN_c, cN_r, kTup_0, kTup_e, kTup_c, cTup_r, kLst_0, kLst_e, kLst_c, cLst_r, cK_r, caNil_r, kcb_0, kcb_e, kcb_c, kca_0, kca_e, kca_c, caCons_r, cxNil_r, kxb_0, kxb_e, kxb_c, kxa_0, kxa_e, kxa_c, cxD_r, cxS_r, kxs_0, cCall_r, kc1_0, kc1_e, kc2_0, kc3_0, kc3_e, kc3_c, ssOf_n, ss1_0, ss2_0, ssOf_d, ssOf_s, pb_n, pb_d, pb_s, so_n, so_d, so_s, di_n, di_1, di_c, cSeq_r, cNext_r, cRetN_r, cBrk_r, cCnt_r, kRet_0, kRet_e, kRet_c, cRet_r, kDrop_0, kDrop_e, kDrop_c, cDrop_r, kSet_0, kSet_e, kSet_c, cSet_r, kAs_0, kAsg_0, kAsg_e, kAsg_c, cAsg_r, cgName_r, cgNil_r, kgc_0, cgCons_r, cgTup_r, cgLst_r, kPar_0, kPar_e, kPar_c, cPar_r, kPar3_0, kPar3_e, kPar3_c, cPar3_r, kap3_0, kap2_0, kap2_e, kap2_c, kap1_0, cApp_r, ksi3_0, ksi4_0, ksi2_0, ksi2_e, ksi2_c, ksi1_0, ksi0_0, ksi0_e, ksi0_c, cSetIx_r, kix_l, kix_t, kix_s, kSq_0, kSq_e, kSq_c, ciSeq_r, kr1_e, kr1_c, ciRange1_r, kr2_e, kr2_c, ciRange2_r, kFor_0, kFor_e, kFor_c, cFor_r, forL_c, forL_n, kf1_0, kf2_nx, kf2_ct, kf2_bk, kf2_rt, kf2_exc, kf2_cond, kb_0, kbb_0, kb1_0, kb1_c, kb1_e, cB1_r, kb3_0, kb3_e, kb3_c, kb2_0, kb2_c, kb2_e, cB2_r, kres_0, res_d, res_s, kbn_0, cbN_r, kbD_0, kbD_e, kbD_c, cbD_r, kv_0, cV_r, kvm_0, cVm_r, cV_0, st_0, gt_0, cV_1, st_1, gt_1, cV_2, st_2, gt_2, cV_3, st_3, gt_3, cV_4, st_4, gt_4, cV_5, st_5, gt_5, cV_6, st_6, gt_6, cV_7, st_7, gt_7, cV_8, st_8, gt_8, cV_9, st_9, gt_9, cV_10, st_10, gt_10, cV_11, st_11, gt_11, cV_12, st_12, gt_12, cV_13, st_13, gt_13, cV_14, st_14, gt_14, cV_15, st_15, gt_15, cV_16, st_16, gt_16, cV_17, st_17, gt_17, cV_18, st_18, gt_18, cV_19, st_19, gt_19, cV_20, st_20, gt_20, cV_21, st_21, gt_21, cV_22, st_22, gt_22, cV_23, st_23, gt_23, tCh2_0, tCh2_e, tCh1_0, tCh0b_0, tCh0b_e, tCh0a_0, tCh0a_e, cChain_r, lcL_nil, lcL_c, ml1_0, ml2_t, ml2_f, ml2_b, ml3_0, ml5_0, ml4_0, ml4_e, ml4_c, nO_d, nO_n, nO_l, noOwn_n, noOwn_c, wipe_n, wipe_c, rsE_0, rest_n, rest_c, mkF_r, fo_0, fx_0, fin_nx', fin_rt', fin_exc', ob_0, og_0, od_0, outs_n, outs_c, lift_some, S_d, S_l, gAdd, gSub, gNeg, gNot, gLt, gLe, gGt, gGe, gEq_ii, gNe_ii, gLen, gAbs, gInt, tru_b, gMax2, gMin2, gGcd, gList, gTuple, gAll, gAny, bools_nil, bools_cons, gIs_bb, gIsN_bb, gPow, gMul, gFd, gMod, atI_0, atI_1, atI_2, atI_3, ixL_1, ixL_2, ixL_3, ixN_41, ixN_42, ixN_43, List.getElem?_cons_zero, List.getElem?_cons_succ, List.set_cons_zero, List.set_cons_succ, List.map_cons, List.map_nil, List.length_cons, List.length_nil, List.cons_append, List.nil_append, List.replicate_succ, List.replicate_zero, List.length_map, ↓cond_true, ↓cond_false, cond_true, cond_false, Option.map_some, beq_self_eq_true, List.contains_cons, List.contains_nil, Bool.or_false, Bool.false_or, Bool.or_true, Bool.and_true, Bool.true_and, Bool.not_true, Bool.not_false, Nat.reduceBEq, Nat.reduceAdd, Nat.reduceSub, Nat.reduceEqDiff, reduceCtorEq, Bool.false_eq_true, sq_nx, sq_rt, sq_bad, sq_bk, sq_ct, sq_exc, dz0, dz1, dz2, dz3, dz4, dz5, dz6, dz7, dz8, dz9, dz10, dz11, dz12, ic0, ic1, ic2, ic3, ic4, tAnd_ok, tOr_ok, tIf_ok, tIfS_ok, tAnd_exc, tOr_exc, tIf_exc, tIfS_exc, cAnd_t, cOr_t, cIf_t, cIfS_t, co_and, co_or, tAnd_cond, tOr_cond, tIfS_cond, sq_cond, fin_cond, rangeL_2, rangeL_3, List.all_cons, List.all_nil, List.any_cons, List.any_nil, id, rng1_t, rng2_t, Int.reduceToNat, if_true, ite_true, if_false, eq_self, decide_true, decide_false, isi_int_n, isi_int_b, isi_int_i, isi_int_s, isi_int_l, isi_int_t, isi_bool_n, isi_bool_b, isi_bool_i, isi_bool_s, isi_bool_l, isi_bool_t, isi_str_n, isi_str_b, isi_str_i, isi_str_s, isi_str_l, isi_str_t, isi_list_n, isi_list_b, isi_list_i, isi_list_s, isi_list_l, isi_list_t, isi_tuple_n, isi_tuple_b, isi_tuple_i, isi_tuple_s, isi_tuple_l, isi_tuple_t, isi_dict_n, isi_dict_b, isi_dict_i, isi_dict_s, isi_dict_l, isi_dict_t, nh_d, nh_l, nh_k, nh_o, nh_fn, nh_fc, ss3_0, sat_n, sat_0, sat_c, sup_n, sup_c, supc_0, fsg_c, fsg_n, fss_c, fss_n, pbs_0, pb_t, so_t, ssOf_t, gIx_l, gIx_t, S_k, Option.map_none, kr1_s sm, tn]
      · obtain ⟨k, hk, rfl⟩ := List.mem_map.mp hd
        have hk := List.mem_range.mp hk
        have m1 := cycK_mem (P := P) (k := 0 + (k : Int) - 1) (by omega) (by omega)
        have m2 := cycK_mem (P := P) (k := 0 + (k : Int)) (by omega) (by omega)
        have f1 : atI (P.map pD) (0 + (k : Int) - 1) = some (pD (cycK P (0 + (k : Int) - 1))) := by rw [atI_map, m1.1]; rfl
        have f2 : atI (P.map pD) (0 + (k : Int)) = some (pD (cycK P (0 + (k : Int)))) := by rw [atI_map, m2.1]; rfl
        have e := plane_spec (hs _ m1.2) (hs _ m2.2)
        refine ⟨[some (.dat (.tuple (P.map pD))), none, none, none, none, none, none, none, some (.dat (.int (0 + (k : Int))))], [some (.dat (.tuple (P.map pD))), none, none, none, none, none, none, none, some (.dat (.int (0 + (k : Int))))], [some (.dat (.tuple (P.map pD))), none, none, none, none, none, none, none, some (.dat (.int (0 + (k : Int))))], .dat (hD (hpl (cycK P (0 + (k : Int) - 1)) (cycK P (0 + (k : Int))))), rfl, rfl, ?_, rfl, rfl⟩
        generalize (0 + (k : Int)) = j at *
        simp -implicitDefEqProofs only [k1_0, k1_e, k1_c, c1_r, k2b_0, k2b_e, k2b_c, k2a_0, k2a_e, k2a_c, c2_r, kN_0, kN_e, kN_c, cN_r, kTup_0, kTup_e, kTup_c, cTup_r, kLst_0, kLst_e, kLst_c, cLst_r, cK_r, caNil_r, kcb_0, kcb_e, kcb_c, kca_0, kca_e, kca_c, caCons_r, cxNil_r, kxb_0, kxb_e, kxb_c, kxa_0, kxa_e, kxa_c, cxD_r, cxS_r, kxs_0, cCall_r, kc1_0, kc1_e, kc2_0, kc3_0, kc3_e, kc3_c, ssOf_n, ss1_0, ss2_0, ssOf_d, ssOf_s, pb_n, pb_d, pb_s, so_n, so_d, so_s, di_n, di_1, di_c, cSeq_r, cNext_r, cRetN_r, cBrk_r, cCnt_r, kRet_0, kRet_e, kRet_c, cRet_r, kDrop_0, kDrop_e, kDrop_c, cDrop_r, kSet_0, kSet_e, kSet_c, cSet_r, kAs_0, kAsg_0, kAsg_e, kAsg_c, cAsg_r, cgName_r, cgNil_r, kgc_0, cgCons_r, cgTup_r, cgLst_r, kPar_0, kPar_e, kPar_c, cPar_r, kPar3_0, kPar3_e, kPar3_c, cPar3_r, kap3_0, kap2_0, kap2_e, kap2_c, kap1_0, cApp_r, ksi3_0, ksi4_0, ksi2_0, ksi2_e, ksi2_c, ksi1_0, ksi0_0, ksi0_e, ksi0_c, cSetIx_r, kix_l, kix_t, kix_s, kSq_0, kSq_e, kSq_c, ciSeq_r, kr1_0, kr1_e, kr1_c, ciRange1_r, kr2_0, kr2_e, kr2_c, ciRange2_r, kFor_0, kFor_e, kFor_c, cFor_r, forL_c, forL_n, kf1_0, kf2_nx, kf2_ct, kf2_bk, kf2_rt, kf2_exc, kf2_cond, kb_0, kbb_0, kb1_0, kb1_c, kb1_e, cB1_r, kb3_0, kb3_e, kb3_c, kb2_0, kb2_c, kb2_e, cB2_r, kres_0, res_d, res_s, kbn_0, cbN_r, kbD_0, kbD_e, kbD_c, cbD_r, kv_0, cV_r, kvm_0, cVm_r, cV_0, st_0, gt_0, cV_1, st_1, gt_1, cV_2, st_2, gt_2, cV_3, st_3, gt_3, cV_4, st_4, gt_4, cV_5, st_5, gt_5, cV_6, st_6, gt_6, cV_7, st_7, gt_7, cV_8, st_8, gt_8, cV_9, st_9, gt_9, cV_10, st_10, gt_10, cV_11, st_11, gt_11, cV_12, st_12, gt_12, cV_13, st_13, gt_13, cV_14, st_14, gt_14, cV_15, st_15, gt_15, cV_16, st_16, gt_16, cV_17, st_17, gt_17, cV_18, st_18, gt_18, cV_19, st_19, gt_19, cV_20, st_20, gt_20, cV_21, st_21, gt_21, cV_22, st_22, gt_22, cV_23, st_23, gt_23, tCh2_0, tCh2_e, tCh1_0, tCh0b_0, tCh0b_e, tCh0a_0, tCh0a_e, cChain_r, lcL_nil, lcL_c, ml1_0, ml2_t, ml2_f, ml2_b, ml3_0, ml5_0, ml4_0, ml4_e, ml4_c, cLc_r, nO_d, nO_n, nO_l, noOwn_n, noOwn_c, wipe_n, wipe_c, rsE_0, rest_n, rest_c, mkF_r, fo_0, fx_0, fin_nx', fin_rt', fin_exc', ob_0, og_0, od_0, outs_n, outs_c, lift_some, S_d, S_l, gAdd, gSub, gNeg, gNot, gLt, gLe, gGt, gGe, gEq_ii, gNe_ii, gLen, gAbs, gInt, tru_b, gMax2, gMin2, gGcd, gList, gTuple, gAll, gAny, bools_nil, bools_cons, gIs_bb, gIsN_bb, gPow, gMul, gFd, gMod, atI_0, atI_1, atI_2, atI_3, ixL_1, ixL_2, ixL_3, ixN_41, ixN_42, ixN_43, List.getElem?_cons_zero, List.getElem?_cons_succ, List.set_cons_zero, List.set_cons_succ, List.map_cons, List.map_nil, List.length_cons, List.length_nil, List.cons_append, List.nil_append, List.replicate_succ, List.replicate_zero, List.length_map, ↓cond_true, ↓cond_false, cond_true, cond_false, Option.map_some, beq_self_eq_true, List.contains_cons, List.contains_nil, Bool.or_false, Bool.false_or, Bool.or_true, Bool.and_true, Bool.true_and, Bool.not_true, Bool.not_false, Nat.reduceBEq, Nat.reduceAdd, Nat.reduceSub, Nat.reduceEqDiff, reduceCtorEq, Bool.false_eq_true, sq_nx, sq_rt, sq_bad, sq_bk, sq_ct, sq_exc, dz0, dz1, dz2, dz3, dz4, dz5, dz6, dz7, dz8, dz9, dz10, dz11, dz12, ic0, ic1, ic2, ic3, ic4, tAnd_ok, tOr_ok, tIf_ok, tIfS_ok, tAnd_exc, tOr_exc, tIf_exc, tIfS_exc, cAnd_t, cOr_t, cIf_t, cIfS_t, co_and, co_or, tAnd_cond, tOr_cond, tIfS_cond, sq_cond, fin_cond, rangeL_2, rangeL_3, List.all_cons, List.all_nil, List.any_cons, List.any_nil, id, rng1_t, rng2_t, Int.reduceToNat, if_true, ite_true, if_false, eq_self, decide_true, decide_false, isi_int_n, isi_int_b, isi_int_i, isi_int_s, isi_int_l, isi_int_t, isi_bool_n, isi_bool_b, isi_bool_i, isi_bool_s, isi_bool_l, isi_bool_t, isi_str_n, isi_str_b, isi_str_i, isi_str_s, isi_str_l, isi_str_t, isi_list_n, isi_list_b, isi_list_i, isi_list_s, isi_list_l, isi_list_t, isi_tuple_n, isi_tuple_b, isi_tuple_i, isi_tuple_s, isi_tuple_l, isi_tuple_t, isi_dict_n, isi_dict_b, isi_dict_i, isi_dict_s, isi_dict_l, isi_dict_t, nh_d, nh_l, nh_k, nh_o, nh_fn, nh_fc, ss3_0, sat_n, sat_0, sat_c, sup_n, sup_c, supc_0, fsg_c, fsg_n, fss_c, fss_n, pbs_0, pb_t, so_t, ssOf_t, gIx_l, gIx_t, S_k, Option.map_none, f1, f2, e]
    have lm : ((rangeL 0 P.length).map fun d => match d with
          | .int k => hD (hpl (cycK P (k - 1)) (cycK P k))
          | _ => .none) = ((List.range P.length).map fun (k : Nat) => hpl (cycK P (0 + (k : Int) - 1)) (cycK P (0 + (k : Int)))).map hD := by
      unfold rangeL
      rw [List.map_map, List.map_map]
      rfl
    rw [lm] at lc
    unfold F_bounds_of M_bounds_of
    rw [mk19, cSeq_r]
    simp -implicitDefEqProofs only [k1_0, k1_e, k1_c, c1_r, k2b_0, k2b_e, k2b_c, k2a_0, k2a_e, k2a_c, c2_r, kN_0, kN_e, kN_c, cN_r, kTup_0, kTup_e, kTup_c, cTup_r, kLst_0, kLst_e, kLst_c, cLst_r, cK_r, caNil_r, kcb_0, kcb_e, kcb_c, kca_0, kca_e, kca_c, caCons_r, cxNil_r, kxb_0, kxb_e, kxb_c, kxa_0, kxa_e, kxa_c, cxD_r, cxS_r, kxs_0, cCall_r, kc1_0, kc1_e, kc2_0, kc3_0, kc3_e, kc3_c, ssOf_n, ss1_0, ss2_0, ssOf_d, ssOf_s, pb_n, pb_d, pb_s, so_n, so_d, so_s, di_n, di_1, di_c, cNext_r, cRetN_r, cBrk_r, cCnt_r, kRet_0, kRet_e, kRet_c, cRet_r, kDrop_0, kDrop_e, kDrop_c, cDrop_r, kSet_0, kSet_e, kSet_c, cSet_r, kAs_0, kAsg_0, kAsg_e, kAsg_c, cAsg_r, cgName_r, cgNil_r, kgc_0, cgCons_r, cgTup_r, cgLst_r, kPar_0, kPar_e, kPar_c, cPar_r, kPar3_0, kPar3_e, kPar3_c, cPar3_r, kap3_0, kap2_0, kap2_e, kap2_c, kap1_0, cApp_r, ksi3_0, ksi4_0, ksi2_0, ksi2_e, ksi2_c, ksi1_0, ksi0_0, ksi0_e, ksi0_c, cSetIx_r, kix_l, kix_t, kix_s, kSq_0, kSq_e, kSq_c, ciSeq_r, kr1_e, kr1_c, ciRange1_r, kr2_e, kr2_c, ciRange2_r, kFor_0, kFor_e, kFor_c, cFor_r, forL_c, forL_n, kf1_0, kf2_nx, kf2_ct, kf2_bk, kf2_rt, kf2_exc, kf2_cond, kb_0, kbb_0, kb1_0, kb1_c, kb1_e, cB1_r, kb3_0, kb3_e, kb3_c, kb2_0, kb2_c, kb2_e, cB2_r, kres_0, res_d, res_s, kbn_0, cbN_r, kbD_0, kbD_e, kbD_c, cbD_r, kv_0, cV_r, kvm_0, cVm_r, cV_0, st_0, gt_0, cV_1, st_1, gt_1, cV_2, st_2, gt_2, cV_3, st_3, gt_3, cV_4, st_4, gt_4, cV_5, st_5, gt_5, cV_6, st_6, gt_6, cV_7, st_7, gt_7, cV_8, st_8, gt_8, cV_9, st_9, gt_9, cV_10, st_10, gt_10, cV_11, st_11, gt_11, cV_12, st_12, gt_12, cV_13, st_13, gt_13, cV_14, st_14, gt_14, cV_15, st_15, gt_15, cV_16, st_16, gt_16, cV_17, st_17, gt_17, cV_18, st_18, gt_18, cV_19, st_19, gt_19, cV_20, st_20, gt_20, cV_21, st_21, gt_21, cV_22, st_22, gt_22, cV_23, st_23, gt_23, tCh2_0, tCh2_e, tCh1_0, tCh0b_0, tCh0b_e, tCh0a_0, tCh0a_e, cChain_r, lcL_nil, lcL_c, ml1_0, ml2_t, ml2_f, ml2_b, ml3_0, ml5_0, ml4_0, ml4_e, ml4_c, nO_d, nO_n, nO_l, noOwn_n, noOwn_c, wipe_n, wipe_c, rsE_0, rest_n, rest_c, mkF_r, fo_0, fx_0, fin_nx', fin_rt', fin_exc', ob_0, og_0, od_0, outs_n, outs_c, lift_some, S_d, S_l, gAdd, gSub, gNeg, gNot, gLt, gLe, gGt, gGe, gEq_ii, gNe_ii, gLen, gAbs, gInt, tru_b, gMax2, gMin2, gGcd, gList, gTuple, gAll, gAny, bools_nil, bools_cons, gIs_bb, gIsN_bb, gPow, gMul, gFd, gMod, atI_0, atI_1, atI_2, atI_3, ixL_1, ixL_2, ixL_3, ixN_41, ixN_42, ixN_43, List.getElem?_cons_zero, List.getElem?_cons_succ, List.set_cons_zero, List.set_cons_succ, List.map_cons, List.map_nil, List.length_cons, List.length_nil, List.cons_append, List.nil_append, List.replicate_succ, List.replicate_zero, List.length_map, ↓cond_true, ↓cond_false, cond_true, cond_false, Option.map_some, beq_self_eq_true, List.contains_cons, List.contains_nil, Bool.or_false, Bool.false_or, Bool.or_true, Bool.and_true, Bool.true_and, Bool.not_true, Bool.not_false, Nat.reduceBEq, Nat.reduceAdd, Nat.reduceSub, Nat.reduceEqDiff, reduceCtorEq, Bool.false_eq_true, sq_nx, sq_rt, sq_bad, sq_bk, sq_ct, sq_exc, dz0, dz1, dz2, dz3, dz4, dz5, dz6, dz7, dz8, dz9, dz10, dz11, dz12, ic0, ic1, ic2, ic3, ic4, tAnd_ok, tOr_ok, tIf_ok, tIfS_ok, tAnd_exc, tOr_exc, tIf_exc, tIfS_exc, cAnd_t, cOr_t, cIf_t, cIfS_t, co_and, co_or, tAnd_cond, tOr_cond, tIfS_cond, sq_cond, fin_cond, rangeL_2, rangeL_3, List.all_cons, List.all_nil, List.any_cons, List.any_nil, id, rng1_t, rng2_t, Int.reduceToNat, if_true, ite_true, if_false, eq_self, decide_true, decide_false, isi_int_n, isi_int_b, isi_int_i, isi_int_s, isi_int_l, isi_int_t, isi_bool_n, isi_bool_b, isi_bool_i, isi_bool_s, isi_bool_l, isi_bool_t, isi_str_n, isi_str_b, isi_str_i, isi_str_s, isi_str_l, isi_str_t, isi_list_n, isi_list_b, isi_list_i, isi_list_s, isi_list_l, isi_list_t, isi_tuple_n, isi_tuple_b, isi_tuple_i, isi_tuple_s, isi_tuple_l, isi_tuple_t, isi_dict_n, isi_dict_b, isi_dict_i, isi_dict_s, isi_dict_l, isi_dict_t, nh_d, nh_l, nh_k, nh_o, nh_fn, nh_fc, ss3_0, sat_n, sat_0, sat_c, sup_n, sup_c, supc_0, fsg_c, fsg_n, fss_c, fss_n, pbs_0, pb_t, so_t, ssOf_t, gIx_l, gIx_t, S_k, Option.map_none, h1]
    rw [cSeq_r]
    simp -implicitDefEqProofs only [k1_0, k1_e, k1_c, c1_r, k2b_0, k2b_e, k2b_c, k2a_0, k2a_e, k2a_c, c2_r, kN_0, kN_e, kN_c, cN_r, kTup_0, kTup_e, kTup_c, cTup_r, kLst_0, kLst_e, kLst_c, cLst_r, cK_r, caNil_r, kcb_0, kcb_e, kcb_c, kca_0, kca_e, kca_c, caCons_r, cxNil_r, kxb_0, kxb_e, kxb_c, kxa_0, kxa_e, kxa_c, cxD_r, cxS_r, kxs_0, cCall_r, kc1_0, kc1_e, kc2_0, kc3_0, kc3_e, kc3_c, ssOf_n, ss1_0, ss2_0, ssOf_d, ssOf_s, pb_n, pb_d, pb_s, so_n, so_d, so_s, di_n, di_1, di_c, cNext_r, cRetN_r, cBrk_r, cCnt_r, kRet_0, kRet_e, kRet_c, cRet_r, kDrop_0, kDrop_e, kDrop_c, cDrop_r, kSet_0, kSet_e, kSet_c, cSet_r, kAs_0, kAsg_0, kAsg_e, kAsg_c, cAsg_r, cgName_r, cgNil_r, kgc_0, cgCons_r, cgTup_r, cgLst_r, kPar_0, kPar_e, kPar_c, cPar_r, kPar3_0, kPar3_e, kPar3_c, cPar3_r, kap3_0, kap2_0, kap2_e, kap2_c, kap1_0, cApp_r, ksi3_0, ksi4_0, ksi2_0, ksi2_e, ksi2_c, ksi1_0, ksi0_0, ksi0_e, ksi0_c, cSetIx_r, kix_l, kix_t, kix_s, kSq_0, kSq_e, kSq_c, ciSeq_r, kr1_e, kr1_c, ciRange1_r, kr2_e, kr2_c, ciRange2_r, kFor_0, kFor_e, kFor_c, cFor_r, forL_c, forL_n, kf1_0, kf2_nx, kf2_ct, kf2_bk, kf2_rt, kf2_exc, kf2_cond, kb_0, kbb_0, kb1_0, kb1_c, kb1_e, cB1_r, kb3_0, kb3_e, kb3_c, kb2_0, kb2_c, kb2_e, cB2_r, kres_0, res_d, res_s, kbn_0, cbN_r, kbD_0, kbD_e, kbD_c, cbD_r, kv_0, cV_r, kvm_0, cVm_r, cV_0, st_0, gt_0, cV_1, st_1, gt_1, cV_2, st_2, gt_2, cV_3, st_3, gt_3, cV_4, st_4, gt_4, cV_5, st_5, gt_5, cV_6, st_6, gt_6, cV_7, st_7, gt_7, cV_8, st_8, gt_8, cV_9, st_9, gt_9, cV_10, st_10, gt_10, cV_11, st_11, gt_11, cV_12, st_12, gt_12, cV_13, st_13, gt_13, cV_14, st_14, gt_14, cV_15, st_15, gt_15, cV_16, st_16, gt_16, cV_17, st_17, gt_17, cV_18, st_18, gt_18, cV_19, st_19, gt_19, cV_20, st_20, gt_20, cV_21, st_21, gt_21, cV_22, st_22, gt_22, cV_23, st_23, gt_23, tCh2_0, tCh2_e, tCh1_0, tCh0b_0, tCh0b_e, tCh0a_0, tCh0a_e, cChain_r, lcL_nil, lcL_c, ml1_0, ml2_t, ml2_f, ml2_b, ml3_0, ml5_0, ml4_0, ml4_e, ml4_c, nO_d, nO_n, nO_l, noOwn_n, noOwn_c, wipe_n, wipe_c, rsE_0, rest_n, rest_c, mkF_r, fo_0, fx_0, fin_nx', fin_rt', fin_exc', ob_0, og_0, od_0, outs_n, outs_c, lift_some, S_d, S_l, gAdd, gSub, gNeg, gNot, gLt, gLe, gGt, gGe, gEq_ii, gNe_ii, gLen, gAbs, gInt, tru_b, gMax2, gMin2, gGcd, gList, gTuple, gAll, gAny, bools_nil, bools_cons, gIs_bb, gIsN_bb, gPow, gMul, gFd, gMod, atI_0, atI_1, atI_2, atI_3, ixL_1, ixL_2, ixL_3, ixN_41, ixN_42, ixN_43, List.getElem?_cons_zero, List.getElem?_cons_succ, List.set_cons_zero, List.set_cons_succ, List.map_cons, List.map_nil, List.length_cons, List.length_nil, List.cons_append, List.nil_append, List.replicate_succ, List.replicate_zero, List.length_map, ↓cond_true, ↓cond_false, cond_true, cond_false, Option.map_some, beq_self_eq_true, List.contains_cons, List.contains_nil, Bool.or_false, Bool.false_or, Bool.or_true, Bool.and_true, Bool.true_and, Bool.not_true, Bool.not_false, Nat.reduceBEq, Nat.reduceAdd, Nat.reduceSub, Nat.reduceEqDiff, reduceCtorEq, Bool.false_eq_true, sq_nx, sq_rt, sq_bad, sq_bk, sq_ct, sq_exc, dz0, dz1, dz2, dz3, dz4, dz5, dz6, dz7, dz8, dz9, dz10, dz11, dz12, ic0, ic1, ic2, ic3, ic4, tAnd_ok, tOr_ok, tIf_ok, tIfS_ok, tAnd_exc, tOr_exc, tIf_exc, tIfS_exc, cAnd_t, cOr_t, cIf_t, cIfS_t, co_and, co_or, tAnd_cond, tOr_cond, tIfS_cond, sq_cond, fin_cond, rangeL_2, rangeL_3, List.all_cons, List.all_nil, List.any_cons, List.any_nil, id, rng1_t, rng2_t, Int.reduceToNat, if_true, ite_true, if_false, eq_self, decide_true, decide_false, isi_int_n, isi_int_b, isi_int_i, isi_int_s, isi_int_l, isi_int_t, isi_bool_n, isi_bool_b, isi_bool_i, isi_bool_s, isi_bool_l, isi_bool_t, isi_str_n, isi_str_b, isi_str_i, isi_str_s, isi_str_l, isi_str_t, isi_list_n, isi_list_b, isi_list_i, isi_list_s, isi_list_l, isi_list_t, isi_tuple_n, isi_tuple_b, isi_tuple_i, isi_tuple_s, isi_tuple_l, isi_tuple_t, isi_dict_n, isi_dict_b, isi_dict_i, isi_dict_s, isi_dict_l, isi_dict_t, nh_d, nh_l, nh_k, nh_o, nh_fn, nh_fc, ss3_0, sat_n, sat_0, sat_c, sup_n, sup_c, supc_0, fsg_c, fsg_n, fss_c, fss_n, pbs_0, pb_t, so_t, ssOf_t, gIx_l, gIx_t, S_k, Option.map_none, h2]
    simp -implicitDefEqProofs only [k1_0, k1_e, k1_c, c1_r, k2b_0, k2b_e, k2b_c, k2a_0, k2a_e, k2a_c, c2_r, kN_0, kN_e, kN_c, cN_r, kTup_0, kTup_e, kTup_c, cTup_r, kLst_0, kLst_e, kLst_c, cLst_r, cK_r, caNil_r, kcb_0, kcb_e, kcb_c, kca_0, kca_e, kca_c, caCons_r, cxNil_r, kxb_0, kxb_e, kxb_c, kxa_0, kxa_e, kxa_c, cxD_r, cxS_r, kxs_0, cCall_r, kc1_0, kc1_e, kc2_0, kc3_0, kc3_e, kc3_c, ssOf_n, ss1_0, ss2_0, ssOf_d, ssOf_s, pb_n, pb_d, pb_s, so_n, so_d, so_s, di_n, di_1, di_c, cNext_r, cRetN_r, cBrk_r, cCnt_r, kRet_0, kRet_e, kRet_c, cRet_r, kDrop_0, kDrop_e, kDrop_c, cDrop_r, kSet_0, kSet_e, kSet_c, cSet_r, kAs_0, kAsg_0, kAsg_e, kAsg_c, cAsg_r, cgName_r, cgNil_r, kgc_0, cgCons_r, cgTup_r, cgLst_r, kPar_0, kPar_e, kPar_c, cPar_r, kPar3_0, kPar3_e, kPar3_c, cPar3_r, kap3_0, kap2_0, kap2_e, kap2_c, kap1_0, cApp_r, ksi3_0, ksi4_0, ksi2_0, ksi2_e, ksi2_c, ksi1_0, ksi0_0, ksi0_e, ksi0_c, cSetIx_r, kix_l, kix_t, kix_s, kSq_0, kSq_e, kSq_c, ciSeq_r, kr1_e, kr1_c, ciRange1_r, kr2_e, kr2_c, ciRange2_r, kFor_0, kFor_e, kFor_c, cFor_r, forL_c, forL_n, kf1_0, kf2_nx, kf2_ct, kf2_bk, kf2_rt, kf2_exc, kf2_cond, kb_0, kbb_0, kb1_0, kb1_c, kb1_e, cB1_r, kb3_0, kb3_e, kb3_c, kb2_0, kb2_c, kb2_e, cB2_r, kres_0, res_d, res_s, kbn_0, cbN_r, kbD_0, kbD_e, kbD_c, cbD_r, kv_0, cV_r, kvm_0, cVm_r, cV_0, st_0, gt_0, cV_1, st_1, gt_1, cV_2, st_2, gt_2, cV_3, st_3, gt_3, cV_4, st_4, gt_4, cV_5, st_5, gt_5, cV_6, st_6, gt_6, cV_7, st_7, gt_7, cV_8, st_8, gt_8, cV_9, st_9, gt_9, cV_10, st_10, gt_10, cV_11, st_11, gt_11, cV_12, st_12, gt_12, cV_13, st_13, gt_13, cV_14, st_14, gt_14, cV_15, st_15, gt_15, cV_16, st_16, gt_16, cV_17, st_17, gt_17, cV_18, st_18, gt_18, cV_19, st_19, gt_19, cV_20, st_20, gt_20, cV_21, st_21, gt_21, cV_22, st_22, gt_22, cV_23, st_23, gt_23, tCh2_0, tCh2_e, tCh1_0, tCh0b_0, tCh0b_e, tCh0a_0, tCh0a_e, cChain_r, lcL_nil, lcL_c, ml1_0, ml2_t, ml2_f, ml2_b, ml3_0, ml5_0, ml4_0, ml4_e, ml4_c, nO_d, nO_n, nO_l, noOwn_n, noOwn_c, wipe_n, wipe_c, rsE_0, rest_n, rest_c, mkF_r, fo_0, fx_0, fin_nx', fin_rt', fin_exc', ob_0, og_0, od_0, outs_n, outs_c, lift_some, S_d, S_l, gAdd, gSub, gNeg, gNot, gLt, gLe, gGt, gGe, gEq_ii, gNe_ii, gLen, gAbs, gInt, tru_b, gMax2, gMin2, gGcd, gList, gTuple, gAll, gAny, bools_nil, bools_cons, gIs_bb, gIsN_bb, gPow, gMul, gFd, gMod, atI_0, atI_1, atI_2, atI_3, ixL_1, ixL_2, ixL_3, ixN_41, ixN_42, ixN_43, List.getElem?_cons_zero, List.getElem?_cons_succ, List.set_cons_zero, List.set_cons_succ, List.map_cons, List.map_nil, List.length_cons, List.length_nil, List.cons_append, List.nil_append, List.replicate_succ, List.replicate_zero, List.length_map, ↓cond_true, ↓cond_false, cond_true, cond_false, Option.map_some, beq_self_eq_true, List.contains_cons, List.contains_nil, Bool.or_false, Bool.false_or, Bool.or_true, Bool.and_true, Bool.true_and, Bool.not_true, Bool.not_false, Nat.reduceBEq, Nat.reduceAdd, Nat.reduceSub, Nat.reduceEqDiff, reduceCtorEq, Bool.false_eq_true, sq_nx, sq_rt, sq_bad, sq_bk, sq_ct, sq_exc, dz0, dz1, dz2, dz3, dz4, dz5, dz6, dz7, dz8, dz9, dz10, dz11, dz12, ic0, ic1, ic2, ic3, ic4, tAnd_ok, tOr_ok, tIf_ok, tIfS_ok, tAnd_exc, tOr_exc, tIf_exc, tIfS_exc, cAnd_t, cOr_t, cIf_t, cIfS_t, co_and, co_or, tAnd_cond, tOr_cond, tIfS_cond, sq_cond, fin_cond, rangeL_2, rangeL_3, List.all_cons, List.all_nil, List.any_cons, List.any_nil, id, rng1_t, rng2_t, Int.reduceToNat, if_true, ite_true, if_false, eq_self, decide_true, decide_false, isi_int_n, isi_int_b, isi_int_i, isi_int_s, isi_int_l, isi_int_t, isi_bool_n, isi_bool_b, isi_bool_i, isi_bool_s, isi_bool_l, isi_bool_t, isi_str_n, isi_str_b, isi_str_i, isi_str_s, isi_str_l, isi_str_t, isi_list_n, isi_list_b, isi_list_i, isi_list_s, isi_list_l, isi_list_t, isi_tuple_n, isi_tuple_b, isi_tuple_i, isi_tuple_s, isi_tuple_l, isi_tuple_t, isi_dict_n, isi_dict_b, isi_dict_i, isi_dict_s, isi_dict_l, isi_dict_t, nh_d, nh_l, nh_k, nh_o, nh_fn, nh_fc, ss3_0, sat_n, sat_0, sat_c, sup_n, sup_c, supc_0, fsg_c, fsg_n, fss_c, fss_n, pbs_0, pb_t, so_t, ssOf_t, gIx_l, gIx_t, S_k, Option.map_none, lc]
/-- the test of the bounds -/
def inB (P : List Cn) (q : Hm) : Bool := (bnds P).all fun b => decide (0 ≤ hov b q)
def insB (P : List Cn) (q : Hm) : Bool := decide (3 ≤ P.length) && (bnds P).all fun b => decide (0 < hov b q)
theorem mk24 {c : CS} {s t : S} : mkF 2 4 [] c [s, t] = finish [] [s, t] (c [some s, some t, none, none]) := rfl
def hmOf : PyData → Hm
  | .tuple [.int x, .int y, .int z] => (x, y, z)
  | _ => (0, 0, 0)
theorem hmOf_hD (b : Hm) : hmOf (hD b) = b := rfl
theorem bnds_len {P : List Cn} : (bnds P).length ≤ P.length + 4 := by
  match P with
  | [] => decide
  | [a] => exact Nat.le_succ 4
  | [p, q] => exact Nat.le_add_left 4 2
  | a :: b :: c :: r => rw [bnds_3 (by simp), List.length_map, List.length_range]; omega
theorem is_in_spec {P : List Cn} {p : Pq} (hs : ∀ c ∈ P, Sm c) (hn : P ≠ []) (hl : P.length ≤ 1000) (hp : PqOk p) : F_is_in [.dat (pqD p), .dat (.tuple (P.map pD))] = .ok (.dat (.bool (inB P (scl p)))) [.dat (pqD p), .dat (.tuple (P.map pD))] := by
  have e1 := scaled_spec hp
  have e2 := bounds_spec hs hn hl
  have lc := cLc_map (ρ := [some (.dat (pqD p)), some (.dat (.tuple (P.map pD))), some (.dat (hD (scl p))), none]) (ρ1 := [some (.dat (pqD p)), some (.dat (.tuple (P.map pD))), some (.dat (hD (scl p))), none]) (vs := [3]) (src := ciSeq (cCall F_bounds_of (cxD (cV 1) (cxNil)))) (g := cgName 3) (ct := cK (.bool true)) (ce := c2 gGe (cCall F_height_over (cxD (cV 3) (cxD (cV 2) (cxNil)))) (cK (.int 0))) (ds := (bnds P).map hD)
    (fun d => .bool (decide (0 ≤ hov (hmOf d) (scl p)))) (by simp -implicitDefEqProofs only [k1_0, k1_e, k1_c, c1_r, k2b_0, k2b_e, k2b_c, k2a_0, k2a_e, k2a_c, c2_r, kN_0, kN_e, kN_c, cN_r, kTup_0, kTup_e, kTup_c, cTup_r, kLst_0, kLst_e, kLst_c, cLst_r, cK_r, caNil_r, kcb_0, kcb_e, kcb_c, kca_0, kca_e, kca_c, caCons_r, cxNil_r, kxb_0, kxb_e, kxb_c, kxa_0, kxa_e, kxa_c, cxD_r, cxS_r, kxs_0, cCall_r, kc1_0, kc1_e, kc2_0, kc3_0, kc3_e, kc3_c, ssOf_n, ss1_0, ss2_0, ssOf_d, ssOf_s, pb_n, pb_d, pb_s, so_n, so_d, so_s, di_n, di_1, di_c, cSeq_r, cNext_r, cRetN_r, cBrk_r, cCnt_r, kRet_0, kRet_e, kRet_c, cRet_r, kDrop_0, kDrop_e, kDrop_c, cDrop_r, kSet_0, kSet_e, kSet_c, cSet_r, kAs_0, kAsg_0, kAsg_e, kAsg_c, cAsg_r, cgName_r, cgNil_r, kgc_0, cgCons_r, cgTup_r, cgLst_r, kPar_0, kPar_e, kPar_c, cPar_r, kPar3_0, kPar3_e, kPar3_c, cPar3_r, kap3_0, kap2_0, kap2_e, kap2_c, kap1_0, cApp_r, ksi3_0, ksi4_0, ksi2_0, ksi2_e, ksi2_c, ksi1_0, ksi0_0, ksi0_e, ksi0_c, cSetIx_r, kix_l, kix_t, kix_s, kSq_0, kSq_e, kSq_c, ciSeq_r, kr1_0, kr1_e, kr1_c, ciRange1_r, kr2_0, kr2_e, kr2_c, ciRange2_r, kFor_0, kFor_e, kFor_c, cFor_r, forL_c, forL_n, kf1_0, kf2_nx, kf2_ct, kf2_bk, kf2_rt, kf2_exc, kf2_cond, kb_0, kbb_0, kb1_0, kb1_c, kb1_e, cB1_r, kb3_0, kb3_e, kb3_c, kb2_0, kb2_c, kb2_e, cB2_r, kres_0, res_d, res_s, kbn_0, cbN_r, kbD_0, kbD_e, kbD_c, cbD_r, kv_0, cV_r, kvm_0, cVm_r, cV_0, st_0, gt_0, cV_1, st_1, gt_1, cV_2, st_2, gt_2, cV_3, st_3, gt_3, cV_4, st_4, gt_4, cV_5, st_5, gt_5, cV_6, st_6, gt_6, cV_7, st_7, gt_7, cV_8, st_8, gt_8, cV_9, st_9, gt_9, cV_10, st_10, gt_10, cV_11, st_11, gt_11, cV_12, st_12, gt_12, cV_13, st_13, gt_13, cV_14, st_14, gt_14, cV_15, st_15, gt_15, cV_16, st_16, gt_16, cV_17, st_17, gt_17, cV_18, st_18, gt_18, cV_19, st_19, gt_19, cV_20, st_20, gt_20, cV_21, st_21, gt_21, cV_22, st_22, gt_22, cV_23, st_23, gt_23, tCh2_0, tCh2_e, tCh1_0, tCh0b_0, tCh0b_e, tCh0a_0, tCh0a_e, cChain_r, lcL_nil, lcL_c, ml1_0, ml2_t, ml2_f, ml2_b, ml3_0, ml5_0, ml4_0, ml4_e, ml4_c, cLc_r, nO_d, nO_n, nO_l, noOwn_n, noOwn_c, wipe_n, wipe_c, rsE_0, rest_n, rest_c, mkF_r, fo_0, fx_0, fin_nx', fin_rt', fin_exc', ob_0, og_0, od_0, outs_n, outs_c, lift_some, S_d, S_l, gAdd, gSub, gNeg, gNot, gLt, gLe, gGt, gGe, gEq_ii, gNe_ii, gLen, gAbs, gInt, tru_b, gMax2, gMin2, gGcd, gList, gTuple, gAll, gAny, bools_nil, bools_cons, gIs_bb, gIsN_bb, gPow, gMul, gFd, gMod, atI_0, atI_1, atI_2, atI_3, ixL_1, ixL_2, ixL_3, ixN_41, ixN_42, ixN_43, List.getElem?_cons_zero, List.getElem?_cons_succ, List.set_cons_zero, List.set_cons_succ, List.map_cons, List.map_nil, List.length_cons, List.length_nil, List.cons_append, List.nil_append, List.replicate_succ, List.replicate_zero, List.length_map, ↓cond_true, ↓cond_false, cond_true, cond_false, Option.map_some, beq_self_eq_true, List.contains_cons, List.contains_nil, Bool.or_false, Bool.false_or, Bool.or_true, Bool.and_true, Bool.true_and, Bool.not_true, Bool.not_false, Nat.reduceBEq, Nat.reduceAdd, Nat.reduceSub, Nat.reduceEqDiff, reduceCtorEq, Bool.false_eq_true, sq_nx, sq_rt, sq_bad, sq_bk, sq_ct, sq_exc, dz0, dz1, dz2, dz3, dz4, dz5, dz6, dz7, dz8, dz9, dz10, dz11, dz12, ic0, ic1, ic2, ic3, ic4, tAnd_ok, tOr_ok, tIf_ok, tIfS_ok, tAnd_exc, tOr_exc, tIf_exc, tIfS_exc, cAnd_t, cOr_t, cIf_t, cIfS_t, co_and, co_or, tAnd_cond, tOr_cond, tIfS_cond, sq_cond, fin_cond, rangeL_2, rangeL_3, List.all_cons, List.all_nil, List.any_cons, List.any_nil, id, rng1_t, rng2_t, Int.reduceToNat, if_true, ite_true, if_false, eq_self, decide_true, decide_false, isi_int_n, isi_int_b, isi_int_i, isi_int_s, isi_int_l, isi_int_t, isi_bool_n, isi_bool_b, isi_bool_i, isi_bool_s, isi_bool_l, isi_bool_t, isi_str_n, isi_str_b, isi_str_i, isi_str_s, isi_str_l, isi_str_t, isi_list_n, isi_list_b, isi_list_i, isi_list_s, isi_list_l, isi_list_t, isi_tuple_n, isi_tuple_b, isi_tuple_i, isi_tuple_s, isi_tuple_l, isi_tuple_t, isi_dict_n, isi_dict_b, isi_dict_i, isi_dict_s, isi_dict_l, isi_dict_t, nh_d, nh_l, nh_k, nh_o, nh_fn, nh_fc, ss3_0, sat_n, sat_0, sat_c, sup_n, sup_c, supc_0, fsg_c, fsg_n, fss_c, fss_n, pbs_0, pb_t, so_t, ssOf_t, gIx_l, gIx_t, S_k, Option.map_none, e2]) rfl (by rw [List.length_map]; have := ch_cls; have := bnds_len (P := P); omega) fun d hd => by
      obtain ⟨b, hb, rfl⟩ := List.mem_map.mp hd
      have e := height_spec (bnds_hs hs b hb) (scl_hs hp)
      refine ⟨[some (.dat (pqD p)), some (.dat (.tuple (P.map pD))), some (.dat (hD (scl p))), some (.dat (hD b))], [some (.dat (pqD p)), some (.dat (.tuple (P.map pD))), some (.dat (hD (scl p))), some (.dat (hD b))], [some (.dat (pqD p)), some (.dat (.tuple (P.map pD))), some (.dat (hD (scl p))), some (.dat (hD b))], .dat (.bool (decide (0 ≤ hov b (scl p)))), rfl, rfl, ?_, rfl, rfl⟩
      simp -implicitDefEqProofs only [k1_0, k1_e, k1_c, c1_r, k2b_0, k2b_e, k2b_c, k2a_0, k2a_e, k2a_c, c2_r, kN_0, kN_e, kN_c, cN_r, kTup_0, kTup_e, kTup_c, cTup_r, kLst_0, kLst_e, kLst_c, cLst_r, cK_r, caNil_r, kcb_0, kcb_e, kcb_c, kca_0, kca_e, kca_c, caCons_r, cxNil_r, kxb_0, kxb_e, kxb_c, kxa_0, kxa_e, kxa_c, cxD_r, cxS_r, kxs_0, cCall_r, kc1_0, kc1_e, kc2_0, kc3_0, kc3_e, kc3_c, ssOf_n, ss1_0, ss2_0, ssOf_d, ssOf_s, pb_n, pb_d, pb_s, so_n, so_d, so_s, di_n, di_1, di_c, cSeq_r, cNext_r, cRetN_r, cBrk_r, cCnt_r, kRet_0, kRet_e, kRet_c, cRet_r, kDrop_0, kDrop_e, kDrop_c, cDrop_r, kSet_0, kSet_e, kSet_c, cSet_r, kAs_0, kAsg_0, kAsg_e, kAsg_c, cAsg_r, cgName_r, cgNil_r, kgc_0, cgCons_r, cgTup_r, cgLst_r, kPar_0, kPar_e, kPar_c, cPar_r, kPar3_0, kPar3_e, kPar3_c, cPar3_r, kap3_0, kap2_0, kap2_e, kap2_c, kap1_0, cApp_r, ksi3_0, ksi4_0, ksi2_0, ksi2_e, ksi2_c, ksi1_0, ksi0_0, ksi0_e, ksi0_c, cSetIx_r, kix_l, kix_t, kix_s, kSq_0, kSq_e, kSq_c, ciSeq_r, kr1_0, kr1_e, kr1_c, ciRange1_r, kr2_0, kr2_e, kr2_c, ciRange2_r, kFor_0, kFor_e, kFor_c, cFor_r, forL_c, forL_n, kf1_0, kf2_nx, kf2_ct, kf2_bk, kf2_rt, kf2_exc, kf2_cond, kb_0, kbb_0, kb1_0, kb1_c, kb1_e, cB1_r, kb3_0, kb3_e, kb3_c, kb2_0, kb2_c, kb2_e, cB2_r, kres_0, res_d, res_s, kbn_0, cbN_r, kbD_0, kbD_e, kbD_c, cbD_r, kv_0, cV_r, kvm_0, cVm_r, cV_0, st_0, gt_0, cV_1, st_1, gt_1, cV_2, st_2, gt_2, cV_3, st_3, gt_3, cV_4, st_4, gt_4, cV_5, st_5, gt_5, cV_6, st_6, gt_6, cV_7, st_7, gt_7, cV_8, st_8, gt_8, cV_9, st_9, gt_9, cV_10, st_10, gt_10, cV_11, st_11, gt_11, cV_12, st_12, gt_12, cV_13, st_13, gt_13, cV_14, st_14, gt_14, cV_15, st_15, gt_15, cV_16, st_16, gt_16, cV_17, st_17, gt_17, cV_18, st_18, gt_18, cV_19, st_19, gt_19, cV_20, st_20, gt_20, cV_21, st_21, gt_21, cV_22, st_22, gt_22, cV_23, st_23, gt_23, tCh2_0, tCh2_e, tCh1_0, tCh0b_0, tCh0b_e, tCh0a_0, tCh0a_e, cChain_r, lcL_nil, lcL_c, ml1_0, ml2_t, ml2_f, ml2_b, ml3_0, ml5_0, ml4_0, ml4_e, ml4_c, cLc_r, nO_d, nO_n, nO_l, noOwn_n, noOwn_c, wipe_n, wipe_c, rsE_0, rest_n, rest_c, mkF_r, fo_0, fx_0, fin_nx', fin_rt', fin_exc', ob_0, og_0, od_0, outs_n, outs_c, lift_some, S_d, S_l, gAdd, gSub, gNeg, gNot, gLt, gLe, gGt, gGe, gEq_ii, gNe_ii, gLen, gAbs, gInt, tru_b, gMax2, gMin2, gGcd, gList, gTuple, gAll, gAny, bools_nil, bools_cons, gIs_bb, gIsN_bb, gPow, gMul, gFd, gMod, atI_0, atI_1, atI_2, atI_3, ixL_1, ixL_2, ixL_3, ixN_41, ixN_42, ixN_43, List.getElem?_cons_zero, List.getElem?_cons_succ, List.set_cons_zero, List.set_cons_succ, List.map_cons, List.map_nil, List.length_cons, List.length_nil, List.cons_append, List.nil_append, List.replicate_succ, List.replicate_zero, List.length_map, ↓cond_true, ↓cond_false, cond_true, cond_false, Option.map_some, beq_self_eq_true, List.contains_cons, List.contains_nil, Bool.or_false, Bool.false_or, Bool.or_true, Bool.and_true, Bool.true_and, Bool.not_true, Bool.not_false, Nat.reduceBEq, Nat.reduceAdd, Nat.reduceSub, Nat.reduceEqDiff, reduceCtorEq, Bool.false_eq_true, sq_nx, sq_rt, sq_bad, sq_bk, sq_ct, sq_exc, dz0, dz1, dz2, dz3, dz4, dz5, dz6, dz7, dz8, dz9, dz10, dz11, dz12, ic0, ic1, ic2, ic3, ic4, tAnd_ok, tOr_ok, tIf_ok, tIfS_ok, tAnd_exc, tOr_exc, tIf_exc, tIfS_exc, cAnd_t, cOr_t, cIf_t, cIfS_t, co_and, co_or, tAnd_cond, tOr_cond, tIfS_cond, sq_cond, fin_cond, rangeL_2, rangeL_3, List.all_cons, List.all_nil, List.any_cons, List.any_nil, id, rng1_t, rng2_t, Int.reduceToNat, if_true, ite_true, if_false, eq_self, decide_true, decide_false, isi_int_n, isi_int_b, isi_int_i, isi_int_s, isi_int_l, isi_int_t, isi_bool_n, isi_bool_b, isi_bool_i, isi_bool_s, isi_bool_l, isi_bool_t, isi_str_n, isi_str_b, isi_str_i, isi_str_s, isi_str_l, isi_str_t, isi_list_n, isi_list_b, isi_list_i, isi_list_s, isi_list_l, isi_list_t, isi_tuple_n, isi_tuple_b, isi_tuple_i, isi_tuple_s, isi_tuple_l, isi_tuple_t, isi_dict_n, isi_dict_b, isi_dict_i, isi_dict_s, isi_dict_l, isi_dict_t, nh_d, nh_l, nh_k, nh_o, nh_fn, nh_fc, ss3_0, sat_n, sat_0, sat_c, sup_n, sup_c, supc_0, fsg_c, fsg_n, fss_c, fss_n, pbs_0, pb_t, so_t, ssOf_t, gIx_l, gIx_t, S_k, Option.map_none, e]
  have ml : (((bnds P).map hD).map fun d => PyData.bool (decide (0 ≤ hov (hmOf d) (scl p)))) = (bnds P).map fun b => .bool (decide (0 ≤ hov b (scl p))) := by rw [List.map_map]; rfl
  rw [ml] at lc
  unfold F_is_in M_is_in inB
  rw [mk24, cSeq_r]
  simp -implicitDefEqProofs only [k1_0, k1_e, k1_c, c1_r, k2b_0, k2b_e, k2b_c, k2a_0, k2a_e, k2a_c, c2_r, kN_0, kN_e, kN_c, cN_r, kTup_0, kTup_e, kTup_c, cTup_r, kLst_0, kLst_e, kLst_c, cLst_r, cK_r, caNil_r, kcb_0, kcb_e, kcb_c, kca_0, kca_e, kca_c, caCons_r, cxNil_r, kxb_0, kxb_e, kxb_c, kxa_0, kxa_e, kxa_c, cxD_r, cxS_r, kxs_0, cCall_r, kc1_0, kc1_e, kc2_0, kc3_0, kc3_e, kc3_c, ssOf_n, ss1_0, ss2_0, ssOf_d, ssOf_s, pb_n, pb_d, pb_s, so_n, so_d, so_s, di_n, di_1, di_c, cNext_r, cRetN_r, cBrk_r, cCnt_r, kRet_0, kRet_e, kRet_c, cRet_r, kDrop_0, kDrop_e, kDrop_c, cDrop_r, kSet_0, kSet_e, kSet_c, cSet_r, kAs_0, kAsg_0, kAsg_e, kAsg_c, cAsg_r, cgName_r, cgNil_r, kgc_0, cgCons_r, cgTup_r, cgLst_r, kPar_0, kPar_e, kPar_c, cPar_r, kPar3_0, kPar3_e, kPar3_c, cPar3_r, kap3_0, kap2_0, kap2_e, kap2_c, kap1_0, cApp_r, ksi3_0, ksi4_0, ksi2_0, ksi2_e, ksi2_c, ksi1_0, ksi0_0, ksi0_e, ksi0_c, cSetIx_r, kix_l, kix_t, kix_s, kSq_0, kSq_e, kSq_c, ciSeq_r, kr1_e, kr1_c, ciRange1_r, kr2_e, kr2_c, ciRange2_r, kFor_0, kFor_e, kFor_c, cFor_r, forL_c, forL_n, kf1_0, kf2_nx, kf2_ct, kf2_bk, kf2_rt, kf2_exc, kf2_cond, kb_0, kbb_0, kb1_0, kb1_c, kb1_e, cB1_r, kb3_0, kb3_e, kb3_c, kb2_0, kb2_c, kb2_e, cB2_r, kres_0, res_d, res_s, kbn_0, cbN_r, kbD_0, kbD_e, kbD_c, cbD_r, kv_0, cV_r, kvm_0, cVm_r, cV_0, st_0, gt_0, cV_1, st_1, gt_1, cV_2, st_2, gt_2, cV_3, st_3, gt_3, cV_4, st_4, gt_4, cV_5, st_5, gt_5, cV_6, st_6, gt_6, cV_7, st_7, gt_7, cV_8, st_8, gt_8, cV_9, st_9, gt_9, cV_10, st_10, gt_10, cV_11, st_11, gt_11, cV_12, st_12, gt_12, cV_13, st_13, gt_13, cV_14, st_14, gt_14, cV_15, st_15, gt_15, cV_16, st_16, gt_16, cV_17, st_17, gt_17, cV_18, st_18, gt_18, cV_19, st_19, gt_19, cV_20, st_20, gt_20, cV_21, st_21, gt_21, cV_22, st_22, gt_22, cV_23, st_23, gt_23, tCh2_0, tCh2_e, tCh1_0, tCh0b_0, tCh0b_e, tCh0a_0, tCh0a_e, cChain_r, lcL_nil, lcL_c, ml1_0, ml2_t, ml2_f, ml2_b, ml3_0, ml5_0, ml4_0, ml4_e, ml4_c, nO_d, nO_n, nO_l, noOwn_n, noOwn_c, wipe_n, wipe_c, rsE_0, rest_n, rest_c, mkF_r, fo_0, fx_0, fin_nx', fin_rt', fin_exc', ob_0, og_0, od_0, outs_n, outs_c, lift_some, S_d, S_l, gAdd, gSub, gNeg, gNot, gLt, gLe, gGt, gGe, gEq_ii, gNe_ii, gLen, gAbs, gInt, tru_b, gMax2, gMin2, gGcd, gList, gTuple, gAll, gAny, bools_nil, bools_cons, gIs_bb, gIsN_bb, gPow, gMul, gFd, gMod, atI_0, atI_1, atI_2, atI_3, ixL_1, ixL_2, ixL_3, ixN_41, ixN_42, ixN_43, List.getElem?_cons_zero, List.getElem?_cons_succ, List.set_cons_zero, List.set_cons_succ, List.map_cons, List.map_nil, List.length_cons, List.length_nil, List.cons_append, List.nil_append, List.replicate_succ, List.replicate_zero, List.length_map, ↓cond_true, ↓cond_false, cond_true, cond_false, Option.map_some, beq_self_eq_true, List.contains_cons, List.contains_nil, Bool.or_false, Bool.false_or, Bool.or_true, Bool.and_true, Bool.true_and, Bool.not_true, Bool.not_false, Nat.reduceBEq, Nat.reduceAdd, Nat.reduceSub, Nat.reduceEqDiff, reduceCtorEq, Bool.false_eq_true, sq_nx, sq_rt, sq_bad, sq_bk, sq_ct, sq_exc, dz0, dz1, dz2, dz3, dz4, dz5, dz6, dz7, dz8, dz9, dz10, dz11, dz12, ic0, ic1, ic2, ic3, ic4, tAnd_ok, tOr_ok, tIf_ok, tIfS_ok, tAnd_exc, tOr_exc, tIf_exc, tIfS_exc, cAnd_t, cOr_t, cIf_t, cIfS_t, co_and, co_or, tAnd_cond, tOr_cond, tIfS_cond, sq_cond, fin_cond, rangeL_2, rangeL_3, List.all_cons, List.all_nil, List.any_cons, List.any_nil, id, rng1_t, rng2_t, Int.reduceToNat, if_true, ite_true, if_false, eq_self, decide_true, decide_false, isi_int_n, isi_int_b, isi_int_i, isi_int_s, isi_int_l, isi_int_t, isi_bool_n, isi_bool_b, isi_bool_i, isi_bool_s, isi_bool_l, isi_bool_t, isi_str_n, isi_str_b, isi_str_i, isi_str_s, isi_str_l, isi_str_t, isi_list_n, isi_list_b, isi_list_i, isi_list_s, isi_list_l, isi_list_t, isi_tuple_n, isi_tuple_b, isi_tuple_i, isi_tuple_s, isi_tuple_l, isi_tuple_t, isi_dict_n, isi_dict_b, isi_dict_i, isi_dict_s, isi_dict_l, isi_dict_t, nh_d, nh_l, nh_k, nh_o, nh_fn, nh_fc, ss3_0, sat_n, sat_0, sat_c, sup_n, sup_c, supc_0, fsg_c, fsg_n, fss_c, fss_n, pbs_0, pb_t, so_t, ssOf_t, gIx_l, gIx_t, S_k, Option.map_none, e1]
  simp -implicitDefEqProofs only [k1_0, k1_e, k1_c, c1_r, k2b_0, k2b_e, k2b_c, k2a_0, k2a_e, k2a_c, c2_r, kN_0, kN_e, kN_c, cN_r, kTup_0, kTup_e, kTup_c, cTup_r, kLst_0, kLst_e, kLst_c, cLst_r, cK_r, caNil_r, kcb_0, kcb_e, kcb_c, kca_0, kca_e, kca_c, caCons_r, cxNil_r, kxb_0, kxb_e, kxb_c, kxa_0, kxa_e, kxa_c, cxD_r, cxS_r, kxs_0, cCall_r, kc1_0, kc1_e, kc2_0, kc3_0, kc3_e, kc3_c, ssOf_n, ss1_0, ss2_0, ssOf_d, ssOf_s, pb_n, pb_d, pb_s, so_n, so_d, so_s, di_n, di_1, di_c, cNext_r, cRetN_r, cBrk_r, cCnt_r, kRet_0, kRet_e, kRet_c, cRet_r, kDrop_0, kDrop_e, kDrop_c, cDrop_r, kSet_0, kSet_e, kSet_c, cSet_r, kAs_0, kAsg_0, kAsg_e, kAsg_c, cAsg_r, cgName_r, cgNil_r, kgc_0, cgCons_r, cgTup_r, cgLst_r, kPar_0, kPar_e, kPar_c, cPar_r, kPar3_0, kPar3_e, kPar3_c, cPar3_r, kap3_0, kap2_0, kap2_e, kap2_c, kap1_0, cApp_r, ksi3_0, ksi4_0, ksi2_0, ksi2_e, ksi2_c, ksi1_0, ksi0_0, ksi0_e, ksi0_c, cSetIx_r, kix_l, kix_t, kix_s, kSq_0, kSq_e, kSq_c, ciSeq_r, kr1_e, kr1_c, ciRange1_r, kr2_e, kr2_c, ciRange2_r, kFor_0, kFor_e, kFor_c, cFor_r, forL_c, forL_n, kf1_0, kf2_nx, kf2_ct, kf2_bk, kf2_rt, kf2_exc, kf2_cond, kb_0, kbb_0, kb1_0, kb1_c, kb1_e, cB1_r, kb3_0, kb3_e, kb3_c, kb2_0, kb2_c, kb2_e, cB2_r, kres_0, res_d, res_s, kbn_0, cbN_r, kbD_0, kbD_e, kbD_c, cbD_r, kv_0, cV_r, kvm_0, cVm_r, cV_0, st_0, gt_0, cV_1, st_1, gt_1, cV_2, st_2, gt_2, cV_3, st_3, gt_3, cV_4, st_4, gt_4, cV_5, st_5, gt_5, cV_6, st_6, gt_6, cV_7, st_7, gt_7, cV_8, st_8, gt_8, cV_9, st_9, gt_9, cV_10, st_10, gt_10, cV_11, st_11, gt_11, cV_12, st_12, gt_12, cV_13, st_13, gt_13, cV_14, st_14, gt_14, cV_15, st_15, gt_15, cV_16, st_16, gt_16, cV_17, st_17, gt_17, cV_18, st_18, gt_18, cV_19, st_19, gt_19, cV_20, st_20, gt_20, cV_21, st_21, gt_21, cV_22, st_22, gt_22, cV_23, st_23, gt_23, tCh2_0, tCh2_e, tCh1_0, tCh0b_0, tCh0b_e, tCh0a_0, tCh0a_e, cChain_r, lcL_nil, lcL_c, ml1_0, ml2_t, ml2_f, ml2_b, ml3_0, ml5_0, ml4_0, ml4_e, ml4_c, nO_d, nO_n, nO_l, noOwn_n, noOwn_c, wipe_n, wipe_c, rsE_0, rest_n, rest_c, mkF_r, fo_0, fx_0, fin_nx', fin_rt', fin_exc', ob_0, og_0, od_0, outs_n, outs_c, lift_some, S_d, S_l, gAdd, gSub, gNeg, gNot, gLt, gLe, gGt, gGe, gEq_ii, gNe_ii, gLen, gAbs, gInt, tru_b, gMax2, gMin2, gGcd, gList, gTuple, gAll, gAny, bools_nil, bools_cons, gIs_bb, gIsN_bb, gPow, gMul, gFd, gMod, atI_0, atI_1, atI_2, atI_3, ixL_1, ixL_2, ixL_3, ixN_41, ixN_42, ixN_43, List.getElem?_cons_zero, List.getElem?_cons_succ, List.set_cons_zero, List.set_cons_succ, List.map_cons, List.map_nil, List.length_cons, List.length_nil, List.cons_append, List.nil_append, List.replicate_succ, List.replicate_zero, List.length_map, ↓cond_true, ↓cond_false, cond_true, cond_false, Option.map_some, beq_self_eq_true, List.contains_cons, List.contains_nil, Bool.or_false, Bool.false_or, Bool.or_true, Bool.and_true, Bool.true_and, Bool.not_true, Bool.not_false, Nat.reduceBEq, Nat.reduceAdd, Nat.reduceSub, Nat.reduceEqDiff, reduceCtorEq, Bool.false_eq_true, sq_nx, sq_rt, sq_bad, sq_bk, sq_ct, sq_exc, dz0, dz1, dz2, dz3, dz4, dz5, dz6, dz7, dz8, dz9, dz10, dz11, dz12, ic0, ic1, ic2, ic3, ic4, tAnd_ok, tOr_ok, tIf_ok, tIfS_ok, tAnd_exc, tOr_exc, tIf_exc, tIfS_exc, cAnd_t, cOr_t, cIf_t, cIfS_t, co_and, co_or, tAnd_cond, tOr_cond, tIfS_cond, sq_cond, fin_cond, rangeL_2, rangeL_3, List.all_cons, List.all_nil, List.any_cons, List.any_nil, id, rng1_t, rng2_t, Int.reduceToNat, if_true, ite_true, if_false, eq_self, decide_true, decide_false, isi_int_n, isi_int_b, isi_int_i, isi_int_s, isi_int_l, isi_int_t, isi_bool_n, isi_bool_b, isi_bool_i, isi_bool_s, isi_bool_l, isi_bool_t, isi_str_n, isi_str_b, isi_str_i, isi_str_s, isi_str_l, isi_str_t, isi_list_n, isi_list_b, isi_list_i, isi_list_s, isi_list_l, isi_list_t, isi_tuple_n, isi_tuple_b, isi_tuple_i, isi_tuple_s, isi_tuple_l, isi_tuple_t, isi_dict_n, isi_dict_b, isi_dict_i, isi_dict_s, isi_dict_l, isi_dict_t, nh_d, nh_l, nh_k, nh_o, nh_fn, nh_fc, ss3_0, sat_n, sat_0, sat_c, sup_n, sup_c, supc_0, fsg_c, fsg_n, fss_c, fss_n, pbs_0, pb_t, so_t, ssOf_t, gIx_l, gIx_t, S_k, Option.map_none, lc, bools_map, all_mid]
theorem is_inside_spec {P : List Cn} {p : Pq} (hs : ∀ c ∈ P, Sm c) (hn : P ≠ []) (hl : P.length ≤ 1000) (hp : PqOk p) : F_is_inside [.dat (pqD p), .dat (.tuple (P.map pD))] = .ok (.dat (.bool (insB P (scl p)))) [.dat (pqD p), .dat (.tuple (P.map pD))] := by
  have e1 := scaled_spec hp
  have e2 := bounds_spec hs hn hl
  have lc := cLc_map (ρ := [some (.dat (pqD p)), some (.dat (.tuple (P.map pD))), some (.dat (hD (scl p))), none]) (ρ1 := [some (.dat (pqD p)), some (.dat (.tuple (P.map pD))), some (.dat (hD (scl p))), none]) (vs := [3]) (src := ciSeq (cCall F_bounds_of (cxD (cV 1) (cxNil)))) (g := cgName 3) (ct := cK (.bool true)) (ce := c2 gGt (cCall F_height_over (cxD (cV 3) (cxD (cV 2) (cxNil)))) (cK (.int 0))) (ds := (bnds P).map hD)
    (fun d => .bool (decide (0 < hov (hmOf d) (scl p)))) (by simp -implicitDefEqProofs only [k1_0, k1_e, k1_c, c1_r, k2b_0, k2b_e, k2b_c, k2a_0, k2a_e, k2a_c, c2_r, kN_0, kN_e, kN_c, cN_r, kTup_0, kTup_e, kTup_c, cTup_r, kLst_0, kLst_e, kLst_c, cLst_r, cK_r, caNil_r, kcb_0, kcb_e, kcb_c, kca_0, kca_e, kca_c, caCons_r, cxNil_r, kxb_0, kxb_e, kxb_c, kxa_0, kxa_e, kxa_c, cxD_r, cxS_r, kxs_0, cCall_r, kc1_0, kc1_e, kc2_0, kc3_0, kc3_e, kc3_c, ssOf_n, ss1_0, ss2_0, ssOf_d, ssOf_s, pb_n, pb_d, pb_s, so_n, so_d, so_s, di_n, di_1, di_c, cSeq_r, cNext_r, cRetN_r, cBrk_r, cCnt_r, kRet_0, kRet_e, kRet_c, cRet_r, kDrop_0, kDrop_e, kDrop_c, cDrop_r, kSet_0, kSet_e, kSet_c, cSet_r, kAs_0, kAsg_0, kAsg_e, kAsg_c, cAsg_r, cgName_r, cgNil_r, kgc_0, cgCons_r, cgTup_r, cgLst_r, kPar_0, kPar_e, kPar_c, cPar_r, kPar3_0, kPar3_e, kPar3_c, cPar3_r, kap3_0, kap2_0, kap2_e, kap2_c, kap1_0, cApp_r, ksi3_0, ksi4_0, ksi2_0, ksi2_e, ksi2_c, ksi1_0, ksi0_0, ksi0_e, ksi0_c, cSetIx_r, kix_l, kix_t, kix_s, kSq_0, kSq_e, kSq_c, ciSeq_r, kr1_0, kr1_e, kr1_c, ciRange1_r, kr2_0, kr2_e, kr2_c, ciRange2_r, kFor_0, kFor_e, kFor_c, cFor_r, forL_c, forL_n, kf1_0, kf2_nx, kf2_ct, kf2_bk, kf2_rt, kf2_exc, kf2_cond, kb_0, kbb_0, kb1_0, kb1_c, kb1_e, cB1_r, kb3_0, kb3_e, kb3_c, kb2_0, kb2_c, kb2_e, cB2_r, kres_0, res_d, res_s, kbn_0, cbN_r, kbD_0, kbD_e, kbD_c, cbD_r, kv_0, cV_r, kvm_0, cVm_r, cV_0, st_0, gt_0, cV_1, st_1, gt_1, cV_2, st_2, gt_2, cV_3, st_3, gt_3, cV_4, st_4, gt_4, cV_5, st_5, gt_5, cV_6, st_6, gt_6, cV_7, st_7, gt_7, cV_8, st_8, gt_8, cV_9, st_9, gt_9, cV_10, st_10, gt_10, cV_11, st_11, gt_11, cV_12, st_12, gt_12, cV_13, st_13, gt_13, cV_14, st_14, gt_14, cV_15, st_15, gt_15, cV_16, st_16, gt_16, cV_17, st_17, gt_17, cV_18, st_18, gt_18, cV_19, st_19, gt_19, cV_20, st_20, gt_20, cV_21, st_21, gt_21, cV_22, st_22, gt_22, cV_23, st_23, gt_23, tCh2_0, tCh2_e, tCh1_0, tCh0b_0, tCh0b_e, tCh0a_0, tCh0a_e, cChain_r, lcL_nil, lcL_c, ml1_0, ml2_t, ml2_f, ml2_b, ml3_0, ml5_0, ml4_0, ml4_e, ml4_c, cLc_r, nO_d, nO_n, nO_l, noOwn_n, noOwn_c, wipe_n, wipe_c, rsE_0, rest_n, rest_c, mkF_r, fo_0, fx_0, fin_nx', fin_rt', fin_exc', ob_0, og_0, od_0, outs_n, outs_c, lift_some, S_d, S_l, gAdd, gSub, gNeg, gNot, gLt, gLe, gGt, gGe, gEq_ii, gNe_ii, gLen, gAbs, gInt, tru_b, gMax2, gMin2, gGcd, gList, gTuple, gAll, gAny, bools_nil, bools_cons, gIs_bb, gIsN_bb, gPow, gMul, gFd, gMod, atI_0, atI_1, atI_2, atI_3, ixL_1, ixL_2, ixL_3, ixN_41, ixN_42, ixN_43, List.getElem?_cons_zero, List.getElem?_cons_succ, List.set_cons_zero, List.set_cons_succ, List.map_cons, List.map_nil, List.length_cons, List.length_nil, List.cons_append, List.nil_append, List.replicate_succ, List.replicate_zero, List.length_map, ↓cond_true, ↓cond_false, cond_true, cond_false, Option.map_some, beq_self_eq_true, List.contains_cons, List.contains_nil, Bool.or_false, Bool.false_or, Bool.or_true, Bool.and_true, Bool.true_and, Bool.not_true, Bool.not_false, Nat.reduceBEq, Nat.reduceAdd, Nat.reduceSub, Nat.reduceEqDiff, reduceCtorEq, Bool.false_eq_true, sq_nx, sq_rt, sq_bad, sq_bk, sq_ct, sq_exc, dz0, dz1, dz2, dz3, dz4, dz5, dz6, dz7, dz8, dz9, dz10, dz11, dz12, ic0, ic1, ic2, ic3, ic4, tAnd_ok, tOr_ok, tIf_ok, tIfS_ok, tAnd_exc, tOr_exc, tIf_exc, tIfS_exc, cAnd_t, cOr_t, cIf_t, cIfS_t, co_and, co_or, tAnd_cond, tOr_cond, tIfS_cond, sq_cond, fin_cond, rangeL_2, rangeL_3, List.all_cons, List.all_nil, List.any_cons, List.any_nil, id, rng1_t, rng2_t, Int.reduceToNat, if_true, ite_true, if_false, eq_self, decide_true, decide_false, isi_int_n, isi_int_b, isi_int_i, isi_int_s, isi_int_l, isi_int_t, isi_bool_n, isi_bool_b, isi_bool_i, isi_bool_s, isi_bool_l, isi_bool_t, isi_str_n, isi_str_b, isi_str_i, isi_str_s, isi_str_l, isi_str_t, isi_list_n, isi_list_b, isi_list_i, isi_list_s, isi_list_l, isi_list_t, isi_tuple_n, isi_tuple_b, isi_tuple_i, isi_tuple_s, isi_tuple_l, isi_tuple_t, isi_dict_n, isi_dict_b, isi_dict_i, isi_dict_s, isi_dict_l, isi_dict_t, nh_d, nh_l, nh_k, nh_o, nh_fn, nh_fc, ss3_0, sat_n, sat_0, sat_c, sup_n, sup_c, supc_0, fsg_c, fsg_n, fss_c, fss_n, pbs_0, pb_t, so_t, ssOf_t, gIx_l, gIx_t, S_k, Option.map_none, e2]) rfl (by rw [List.length_map]; have := ch_cls; have := bnds_len (P := P); omega) fun d hd => by
      obtain ⟨b, hb, rfl⟩ := List.mem_map.mp hd
      have e := height_spec (bnds_hs hs b hb) (scl_hs hp)
      refine ⟨[some (.dat (pqD p)), some (.dat (.tuple (P.map pD))), some (.dat (hD (scl p))), some (.dat (hD b))], [some (.dat (pqD p)), some (.dat (.tuple (P.map pD))), some (.dat (hD (scl p))), some (.dat (hD b))], [some (.dat (pqD p)), some (.dat (.tuple (P.map pD))), some (.dat (hD (scl p))), some (.dat (hD b))], .dat (.bool (decide (0 < hov b (scl p)))), rfl, rfl, ?_, rfl, rfl⟩
      simp -implicitDefEqProofs only [k1_0, k1_e, k1_c, c1_r, k2b_0, k2b_e, k2b_c, k2a_0, k2a_e, k2a_c, c2_r, kN_0, kN_e, kN_c, cN_r, kTup_0, kTup_e, kTup_c, cTup_r, kLst_0, kLst_e, kLst_c, cLst_r, cK_r, caNil_r, kcb_0, kcb_e, kcb_c, kca_0, kca_e, kca_c, caCons_r, cxNil_r, kxb_0, kxb_e, kxb_c, kxa_0, kxa_e, kxa_c, cxD_r, cxS_r, kxs_0, cCall_r, kc1_0, kc1_e, kc2_0, kc3_0, kc3_e, kc3_c, ssOf_n, ss1_0, ss2_0, ssOf_d, ssOf_s, pb_n, pb_d, pb_s, so_n, so_d, so_s, di_n, di_1, di_c, cSeq_r, cNext_r, cRetN_r, cBrk_r, cCnt_r, kRet_0, kRet_e, kRet_c, cRet_r, kDrop_0, kDrop_e, kDrop_c, cDrop_r, kSet_0, kSet_e, kSet_c, cSet_r, kAs_0, kAsg_0, kAsg_e, kAsg_c, cAsg_r, cgName_r, cgNil_r, kgc_0, cgCons_r, cgTup_r, cgLst_r, kPar_0, kPar_e, kPar_c, cPar_r, kPar3_0, kPar3_e, kPar3_c, cPar3_r, kap3_0, kap2_0, kap2_e, kap2_c, kap1_0, cApp_r, ksi3_0, ksi4_0, ksi2_0, ksi2_e, ksi2_c, ksi1_0, ksi0_0, ksi0_e, ksi0_c, cSetIx_r, kix_l, kix_t, kix_s, kSq_0, kSq_e, kSq_c, ciSeq_r, kr1_0, kr1_e, kr1_c, ciRange1_r, kr2_0, kr2_e, kr2_c, ciRange2_r, kFor_0, kFor_e, kFor_c, cFor_r, forL_c, forL_n, kf1_0, kf2_nx, kf2_ct, kf2_bk, kf2_rt, kf2_exc, kf2_cond, kb_0, kbb_0, kb1_0, kb1_c, kb1_e, cB1_r, kb3_0, kb3_e, kb3_c, kb2_0, kb2_c, kb2_e, cB2_r, kres_0, res_d, res_s, kbn_0, cbN_r, kbD_0, kbD_e, kbD_c, cbD_r, kv_0, cV_r, kvm_0, cVm_r, cV_0, st_0, gt_0, cV_1, st_1, gt_1, cV_2, st_2, gt_2, cV_3, st_3, gt_3, cV_4, st_4, gt_4, cV_5, st_5, gt_5, cV_6, st_6, gt_6, cV_7, st_7, gt_7, cV_8, st_8, gt_8, cV_9, st_9, gt_9, cV_10, st_10, gt_10, cV_11, st_11, gt_11, cV_12, st_12, gt_12, cV_13, st_13, gt_13, cV_14, st_14, gt_14, cV_15, st_15, gt_15, cV_16, st_16, gt_16, cV_17, st_17, gt_17, cV_18, st_18, gt_18, cV_19, st_19, gt_19, cV_20, st_20, gt_20, cV_21, st_21, gt_21, cV_22, st_22, gt_22, cV_23, st_23, gt_23, tCh2_0, tCh2_e, tCh1_0, tCh0b_0, tCh0b_e, tCh0a_0, tCh0a_e, cChain_r, lcL_nil, lcL_c, ml1_0, ml2_t, ml2_f, ml2_b, ml3_0, ml5_0, ml4_0, ml4_e, ml4_c, cLc_r, nO_d, nO_n, nO_l, noOwn_n, noOwn_c, wipe_n, wipe_c, rsE_0, rest_n, rest_c, mkF_r, fo_0, fx_0, fin_nx', fin_rt', fin_exc', ob_0, og_0, od_0, outs_n, outs_c, lift_some, S_d, S_l, gAdd, gSub, gNeg, gNot, gLt, gLe, gGt, gGe, gEq_ii, gNe_ii, gLen, gAbs, gInt, tru_b, gMax2, gMin2, gGcd, gList, gTuple, gAll, gAny, bools_nil, bools_cons, gIs_bb, gIsN_bb, gPow, gMul, gFd, gMod, atI_0, atI_1, atI_2, atI_3, ixL_1, ixL_2, ixL_3, ixN_41, ixN_42, ixN_43, List.getElem?_cons_zero, List.getElem?_cons_succ, List.set_cons_zero, List.set_cons_succ, List.map_cons, List.map_nil, List.length_cons, List.length_nil, List.cons_append, List.nil_append, List.replicate_succ, List.replicate_zero, List.length_map, ↓cond_true, ↓cond_false, cond_true, cond_false, Option.map_some, beq_self_eq_true, List.contains_cons, List.contains_nil, Bool.or_false, Bool.false_or, Bool.or_true, Bool.and_true, Bool.true_and, Bool.not_true, Bool.not_false, Nat.reduceBEq, Nat.reduceAdd, Nat.reduceSub, Nat.reduceEqDiff, reduceCtorEq, Bool.false_eq_true, sq_nx, sq_rt, sq_bad, sq_bk, sq_ct, sq_exc, dz0, dz1, dz2, dz3, dz4, dz5, dz6, dz7, dz8, dz9, dz10, dz11, dz12, ic0, ic1, ic2, ic3, ic4, tAnd_ok, tOr_ok, tIf_ok, tIfS_ok, tAnd_exc, tOr_exc, tIf_exc, tIfS_exc, cAnd_t, cOr_t, cIf_t, cIfS_t, co_and, co_or, tAnd_cond, tOr_cond, tIfS_cond, sq_cond, fin_cond, rangeL_2, rangeL_3, List.all_cons, List.all_nil, List.any_cons, List.any_nil, id, rng1_t, rng2_t, Int.reduceToNat, if_true, ite_true, if_false, eq_self, decide_true, decide_false, isi_int_n, isi_int_b, isi_int_i, isi_int_s, isi_int_l, isi_int_t, isi_bool_n, isi_bool_b, isi_bool_i, isi_bool_s, isi_bool_l, isi_bool_t, isi_str_n, isi_str_b, isi_str_i, isi_str_s, isi_str_l, isi_str_t, isi_list_n, isi_list_b, isi_list_i, isi_list_s, isi_list_l, isi_list_t, isi_tuple_n, isi_tuple_b, isi_tuple_i, isi_tuple_s, isi_tuple_l, isi_tuple_t, isi_dict_n, isi_dict_b, isi_dict_i, isi_dict_s, isi_dict_l, isi_dict_t, nh_d, nh_l, nh_k, nh_o, nh_fn, nh_fc, ss3_0, sat_n, sat_0, sat_c, sup_n, sup_c, supc_0, fsg_c, fsg_n, fss_c, fss_n, pbs_0, pb_t, so_t, ssOf_t, gIx_l, gIx_t, S_k, Option.map_none, e]
  have ml : (((bnds P).map hD).map fun d => PyData.bool (decide (0 < hov (hmOf d) (scl p)))) = (bnds P).map fun b => .bool (decide (0 < hov b (scl p))) := by rw [List.map_map]; rfl
  rw [ml] at lc
  unfold F_is_inside M_is_inside insB
  by_cases h3 : 3 ≤ P.length
  · have d3 : decide ((P.length : Int) < 3) = false := decide_eq_false (by omega)
    rw [decide_eq_true h3, Bool.true_and, mk24, cSeq_r]
    simp -implicitDefEqProofs only [k1_0, k1_e, k1_c, c1_r, k2b_0, k2b_e, k2b_c, k2a_0, k2a_e, k2a_c, c2_r, kN_0, kN_e, kN_c, cN_r, kTup_0, kTup_e, kTup_c, cTup_r, kLst_0, kLst_e, kLst_c, cLst_r, cK_r, caNil_r, kcb_0, kcb_e, kcb_c, kca_0, kca_e, kca_c, caCons_r, cxNil_r, kxb_0, kxb_e, kxb_c, kxa_0, kxa_e, kxa_c, cxD_r, cxS_r, kxs_0, cCall_r, kc1_0, kc1_e, kc2_0, kc3_0, kc3_e, kc3_c, ssOf_n, ss1_0, ss2_0, ssOf_d, ssOf_s, pb_n, pb_d, pb_s, so_n, so_d, so_s, di_n, di_1, di_c, cNext_r, cRetN_r, cBrk_r, cCnt_r, kRet_0, kRet_e, kRet_c, cRet_r, kDrop_0, kDrop_e, kDrop_c, cDrop_r, kSet_0, kSet_e, kSet_c, cSet_r, kAs_0, kAsg_0, kAsg_e, kAsg_c, cAsg_r, cgName_r, cgNil_r, kgc_0, cgCons_r, cgTup_r, cgLst_r, kPar_0, kPar_e, kPar_c, cPar_r, kPar3_0, kPar3_e, kPar3_c, cPar3_r, kap3_0, kap2_0, kap2_e, kap2_c, kap1_0, cApp_r, ksi3_0, ksi4_0, ksi2_0, ksi2_e, ksi2_c, ksi1_0, ksi0_0, ksi0_e, ksi0_c, cSetIx_r, kix_l, kix_t, kix_s, kSq_0, kSq_e, kSq_c, ciSeq_r, kr1_e, kr1_c, ciRange1_r, kr2_e, kr2_c, ciRange2_r, kFor_0, kFor_e, kFor_c, cFor_r, forL_c, forL_n, kf1_0, kf2_nx, kf2_ct, kf2_bk, kf2_rt, kf2_exc, kf2_cond, kb_0, kbb_0, kb1_0, kb1_c, kb1_e, cB1_r, kb3_0, kb3_e, kb3_c, kb2_0, kb2_c, kb2_e, cB2_r, kres_0, res_d, res_s, kbn_0, cbN_r, kbD_0, kbD_e, kbD_c, cbD_r, kv_0, cV_r, kvm_0, cVm_r, cV_0, st_0, gt_0, cV_1, st_1, gt_1, cV_2, st_2, gt_2, cV_3, st_3, gt_3, cV_4, st_4, gt_4, cV_5, st_5, gt_5, cV_6, st_6, gt_6, cV_7, st_7, gt_7, cV_8, st_8, gt_8, cV_9, st_9, gt_9, cV_10, st_10, gt_10, cV_11, st_11, gt_11, cV_12, st_12, gt_12, cV_13, st_13, gt_13, cV_14, st_14, gt_14, cV_15, st_15, gt_15, cV_16, st_16, gt_16, cV_17, st_17, gt_17, cV_18, st_18, gt_18, cV_19, st_19, gt_19, cV_20, st_20, gt_20, cV_21, st_21, gt_21, cV_22, st_22, gt_22, cV_23, st_23, gt_23, tCh2_0, tCh2_e, tCh1_0, tCh0b_0, tCh0b_e, tCh0a_0, tCh0a_e, cChain_r, lcL_nil, lcL_c, ml1_0, ml2_t, ml2_f, ml2_b, ml3_0, ml5_0, ml4_0, ml4_e, ml4_c, nO_d, nO_n, nO_l, noOwn_n, noOwn_c, wipe_n, wipe_c, rsE_0, rest_n, rest_c, mkF_r, fo_0, fx_0, fin_nx', fin_rt', fin_exc', ob_0, og_0, od_0, outs_n, outs_c, lift_some, S_d, S_l, gAdd, gSub, gNeg, gNot, gLt, gLe, gGt, gGe, gEq_ii, gNe_ii, gLen, gAbs, gInt, tru_b, gMax2, gMin2, gGcd, gList, gTuple, gAll, gAny, bools_nil, bools_cons, gIs_bb, gIsN_bb, gPow, gMul, gFd, gMod, atI_0, atI_1, atI_2, atI_3, ixL_1, ixL_2, ixL_3, ixN_41, ixN_42, ixN_43, List.getElem?_cons_zero, List.getElem?_cons_succ, List.set_cons_zero, List.set_cons_succ, List.map_cons, List.map_nil, List.length_cons, List.length_nil, List.cons_append, List.nil_append, List.replicate_succ, List.replicate_zero, List.length_map, ↓cond_true, ↓cond_false, cond_true, cond_false, Option.map_some, beq_self_eq_true, List.contains_cons, List.contains_nil, Bool.or_false, Bool.false_or, Bool.or_true, Bool.and_true, Bool.true_and, Bool.not_true, Bool.not_false, Nat.reduceBEq, Nat.reduceAdd, Nat.reduceSub, Nat.reduceEqDiff, reduceCtorEq, Bool.false_eq_true, sq_nx, sq_rt, sq_bad, sq_bk, sq_ct, sq_exc, dz0, dz1, dz2, dz3, dz4, dz5, dz6, dz7, dz8, dz9, dz10, dz11, dz12, ic0, ic1, ic2, ic3, ic4, tAnd_ok, tOr_ok, tIf_ok, tIfS_ok, tAnd_exc, tOr_exc, tIf_exc, tIfS_exc, cAnd_t, cOr_t, cIf_t, cIfS_t, co_and, co_or, tAnd_cond, tOr_cond, tIfS_cond, sq_cond, fin_cond, rangeL_2, rangeL_3, List.all_cons, List.all_nil, List.any_cons, List.any_nil, id, rng1_t, rng2_t, Int.reduceToNat, if_true, ite_true, if_false, eq_self, decide_true, decide_false, isi_int_n, isi_int_b, isi_int_i, isi_int_s, isi_int_l, isi_int_t, isi_bool_n, isi_bool_b, isi_bool_i, isi_bool_s, isi_bool_l, isi_bool_t, isi_str_n, isi_str_b, isi_str_i, isi_str_s, isi_str_l, isi_str_t, isi_list_n, isi_list_b, isi_list_i, isi_list_s, isi_list_l, isi_list_t, isi_tuple_n, isi_tuple_b, isi_tuple_i, isi_tuple_s, isi_tuple_l, isi_tuple_t, isi_dict_n, isi_dict_b, isi_dict_i, isi_dict_s, isi_dict_l, isi_dict_t, nh_d, nh_l, nh_k, nh_o, nh_fn, nh_fc, ss3_0, sat_n, sat_0, sat_c, sup_n, sup_c, supc_0, fsg_c, fsg_n, fss_c, fss_n, pbs_0, pb_t, so_t, ssOf_t, gIx_l, gIx_t, S_k, Option.map_none, d3]
    rw [cSeq_r]
    simp -implicitDefEqProofs only [k1_0, k1_e, k1_c, c1_r, k2b_0, k2b_e, k2b_c, k2a_0, k2a_e, k2a_c, c2_r, kN_0, kN_e, kN_c, cN_r, kTup_0, kTup_e, kTup_c, cTup_r, kLst_0, kLst_e, kLst_c, cLst_r, cK_r, caNil_r, kcb_0, kcb_e, kcb_c, kca_0, kca_e, kca_c, caCons_r, cxNil_r, kxb_0, kxb_e, kxb_c, kxa_0, kxa_e, kxa_c, cxD_r, cxS_r, kxs_0, cCall_r, kc1_0, kc1_e, kc2_0, kc3_0, kc3_e, kc3_c, ssOf_n, ss1_0, ss2_0, ssOf_d, ssOf_s, pb_n, pb_d, pb_s, so_n, so_d, so_s, di_n, di_1, di_c, cNext_r, cRetN_r, cBrk_r, cCnt_r, kRet_0, kRet_e, kRet_c, cRet_r, kDrop_0, kDrop_e, kDrop_c, cDrop_r, kSet_0, kSet_e, kSet_c, cSet_r, kAs_0, kAsg_0, kAsg_e, kAsg_c, cAsg_r, cgName_r, cgNil_r, kgc_0, cgCons_r, cgTup_r, cgLst_r, kPar_0, kPar_e, kPar_c, cPar_r, kPar3_0, kPar3_e, kPar3_c, cPar3_r, kap3_0, kap2_0, kap2_e, kap2_c, kap1_0, cApp_r, ksi3_0, ksi4_0, ksi2_0, ksi2_e, ksi2_c, ksi1_0, ksi0_0, ksi0_e, ksi0_c, cSetIx_r, kix_l, kix_t, kix_s, kSq_0, kSq_e, kSq_c, ciSeq_r, kr1_e, kr1_c, ciRange1_r, kr2_e, kr2_c, ciRange2_r, kFor_0, kFor_e, kFor_c, cFor_r, forL_c, forL_n, kf1_0, kf2_nx, kf2_ct, kf2_bk, kf2_rt, kf2_exc, kf2_cond, kb_0, kbb_0, kb1_0, kb1_c, kb1_e, cB1_r, kb3_0, kb3_e, kb3_c, kb2_0, kb2_c, kb2_e, cB2_r, kres_0, res_d, res_s, kbn_0, cbN_r, kbD_0, kbD_e, kbD_c, cbD_r, kv_0, cV_r, kvm_0, cVm_r, cV_0, st_0, gt_0, cV_1, st_1, gt_1, cV_2, st_2, gt_2, cV_3, st_3, gt_3, cV_4, st_4, gt_4, cV_5, st_5, gt_5, cV_6, st_6, gt_6, cV_7, st_7, gt_7, cV_8, st_8, gt_8, cV_9, st_9, gt_9, cV_10, st_10, gt_10, cV_11, st_11, gt_11, cV_12, st_12, gt_12, cV_13, st_13, gt_13, cV_14, st_14, gt_14, cV_15, st_15, gt_15, cV_16, st_16, gt_16, cV_17, st_17, gt_17, cV_18, st_18, gt_18, cV_19, st_19, gt_19, cV_20, st_20, gt_20, cV_21, st_21, gt_21, cV_22, st_22, gt_22, cV_23, st_23, gt_23, tCh2_0, tCh2_e, tCh1_0, tCh0b_0, tCh0b_e, tCh0a_0, tCh0a_e, cChain_r, lcL_nil, lcL_c, ml1_0, ml2_t, ml2_f, ml2_b, ml3_0, ml5_0, ml4_0, ml4_e, ml4_c, nO_d, nO_n, nO_l, noOwn_n, noOwn_c, wipe_n, wipe_c, rsE_0, rest_n, rest_c, mkF_r, fo_0, fx_0, fin_nx', fin_rt', fin_exc', ob_0, og_0, od_0, outs_n, outs_c, lift_some, S_d, S_l, gAdd, gSub, gNeg, gNot, gLt, gLe, gGt, gGe, gEq_ii, gNe_ii, gLen, gAbs, gInt, tru_b, gMax2, gMin2, gGcd, gList, gTuple, gAll, gAny, bools_nil, bools_cons, gIs_bb, gIsN_bb, gPow, gMul, gFd, gMod, atI_0, atI_1, atI_2, atI_3, ixL_1, ixL_2, ixL_3, ixN_41, ixN_42, ixN_43, List.getElem?_cons_zero, List.getElem?_cons_succ, List.set_cons_zero, List.set_cons_succ, List.map_cons, List.map_nil, List.length_cons, List.length_nil, List.cons_append, List.nil_append, List.replicate_succ, List.replicate_zero, List.length_map, ↓cond_true, ↓cond_false, cond_true, cond_false, Option.map_some, beq_self_eq_true, List.contains_cons, List.contains_nil, Bool.or_false, Bool.false_or, Bool.or_true, Bool.and_true, Bool.true_and, Bool.not_true, Bool.not_false, Nat.reduceBEq, Nat.reduceAdd, Nat.reduceSub, Nat.reduceEqDiff, reduceCtorEq, Bool.false_eq_true, sq_nx, sq_rt, sq_bad, sq_bk, sq_ct, sq_exc, dz0, dz1, dz2, dz3, dz4, dz5, dz6, dz7, dz8, dz9, dz10, dz11, dz12, ic0, ic1, ic2, ic3, ic4, tAnd_ok, tOr_ok, tIf_ok, tIfS_ok, tAnd_exc, tOr_exc, tIf_exc, tIfS_exc, cAnd_t, cOr_t, cIf_t, cIfS_t, co_and, co_or, tAnd_cond, tOr_cond, tIfS_cond, sq_cond, fin_cond, rangeL_2, rangeL_3, List.all_cons, List.all_nil, List.any_cons, List.any_nil, id, rng1_t, rng2_t, Int.reduceToNat, if_true, ite_true, if_false, eq_self, decide_true, decide_false, isi_int_n, isi_int_b, isi_int_i, isi_int_s, isi_int_l, isi_int_t, isi_bool_n, isi_bool_b, isi_bool_i, isi_bool_s, isi_bool_l, isi_bool_t, isi_str_n, isi_str_b, isi_str_i, isi_str_s, isi_str_l, isi_str_t, isi_list_n, isi_list_b, isi_list_i, isi_list_s, isi_list_l, isi_list_t, isi_tuple_n, isi_tuple_b, isi_tuple_i, isi_tuple_s, isi_tuple_l, isi_tuple_t, isi_dict_n, isi_dict_b, isi_dict_i, isi_dict_s, isi_dict_l, isi_dict_t, nh_d, nh_l, nh_k, nh_o, nh_fn, nh_fc, ss3_0, sat_n, sat_0, sat_c, sup_n, sup_c, supc_0, fsg_c, fsg_n, fss_c, fss_n, pbs_0, pb_t, so_t, ssOf_t, gIx_l, gIx_t, S_k, Option.map_none, e1]
    simp -implicitDefEqProofs only [k1_0, k1_e, k1_c, c1_r, k2b_0, k2b_e, k2b_c, k2a_0, k2a_e, k2a_c, c2_r, kN_0, kN_e, kN_c, cN_r, kTup_0, kTup_e, kTup_c, cTup_r, kLst_0, kLst_e, kLst_c, cLst_r, cK_r, caNil_r, kcb_0, kcb_e, kcb_c, kca_0, kca_e, kca_c, caCons_r, cxNil_r, kxb_0, kxb_e, kxb_c, kxa_0, kxa_e, kxa_c, cxD_r, cxS_r, kxs_0, cCall_r, kc1_0, kc1_e, kc2_0, kc3_0, kc3_e, kc3_c, ssOf_n, ss1_0, ss2_0, ssOf_d, ssOf_s, pb_n, pb_d, pb_s, so_n, so_d, so_s, di_n, di_1, di_c, cNext_r, cRetN_r, cBrk_r, cCnt_r, kRet_0, kRet_e, kRet_c, cRet_r, kDrop_0, kDrop_e, kDrop_c, cDrop_r, kSet_0, kSet_e, kSet_c, cSet_r, kAs_0, kAsg_0, kAsg_e, kAsg_c, cAsg_r, cgName_r, cgNil_r, kgc_0, cgCons_r, cgTup_r, cgLst_r, kPar_0, kPar_e, kPar_c, cPar_r, kPar3_0, kPar3_e, kPar3_c, cPar3_r, kap3_0, kap2_0, kap2_e, kap2_c, kap1_0, cApp_r, ksi3_0, ksi4_0, ksi2_0, ksi2_e, ksi2_c, ksi1_0, ksi0_0, ksi0_e, ksi0_c, cSetIx_r, kix_l, kix_t, kix_s, kSq_0, kSq_e, kSq_c, ciSeq_r, kr1_e, kr1_c, ciRange1_r, kr2_e, kr2_c, ciRange2_r, kFor_0, kFor_e, kFor_c, cFor_r, forL_c, forL_n, kf1_0, kf2_nx, kf2_ct, kf2_bk, kf2_rt, kf2_exc, kf2_cond, kb_0, kbb_0, kb1_0, kb1_c, kb1_e, cB1_r, kb3_0, kb3_e, kb3_c, kb2_0, kb2_c, kb2_e, cB2_r, kres_0, res_d, res_s, kbn_0, cbN_r, kbD_0, kbD_e, kbD_c, cbD_r, kv_0, cV_r, kvm_0, cVm_r, cV_0, st_0, gt_0, cV_1, st_1, gt_1, cV_2, st_2, gt_2, cV_3, st_3, gt_3, cV_4, st_4, gt_4, cV_5, st_5, gt_5, cV_6, st_6, gt_6, cV_7, st_7, gt_7, cV_8, st_8, gt_8, cV_9, st_9, gt_9, cV_10, st_10, gt_10, cV_11, st_11, gt_11, cV_12, st_12, gt_12, cV_13, st_13, gt_13, cV_14, st_14, gt_14, cV_15, st_15, gt_15, cV_16, st_16, gt_16, cV_17, st_17, gt_17, cV_18, st_18, gt_18, cV_19, st_19, gt_19, cV_20, st_20, gt_20, cV_21, st_21, gt_21, cV_22, st_22, gt_22, cV_23, st_23, gt_23, tCh2_0, tCh2_e, tCh1_0, tCh0b_0, tCh0b_e, tCh0a_0, tCh0a_e, cChain_r, lcL_nil, lcL_c, ml1_0, ml2_t, ml2_f, ml2_b, ml3_0, ml5_0, ml4_0, ml4_e, ml4_c, nO_d, nO_n, nO_l, noOwn_n, noOwn_c, wipe_n, wipe_c, rsE_0, rest_n, rest_c, mkF_r, fo_0, fx_0, fin_nx', fin_rt', fin_exc', ob_0, og_0, od_0, outs_n, outs_c, lift_some, S_d, S_l, gAdd, gSub, gNeg, gNot, gLt, gLe, gGt, gGe, gEq_ii, gNe_ii, gLen, gAbs, gInt, tru_b, gMax2, gMin2, gGcd, gList, gTuple, gAll, gAny, bools_nil, bools_cons, gIs_bb, gIsN_bb, gPow, gMul, gFd, gMod, atI_0, atI_1, atI_2, atI_3, ixL_1, ixL_2, ixL_3, ixN_41, ixN_42, ixN_43, List.getElem?_cons_zero, List.getElem?_cons_succ, List.set_cons_zero, List.set_cons_succ, List.map_cons, List.map_nil, List.length_cons, List.length_nil, List.cons_append, List.nil_append, List.replicate_succ, List.replicate_zero, List.length_map, ↓cond_true, ↓cond_false, cond_true, cond_false, Option.map_some, beq_self_eq_true, List.contains_cons, List.contains_nil, Bool.or_false, Bool.false_or, Bool.or_true, Bool.and_true, Bool.true_and, Bool.not_true, Bool.not_false, Nat.reduceBEq, Nat.reduceAdd, Nat.reduceSub, Nat.reduceEqDiff, reduceCtorEq, Bool.false_eq_true, sq_nx, sq_rt, sq_bad, sq_bk, sq_ct, sq_exc, dz0, dz1, dz2, dz3, dz4, dz5, dz6, dz7, dz8, dz9, dz10, dz11, dz12, ic0, ic1, ic2, ic3, ic4, tAnd_ok, tOr_ok, tIf_ok, tIfS_ok, tAnd_exc, tOr_exc, tIf_exc, tIfS_exc, cAnd_t, cOr_t, cIf_t, cIfS_t, co_and, co_or, tAnd_cond, tOr_cond, tIfS_cond, sq_cond, fin_cond, rangeL_2, rangeL_3, List.all_cons, List.all_nil, List.any_cons, List.any_nil, id, rng1_t, rng2_t, Int.reduceToNat, if_true, ite_true, if_false, eq_self, decide_true, decide_false, isi_int_n, isi_int_b, isi_int_i, isi_int_s, isi_int_l, isi_int_t, isi_bool_n, isi_bool_b, isi_bool_i, isi_bool_s, isi_bool_l, isi_bool_t, isi_str_n, isi_str_b, isi_str_i, isi_str_s, isi_str_l, isi_str_t, isi_list_n, isi_list_b, isi_list_i, isi_list_s, isi_list_l, isi_list_t, isi_tuple_n, isi_tuple_b, isi_tuple_i, isi_tuple_s, isi_tuple_l, isi_tuple_t, isi_dict_n, isi_dict_b, isi_dict_i, isi_dict_s, isi_dict_l, isi_dict_t, nh_d, nh_l, nh_k, nh_o, nh_fn, nh_fc, ss3_0, sat_n, sat_0, sat_c, sup_n, sup_c, supc_0, fsg_c, fsg_n, fss_c, fss_n, pbs_0, pb_t, so_t, ssOf_t, gIx_l, gIx_t, S_k, Option.map_none, lc, bools_map, all_mid]
  · have d3 : decide ((P.length : Int) < 3) = true := decide_eq_true (by omega)
    rw [decide_eq_false h3, Bool.false_and, mk24, cSeq_r]
    simp -implicitDefEqProofs only [k1_0, k1_e, k1_c, c1_r, k2b_0, k2b_e, k2b_c, k2a_0, k2a_e, k2a_c, c2_r, kN_0, kN_e, kN_c, cN_r, kTup_0, kTup_e, kTup_c, cTup_r, kLst_0, kLst_e, kLst_c, cLst_r, cK_r, caNil_r, kcb_0, kcb_e, kcb_c, kca_0, kca_e, kca_c, caCons_r, cxNil_r, kxb_0, kxb_e, kxb_c, kxa_0, kxa_e, kxa_c, cxD_r, cxS_r, kxs_0, cCall_r, kc1_0, kc1_e, kc2_0, kc3_0, kc3_e, kc3_c, ssOf_n, ss1_0, ss2_0, ssOf_d, ssOf_s, pb_n, pb_d, pb_s, so_n, so_d, so_s, di_n, di_1, di_c, cNext_r, cRetN_r, cBrk_r, cCnt_r, kRet_0, kRet_e, kRet_c, cRet_r, kDrop_0, kDrop_e, kDrop_c, cDrop_r, kSet_0, kSet_e, kSet_c, cSet_r, kAs_0, kAsg_0, kAsg_e, kAsg_c, cAsg_r, cgName_r, cgNil_r, kgc_0, cgCons_r, cgTup_r, cgLst_r, kPar_0, kPar_e, kPar_c, cPar_r, kPar3_0, kPar3_e, kPar3_c, cPar3_r, kap3_0, kap2_0, kap2_e, kap2_c, kap1_0, cApp_r, ksi3_0, ksi4_0, ksi2_0, ksi2_e, ksi2_c, ksi1_0, ksi0_0, ksi0_e, ksi0_c, cSetIx_r, kix_l, kix_t, kix_s, kSq_0, kSq_e, kSq_c, ciSeq_r, kr1_e, kr1_c, ciRange1_r, kr2_e, kr2_c, ciRange2_r, kFor_0, kFor_e, kFor_c, cFor_r, forL_c, forL_n, kf1_0, kf2_nx, kf2_ct, kf2_bk, kf2_rt, kf2_exc, kf2_cond, kb_0, kbb_0, kb1_0, kb1_c, kb1_e, cB1_r, kb3_0, kb3_e, kb3_c, kb2_0, kb2_c, kb2_e, cB2_r, kres_0, res_d, res_s, kbn_0, cbN_r, kbD_0, kbD_e, kbD_c, cbD_r, kv_0, cV_r, kvm_0, cVm_r, cV_0, st_0, gt_0, cV_1, st_1, gt_1, cV_2, st_2, gt_2, cV_3, st_3, gt_3, cV_4, st_4, gt_4, cV_5, st_5, gt_5, cV_6, st_6, gt_6, cV_7, st_7, gt_7, cV_8, st_8, gt_8, cV_9, st_9, gt_9, cV_10, st_10, gt_10, cV_11, st_11, gt_11, cV_12, st_12, gt_12, cV_13, st_13, gt_13, cV_14, st_14, gt_14, cV_15, st_15, gt_15, cV_16, st_16, gt_16, cV_17, st_17, gt_17, cV_18, st_18, gt_18, cV_19, st_19, gt_19, cV_20, st_20, gt_20, cV_21, st_21, gt_21, cV_22, st_22, gt_22, cV_23, st_23, gt_23, tCh2_0, tCh2_e, tCh1_0, tCh0b_0, tCh0b_e, tCh0a_0, tCh0a_e, cChain_r, lcL_nil, lcL_c, ml1_0, ml2_t, ml2_f, ml2_b, ml3_0, ml5_0, ml4_0, ml4_e, ml4_c, nO_d, nO_n, nO_l, noOwn_n, noOwn_c, wipe_n, wipe_c, rsE_0, rest_n, rest_c, mkF_r, fo_0, fx_0, fin_nx', fin_rt', fin_exc', ob_0, og_0, od_0, outs_n, outs_c, lift_some, S_d, S_l, gAdd, gSub, gNeg, gNot, gLt, gLe, gGt, gGe, gEq_ii, gNe_ii, gLen, gAbs, gInt, tru_b, gMax2, gMin2, gGcd, gList, gTuple, gAll, gAny, bools_nil, bools_cons, gIs_bb, gIsN_bb, gPow, gMul, gFd, gMod, atI_0, atI_1, atI_2, atI_3, ixL_1, ixL_2, ixL_3, ixN_41, ixN_42, ixN_43, List.getElem?_cons_zero, List.getElem?_cons_succ, List.set_cons_zero, List.set_cons_succ, List.map_cons, List.map_nil, List.length_cons, List.length_nil, List.cons_append, List.nil_append, List.replicate_succ, List.replicate_zero, List.length_map, ↓cond_true, ↓cond_false, cond_true, cond_false, Option.map_some, beq_self_eq_true, List.contains_cons, List.contains_nil, Bool.or_false, Bool.false_or, Bool.or_true, Bool.and_true, Bool.true_and, Bool.not_true, Bool.not_false, Nat.reduceBEq, Nat.reduceAdd, Nat.reduceSub, Nat.reduceEqDiff, reduceCtorEq, Bool.false_eq_true, sq_nx, sq_rt, sq_bad, sq_bk, sq_ct, sq_exc, dz0, dz1, dz2, dz3, dz4, dz5, dz6, dz7, dz8, dz9, dz10, dz11, dz12, ic0, ic1, ic2, ic3, ic4, tAnd_ok, tOr_ok, tIf_ok, tIfS_ok, tAnd_exc, tOr_exc, tIf_exc, tIfS_exc, cAnd_t, cOr_t, cIf_t, cIfS_t, co_and, co_or, tAnd_cond, tOr_cond, tIfS_cond, sq_cond, fin_cond, rangeL_2, rangeL_3, List.all_cons, List.all_nil, List.any_cons, List.any_nil, id, rng1_t, rng2_t, Int.reduceToNat, if_true, ite_true, if_false, eq_self, decide_true, decide_false, isi_int_n, isi_int_b, isi_int_i, isi_int_s, isi_int_l, isi_int_t, isi_bool_n, isi_bool_b, isi_bool_i, isi_bool_s, isi_bool_l, isi_bool_t, isi_str_n, isi_str_b, isi_str_i, isi_str_s, isi_str_l, isi_str_t, isi_list_n, isi_list_b, isi_list_i, isi_list_s, isi_list_l, isi_list_t, isi_tuple_n, isi_tuple_b, isi_tuple_i, isi_tuple_s, isi_tuple_l, isi_tuple_t, isi_dict_n, isi_dict_b, isi_dict_i, isi_dict_s, isi_dict_l, isi_dict_t, nh_d, nh_l, nh_k, nh_o, nh_fn, nh_fc, ss3_0, sat_n, sat_0, sat_c, sup_n, sup_c, supc_0, fsg_c, fsg_n, fss_c, fss_n, pbs_0, pb_t, so_t, ssOf_t, gIx_l, gIx_t, S_k, Option.map_none, d3]
theorem corners_spec {P : List Cn} (hl : P.length ≤ 50000) : F_u_law_corners [.dat (.tuple (P.map pD))] = .ok (.lst (P.map cD)) [.dat (.tuple (P.map pD))] := by
  have h := cLc_map (ρ := [some (.dat (.tuple (P.map pD))), none]) (ρ1 := [some (.dat (.tuple (P.map pD))), none]) (vs := [1]) (src := ciSeq (cV 0)) (g := cgName 1) (ct := cK (.bool true)) (ce := cTup (caCons (cB2 gIx (cbN 1) (cK (.int 0))) (caCons (cB2 gIx (cbN 1) (cK (.int 1))) (caCons (cK (.int 1)) (caNil))))) (fun d => cD (cnOf d)) (src_0 (.inr rfl) rfl) rfl (by rw [List.length_map]; have := ch_cls; omega) fun d hd => by
    obtain ⟨c, _, rfl⟩ := List.mem_map.mp hd
    refine ⟨[some (.dat (.tuple (P.map pD))), some (.dat (pD c))], [some (.dat (.tuple (P.map pD))), some (.dat (pD c))], [some (.dat (.tuple (P.map pD))), some (.dat (pD c))], .dat (cD c), rfl, rfl, ?_, rfl, rfl⟩
    unfold pD cD hD
    simp -implicitDefEqProofs only [k1_0, k1_e, k1_c, c1_r, k2b_0, k2b_e, k2b_c, k2a_0, k2a_e, k2a_c, c2_r, kN_0, kN_e, kN_c, cN_r, kTup_0, kTup_e, kTup_c, cTup_r, kLst_0, kLst_e, kLst_c, cLst_r, cK_r, caNil_r, kcb_0, kcb_e, kcb_c, kca_0, kca_e, kca_c, caCons_r, cxNil_r, kxb_0, kxb_e, kxb_c, kxa_0, kxa_e, kxa_c, cxD_r, cxS_r, kxs_0, cCall_r, kc1_0, kc1_e, kc2_0, kc3_0, kc3_e, kc3_c, ssOf_n, ss1_0, ss2_0, ssOf_d, ssOf_s, pb_n, pb_d, pb_s, so_n, so_d, so_s, di_n, di_1, di_c, cSeq_r, cNext_r, cRetN_r, cBrk_r, cCnt_r, kRet_0, kRet_e, kRet_c, cRet_r, kDrop_0, kDrop_e, kDrop_c, cDrop_r, kSet_0, kSet_e, kSet_c, cSet_r, kAs_0, kAsg_0, kAsg_e, kAsg_c, cAsg_r, cgName_r, cgNil_r, kgc_0, cgCons_r, cgTup_r, cgLst_r, kPar_0, kPar_e, kPar_c, cPar_r, kPar3_0, kPar3_e, kPar3_c, cPar3_r, kap3_0, kap2_0, kap2_e, kap2_c, kap1_0, cApp_r, ksi3_0, ksi4_0, ksi2_0, ksi2_e, ksi2_c, ksi1_0, ksi0_0, ksi0_e, ksi0_c, cSetIx_r, kix_l, kix_t, kix_s, kSq_0, kSq_e, kSq_c, ciSeq_r, kr1_0, kr1_e, kr1_c, ciRange1_r, kr2_0, kr2_e, kr2_c, ciRange2_r, kFor_0, kFor_e, kFor_c, cFor_r, forL_c, forL_n, kf1_0, kf2_nx, kf2_ct, kf2_bk, kf2_rt, kf2_exc, kf2_cond, kb_0, kbb_0, kb1_0, kb1_c, kb1_e, cB1_r, kb3_0, kb3_e, kb3_c, kb2_0, kb2_c, kb2_e, cB2_r, kres_0, res_d, res_s, kbn_0, cbN_r, kbD_0, kbD_e, kbD_c, cbD_r, kv_0, cV_r, kvm_0, cVm_r, cV_0, st_0, gt_0, cV_1, st_1, gt_1, cV_2, st_2, gt_2, cV_3, st_3, gt_3, cV_4, st_4, gt_4, cV_5, st_5, gt_5, cV_6, st_6, gt_6, cV_7, st_7, gt_7, cV_8, st_8, gt_8, cV_9, st_9, gt_9, cV_10, st_10, gt_10, cV_11, st_11, gt_11, cV_12, st_12, gt_12, cV_13, st_13, gt_13, cV_14, st_14, gt_14, cV_15, st_15, gt_15, cV_16, st_16, gt_16, cV_17, st_17, gt_17, cV_18, st_18, gt_18, cV_19, st_19, gt_19, cV_20, st_20, gt_20, cV_21, st_21, gt_21, cV_22, st_22, gt_22, cV_23, st_23, gt_23, tCh2_0, tCh2_e, tCh1_0, tCh0b_0, tCh0b_e, tCh0a_0, tCh0a_e, cChain_r, lcL_nil, lcL_c, ml1_0, ml2_t, ml2_f, ml2_b, ml3_0, ml5_0, ml4_0, ml4_e, ml4_c, cLc_r, nO_d, nO_n, nO_l, noOwn_n, noOwn_c, wipe_n, wipe_c, rsE_0, rest_n, rest_c, mkF_r, fo_0, fx_0, fin_nx', fin_rt', fin_exc', ob_0, og_0, od_0, outs_n, outs_c, lift_some, S_d, S_l, gAdd, gSub, gNeg, gNot, gLt, gLe, gGt, gGe, gEq_ii, gNe_ii, gLen, gAbs, gInt, tru_b, gMax2, gMin2, gGcd, gList, gTuple, gAll, gAny, bools_nil, bools_cons, gIs_bb, gIsN_bb, gPow, gMul, gFd, gMod, atI_0, atI_1, atI_2, atI_3, ixL_1, ixL_2, ixL_3, ixN_41, ixN_42, ixN_43, List.getElem?_cons_zero, List.getElem?_cons_succ, List.set_cons_zero, List.set_cons_succ, List.map_cons, List.map_nil, List.length_cons, List.length_nil, List.cons_append, List.nil_append, List.replicate_succ, List.replicate_zero, List.length_map, ↓cond_true, ↓cond_false, cond_true, cond_false, Option.map_some, beq_self_eq_true, List.contains_cons, List.contains_nil, Bool.or_false, Bool.false_or, Bool.or_true, Bool.and_true, Bool.true_and, Bool.not_true, Bool.not_false, Nat.reduceBEq, Nat.reduceAdd, Nat.reduceSub, Nat.reduceEqDiff, reduceCtorEq, Bool.false_eq_true, sq_nx, sq_rt, sq_bad, sq_bk, sq_ct, sq_exc, dz0, dz1, dz2, dz3, dz4, dz5, dz6, dz7, dz8, dz9, dz10, dz11, dz12, ic0, ic1, ic2, ic3, ic4, tAnd_ok, tOr_ok, tIf_ok, tIfS_ok, tAnd_exc, tOr_exc, tIf_exc, tIfS_exc, cAnd_t, cOr_t, cIf_t, cIfS_t, co_and, co_or, tAnd_cond, tOr_cond, tIfS_cond, sq_cond, fin_cond, rangeL_2, rangeL_3, List.all_cons, List.all_nil, List.any_cons, List.any_nil, id, rng1_t, rng2_t, Int.reduceToNat, if_true, ite_true, if_false, eq_self, decide_true, decide_false, isi_int_n, isi_int_b, isi_int_i, isi_int_s, isi_int_l, isi_int_t, isi_bool_n, isi_bool_b, isi_bool_i, isi_bool_s, isi_bool_l, isi_bool_t, isi_str_n, isi_str_b, isi_str_i, isi_str_s, isi_str_l, isi_str_t, isi_list_n, isi_list_b, isi_list_i, isi_list_s, isi_list_l, isi_list_t, isi_tuple_n, isi_tuple_b, isi_tuple_i, isi_tuple_s, isi_tuple_l, isi_tuple_t, isi_dict_n, isi_dict_b, isi_dict_i, isi_dict_s, isi_dict_l, isi_dict_t, nh_d, nh_l, nh_k, nh_o, nh_fn, nh_fc, ss3_0, sat_n, sat_0, sat_c, sup_n, sup_c, supc_0, fsg_c, fsg_n, fss_c, fss_n, pbs_0, pb_t, so_t, ssOf_t, gIx_l, gIx_t, S_k, Option.map_none]
  rw [map_pD] at h
  unfold F_u_law_corners M_u_law_corners
  simp -implicitDefEqProofs only [k1_0, k1_e, k1_c, c1_r, k2b_0, k2b_e, k2b_c, k2a_0, k2a_e, k2a_c, c2_r, kN_0, kN_e, kN_c, cN_r, kTup_0, kTup_e, kTup_c, cTup_r, kLst_0, kLst_e, kLst_c, cLst_r, cK_r, caNil_r, kcb_0, kcb_e, kcb_c, kca_0, kca_e, kca_c, caCons_r, cxNil_r, kxb_0, kxb_e, kxb_c, kxa_0, kxa_e, kxa_c, cxD_r, cxS_r, kxs_0, cCall_r, kc1_0, kc1_e, kc2_0, kc3_0, kc3_e, kc3_c, ssOf_n, ss1_0, ss2_0, ssOf_d, ssOf_s, pb_n, pb_d, pb_s, so_n, so_d, so_s, di_n, di_1, di_c, cSeq_r, cNext_r, cRetN_r, cBrk_r, cCnt_r, kRet_0, kRet_e, kRet_c, cRet_r, kDrop_0, kDrop_e, kDrop_c, cDrop_r, kSet_0, kSet_e, kSet_c, cSet_r, kAs_0, kAsg_0, kAsg_e, kAsg_c, cAsg_r, cgName_r, cgNil_r, kgc_0, cgCons_r, cgTup_r, cgLst_r, kPar_0, kPar_e, kPar_c, cPar_r, kPar3_0, kPar3_e, kPar3_c, cPar3_r, kap3_0, kap2_0, kap2_e, kap2_c, kap1_0, cApp_r, ksi3_0, ksi4_0, ksi2_0, ksi2_e, ksi2_c, ksi1_0, ksi0_0, ksi0_e, ksi0_c, cSetIx_r, kix_l, kix_t, kix_s, kSq_0, kSq_e, kSq_c, ciSeq_r, kr1_0, kr1_e, kr1_c, ciRange1_r, kr2_0, kr2_e, kr2_c, ciRange2_r, kFor_0, kFor_e, kFor_c, cFor_r, forL_c, forL_n, kf1_0, kf2_nx, kf2_ct, kf2_bk, kf2_rt, kf2_exc, kf2_cond, kb_0, kbb_0, kb1_0, kb1_c, kb1_e, cB1_r, kb3_0, kb3_e, kb3_c, kb2_0, kb2_c, kb2_e, cB2_r, kres_0, res_d, res_s, kbn_0, cbN_r, kbD_0, kbD_e, kbD_c, cbD_r, kv_0, cV_r, kvm_0, cVm_r, cV_0, st_0, gt_0, cV_1, st_1, gt_1, cV_2, st_2, gt_2, cV_3, st_3, gt_3, cV_4, st_4, gt_4, cV_5, st_5, gt_5, cV_6, st_6, gt_6, cV_7, st_7, gt_7, cV_8, st_8, gt_8, cV_9, st_9, gt_9, cV_10, st_10, gt_10, cV_11, st_11, gt_11, cV_12, st_12, gt_12, cV_13, st_13, gt_13, cV_14, st_14, gt_14, cV_15, st_15, gt_15, cV_16, st_16, gt_16, cV_17, st_17, gt_17, cV_18, st_18, gt_18, cV_19, st_19, gt_19, cV_20, st_20, gt_20, cV_21, st_21, gt_21, cV_22, st_22, gt_22, cV_23, st_23, gt_23, tCh2_0, tCh2_e, tCh1_0, tCh0b_0, tCh0b_e, tCh0a_0, tCh0a_e, cChain_r, lcL_nil, lcL_c, ml1_0, ml2_t, ml2_f, ml2_b, ml3_0, ml5_0, ml4_0, ml4_e, ml4_c, nO_d, nO_n, nO_l, noOwn_n, noOwn_c, wipe_n, wipe_c, rsE_0, rest_n, rest_c, mkF_r, fo_0, fx_0, fin_nx', fin_rt', fin_exc', ob_0, og_0, od_0, outs_n, outs_c, lift_some, S_d, S_l, gAdd, gSub, gNeg, gNot, gLt, gLe, gGt, gGe, gEq_ii, gNe_ii, gLen, gAbs, gInt, tru_b, gMax2, gMin2, gGcd, gList, gTuple, gAll, gAny, bools_nil, bools_cons, gIs_bb, gIsN_bb, gPow, gMul, gFd, gMod, atI_0, atI_1, atI_2, atI_3, ixL_1, ixL_2, ixL_3, ixN_41, ixN_42, ixN_43, List.getElem?_cons_zero, List.getElem?_cons_succ, List.set_cons_zero, List.set_cons_succ, List.map_cons, List.map_nil, List.length_cons, List.length_nil, List.cons_append, List.nil_append, List.replicate_succ, List.replicate_zero, List.length_map, ↓cond_true, ↓cond_false, cond_true, cond_false, Option.map_some, beq_self_eq_true, List.contains_cons, List.contains_nil, Bool.or_false, Bool.false_or, Bool.or_true, Bool.and_true, Bool.true_and, Bool.not_true, Bool.not_false, Nat.reduceBEq, Nat.reduceAdd, Nat.reduceSub, Nat.reduceEqDiff, reduceCtorEq, Bool.false_eq_true, sq_nx, sq_rt, sq_bad, sq_bk, sq_ct, sq_exc, dz0, dz1, dz2, dz3, dz4, dz5, dz6, dz7, dz8, dz9, dz10, dz11, dz12, ic0, ic1, ic2, ic3, ic4, tAnd_ok, tOr_ok, tIf_ok, tIfS_ok, tAnd_exc, tOr_exc, tIf_exc, tIfS_exc, cAnd_t, cOr_t, cIf_t, cIfS_t, co_and, co_or, tAnd_cond, tOr_cond, tIfS_cond, sq_cond, fin_cond, rangeL_2, rangeL_3, List.all_cons, List.all_nil, List.any_cons, List.any_nil, id, rng1_t, rng2_t, Int.reduceToNat, if_true, ite_true, if_false, eq_self, decide_true, decide_false, isi_int_n, isi_int_b, isi_int_i, isi_int_s, isi_int_l, isi_int_t, isi_bool_n, isi_bool_b, isi_bool_i, isi_bool_s, isi_bool_l, isi_bool_t, isi_str_n, isi_str_b, isi_str_i, isi_str_s, isi_str_l, isi_str_t, isi_list_n, isi_list_b, isi_list_i, isi_list_s, isi_list_l, isi_list_t, isi_tuple_n, isi_tuple_b, isi_tuple_i, isi_tuple_s, isi_tuple_l, isi_tuple_t, isi_dict_n, isi_dict_b, isi_dict_i, isi_dict_s, isi_dict_l, isi_dict_t, nh_d, nh_l, nh_k, nh_o, nh_fn, nh_fc, ss3_0, sat_n, sat_0, sat_c, sup_n, sup_c, supc_0, fsg_c, fsg_n, fss_c, fss_n, pbs_0, pb_t, so_t, ssOf_t, gIx_l, gIx_t, S_k, Option.map_none, h, cnOf_pD]
/-! ### the law's strict test; both tests are the program's -/
theorem mk23 {c : CS} {s t : S} : mkF 2 3 [] c [s, t] = finish [] [s, t] (c [some s, some t, none]) := rfl
theorem insB_3 {P : List Cn} {q : Hm} (h : 3 ≤ P.length) : insB P q = (List.range P.length).all fun (k : Nat) => decide (0 < hh (cycK P (0 + (k : Int) - 1)) (cycK P (0 + (k : Int))) q) := by
  unfold insB
  rw [decide_eq_true h, Bool.true_and, bnds_3 h, List.all_map]
  congr 1
  funext k
  simp only [Function.comp, hov_hpl]
theorem strict_spec {P : List Cn} {q : Hm} (hs : ∀ c ∈ P, Sm c) (hl : P.length ≤ 1000) (hq : Hs q) : F_u_law_strict [.dat (hD q), .dat (.list (P.map cD))] = .ok (.dat (.bool (insB P q))) [.dat (hD q), .dat (.list (P.map cD))] := by
  unfold F_u_law_strict M_u_law_strict
  by_cases h3 : 3 ≤ P.length
  · have d3 : decide ((P.length : Int) < 3) = false := decide_eq_false (by omega)
    rw [insB_3 h3]
    have lc : cLc [2] (ciRange1 (caCons (cB1 gLen (cbN 1)) (caNil))) (cgName 2) (cK (.bool true)) (c2 gGt (cCall F_u_law_det (cxD (cB2 gIx (cbN 1) (c2 gSub (cV 2) (cK (.int 1)))) (cxD (cB2 gIx (cbN 1) (cV 2)) (cxD (cV 0) (cxNil))))) (cK (.int 0))) [some (.dat (hD q)), some (.dat (.list (P.map cD))), none] =
        .ok (.lst ((rangeL 0 P.length).map fun d => match d with
          | .int k => .bool (decide (0 < hh (cycK P (k - 1)) (cycK P k) q))
          | _ => .none)) [some (.dat (hD q)), some (.dat (.list (P.map cD))), none] := by
      have sm : Sml (P.length : Int) := by unfold Sml; omega
      have tn : (P.length : Int).toNat = P.length := rfl
      refine cLc_map (ρ1 := [some (.dat (hD q)), some (.dat (.list (P.map cD))), none]) _ ?_ rfl (by rw [rangeL_length]; have := ch_cls; omega) fun d hd => ?_
      · simp -implicitDefEqProofs only [k1_0, k1_e, k1_c, c1_r, k2b_0, k2b_e, k2b_c, k2a_0, k2a_e, k2a_c, c2_r, kN_0, kN_e, kN_c, cN_r, kTup_0, kTup_e, kTup_c, cTup_r, kLst_0, kLst_e, kLst_c, cLst_r, cK_r, caNil_r, kcb_0, kcb_e, kcb_c, kca_0, kca_e, kca_c, caCons_r, cxNil_r, kxb_0, kxb_e, kxb_c, kxa_0, kxa_e, kxa_c, cxD_r, cxS_r, kxs_0, cCall_r, kc1_0, kc1_e, kc2_0, kc3_0, kc3_e, kc3_c, ssOf_n, ss1_0, ss2_0, ssOf_d, ssOf_s, pb_n, pb_d, pb_s, so_n, so_d, so_s, di_n, di_1, di_c, cSeq_r, cNext_r, cRetN_r, cBrk_r, cCnt_r, kRet_0, kRet_e, kRet_c, cRet_r, kDrop_0, kDrop_e, kDrop_c, cDrop_r, kSet_0, kSet_e, kSet_c, cSet_r, kAs_0, kAsg_0, kAsg_e, kAsg_c, cAsg_r, cgName_r, cgNil_r, kgc_0, cgCons_r, cgTup_r, cgLst_r, kPar_0, kPar_e, kPar_c, cPar_r, kPar3_0, kPar3_e, kPar3_c, cPar3_r, kap3_0, kap2_0, kap2_e, kap2_c, kap1_0, cApp_r, ksi3_0, ksi4_0, ksi2_0, ksi2_e, ksi2_c, ksi1_0, ksi0_0, ksi0_e, ksi0_c, cSetIx_r, kix_l, kix_t, kix_s, kSq_0, kSq_e, kSq_c, ciSeq_r, kr1_e, kr1_c, ciRange1_r, kr2_e, kr2_c, ciRange2_r, kFor_0, kFor_e, kFor_c, cFor_r, forL_c, forL_n, kf1_0, kf2_nx, kf2_ct, kf2_bk, kf2_rt, kf2_exc, kf2_cond, kb_0, kbb_0, kb1_0, kb1_c, kb1_e, cB1_r, kb3_0, kb3_e, kb3_c, kb2_0, kb2_c, kb2_e, cB2_r, kres_0, res_d, res_s, kbn_0, cbN_r, kbD_0, kbD_e, kbD_c, cbD_r, kv_0, cV_r, kvm_0, cVm_r, cV_0, st_0, gt_0, cV_1, st_1, gt_1, cV_2, st_2, gt_2, cV_3, st_3, gt_3, cV_4, st_4, gt_4, cV_5, st_5, gt_5, cV_6, st_6, gt_6, cV_7, st_7, gt_7, cV_8, st_8, gt_8, cV_9, st_9, gt_9, cV_10, st_10, gt_10, cV_11, st_11, gt_11, cV_12, st_12, gt_12, cV_13, st_13, gt_13, cV_14, st_14, gt_14, cV_15, st_15, gt_15, cV_16, st_16, gt_16, cV_17, st_17, gt_17, cV_18, st_18, gt_18, cV_19, st_19, gt_19, cV_20, st_20, gt_20, cV_21, st_21, gt_21, cV_22, st_22, gt_22, cV_23, st_23, gt_23, tCh2_0, tCh2_e, tCh1_0, tCh0b_0, tCh0b_e, tCh0a_0, tCh0a_e, cChain_r, lcL_nil, lcL_c, ml1_0, ml2_t, ml2_f, ml2_b, ml3_0, ml5_0, ml4_0, ml4_e, ml4_c, nO_d, nO_n, nO_l, noOwn_n, noOwn_c, wipe_n, wipe_c, rsE_0, rest_n, rest_c, mkF_r, fo_0, fx_0, fin_nx', fin_rt', fin_exc', ob_0, og_0, od_0, outs_n, outs_c, lift_some, S_d, S_l, gAdd, gSub, gNeg, gNot, gLt, gLe, gGt, gGe, gEq_ii, gNe_ii, gLen, gAbs, gInt, tru_b, gMax2, gMin2, gGcd, gList, gTuple, gAll, gAny, bools_nil, bools_cons, gIs_bb, gIsN_bb, gPow, gMul, gFd, gMod, atI_0, atI_1, atI_2, atI_3, ixL_1, ixL_2, ixL_3, ixN_41, ixN_42, ixN_43, List.getElem?_cons_zero, List.getElem?_cons_succ, List.set_cons_zero, List.set_cons_succ, List.map_cons, List.map_nil, List.length_cons, List.length_nil, List.cons_append, List.nil_append, List.replicate_succ, List.replicate_zero, List.length_map, ↓cond_true, ↓cond_false, cond_true, cond_false, Option.map_some, beq_self_eq_true, List.contains_cons, List.contains_nil, Bool.or_false, Bool.false_or, Bool.or_true, Bool.and_true, Bool.true_and, Bool.not_true, Bool.not_false, Nat.reduceBEq, Nat.reduceAdd, Nat.reduceSub, Nat.reduceEqDiff, reduceCtorEq, Bool.false_eq_true, sq_nx, sq_rt, sq_bad, sq_bk, sq_ct, sq_exc, dz0, dz1, dz2, dz3, dz4, dz5, dz6, dz7, dz8, dz9, dz10, dz11, dz12, ic0, ic1, ic2, ic3, ic4, tAnd_ok, tOr_ok, tIf_ok, tIfS_ok, tAnd_exc, tOr_exc, tIf_exc, tIfS_exc, cAnd_t, cOr_t, cIf_t, cIfS_t, co_and, co_or, tAnd_cond, tOr_cond, tIfS_cond, sq_cond, fin_cond, rangeL_2, rangeL_3, List.all_cons, List.all_nil, List.any_cons, List.any_nil, id, rng1_t, rng2_t, Int.reduceToNat, if_true, ite_true, if_false, eq_self, decide_true, decide_false, isi_int_n, isi_int_b, isi_int_i, isi_int_s, isi_int_l, isi_int_t, isi_bool_n, isi_bool_b, isi_bool_i, isi_bool_s, isi_bool_l, isi_bool_t, isi_str_n, isi_str_b, isi_str_i, isi_str_s, isi_str_l, isi_str_t, isi_list_n, isi_list_b, isi_list_i, isi_list_s, isi_list_l, isi_list_t, isi_tuple_n, isi_tuple_b, isi_tuple_i, isi_tuple_s, isi_tuple_l, isi_tuple_t, isi_dict_n, isi_dict_b, isi_dict_i, isi_dict_s, isi_dict_l, isi_dict_t, nh_d, nh_l, nh_k, nh_o, nh_fn, nh_fc, ss3_0, sat_n, sat_0, sat_c, sup_n, sup_c, supc_0, fsg_c, fsg_n, fss_c, fss_n, pbs_0, pb_t, so_t, ssOf_t, gIx_l, gIx_t, S_k, Option.map_none, kr1_s sm, tn]
      · obtain ⟨k, hk, rfl⟩ := List.mem_map.mp hd
        have hk := List.mem_range.mp hk
        have m1 := cycK_mem (P := P) (k := 0 + (k : Int) - 1) (by omega) (by omega)
        have m2 := cycK_mem (P := P) (k := 0 + (k : Int)) (by omega) (by omega)
        have f1 : atI (P.map cD) (0 + (k : Int) - 1) = some (cD (cycK P (0 + (k : Int) - 1))) := by rw [atI_map, m1.1]; rfl
        have f2 : atI (P.map cD) (0 + (k : Int)) = some (cD (cycK P (0 + (k : Int)))) := by rw [atI_map, m2.1]; rfl
        have dd := det_spec (hs_one (hs _ m1.2)) (hs_one (hs _ m2.2)) hq
        rw [dt_one] at dd
        refine ⟨[some (.dat (hD q)), some (.dat (.list (P.map cD))), some (.dat (.int (0 + (k : Int))))], [some (.dat (hD q)), some (.dat (.list (P.map cD))), some (.dat (.int (0 + (k : Int))))], [some (.dat (hD q)), some (.dat (.list (P.map cD))), some (.dat (.int (0 + (k : Int))))], .dat (.bool (decide (0 < hh (cycK P (0 + (k : Int) - 1)) (cycK P (0 + (k : Int))) q))), rfl, rfl, ?_, rfl, rfl⟩
        generalize (0 + (k : Int)) = j at *
        unfold cD at *
        simp -implicitDefEqProofs only [k1_0, k1_e, k1_c, c1_r, k2b_0, k2b_e, k2b_c, k2a_0, k2a_e, k2a_c, c2_r, kN_0, kN_e, kN_c, cN_r, kTup_0, kTup_e, kTup_c, cTup_r, kLst_0, kLst_e, kLst_c, cLst_r, cK_r, caNil_r, kcb_0, kcb_e, kcb_c, kca_0, kca_e, kca_c, caCons_r, cxNil_r, kxb_0, kxb_e, kxb_c, kxa_0, kxa_e, kxa_c, cxD_r, cxS_r, kxs_0, cCall_r, kc1_0, kc1_e, kc2_0, kc3_0, kc3_e, kc3_c, ssOf_n, ss1_0, ss2_0, ssOf_d, ssOf_s, pb_n, pb_d, pb_s, so_n, so_d, so_s, di_n, di_1, di_c, cSeq_r, cNext_r, cRetN_r, cBrk_r, cCnt_r, kRet_0, kRet_e, kRet_c, cRet_r, kDrop_0, kDrop_e, kDrop_c, cDrop_r, kSet_0, kSet_e, kSet_c, cSet_r, kAs_0, kAsg_0, kAsg_e, kAsg_c, cAsg_r, cgName_r, cgNil_r, kgc_0, cgCons_r, cgTup_r, cgLst_r, kPar_0, kPar_e, kPar_c, cPar_r, kPar3_0, kPar3_e, kPar3_c, cPar3_r, kap3_0, kap2_0, kap2_e, kap2_c, kap1_0, cApp_r, ksi3_0, ksi4_0, ksi2_0, ksi2_e, ksi2_c, ksi1_0, ksi0_0, ksi0_e, ksi0_c, cSetIx_r, kix_l, kix_t, kix_s, kSq_0, kSq_e, kSq_c, ciSeq_r, kr1_0, kr1_e, kr1_c, ciRange1_r, kr2_0, kr2_e, kr2_c, ciRange2_r, kFor_0, kFor_e, kFor_c, cFor_r, forL_c, forL_n, kf1_0, kf2_nx, kf2_ct, kf2_bk, kf2_rt, kf2_exc, kf2_cond, kb_0, kbb_0, kb1_0, kb1_c, kb1_e, cB1_r, kb3_0, kb3_e, kb3_c, kb2_0, kb2_c, kb2_e, cB2_r, kres_0, res_d, res_s, kbn_0, cbN_r, kbD_0, kbD_e, kbD_c, cbD_r, kv_0, cV_r, kvm_0, cVm_r, cV_0, st_0, gt_0, cV_1, st_1, gt_1, cV_2, st_2, gt_2, cV_3, st_3, gt_3, cV_4, st_4, gt_4, cV_5, st_5, gt_5, cV_6, st_6, gt_6, cV_7, st_7, gt_7, cV_8, st_8, gt_8, cV_9, st_9, gt_9, cV_10, st_10, gt_10, cV_11, st_11, gt_11, cV_12, st_12, gt_12, cV_13, st_13, gt_13, cV_14, st_14, gt_14, cV_15, st_15, gt_15, cV_16, st_16, gt_16, cV_17, st_17, gt_17, cV_18, st_18, gt_18, cV_19, st_19, gt_19, cV_20, st_20, gt_20, cV_21, st_21, gt_21, cV_22, st_22, gt_22, cV_23, st_23, gt_23, tCh2_0, tCh2_e, tCh1_0, tCh0b_0, tCh0b_e, tCh0a_0, tCh0a_e, cChain_r, lcL_nil, lcL_c, ml1_0, ml2_t, ml2_f, ml2_b, ml3_0, ml5_0, ml4_0, ml4_e, ml4_c, cLc_r, nO_d, nO_n, nO_l, noOwn_n, noOwn_c, wipe_n, wipe_c, rsE_0, rest_n, rest_c, mkF_r, fo_0, fx_0, fin_nx', fin_rt', fin_exc', ob_0, og_0, od_0, outs_n, outs_c, lift_some, S_d, S_l, gAdd, gSub, gNeg, gNot, gLt, gLe, gGt, gGe, gEq_ii, gNe_ii, gLen, gAbs, gInt, tru_b, gMax2, gMin2, gGcd, gList, gTuple, gAll, gAny, bools_nil, bools_cons, gIs_bb, gIsN_bb, gPow, gMul, gFd, gMod, atI_0, atI_1, atI_2, atI_3, ixL_1, ixL_2, ixL_3, ixN_41, ixN_42, ixN_43, List.getElem?_cons_zero, List.getElem?_cons_succ, List.set_cons_zero, List.set_cons_succ, List.map_cons, List.map_nil, List.length_cons, List.length_nil, List.cons_append, List.nil_append, List.replicate_succ, List.replicate_zero, List.length_map, ↓cond_true, ↓cond_false, cond_true, cond_false, Option.map_some, beq_self_eq_true, List.contains_cons, List.contains_nil, Bool.or_false, Bool.false_or, Bool.or_true, Bool.and_true, Bool.true_and, Bool.not_true, Bool.not_false, Nat.reduceBEq, Nat.reduceAdd, Nat.reduceSub, Nat.reduceEqDiff, reduceCtorEq, Bool.false_eq_true, sq_nx, sq_rt, sq_bad, sq_bk, sq_ct, sq_exc, dz0, dz1, dz2, dz3, dz4, dz5, dz6, dz7, dz8, dz9, dz10, dz11, dz12, ic0, ic1, ic2, ic3, ic4, tAnd_ok, tOr_ok, tIf_ok, tIfS_ok, tAnd_exc, tOr_exc, tIf_exc, tIfS_exc, cAnd_t, cOr_t, cIf_t, cIfS_t, co_and, co_or, tAnd_cond, tOr_cond, tIfS_cond, sq_cond, fin_cond, rangeL_2, rangeL_3, List.all_cons, List.all_nil, List.any_cons, List.any_nil, id, rng1_t, rng2_t, Int.reduceToNat, if_true, ite_true, if_false, eq_self, decide_true, decide_false, isi_int_n, isi_int_b, isi_int_i, isi_int_s, isi_int_l, isi_int_t, isi_bool_n, isi_bool_b, isi_bool_i, isi_bool_s, isi_bool_l, isi_bool_t, isi_str_n, isi_str_b, isi_str_i, isi_str_s, isi_str_l, isi_str_t, isi_list_n, isi_list_b, isi_list_i, isi_list_s, isi_list_l, isi_list_t, isi_tuple_n, isi_tuple_b, isi_tuple_i, isi_tuple_s, isi_tuple_l, isi_tuple_t, isi_dict_n, isi_dict_b, isi_dict_i, isi_dict_s, isi_dict_l, isi_dict_t, nh_d, nh_l, nh_k, nh_o, nh_fn, nh_fc, ss3_0, sat_n, sat_0, sat_c, sup_n, sup_c, supc_0, fsg_c, fsg_n, fss_c, fss_n, pbs_0, pb_t, so_t, ssOf_t, gIx_l, gIx_t, S_k, Option.map_none, f1, f2, dd, sg_pos]
    have lm : ((rangeL 0 P.length).map fun d => match d with
          | .int k => PyData.bool (decide (0 < hh (cycK P (k - 1)) (cycK P k) q))
          | _ => .none) = (List.range P.length).map fun (k : Nat) => .bool (decide (0 < hh (cycK P (0 + (k : Int) - 1)) (cycK P (0 + (k : Int))) q)) := by
      unfold rangeL
      rw [List.map_map]
      rfl
    rw [lm] at lc
    rw [mk23, cSeq_r]
    simp -implicitDefEqProofs only [k1_0, k1_e, k1_c, c1_r, k2b_0, k2b_e, k2b_c, k2a_0, k2a_e, k2a_c, c2_r, kN_0, kN_e, kN_c, cN_r, kTup_0, kTup_e, kTup_c, cTup_r, kLst_0, kLst_e, kLst_c, cLst_r, cK_r, caNil_r, kcb_0, kcb_e, kcb_c, kca_0, kca_e, kca_c, caCons_r, cxNil_r, kxb_0, kxb_e, kxb_c, kxa_0, kxa_e, kxa_c, cxD_r, cxS_r, kxs_0, cCall_r, kc1_0, kc1_e, kc2_0, kc3_0, kc3_e, kc3_c, ssOf_n, ss1_0, ss2_0, ssOf_d, ssOf_s, pb_n, pb_d, pb_s, so_n, so_d, so_s, di_n, di_1, di_c, cNext_r, cRetN_r, cBrk_r, cCnt_r, kRet_0, kRet_e, kRet_c, cRet_r, kDrop_0, kDrop_e, kDrop_c, cDrop_r, kSet_0, kSet_e, kSet_c, cSet_r, kAs_0, kAsg_0, kAsg_e, kAsg_c, cAsg_r, cgName_r, cgNil_r, kgc_0, cgCons_r, cgTup_r, cgLst_r, kPar_0, kPar_e, kPar_c, cPar_r, kPar3_0, kPar3_e, kPar3_c, cPar3_r, kap3_0, kap2_0, kap2_e, kap2_c, kap1_0, cApp_r, ksi3_0, ksi4_0, ksi2_0, ksi2_e, ksi2_c, ksi1_0, ksi0_0, ksi0_e, ksi0_c, cSetIx_r, kix_l, kix_t, kix_s, kSq_0, kSq_e, kSq_c, ciSeq_r, kr1_e, kr1_c, ciRange1_r, kr2_e, kr2_c, ciRange2_r, kFor_0, kFor_e, kFor_c, cFor_r, forL_c, forL_n, kf1_0, kf2_nx, kf2_ct, kf2_bk, kf2_rt, kf2_exc, kf2_cond, kb_0, kbb_0, kb1_0, kb1_c, kb1_e, cB1_r, kb3_0, kb3_e, kb3_c, kb2_0, kb2_c, kb2_e, cB2_r, kres_0, res_d, res_s, kbn_0, cbN_r, kbD_0, kbD_e, kbD_c, cbD_r, kv_0, cV_r, kvm_0, cVm_r, cV_0, st_0, gt_0, cV_1, st_1, gt_1, cV_2, st_2, gt_2, cV_3, st_3, gt_3, cV_4, st_4, gt_4, cV_5, st_5, gt_5, cV_6, st_6, gt_6, cV_7, st_7, gt_7, cV_8, st_8, gt_8, cV_9, st_9, gt_9, cV_10, st_10, gt_10, cV_11, st_11, gt_11, cV_12, st_12, gt_12, cV_13, st_13, gt_13, cV_14, st_14, gt_14, cV_15, st_15, gt_15, cV_16, st_16, gt_16, cV_17, st_17, gt_17, cV_18, st_18, gt_18, cV_19, st_19, gt_19, cV_20, st_20, gt_20, cV_21, st_21, gt_21, cV_22, st_22, gt_22, cV_23, st_23, gt_23, tCh2_0, tCh2_e, tCh1_0, tCh0b_0, tCh0b_e, tCh0a_0, tCh0a_e, cChain_r, lcL_nil, lcL_c, ml1_0, ml2_t, ml2_f, ml2_b, ml3_0, ml5_0, ml4_0, ml4_e, ml4_c, nO_d, nO_n, nO_l, noOwn_n, noOwn_c, wipe_n, wipe_c, rsE_0, rest_n, rest_c, mkF_r, fo_0, fx_0, fin_nx', fin_rt', fin_exc', ob_0, og_0, od_0, outs_n, outs_c, lift_some, S_d, S_l, gAdd, gSub, gNeg, gNot, gLt, gLe, gGt, gGe, gEq_ii, gNe_ii, gLen, gAbs, gInt, tru_b, gMax2, gMin2, gGcd, gList, gTuple, gAll, gAny, bools_nil, bools_cons, gIs_bb, gIsN_bb, gPow, gMul, gFd, gMod, atI_0, atI_1, atI_2, atI_3, ixL_1, ixL_2, ixL_3, ixN_41, ixN_42, ixN_43, List.getElem?_cons_zero, List.getElem?_cons_succ, List.set_cons_zero, List.set_cons_succ, List.map_cons, List.map_nil, List.length_cons, List.length_nil, List.cons_append, List.nil_append, List.replicate_succ, List.replicate_zero, List.length_map, ↓cond_true, ↓cond_false, cond_true, cond_false, Option.map_some, beq_self_eq_true, List.contains_cons, List.contains_nil, Bool.or_false, Bool.false_or, Bool.or_true, Bool.and_true, Bool.true_and, Bool.not_true, Bool.not_false, Nat.reduceBEq, Nat.reduceAdd, Nat.reduceSub, Nat.reduceEqDiff, reduceCtorEq, Bool.false_eq_true, sq_nx, sq_rt, sq_bad, sq_bk, sq_ct, sq_exc, dz0, dz1, dz2, dz3, dz4, dz5, dz6, dz7, dz8, dz9, dz10, dz11, dz12, ic0, ic1, ic2, ic3, ic4, tAnd_ok, tOr_ok, tIf_ok, tIfS_ok, tAnd_exc, tOr_exc, tIf_exc, tIfS_exc, cAnd_t, cOr_t, cIf_t, cIfS_t, co_and, co_or, tAnd_cond, tOr_cond, tIfS_cond, sq_cond, fin_cond, rangeL_2, rangeL_3, List.all_cons, List.all_nil, List.any_cons, List.any_nil, id, rng1_t, rng2_t, Int.reduceToNat, if_true, ite_true, if_false, eq_self, decide_true, decide_false, isi_int_n, isi_int_b, isi_int_i, isi_int_s, isi_int_l, isi_int_t, isi_bool_n, isi_bool_b, isi_bool_i, isi_bool_s, isi_bool_l, isi_bool_t, isi_str_n, isi_str_b, isi_str_i, isi_str_s, isi_str_l, isi_str_t, isi_list_n, isi_list_b, isi_list_i, isi_list_s, isi_list_l, isi_list_t, isi_tuple_n, isi_tuple_b, isi_tuple_i, isi_tuple_s, isi_tuple_l, isi_tuple_t, isi_dict_n, isi_dict_b, isi_dict_i, isi_dict_s, isi_dict_l, isi_dict_t, nh_d, nh_l, nh_k, nh_o, nh_fn, nh_fc, ss3_0, sat_n, sat_0, sat_c, sup_n, sup_c, supc_0, fsg_c, fsg_n, fss_c, fss_n, pbs_0, pb_t, so_t, ssOf_t, gIx_l, gIx_t, S_k, Option.map_none, d3]
    simp -implicitDefEqProofs only [k1_0, k1_e, k1_c, c1_r, k2b_0, k2b_e, k2b_c, k2a_0, k2a_e, k2a_c, c2_r, kN_0, kN_e, kN_c, cN_r, kTup_0, kTup_e, kTup_c, cTup_r, kLst_0, kLst_e, kLst_c, cLst_r, cK_r, caNil_r, kcb_0, kcb_e, kcb_c, kca_0, kca_e, kca_c, caCons_r, cxNil_r, kxb_0, kxb_e, kxb_c, kxa_0, kxa_e, kxa_c, cxD_r, cxS_r, kxs_0, cCall_r, kc1_0, kc1_e, kc2_0, kc3_0, kc3_e, kc3_c, ssOf_n, ss1_0, ss2_0, ssOf_d, ssOf_s, pb_n, pb_d, pb_s, so_n, so_d, so_s, di_n, di_1, di_c, cNext_r, cRetN_r, cBrk_r, cCnt_r, kRet_0, kRet_e, kRet_c, cRet_r, kDrop_0, kDrop_e, kDrop_c, cDrop_r, kSet_0, kSet_e, kSet_c, cSet_r, kAs_0, kAsg_0, kAsg_e, kAsg_c, cAsg_r, cgName_r, cgNil_r, kgc_0, cgCons_r, cgTup_r, cgLst_r, kPar_0, kPar_e, kPar_c, cPar_r, kPar3_0, kPar3_e, kPar3_c, cPar3_r, kap3_0, kap2_0, kap2_e, kap2_c, kap1_0, cApp_r, ksi3_0, ksi4_0, ksi2_0, ksi2_e, ksi2_c, ksi1_0, ksi0_0, ksi0_e, ksi0_c, cSetIx_r, kix_l, kix_t, kix_s, kSq_0, kSq_e, kSq_c, ciSeq_r, kr1_e, kr1_c, ciRange1_r, kr2_e, kr2_c, ciRange2_r, kFor_0, kFor_e, kFor_c, cFor_r, forL_c, forL_n, kf1_0, kf2_nx, kf2_ct, kf2_bk, kf2_rt, kf2_exc, kf2_cond, kb_0, kbb_0, kb1_0, kb1_c, kb1_e, cB1_r, kb3_0, kb3_e, kb3_c, kb2_0, kb2_c, kb2_e, cB2_r, kres_0, res_d, res_s, kbn_0, cbN_r, kbD_0, kbD_e, kbD_c, cbD_r, kv_0, cV_r, kvm_0, cVm_r, cV_0, st_0, gt_0, cV_1, st_1, gt_1, cV_2, st_2, gt_2, cV_3, st_3, gt_3, cV_4, st_4, gt_4, cV_5, st_5, gt_5, cV_6, st_6, gt_6, cV_7, st_7, gt_7, cV_8, st_8, gt_8, cV_9, st_9, gt_9, cV_10, st_10, gt_10, cV_11, st_11, gt_11, cV_12, st_12, gt_12, cV_13, st_13, gt_13, cV_14, st_14, gt_14, cV_15, st_15, gt_15, cV_16, st_16, gt_16, cV_17, st_17, gt_17, cV_18, st_18, gt_18, cV_19, st_19, gt_19, cV_20, st_20, gt_20, cV_21, st_21, gt_21, cV_22, st_22, gt_22, cV_23, st_23, gt_23, tCh2_0, tCh2_e, tCh1_0, tCh0b_0, tCh0b_e, tCh0a_0, tCh0a_e, cChain_r, lcL_nil, lcL_c, ml1_0, ml2_t, ml2_f, ml2_b, ml3_0, ml5_0, ml4_0, ml4_e, ml4_c, nO_d, nO_n, nO_l, noOwn_n, noOwn_c, wipe_n, wipe_c, rsE_0, rest_n, rest_c, mkF_r, fo_0, fx_0, fin_nx', fin_rt', fin_exc', ob_0, og_0, od_0, outs_n, outs_c, lift_some, S_d, S_l, gAdd, gSub, gNeg, gNot, gLt, gLe, gGt, gGe, gEq_ii, gNe_ii, gLen, gAbs, gInt, tru_b, gMax2, gMin2, gGcd, gList, gTuple, gAll, gAny, bools_nil, bools_cons, gIs_bb, gIsN_bb, gPow, gMul, gFd, gMod, atI_0, atI_1, atI_2, atI_3, ixL_1, ixL_2, ixL_3, ixN_41, ixN_42, ixN_43, List.getElem?_cons_zero, List.getElem?_cons_succ, List.set_cons_zero, List.set_cons_succ, List.map_cons, List.map_nil, List.length_cons, List.length_nil, List.cons_append, List.nil_append, List.replicate_succ, List.replicate_zero, List.length_map, ↓cond_true, ↓cond_false, cond_true, cond_false, Option.map_some, beq_self_eq_true, List.contains_cons, List.contains_nil, Bool.or_false, Bool.false_or, Bool.or_true, Bool.and_true, Bool.true_and, Bool.not_true, Bool.not_false, Nat.reduceBEq, Nat.reduceAdd, Nat.reduceSub, Nat.reduceEqDiff, reduceCtorEq, Bool.false_eq_true, sq_nx, sq_rt, sq_bad, sq_bk, sq_ct, sq_exc, dz0, dz1, dz2, dz3, dz4, dz5, dz6, dz7, dz8, dz9, dz10, dz11, dz12, ic0, ic1, ic2, ic3, ic4, tAnd_ok, tOr_ok, tIf_ok, tIfS_ok, tAnd_exc, tOr_exc, tIf_exc, tIfS_exc, cAnd_t, cOr_t, cIf_t, cIfS_t, co_and, co_or, tAnd_cond, tOr_cond, tIfS_cond, sq_cond, fin_cond, rangeL_2, rangeL_3, List.all_cons, List.all_nil, List.any_cons, List.any_nil, id, rng1_t, rng2_t, Int.reduceToNat, if_true, ite_true, if_false, eq_self, decide_true, decide_false, isi_int_n, isi_int_b, isi_int_i, isi_int_s, isi_int_l, isi_int_t, isi_bool_n, isi_bool_b, isi_bool_i, isi_bool_s, isi_bool_l, isi_bool_t, isi_str_n, isi_str_b, isi_str_i, isi_str_s, isi_str_l, isi_str_t, isi_list_n, isi_list_b, isi_list_i, isi_list_s, isi_list_l, isi_list_t, isi_tuple_n, isi_tuple_b, isi_tuple_i, isi_tuple_s, isi_tuple_l, isi_tuple_t, isi_dict_n, isi_dict_b, isi_dict_i, isi_dict_s, isi_dict_l, isi_dict_t, nh_d, nh_l, nh_k, nh_o, nh_fn, nh_fc, ss3_0, sat_n, sat_0, sat_c, sup_n, sup_c, supc_0, fsg_c, fsg_n, fss_c, fss_n, pbs_0, pb_t, so_t, ssOf_t, gIx_l, gIx_t, S_k, Option.map_none, lc, bools_map, all_mid]
  · have d3 : decide ((P.length : Int) < 3) = true := decide_eq_true (by omega)
    have e : insB P q = false := by unfold insB; rw [decide_eq_false h3, Bool.false_and]
    rw [e, mk23, cSeq_r]
    simp -implicitDefEqProofs only [k1_0, k1_e, k1_c, c1_r, k2b_0, k2b_e, k2b_c, k2a_0, k2a_e, k2a_c, c2_r, kN_0, kN_e, kN_c, cN_r, kTup_0, kTup_e, kTup_c, cTup_r, kLst_0, kLst_e, kLst_c, cLst_r, cK_r, caNil_r, kcb_0, kcb_e, kcb_c, kca_0, kca_e, kca_c, caCons_r, cxNil_r, kxb_0, kxb_e, kxb_c, kxa_0, kxa_e, kxa_c, cxD_r, cxS_r, kxs_0, cCall_r, kc1_0, kc1_e, kc2_0, kc3_0, kc3_e, kc3_c, ssOf_n, ss1_0, ss2_0, ssOf_d, ssOf_s, pb_n, pb_d, pb_s, so_n, so_d, so_s, di_n, di_1, di_c, cNext_r, cRetN_r, cBrk_r, cCnt_r, kRet_0, kRet_e, kRet_c, cRet_r, kDrop_0, kDrop_e, kDrop_c, cDrop_r, kSet_0, kSet_e, kSet_c, cSet_r, kAs_0, kAsg_0, kAsg_e, kAsg_c, cAsg_r, cgName_r, cgNil_r, kgc_0, cgCons_r, cgTup_r, cgLst_r, kPar_0, kPar_e, kPar_c, cPar_r, kPar3_0, kPar3_e, kPar3_c, cPar3_r, kap3_0, kap2_0, kap2_e, kap2_c, kap1_0, cApp_r, ksi3_0, ksi4_0, ksi2_0, ksi2_e, ksi2_c, ksi1_0, ksi0_0, ksi0_e, ksi0_c, cSetIx_r, kix_l, kix_t, kix_s, kSq_0, kSq_e, kSq_c, ciSeq_r, kr1_e, kr1_c, ciRange1_r, kr2_e, kr2_c, ciRange2_r, kFor_0, kFor_e, kFor_c, cFor_r, forL_c, forL_n, kf1_0, kf2_nx, kf2_ct, kf2_bk, kf2_rt, kf2_exc, kf2_cond, kb_0, kbb_0, kb1_0, kb1_c, kb1_e, cB1_r, kb3_0, kb3_e, kb3_c, kb2_0, kb2_c, kb2_e, cB2_r, kres_0, res_d, res_s, kbn_0, cbN_r, kbD_0, kbD_e, kbD_c, cbD_r, kv_0, cV_r, kvm_0, cVm_r, cV_0, st_0, gt_0, cV_1, st_1, gt_1, cV_2, st_2, gt_2, cV_3, st_3, gt_3, cV_4, st_4, gt_4, cV_5, st_5, gt_5, cV_6, st_6, gt_6, cV_7, st_7, gt_7, cV_8, st_8, gt_8, cV_9, st_9, gt_9, cV_10, st_10, gt_10, cV_11, st_11, gt_11, cV_12, st_12, gt_12, cV_13, st_13, gt_13, cV_14, st_14, gt_14, cV_15, st_15, gt_15, cV_16, st_16, gt_16, cV_17, st_17, gt_17, cV_18, st_18, gt_18, cV_19, st_19, gt_19, cV_20, st_20, gt_20, cV_21, st_21, gt_21, cV_22, st_22, gt_22, cV_23, st_23, gt_23, tCh2_0, tCh2_e, tCh1_0, tCh0b_0, tCh0b_e, tCh0a_0, tCh0a_e, cChain_r, lcL_nil, lcL_c, ml1_0, ml2_t, ml2_f, ml2_b, ml3_0, ml5_0, ml4_0, ml4_e, ml4_c, nO_d, nO_n, nO_l, noOwn_n, noOwn_c, wipe_n, wipe_c, rsE_0, rest_n, rest_c, mkF_r, fo_0, fx_0, fin_nx', fin_rt', fin_exc', ob_0, og_0, od_0, outs_n, outs_c, lift_some, S_d, S_l, gAdd, gSub, gNeg, gNot, gLt, gLe, gGt, gGe, gEq_ii, gNe_ii, gLen, gAbs, gInt, tru_b, gMax2, gMin2, gGcd, gList, gTuple, gAll, gAny, bools_nil, bools_cons, gIs_bb, gIsN_bb, gPow, gMul, gFd, gMod, atI_0, atI_1, atI_2, atI_3, ixL_1, ixL_2, ixL_3, ixN_41, ixN_42, ixN_43, List.getElem?_cons_zero, List.getElem?_cons_succ, List.set_cons_zero, List.set_cons_succ, List.map_cons, List.map_nil, List.length_cons, List.length_nil, List.cons_append, List.nil_append, List.replicate_succ, List.replicate_zero, List.length_map, ↓cond_true, ↓cond_false, cond_true, cond_false, Option.map_some, beq_self_eq_true, List.contains_cons, List.contains_nil, Bool.or_false, Bool.false_or, Bool.or_true, Bool.and_true, Bool.true_and, Bool.not_true, Bool.not_false, Nat.reduceBEq, Nat.reduceAdd, Nat.reduceSub, Nat.reduceEqDiff, reduceCtorEq, Bool.false_eq_true, sq_nx, sq_rt, sq_bad, sq_bk, sq_ct, sq_exc, dz0, dz1, dz2, dz3, dz4, dz5, dz6, dz7, dz8, dz9, dz10, dz11, dz12, ic0, ic1, ic2, ic3, ic4, tAnd_ok, tOr_ok, tIf_ok, tIfS_ok, tAnd_exc, tOr_exc, tIf_exc, tIfS_exc, cAnd_t, cOr_t, cIf_t, cIfS_t, co_and, co_or, tAnd_cond, tOr_cond, tIfS_cond, sq_cond, fin_cond, rangeL_2, rangeL_3, List.all_cons, List.all_nil, List.any_cons, List.any_nil, id, rng1_t, rng2_t, Int.reduceToNat, if_true, ite_true, if_false, eq_self, decide_true, decide_false, isi_int_n, isi_int_b, isi_int_i, isi_int_s, isi_int_l, isi_int_t, isi_bool_n, isi_bool_b, isi_bool_i, isi_bool_s, isi_bool_l, isi_bool_t, isi_str_n, isi_str_b, isi_str_i, isi_str_s, isi_str_l, isi_str_t, isi_list_n, isi_list_b, isi_list_i, isi_list_s, isi_list_l, isi_list_t, isi_tuple_n, isi_tuple_b, isi_tuple_i, isi_tuple_s, isi_tuple_l, isi_tuple_t, isi_dict_n, isi_dict_b, isi_dict_i, isi_dict_s, isi_dict_l, isi_dict_t, nh_d, nh_l, nh_k, nh_o, nh_fn, nh_fc, ss3_0, sat_n, sat_0, sat_c, sup_n, sup_c, supc_0, fsg_c, fsg_n, fss_c, fss_n, pbs_0, pb_t, so_t, ssOf_t, gIx_l, gIx_t, S_k, Option.map_none, d3]
/-! #### plain: in by bounds, in by the law's test -/
theorem prs_ix {z : Cn} : ∀ {r : List Cn} {a : Cn} {e : Cn × Cn}, e ∈ prs a r z → ∃ i, (a :: r)[i]? = some e.1 ∧ ((a :: r)[i + 1]? = some e.2 ∨ (i = r.length ∧ e.2 = z))
  | [], a, e, h => by
    rw [List.mem_singleton.mp h]
    exact ⟨0, rfl, .inr ⟨rfl, rfl⟩⟩
  | b :: r, a, e, h => by
    rcases List.mem_cons.mp h with rfl | h
    · exact ⟨0, rfl, .inl rfl⟩
    · obtain ⟨i, h1, h2⟩ := prs_ix h
      exact ⟨i + 1, by simpa using h1, h2.imp (fun h => by simpa using h) fun h => ⟨by simp [h.1], h.2⟩⟩
theorem cyc_of {p : Cn} {r : List Cn} {i : Nat} {x y : Cn} (h1 : (p :: r)[i]? = some x) (h2 : (p :: r)[i + 1]? = some y ∨ (i = r.length ∧ y = p)) : ∃ k : Nat, k < (p :: r).length ∧ cycK (p :: r) (0 + (k : Int) - 1) = x ∧ cycK (p :: r) (0 + (k : Int)) = y := by
  rcases h2 with h2 | ⟨rfl, rfl⟩
  · have hl := (List.getElem?_eq_some_iff.mp h2).1
    refine ⟨i + 1, hl, ?_, ?_⟩
    · unfold cycK
      rw [atI_pos (j := i) (by omega) h1]; rfl
    · unfold cycK
      rw [atI_pos (j := i + 1) (by omega) h2]; rfl
  · refine ⟨0, by simp, ?_, ?_⟩
    · unfold cycK
      rw [atI_neg (j := 1) (by decide) (by omega) (by simp) (by simpa using h1)]; rfl
    · unfold cycK
      rw [atI_pos (j := 0) (by omega) (by rfl)]; rfl
theorem sq_nn (x : Int) : 0 ≤ x * x := by
  rcases Int.lt_or_le x 0 with h | h
  · have := mul_nn (show 0 ≤ -x by omega) (show 0 ≤ -x by omega)
    rwa [Int.neg_mul_neg] at this
  · exact mul_nn h h
theorem line_eq {dx dy ux uy w : Int} (hw : 0 < w) (hd : dx ≠ 0 ∨ dy ≠ 0) (hc : dx * uy = dy * ux) : (0 ≤ dx * ux + dy * uy ∧ 0 ≤ dx * (dx * w - ux) + dy * (dy * w - uy)) ↔
    (((0 ≤ ux ∧ ux ≤ dx * w) ∨ (dx * w ≤ ux ∧ ux ≤ 0)) ∧ ((0 ≤ uy ∧ uy ≤ dy * w) ∨ (dy * w ≤ uy ∧ uy ≤ 0))) := by
  have n2 : 0 < dx * dx + dy * dy := by
    have a := mul_nn (show 0 ≤ (dx.natAbs : Int) by omega) (show 0 ≤ (dx.natAbs : Int) by omega)
    have b := mul_nn (show 0 ≤ (dy.natAbs : Int) by omega) (show 0 ≤ (dy.natAbs : Int) by omega)
    have ea : (dx.natAbs : Int) * (dx.natAbs : Int) = dx * dx := Int.natAbs_mul_self
    have eb : (dy.natAbs : Int) * (dy.natAbs : Int) = dy * dy := Int.natAbs_mul_self
    rcases hd with h | h
    · have := mul_ps (show 0 < (dx.natAbs : Int) by omega) (show 0 < (dx.natAbs : Int) by omega)
      omega
    · have := mul_ps (show 0 < (dy.natAbs : Int) by omega) (show 0 < (dy.natAbs : Int) by omega)
      omega
  have one : ∀ {d u : Int}, 0 ≤ d * (d * w - u) → 0 ≤ d * u → (d = 0 → u = 0) → ((0 ≤ u ∧ u ≤ d * w) ∨ (d * w ≤ u ∧ u ≤ 0)) := fun {d u} h1 h2 h3 => by
    rcases Int.lt_trichotomy d 0 with k | k | k
    · right
      have a : 0 ≤ -u := nn_of_mul (show 0 < -d by omega) (by rw [Int.neg_mul_neg]; exact h2)
      have b : 0 ≤ u - d * w := nn_of_mul (show 0 < -d by omega) (by
        have e : -d * (u - d * w) = d * (d * w - u) := by grind
        rw [e]; exact h1)
      omega
    · have := h3 k
      subst k
      left; omega
    · left
      have a : 0 ≤ u := nn_of_mul k h2
      have b : 0 ≤ d * w - u := nn_of_mul k h1
      omega
  have back : ∀ {d u : Int}, ((0 ≤ u ∧ u ≤ d * w) ∨ (d * w ≤ u ∧ u ≤ 0)) → 0 ≤ d * u ∧ 0 ≤ d * (d * w - u) := fun {d u} h => by
    have dn : (0 ≤ u ∧ u ≤ d * w) → 0 ≤ d := fun h => nn_of_mul hw (by rw [Int.mul_comm]; omega)
    have dp : (d * w ≤ u ∧ u ≤ 0) → 0 ≤ -d := fun h => nn_of_mul hw (by rw [Int.mul_neg, Int.mul_comm]; omega)
    rcases h with h | h
    · exact ⟨mul_nn (dn h) h.1, mul_nn (dn h) (by omega)⟩
    · have a := mul_nn (dp h) (show 0 ≤ -u by omega)
      have b := mul_nn (dp h) (show 0 ≤ u - d * w by omega)
      have e1 : -d * -u = d * u := Int.neg_mul_neg _ _
      have e2 : -d * (u - d * w) = d * (d * w - u) := by grind
      rw [e1] at a
      rw [e2] at b
      exact ⟨a, b⟩
  constructor
  · rintro ⟨h1, h2⟩
    have sqx : 0 ≤ dx * dx := sq_nn dx
    have sqy : 0 ≤ dy * dy := sq_nn dy
    have kz : dy * ux - dx * uy = 0 := by omega
    have x1 : 0 ≤ dx * ux := nn_of_mul n2 (by
      have e : (dx * dx + dy * dy) * (dx * ux) = dx * dx * (dx * ux + dy * uy) + dx * dy * (dy * ux - dx * uy) := by grind
      rw [e, kz, Int.mul_zero, Int.add_zero]; exact mul_nn sqx h1)
    have x2 : 0 ≤ dx * (dx * w - ux) := nn_of_mul n2 (by
      have e : (dx * dx + dy * dy) * (dx * (dx * w - ux)) = dx * dx * (dx * (dx * w - ux) + dy * (dy * w - uy)) - dx * dy * (dy * ux - dx * uy) := by grind
      rw [e, kz, Int.mul_zero, Int.sub_zero]; exact mul_nn sqx h2)
    have y1 : 0 ≤ dy * uy := nn_of_mul n2 (by
      have e : (dx * dx + dy * dy) * (dy * uy) = dy * dy * (dx * ux + dy * uy) - dx * dy * (dy * ux - dx * uy) := by grind
      rw [e, kz, Int.mul_zero, Int.sub_zero]; exact mul_nn sqy h1)
    have y2 : 0 ≤ dy * (dy * w - uy) := nn_of_mul n2 (by
      have e : (dx * dx + dy * dy) * (dy * (dy * w - uy)) = dy * dy * (dx * (dx * w - ux) + dy * (dy * w - uy)) + dx * dy * (dy * ux - dx * uy) := by grind
      rw [e, kz, Int.mul_zero, Int.add_zero]; exact mul_nn sqy h2)
    refine ⟨one x2 x1 fun e => ?_, one y2 y1 fun e => ?_⟩
    · subst e
      have : dy * ux = 0 := by omega
      rcases Int.mul_eq_zero.mp this with k | k
      · omega
      · exact k
    · subst e
      have : dx * uy = 0 := by omega
      rcases Int.mul_eq_zero.mp this with k | k
      · omega
      · exact k
  · rintro ⟨h1, h2⟩
    have a := back h1
    have b := back h2
    exact ⟨by omega, by omega⟩
/-! #### both tests are one -/
theorem mid_one {a x b : Int} : Mid a x b ↔ ((a ≤ x ∧ x ≤ b) ∨ (b ≤ x ∧ x ≤ a)) := Iff.rfl
theorem in_eq {s P : List Cn} {q : Hm} (h : Hl s P) (hw : 0 < q.2.2) : inB P q = true ↔ LawIn q P := by
  cases h with
  | @one p hp _ =>
    show ([((1, 0, -p.1) : Hm), (-1, 0, p.1), (0, 1, -p.2), (0, -1, p.2)].all fun b => decide (0 ≤ hov b q)) = true ↔ On q (p.1, p.2, 1) (p.1, p.2, 1)
    have e0 : dt (p.1, p.2, 1) (p.1, p.2, 1) q = 0 := by unfold dt; grind
    have e1 : hov (1, 0, -p.1) q = q.1 - p.1 * q.2.2 := by unfold hov; grind
    have e2 : hov (-1, 0, p.1) q = -(q.1 - p.1 * q.2.2) := by unfold hov; grind
    have e3 : hov (0, 1, -p.2) q = q.2.1 - p.2 * q.2.2 := by unfold hov; grind
    have e4 : hov (0, -1, p.2) q = -(q.2.1 - p.2 * q.2.2) := by unfold hov; grind
    simp only [List.all_cons, List.all_nil, Bool.and_true, Bool.and_eq_true, decide_eq_true_eq, e1, e2, e3, e4, On, Mid, e0, Int.mul_one, true_and]
    generalize p.1 * q.2.2 = u
    generalize p.2 * q.2.2 = v
    omega
  | poly n h1 h2 h3 h4 =>
    rename_i p r
    match r, n with
    | [c], _ =>
      show ([hpl p c, hpl c p, (c.1 - p.1, c.2 - p.2, -((c.1 - p.1) * p.1 + (c.2 - p.2) * p.2)), (-(c.1 - p.1), -(c.2 - p.2), (c.1 - p.1) * c.1 + (c.2 - p.2) * c.2)].all fun b => decide (0 ≤ hov b q)) = true ↔ On q (p.1, p.2, 1) (c.1, c.2, 1)
      have hne : p ≠ c := h4.1.2.1
      have hd : c.1 - p.1 ≠ 0 ∨ c.2 - p.2 ≠ 0 := by
        by_cases e : c.1 = p.1
        · right
          intro e2
          exact hne (Prod.ext e.symm (by omega))
        · left; omega
      have e3 : hov (c.1 - p.1, c.2 - p.2, -((c.1 - p.1) * p.1 + (c.2 - p.2) * p.2)) q = (c.1 - p.1) * (q.1 - p.1 * q.2.2) + (c.2 - p.2) * (q.2.1 - p.2 * q.2.2) := by unfold hov; grind
      have e4 : hov (-(c.1 - p.1), -(c.2 - p.2), (c.1 - p.1) * c.1 + (c.2 - p.2) * c.2) q = (c.1 - p.1) * ((c.1 - p.1) * q.2.2 - (q.1 - p.1 * q.2.2)) + (c.2 - p.2) * ((c.2 - p.2) * q.2.2 - (q.2.1 - p.2 * q.2.2)) := by unfold hov; grind
      have e5 : hh p c q = (c.1 - p.1) * (q.2.1 - p.2 * q.2.2) - (c.2 - p.2) * (q.1 - p.1 * q.2.2) := rfl
      simp only [List.all_cons, List.all_nil, Bool.and_true, Bool.and_eq_true, decide_eq_true_eq, hov_hpl, hh_swap (a := p) (b := c), e3, e4, On, Mid, dt_one, Int.mul_one]
      have key : hh p c q = 0 → _ := fun z => line_eq (dx := c.1 - p.1) (dy := c.2 - p.2) (ux := q.1 - p.1 * q.2.2) (uy := q.2.1 - p.2 * q.2.2) hw hd (by rw [e5] at z; omega)
      have m1 : (c.1 - p.1) * q.2.2 = c.1 * q.2.2 - p.1 * q.2.2 := by grind
      have m2 : (c.2 - p.2) * q.2.2 = c.2 * q.2.2 - p.2 * q.2.2 := by grind
      constructor
      · rintro ⟨a1, a2, a3, a4⟩
        have z : hh p c q = 0 := by omega
        have k := (key z).mp ⟨a3, a4⟩
        rw [m1, m2] at k
        exact ⟨z, by omega, by omega⟩
      · rintro ⟨z, b1, b2⟩
        have k := (key z).mpr (by rw [m1, m2]; exact ⟨by omega, by omega⟩)
        exact ⟨by omega, by omega, k.1, k.2⟩
    | b :: c :: r, _ =>
      have hl3 : 3 ≤ (p :: b :: c :: r).length := by simp
      have e : inB (p :: b :: c :: r) q = true ↔ ∀ k : Nat, k < (p :: b :: c :: r).length → 0 ≤ hh (cycK (p :: b :: c :: r) (0 + (k : Int) - 1)) (cycK (p :: b :: c :: r) (0 + (k : Int))) q := by
        unfold inB
        rw [bnds_3 hl3, List.all_map, List.all_eq_true]
        constructor
        · intro h k hk
          have := h k (List.mem_range.mpr hk)
          simp only [Function.comp, hov_hpl, decide_eq_true_eq] at this
          exact this
        · intro h k hk
          simp only [Function.comp, hov_hpl, decide_eq_true_eq]
          exact h k (List.mem_range.mp hk)
      rw [e]
      have hall : Hl s (p :: b :: c :: r) := Hl.poly (r := b :: c :: r) (by simp) h1 h2 h3 h4
      constructor
      · intro h
        have he : ∀ x ∈ prs p (b :: c :: r) p, 0 ≤ hh x.1 x.2 q := fun x hx => by
          obtain ⟨i, g1, g2⟩ := prs_ix hx
          obtain ⟨k, k1, k2, k3⟩ := cyc_of g1 g2
          have := h k k1
          rw [k2, k3] at this
          exact this
        exact fan_of (by simp) (he (p, b) (by simp [prs])) fun x hx => he x (List.mem_cons_of_mem _ hx)
      · rintro ⟨i, u, v, g1, g2, t⟩ k hk
        have mu := List.mem_of_getElem? g1
        have mv := List.mem_of_getElem? g2
        have c1 := cycK_mem (P := p :: b :: c :: r) (k := 0 + (k : Int) - 1) (by omega) (by omega)
        have c2 := cycK_mem (P := p :: b :: c :: r) (k := 0 + (k : Int)) (by omega) (by omega)
        have nx := hall.nx (by simp) (k := 0 + (k : Int)) (by omega) (by omega) c1.1 c2.1
        have nuv : Nx s u v := ch_at (i := i) h4.2 g1 (.inl g2)
        have sp := hall.sub p (by simp)
        have nd := (List.nodup_cons.mp h3).1
        refine of_fan nx sp (hall.sub u (List.mem_cons_of_mem _ mu)) (hall.sub v (List.mem_cons_of_mem _ mv)) ?_ t
        have cyc : ar p u v = ar u v p := by unfold ar; grind
        rw [cyc]
        rcases nuv.2.2 p sp with k | k
        · exact k
        · exfalso
          have lu := h2 u (hall.sub u (List.mem_cons_of_mem _ mu))
          have lv := h2 v (hall.sub v (List.mem_cons_of_mem _ mv))
          rcases k.2 with z | z
          · exact nd (by rw [le_anti lu z.1]; exact mu)
          · exact nd (by rw [le_anti lv z.2]; exact mv)
end Z
set_option maxHeartbeats 1000000
namespace Z
open PySem PySem.Spec PyProof.Rows L2
/-! ### the law -/
theorem other_spec {b : Bool} : F_u_law_other [.dat (.bool b), .dat (.bool b)] = .ok (.dat (.bool false)) [.dat (.bool b), .dat (.bool b)] := by
  have e : gNe (.bool b) (.bool b) = some (.dat (.bool false)) := by cases b <;> rfl
  unfold F_u_law_other M_u_law_other
  simp -implicitDefEqProofs only [k1_0, k1_e, k1_c, c1_r, k2b_0, k2b_e, k2b_c, k2a_0, k2a_e, k2a_c, c2_r, kN_0, kN_e, kN_c, cN_r, kTup_0, kTup_e, kTup_c, cTup_r, kLst_0, kLst_e, kLst_c, cLst_r, cK_r, caNil_r, kcb_0, kcb_e, kcb_c, kca_0, kca_e, kca_c, caCons_r, cxNil_r, kxb_0, kxb_e, kxb_c, kxa_0, kxa_e, kxa_c, cxD_r, cxS_r, kxs_0, cCall_r, kc1_0, kc1_e, kc2_0, kc3_0, kc3_e, kc3_c, ssOf_n, ss1_0, ss2_0, ssOf_d, ssOf_s, pb_n, pb_d, pb_s, so_n, so_d, so_s, di_n, di_1, di_c, cSeq_r, cNext_r, cRetN_r, cBrk_r, cCnt_r, kRet_0, kRet_e, kRet_c, cRet_r, kDrop_0, kDrop_e, kDrop_c, cDrop_r, kSet_0, kSet_e, kSet_c, cSet_r, kAs_0, kAsg_0, kAsg_e, kAsg_c, cAsg_r, cgName_r, cgNil_r, kgc_0, cgCons_r, cgTup_r, cgLst_r, kPar_0, kPar_e, kPar_c, cPar_r, kPar3_0, kPar3_e, kPar3_c, cPar3_r, kap3_0, kap2_0, kap2_e, kap2_c, kap1_0, cApp_r, ksi3_0, ksi4_0, ksi2_0, ksi2_e, ksi2_c, ksi1_0, ksi0_0, ksi0_e, ksi0_c, cSetIx_r, kix_l, kix_t, kix_s, kSq_0, kSq_e, kSq_c, ciSeq_r, kr1_0, kr1_e, kr1_c, ciRange1_r, kr2_0, kr2_e, kr2_c, ciRange2_r, kFor_0, kFor_e, kFor_c, cFor_r, forL_c, forL_n, kf1_0, kf2_nx, kf2_ct, kf2_bk, kf2_rt, kf2_exc, kf2_cond, kb_0, kbb_0, kb1_0, kb1_c, kb1_e, cB1_r, kb3_0, kb3_e, kb3_c, kb2_0, kb2_c, kb2_e, cB2_r, kres_0, res_d, res_s, kbn_0, cbN_r, kbD_0, kbD_e, kbD_c, cbD_r, kv_0, cV_r, kvm_0, cVm_r, cV_0, st_0, gt_0, cV_1, st_1, gt_1, cV_2, st_2, gt_2, cV_3, st_3, gt_3, cV_4, st_4, gt_4, cV_5, st_5, gt_5, cV_6, st_6, gt_6, cV_7, st_7, gt_7, cV_8, st_8, gt_8, cV_9, st_9, gt_9, cV_10, st_10, gt_10, cV_11, st_11, gt_11, cV_12, st_12, gt_12, cV_13, st_13, gt_13, cV_14, st_14, gt_14, cV_15, st_15, gt_15, cV_16, st_16, gt_16, cV_17, st_17, gt_17, cV_18, st_18, gt_18, cV_19, st_19, gt_19, cV_20, st_20, gt_20, cV_21, st_21, gt_21, cV_22, st_22, gt_22, cV_23, st_23, gt_23, tCh2_0, tCh2_e, tCh1_0, tCh0b_0, tCh0b_e, tCh0a_0, tCh0a_e, cChain_r, lcL_nil, lcL_c, ml1_0, ml2_t, ml2_f, ml2_b, ml3_0, ml5_0, ml4_0, ml4_e, ml4_c, cLc_r, nO_d, nO_n, nO_l, noOwn_n, noOwn_c, wipe_n, wipe_c, rsE_0, rest_n, rest_c, mkF_r, fo_0, fx_0, fin_nx', fin_rt', fin_exc', ob_0, og_0, od_0, outs_n, outs_c, lift_some, S_d, S_l, gAdd, gSub, gNeg, gNot, gLt, gLe, gGt, gGe, gEq_ii, gNe_ii, gLen, gAbs, gInt, tru_b, gMax2, gMin2, gGcd, gList, gTuple, gAll, gAny, bools_nil, bools_cons, gIs_bb, gIsN_bb, gPow, gMul, gFd, gMod, atI_0, atI_1, atI_2, atI_3, ixL_1, ixL_2, ixL_3, ixN_41, ixN_42, ixN_43, List.getElem?_cons_zero, List.getElem?_cons_succ, List.set_cons_zero, List.set_cons_succ, List.map_cons, List.map_nil, List.length_cons, List.length_nil, List.cons_append, List.nil_append, List.replicate_succ, List.replicate_zero, List.length_map, ↓cond_true, ↓cond_false, cond_true, cond_false, Option.map_some, beq_self_eq_true, List.contains_cons, List.contains_nil, Bool.or_false, Bool.false_or, Bool.or_true, Bool.and_true, Bool.true_and, Bool.not_true, Bool.not_false, Nat.reduceBEq, Nat.reduceAdd, Nat.reduceSub, Nat.reduceEqDiff, reduceCtorEq, Bool.false_eq_true, sq_nx, sq_rt, sq_bad, sq_bk, sq_ct, sq_exc, dz0, dz1, dz2, dz3, dz4, dz5, dz6, dz7, dz8, dz9, dz10, dz11, dz12, ic0, ic1, ic2, ic3, ic4, tAnd_ok, tOr_ok, tIf_ok, tIfS_ok, tAnd_exc, tOr_exc, tIf_exc, tIfS_exc, cAnd_t, cOr_t, cIf_t, cIfS_t, co_and, co_or, tAnd_cond, tOr_cond, tIfS_cond, sq_cond, fin_cond, rangeL_2, rangeL_3, List.all_cons, List.all_nil, List.any_cons, List.any_nil, id, rng1_t, rng2_t, Int.reduceToNat, if_true, ite_true, if_false, eq_self, decide_true, decide_false, isi_int_n, isi_int_b, isi_int_i, isi_int_s, isi_int_l, isi_int_t, isi_bool_n, isi_bool_b, isi_bool_i, isi_bool_s, isi_bool_l, isi_bool_t, isi_str_n, isi_str_b, isi_str_i, isi_str_s, isi_str_l, isi_str_t, isi_list_n, isi_list_b, isi_list_i, isi_list_s, isi_list_l, isi_list_t, isi_tuple_n, isi_tuple_b, isi_tuple_i, isi_tuple_s, isi_tuple_l, isi_tuple_t, isi_dict_n, isi_dict_b, isi_dict_i, isi_dict_s, isi_dict_l, isi_dict_t, nh_d, nh_l, nh_k, nh_o, nh_fn, nh_fc, ss3_0, sat_n, sat_0, sat_c, sup_n, sup_c, supc_0, fsg_c, fsg_n, fss_c, fss_n, pbs_0, pb_t, so_t, ssOf_t, gIx_l, gIx_t, S_k, Option.map_none, e]
theorem lin_spec {P : List Cn} {q : Hm} {B : Int} (hd : Drawn B P) (hB : B ≤ 1000000) (hq : Hs q) (hw : 0 < q.2.2) : F_u_law_in [.dat (hD q), .dat (.list (P.map cD))] = .ok (.dat (.bool (inB P q))) [.dat (hD q), .dat (.list (P.map cD))] := by
  obtain ⟨cs, hP⟩ := hd.ex
  obtain ⟨b, e, hb⟩ := in_spec (p := q) (P := P) hq (fun c hc => (hd.inb c hc).sm hB) hP.ne (by have := hd.len; omega)
  have : b = inB P q := by rw [Bool.eq_iff_iff, hb, in_eq hP hw]
  rw [← this]
  exact e
theorem one_place {P : List Cn} {p : Pq} {sc a b pot k c5 x9 : Option S} {C : S} {B : Int} (hd : Drawn B P) (hB : B ≤ 1000000) (hp : PqOk p) (hC : C = .lst (P.map cD) ∨ C = .dat (.list (P.map cD))) :
    L_law_0 [sc, pot, k, some (.dat (.tuple (P.map pD))), some C, c5, a, b, some (.dat (pqD p)), x9] = .nx [sc, pot, k, some (.dat (.tuple (P.map pD))), some (.dat (.list (P.map cD))), c5, a, b, some (.dat (pqD p)), some (.dat (hD (scl p)))] := by
  have hs : ∀ c ∈ P, Sm c := fun c hc => (hd.inb c hc).sm hB
  have hl := hd.len
  have e1 := lscale_spec hp
  have e2 := is_in_spec hs hd.ne (by omega) hp
  have e3 := is_inside_spec hs hd.ne (by omega) hp
  have e4 := lin_spec hd hB (scl_hs hp) (scl_pos hp)
  have e5 := strict_spec hs (by omega) (scl_hs hp)
  unfold L_law_0
  rcases hC with rfl | rfl <;> simp -implicitDefEqProofs only [k1_0, k1_e, k1_c, c1_r, k2b_0, k2b_e, k2b_c, k2a_0, k2a_e, k2a_c, c2_r, kN_0, kN_e, kN_c, cN_r, kTup_0, kTup_e, kTup_c, cTup_r, kLst_0, kLst_e, kLst_c, cLst_r, cK_r, caNil_r, kcb_0, kcb_e, kcb_c, kca_0, kca_e, kca_c, caCons_r, cxNil_r, kxb_0, kxb_e, kxb_c, kxa_0, kxa_e, kxa_c, cxD_r, cxS_r, kxs_0, cCall_r, kc1_0, kc1_e, kc2_0, kc3_0, kc3_e, kc3_c, ssOf_n, ss1_0, ss2_0, ssOf_d, ssOf_s, pb_n, pb_d, pb_s, so_n, so_d, so_s, di_n, di_1, di_c, cSeq_r, cNext_r, cRetN_r, cBrk_r, cCnt_r, kRet_0, kRet_e, kRet_c, cRet_r, kDrop_0, kDrop_e, kDrop_c, cDrop_r, kSet_0, kSet_e, kSet_c, cSet_r, kAs_0, kAsg_0, kAsg_e, kAsg_c, cAsg_r, cgName_r, cgNil_r, kgc_0, cgCons_r, cgTup_r, cgLst_r, kPar_0, kPar_e, kPar_c, cPar_r, kPar3_0, kPar3_e, kPar3_c, cPar3_r, kap3_0, kap2_0, kap2_e, kap2_c, kap1_0, cApp_r, ksi3_0, ksi4_0, ksi2_0, ksi2_e, ksi2_c, ksi1_0, ksi0_0, ksi0_e, ksi0_c, cSetIx_r, kix_l, kix_t, kix_s, kSq_0, kSq_e, kSq_c, ciSeq_r, kr1_0, kr1_e, kr1_c, ciRange1_r, kr2_0, kr2_e, kr2_c, ciRange2_r, kFor_0, kFor_e, kFor_c, cFor_r, forL_c, forL_n, kf1_0, kf2_nx, kf2_ct, kf2_bk, kf2_rt, kf2_exc, kf2_cond, kb_0, kbb_0, kb1_0, kb1_c, kb1_e, cB1_r, kb3_0, kb3_e, kb3_c, kb2_0, kb2_c, kb2_e, cB2_r, kres_0, res_d, res_s, kbn_0, cbN_r, kbD_0, kbD_e, kbD_c, cbD_r, kv_0, cV_r, kvm_0, cVm_r, cV_0, st_0, gt_0, cV_1, st_1, gt_1, cV_2, st_2, gt_2, cV_3, st_3, gt_3, cV_4, st_4, gt_4, cV_5, st_5, gt_5, cV_6, st_6, gt_6, cV_7, st_7, gt_7, cV_8, st_8, gt_8, cV_9, st_9, gt_9, cV_10, st_10, gt_10, cV_11, st_11, gt_11, cV_12, st_12, gt_12, cV_13, st_13, gt_13, cV_14, st_14, gt_14, cV_15, st_15, gt_15, cV_16, st_16, gt_16, cV_17, st_17, gt_17, cV_18, st_18, gt_18, cV_19, st_19, gt_19, cV_20, st_20, gt_20, cV_21, st_21, gt_21, cV_22, st_22, gt_22, cV_23, st_23, gt_23, tCh2_0, tCh2_e, tCh1_0, tCh0b_0, tCh0b_e, tCh0a_0, tCh0a_e, cChain_r, lcL_nil, lcL_c, ml1_0, ml2_t, ml2_f, ml2_b, ml3_0, ml5_0, ml4_0, ml4_e, ml4_c, cLc_r, nO_d, nO_n, nO_l, noOwn_n, noOwn_c, wipe_n, wipe_c, rsE_0, rest_n, rest_c, mkF_r, fo_0, fx_0, fin_nx', fin_rt', fin_exc', ob_0, og_0, od_0, outs_n, outs_c, lift_some, S_d, S_l, gAdd, gSub, gNeg, gNot, gLt, gLe, gGt, gGe, gEq_ii, gNe_ii, gLen, gAbs, gInt, tru_b, gMax2, gMin2, gGcd, gList, gTuple, gAll, gAny, bools_nil, bools_cons, gIs_bb, gIsN_bb, gPow, gMul, gFd, gMod, atI_0, atI_1, atI_2, atI_3, ixL_1, ixL_2, ixL_3, ixN_41, ixN_42, ixN_43, List.getElem?_cons_zero, List.getElem?_cons_succ, List.set_cons_zero, List.set_cons_succ, List.map_cons, List.map_nil, List.length_cons, List.length_nil, List.cons_append, List.nil_append, List.replicate_succ, List.replicate_zero, List.length_map, ↓cond_true, ↓cond_false, cond_true, cond_false, Option.map_some, beq_self_eq_true, List.contains_cons, List.contains_nil, Bool.or_false, Bool.false_or, Bool.or_true, Bool.and_true, Bool.true_and, Bool.not_true, Bool.not_false, Nat.reduceBEq, Nat.reduceAdd, Nat.reduceSub, Nat.reduceEqDiff, reduceCtorEq, Bool.false_eq_true, sq_nx, sq_rt, sq_bad, sq_bk, sq_ct, sq_exc, dz0, dz1, dz2, dz3, dz4, dz5, dz6, dz7, dz8, dz9, dz10, dz11, dz12, ic0, ic1, ic2, ic3, ic4, tAnd_ok, tOr_ok, tIf_ok, tIfS_ok, tAnd_exc, tOr_exc, tIf_exc, tIfS_exc, cAnd_t, cOr_t, cIf_t, cIfS_t, co_and, co_or, tAnd_cond, tOr_cond, tIfS_cond, sq_cond, fin_cond, rangeL_2, rangeL_3, List.all_cons, List.all_nil, List.any_cons, List.any_nil, id, rng1_t, rng2_t, Int.reduceToNat, if_true, ite_true, if_false, eq_self, decide_true, decide_false, isi_int_n, isi_int_b, isi_int_i, isi_int_s, isi_int_l, isi_int_t, isi_bool_n, isi_bool_b, isi_bool_i, isi_bool_s, isi_bool_l, isi_bool_t, isi_str_n, isi_str_b, isi_str_i, isi_str_s, isi_str_l, isi_str_t, isi_list_n, isi_list_b, isi_list_i, isi_list_s, isi_list_l, isi_list_t, isi_tuple_n, isi_tuple_b, isi_tuple_i, isi_tuple_s, isi_tuple_l, isi_tuple_t, isi_dict_n, isi_dict_b, isi_dict_i, isi_dict_s, isi_dict_l, isi_dict_t, nh_d, nh_l, nh_k, nh_o, nh_fn, nh_fc, ss3_0, sat_n, sat_0, sat_c, sup_n, sup_c, supc_0, fsg_c, fsg_n, fss_c, fss_n, pbs_0, pb_t, so_t, ssOf_t, gIx_l, gIx_t, S_k, Option.map_none, e1, e2, e3, e4, e5, other_spec]
theorem all_places {P : List Cn} {sc a b pot k c5 : Option S} {B : Int} (hd : Drawn B P) (hB : B ≤ 1000000) : ∀ (ps : List Pq) (C : S) (x8 x9 : Option S), (∀ p ∈ ps, PqOk p) → (C = .lst (P.map cD) ∨ C = .dat (.list (P.map cD))) →
    ∃ y4 y8 y9, forL (cgName 8) L_law_0 (ps.map pqD) [sc, pot, k, some (.dat (.tuple (P.map pD))), some C, c5, a, b, x8, x9] = .nx [sc, pot, k, some (.dat (.tuple (P.map pD))), y4, c5, a, b, y8, y9]
  | [], C, x8, x9, _, _ => ⟨_, _, _, rfl⟩
  | p :: ps, C, x8, x9, hp, hC => by
    have e := one_place (sc := sc) (a := a) (b := b) (pot := pot) (k := k) (c5 := c5) (x9 := x9) hd hB (hp p (by simp)) hC
    obtain ⟨y4, y8, y9, e2⟩ := all_places (sc := sc) (a := a) (b := b) (pot := pot) (k := k) (c5 := c5) hd hB ps (.dat (.list (P.map cD))) (some (.dat (pqD p))) (some (.dat (hD (scl p)))) (fun x hx => hp x (by simp [hx])) (.inr rfl)
    refine ⟨y4, y8, y9, ?_⟩
    rw [List.map_cons, forL]
    show (match L_law_0 [sc, pot, k, some (.dat (.tuple (P.map pD))), some C, c5, a, b, some (.dat (pqD p)), x9] with
      | .nx ρ2 => _ | .ct ρ2 => _ | .bk ρ2 => _ | .rt s ρ2 => _ | .exc x ρ2 => _ | .bad => _) = _
    rw [e]
    exact e2
theorem pick2 {r x y : Int} (h0 : 0 ≤ r) (h1 : r < 2) : ∃ z, atI [PyData.int x, .int y] r = some (.int z) ∧ (z = x ∨ z = y) := by
  have : r = 0 ∨ r = 1 := by omega
  rcases this with rfl | rfl
  · exact ⟨x, atI_0, .inl rfl⟩
  · exact ⟨y, atI_1, .inr rfl⟩
theorem corner_pick {P : List Cn} {r : Int} (h0 : 0 ≤ r) (h1 : r < P.length) : ∃ c ∈ P, atI (P.map pD) r = some (pD c) := by
  obtain ⟨x, hx, m⟩ := atI_some (l := P) (k := r) (by omega) h1
  exact ⟨x, m, by rw [atI_map, hx]; rfl⟩
theorem ptok {c : Cn} {B : Int} (h : InB B c) (hB : B ≤ 1000000) : PqOk ((c.1, 1), (c.2, 1)) := ⟨⟨(h.sm hB).1, bd_lit (i := 1) (by decide), Int.one_pos⟩, ⟨(h.sm hB).2, bd_lit (i := 1) (by decide), Int.one_pos⟩⟩
theorem law_turn {sc d : PyData} {l : List PyData} {x3 x4 x5 x6 x7 x8 x9 : Option S} (hp : PotOk l) : ∃ l' y3 y4 y5 y6 y7 y8 y9, L_law_1 [some (.dat sc), some (.lst l), some (.dat d), x3, x4, x5, x6, x7, x8, x9] = .nx [some (.dat sc), some (.lst l'), some (.dat d), y3, y4, y5, y6, y7, y8, y9] ∧ PotOk l' := by
  obtain ⟨r1, l1, e1, p1, q1, k1⟩ := next_spec hp (m := 3) (by decide) (by decide)
  obtain ⟨r2, l2, e2, p2, q2, k2⟩ := next_spec k1 (m := 2) (by decide) (by decide)
  obtain ⟨sz, hsz, hz⟩ := pick2 (x := 3) (y := 7) p2 q2
  obtain ⟨l3, P, e3, k3, hd⟩ := lpiece_spec (a := (0, r1)) (sz := sz) (B := 10) k2 (by omega) (by omega) (by omega) ⟨⟨by show -10 ≤ (0 : Int); decide, by show (0 : Int) ≤ 10; decide⟩, ⟨by show -10 ≤ r1; omega, by show r1 ≤ 10; omega⟩⟩
  have hl := hd.len
  have hn := hd.ne
  have hpl := List.length_pos_iff.mpr hn
  have e4 := corners_spec (P := P) (by omega)
  obtain ⟨l4, pl, e5, k4, okl⟩ := place_spec k3 (w := 7) (h := 7) (by omega) (by omega) (by omega) (by omega)
  obtain ⟨r5, l5, e6, p5, q5, k5⟩ := next_spec k4 (m := (P.length : Int)) (by omega) (log_small (by omega))
  obtain ⟨a, ma, ha⟩ := corner_pick p5 q5
  obtain ⟨r6, l6, e7, p6, q6, k6⟩ := next_spec k5 (m := (P.length : Int)) (by omega) (log_small (by omega))
  obtain ⟨b, mb, hb⟩ := corner_pick p6 q6
  obtain ⟨⟨a1, a2⟩, a3, a4⟩ := hd.inb a ma
  obtain ⟨⟨b1, b2⟩, b3, b4⟩ := hd.inb b mb
  obtain ⟨f1, g1, u1, u2, u3⟩ := lratio_spec (N := 10000) (n := a.1 + b.1) (d := 2) (by omega) (by omega) (by omega)
  obtain ⟨f2, g2, v1, v2, v3⟩ := lratio_spec (N := 10000) (n := a.2 + b.2) (d := 2) (by omega) (by omega) (by omega)
  obtain ⟨f3, g3, s1, s2, s3⟩ := lratio_spec (N := 10000) (n := 2 * a.1 + b.1) (d := 3) (by omega) (by omega) (by omega)
  obtain ⟨f4, g4, t1, t2, t3⟩ := lratio_spec (N := 10000) (n := 2 * a.2 + b.2) (d := 3) (by omega) (by omega) (by omega)
  have m1 : decide (CMulW 2 a.1) = true := small_mul (by decide) (by omega)
  have m2 : decide (CMulW 2 a.2) = true := small_mul (by decide) (by omega)
  have z1 : decide (1 < sizeLine) = true := by decide
  have z2 : decide (2 < sizeLine) = true := by decide
  have z3 : decide (3 < sizeLine) = true := by decide
  have ea : fqD (a.1, 1) = .tuple [.int a.1, .int 1] := rfl
  have lp : [pqD pl, pqD ((a.1, 1), (a.2, 1)), pqD (f1, f2), pqD (f3, f4)] = [pl, ((a.1, 1), (a.2, 1)), (f1, f2), (f3, f4)].map pqD := rfl
  obtain ⟨y4, y8, y9, e8⟩ := all_places (sc := some (.dat sc)) (a := some (.dat (pD a))) (b := some (.dat (pD b))) (pot := some (.lst l6)) (k := some (.dat d)) (c5 := some (.dat (.list [pqD pl, pqD ((a.1, 1), (a.2, 1)), pqD (f1, f2), pqD (f3, f4)]))) hd (by omega) [pl, ((a.1, 1), (a.2, 1)), (f1, f2), (f3, f4)] (.lst (P.map cD)) x8 x9 (fun p hp => by
      simp only [List.mem_cons, List.not_mem_nil, or_false] at hp
      rcases hp with rfl | rfl | rfl | rfl
      · exact okl
      · exact ptok (hd.inb a ma) (by omega)
      · exact ⟨fq_ok u1 (by decide) u2 u3, fq_ok v1 (by decide) v2 v3⟩
      · exact ⟨fq_ok s1 (by decide) s2 s3, fq_ok t1 (by decide) t2 t3⟩) (.inl rfl)
  rw [← lp] at e8
  refine ⟨l6, some (.dat (.tuple (P.map pD))), y4, some (.dat (.list [pqD pl, pqD ((a.1, 1), (a.2, 1)), pqD (f1, f2), pqD (f3, f4)])), some (.dat (pD a)), some (.dat (pD b)), y8, y9, ?_, k6⟩
  have e3' : F_u_law_piece [.lst l2, .dat (.tuple [.int 0, .int r1]), .dat (.int sz)] = .ok (.dat (.tuple (P.map pD))) [.lst l3, .dat (.tuple [.int 0, .int r1]), .dat (.int sz)] := e3
  have gx : gIx (pD a) (.int 0) = some (.dat (.int a.1)) := rfl
  have gy : gIx (pD a) (.int 1) = some (.dat (.int a.2)) := rfl
  have hx : gIx (pD b) (.int 0) = some (.dat (.int b.1)) := rfl
  have hy : gIx (pD b) (.int 1) = some (.dat (.int b.2)) := rfl
  have pa : PyData.tuple [.tuple [.int a.1, .int 1], .tuple [.int a.2, .int 1]] = pqD ((a.1, 1), (a.2, 1)) := rfl
  have pb : PyData.tuple [fqD f1, fqD f2] = pqD (f1, f2) := rfl
  have pc : PyData.tuple [fqD f3, fqD f4] = pqD (f3, f4) := rfl
  unfold L_law_1
  rw [cSeq_r]
  simp -implicitDefEqProofs only [k1_0, k1_e, k1_c, c1_r, k2b_0, k2b_e, k2b_c, k2a_0, k2a_e, k2a_c, c2_r, kN_0, kN_e, kN_c, cN_r, kTup_0, kTup_e, kTup_c, cTup_r, kLst_0, kLst_e, kLst_c, cLst_r, cK_r, caNil_r, kcb_0, kcb_e, kcb_c, kca_0, kca_e, kca_c, caCons_r, cxNil_r, kxb_0, kxb_e, kxb_c, kxa_0, kxa_e, kxa_c, cxD_r, cxS_r, kxs_0, cCall_r, kc1_0, kc1_e, kc2_0, kc3_0, kc3_e, kc3_c, ssOf_n, ss1_0, ss2_0, ssOf_d, ssOf_s, pb_n, pb_d, pb_s, so_n, so_d, so_s, di_n, di_1, di_c, cNext_r, cRetN_r, cBrk_r, cCnt_r, kRet_0, kRet_e, kRet_c, cRet_r, kDrop_0, kDrop_e, kDrop_c, cDrop_r, kSet_0, kSet_e, kSet_c, cSet_r, kAs_0, kAsg_0, kAsg_e, kAsg_c, cAsg_r, cgName_r, cgNil_r, kgc_0, cgCons_r, cgTup_r, cgLst_r, kPar_0, kPar_e, kPar_c, cPar_r, kPar3_0, kPar3_e, kPar3_c, cPar3_r, kap3_0, kap2_0, kap2_e, kap2_c, kap1_0, cApp_r, ksi3_0, ksi4_0, ksi2_0, ksi2_e, ksi2_c, ksi1_0, ksi0_0, ksi0_e, ksi0_c, cSetIx_r, kix_l, kix_t, kix_s, kSq_0, kSq_e, kSq_c, ciSeq_r, kr1_e, kr1_c, ciRange1_r, kr2_e, kr2_c, ciRange2_r, kFor_0, kFor_e, kFor_c, cFor_r, forL_c, forL_n, kf1_0, kf2_nx, kf2_ct, kf2_bk, kf2_rt, kf2_exc, kf2_cond, kb_0, kbb_0, kb1_0, kb1_c, kb1_e, cB1_r, kb3_0, kb3_e, kb3_c, kb2_0, kb2_c, kb2_e, cB2_r, kres_0, res_d, res_s, kbn_0, cbN_r, kbD_0, kbD_e, kbD_c, cbD_r, kv_0, cV_r, kvm_0, cVm_r, cV_0, st_0, gt_0, cV_1, st_1, gt_1, cV_2, st_2, gt_2, cV_3, st_3, gt_3, cV_4, st_4, gt_4, cV_5, st_5, gt_5, cV_6, st_6, gt_6, cV_7, st_7, gt_7, cV_8, st_8, gt_8, cV_9, st_9, gt_9, cV_10, st_10, gt_10, cV_11, st_11, gt_11, cV_12, st_12, gt_12, cV_13, st_13, gt_13, cV_14, st_14, gt_14, cV_15, st_15, gt_15, cV_16, st_16, gt_16, cV_17, st_17, gt_17, cV_18, st_18, gt_18, cV_19, st_19, gt_19, cV_20, st_20, gt_20, cV_21, st_21, gt_21, cV_22, st_22, gt_22, cV_23, st_23, gt_23, tCh2_0, tCh2_e, tCh1_0, tCh0b_0, tCh0b_e, tCh0a_0, tCh0a_e, cChain_r, lcL_nil, lcL_c, ml1_0, ml2_t, ml2_f, ml2_b, ml3_0, ml5_0, ml4_0, ml4_e, ml4_c, nO_d, nO_n, nO_l, noOwn_n, noOwn_c, wipe_n, wipe_c, rsE_0, rest_n, rest_c, mkF_r, fo_0, fx_0, fin_nx', fin_rt', fin_exc', ob_0, og_0, od_0, outs_n, outs_c, lift_some, S_d, S_l, gAdd, gSub, gNeg, gNot, gLt, gLe, gGt, gGe, gEq_ii, gNe_ii, gLen, gAbs, gInt, tru_b, gMax2, gMin2, gGcd, gList, gTuple, gAll, gAny, bools_nil, bools_cons, gIs_bb, gIsN_bb, gPow, gMul, gFd, gMod, atI_0, atI_1, atI_2, atI_3, ixL_1, ixL_2, ixL_3, ixN_41, ixN_42, ixN_43, List.getElem?_cons_zero, List.getElem?_cons_succ, List.set_cons_zero, List.set_cons_succ, List.map_cons, List.map_nil, List.length_cons, List.length_nil, List.cons_append, List.nil_append, List.replicate_succ, List.replicate_zero, List.length_map, ↓cond_true, ↓cond_false, cond_true, cond_false, Option.map_some, beq_self_eq_true, List.contains_cons, List.contains_nil, Bool.or_false, Bool.false_or, Bool.or_true, Bool.and_true, Bool.true_and, Bool.not_true, Bool.not_false, Nat.reduceBEq, Nat.reduceAdd, Nat.reduceSub, Nat.reduceEqDiff, reduceCtorEq, Bool.false_eq_true, sq_nx, sq_rt, sq_bad, sq_bk, sq_ct, sq_exc, dz0, dz1, dz2, dz3, dz4, dz5, dz6, dz7, dz8, dz9, dz10, dz11, dz12, ic0, ic1, ic2, ic3, ic4, tAnd_ok, tOr_ok, tIf_ok, tIfS_ok, tAnd_exc, tOr_exc, tIf_exc, tIfS_exc, cAnd_t, cOr_t, cIf_t, cIfS_t, co_and, co_or, tAnd_cond, tOr_cond, tIfS_cond, sq_cond, fin_cond, rangeL_2, rangeL_3, List.all_cons, List.all_nil, List.any_cons, List.any_nil, id, rng1_t, rng2_t, Int.reduceToNat, if_true, ite_true, if_false, eq_self, decide_true, decide_false, isi_int_n, isi_int_b, isi_int_i, isi_int_s, isi_int_l, isi_int_t, isi_bool_n, isi_bool_b, isi_bool_i, isi_bool_s, isi_bool_l, isi_bool_t, isi_str_n, isi_str_b, isi_str_i, isi_str_s, isi_str_l, isi_str_t, isi_list_n, isi_list_b, isi_list_i, isi_list_s, isi_list_l, isi_list_t, isi_tuple_n, isi_tuple_b, isi_tuple_i, isi_tuple_s, isi_tuple_l, isi_tuple_t, isi_dict_n, isi_dict_b, isi_dict_i, isi_dict_s, isi_dict_l, isi_dict_t, nh_d, nh_l, nh_k, nh_o, nh_fn, nh_fc, ss3_0, sat_n, sat_0, sat_c, sup_n, sup_c, supc_0, fsg_c, fsg_n, fss_c, fss_n, pbs_0, pb_t, so_t, ssOf_t, gIx_l, gIx_t, S_k, Option.map_none, e1, e2, hsz, e3']
  rw [cSeq_r]
  simp -implicitDefEqProofs only [k1_0, k1_e, k1_c, c1_r, k2b_0, k2b_e, k2b_c, k2a_0, k2a_e, k2a_c, c2_r, kN_0, kN_e, kN_c, cN_r, kTup_0, kTup_e, kTup_c, cTup_r, kLst_0, kLst_e, kLst_c, cLst_r, cK_r, caNil_r, kcb_0, kcb_e, kcb_c, kca_0, kca_e, kca_c, caCons_r, cxNil_r, kxb_0, kxb_e, kxb_c, kxa_0, kxa_e, kxa_c, cxD_r, cxS_r, kxs_0, cCall_r, kc1_0, kc1_e, kc2_0, kc3_0, kc3_e, kc3_c, ssOf_n, ss1_0, ss2_0, ssOf_d, ssOf_s, pb_n, pb_d, pb_s, so_n, so_d, so_s, di_n, di_1, di_c, cNext_r, cRetN_r, cBrk_r, cCnt_r, kRet_0, kRet_e, kRet_c, cRet_r, kDrop_0, kDrop_e, kDrop_c, cDrop_r, kSet_0, kSet_e, kSet_c, cSet_r, kAs_0, kAsg_0, kAsg_e, kAsg_c, cAsg_r, cgName_r, cgNil_r, kgc_0, cgCons_r, cgTup_r, cgLst_r, kPar_0, kPar_e, kPar_c, cPar_r, kPar3_0, kPar3_e, kPar3_c, cPar3_r, kap3_0, kap2_0, kap2_e, kap2_c, kap1_0, cApp_r, ksi3_0, ksi4_0, ksi2_0, ksi2_e, ksi2_c, ksi1_0, ksi0_0, ksi0_e, ksi0_c, cSetIx_r, kix_l, kix_t, kix_s, kSq_0, kSq_e, kSq_c, ciSeq_r, kr1_e, kr1_c, ciRange1_r, kr2_e, kr2_c, ciRange2_r, kFor_0, kFor_e, kFor_c, cFor_r, forL_c, forL_n, kf1_0, kf2_nx, kf2_ct, kf2_bk, kf2_rt, kf2_exc, kf2_cond, kb_0, kbb_0, kb1_0, kb1_c, kb1_e, cB1_r, kb3_0, kb3_e, kb3_c, kb2_0, kb2_c, kb2_e, cB2_r, kres_0, res_d, res_s, kbn_0, cbN_r, kbD_0, kbD_e, kbD_c, cbD_r, kv_0, cV_r, kvm_0, cVm_r, cV_0, st_0, gt_0, cV_1, st_1, gt_1, cV_2, st_2, gt_2, cV_3, st_3, gt_3, cV_4, st_4, gt_4, cV_5, st_5, gt_5, cV_6, st_6, gt_6, cV_7, st_7, gt_7, cV_8, st_8, gt_8, cV_9, st_9, gt_9, cV_10, st_10, gt_10, cV_11, st_11, gt_11, cV_12, st_12, gt_12, cV_13, st_13, gt_13, cV_14, st_14, gt_14, cV_15, st_15, gt_15, cV_16, st_16, gt_16, cV_17, st_17, gt_17, cV_18, st_18, gt_18, cV_19, st_19, gt_19, cV_20, st_20, gt_20, cV_21, st_21, gt_21, cV_22, st_22, gt_22, cV_23, st_23, gt_23, tCh2_0, tCh2_e, tCh1_0, tCh0b_0, tCh0b_e, tCh0a_0, tCh0a_e, cChain_r, lcL_nil, lcL_c, ml1_0, ml2_t, ml2_f, ml2_b, ml3_0, ml5_0, ml4_0, ml4_e, ml4_c, nO_d, nO_n, nO_l, noOwn_n, noOwn_c, wipe_n, wipe_c, rsE_0, rest_n, rest_c, mkF_r, fo_0, fx_0, fin_nx', fin_rt', fin_exc', ob_0, og_0, od_0, outs_n, outs_c, lift_some, S_d, S_l, gAdd, gSub, gNeg, gNot, gLt, gLe, gGt, gGe, gEq_ii, gNe_ii, gLen, gAbs, gInt, tru_b, gMax2, gMin2, gGcd, gList, gTuple, gAll, gAny, bools_nil, bools_cons, gIs_bb, gIsN_bb, gPow, gMul, gFd, gMod, atI_0, atI_1, atI_2, atI_3, ixL_1, ixL_2, ixL_3, ixN_41, ixN_42, ixN_43, List.getElem?_cons_zero, List.getElem?_cons_succ, List.set_cons_zero, List.set_cons_succ, List.map_cons, List.map_nil, List.length_cons, List.length_nil, List.cons_append, List.nil_append, List.replicate_succ, List.replicate_zero, List.length_map, ↓cond_true, ↓cond_false, cond_true, cond_false, Option.map_some, beq_self_eq_true, List.contains_cons, List.contains_nil, Bool.or_false, Bool.false_or, Bool.or_true, Bool.and_true, Bool.true_and, Bool.not_true, Bool.not_false, Nat.reduceBEq, Nat.reduceAdd, Nat.reduceSub, Nat.reduceEqDiff, reduceCtorEq, Bool.false_eq_true, sq_nx, sq_rt, sq_bad, sq_bk, sq_ct, sq_exc, dz0, dz1, dz2, dz3, dz4, dz5, dz6, dz7, dz8, dz9, dz10, dz11, dz12, ic0, ic1, ic2, ic3, ic4, tAnd_ok, tOr_ok, tIf_ok, tIfS_ok, tAnd_exc, tOr_exc, tIf_exc, tIfS_exc, cAnd_t, cOr_t, cIf_t, cIfS_t, co_and, co_or, tAnd_cond, tOr_cond, tIfS_cond, sq_cond, fin_cond, rangeL_2, rangeL_3, List.all_cons, List.all_nil, List.any_cons, List.any_nil, id, rng1_t, rng2_t, Int.reduceToNat, if_true, ite_true, if_false, eq_self, decide_true, decide_false, isi_int_n, isi_int_b, isi_int_i, isi_int_s, isi_int_l, isi_int_t, isi_bool_n, isi_bool_b, isi_bool_i, isi_bool_s, isi_bool_l, isi_bool_t, isi_str_n, isi_str_b, isi_str_i, isi_str_s, isi_str_l, isi_str_t, isi_list_n, isi_list_b, isi_list_i, isi_list_s, isi_list_l, isi_list_t, isi_tuple_n, isi_tuple_b, isi_tuple_i, isi_tuple_s, isi_tuple_l, isi_tuple_t, isi_dict_n, isi_dict_b, isi_dict_i, isi_dict_s, isi_dict_l, isi_dict_t, nh_d, nh_l, nh_k, nh_o, nh_fn, nh_fc, ss3_0, sat_n, sat_0, sat_c, sup_n, sup_c, supc_0, fsg_c, fsg_n, fss_c, fss_n, pbs_0, pb_t, so_t, ssOf_t, gIx_l, gIx_t, S_k, Option.map_none, e4]
  rw [cSeq_r]
  simp -implicitDefEqProofs only [k1_0, k1_e, k1_c, c1_r, k2b_0, k2b_e, k2b_c, k2a_0, k2a_e, k2a_c, c2_r, kN_0, kN_e, kN_c, cN_r, kTup_0, kTup_e, kTup_c, cTup_r, kLst_0, kLst_e, kLst_c, cLst_r, cK_r, caNil_r, kcb_0, kcb_e, kcb_c, kca_0, kca_e, kca_c, caCons_r, cxNil_r, kxb_0, kxb_e, kxb_c, kxa_0, kxa_e, kxa_c, cxD_r, cxS_r, kxs_0, cCall_r, kc1_0, kc1_e, kc2_0, kc3_0, kc3_e, kc3_c, ssOf_n, ss1_0, ss2_0, ssOf_d, ssOf_s, pb_n, pb_d, pb_s, so_n, so_d, so_s, di_n, di_1, di_c, cNext_r, cRetN_r, cBrk_r, cCnt_r, kRet_0, kRet_e, kRet_c, cRet_r, kDrop_0, kDrop_e, kDrop_c, cDrop_r, kSet_0, kSet_e, kSet_c, cSet_r, kAs_0, kAsg_0, kAsg_e, kAsg_c, cAsg_r, cgName_r, cgNil_r, kgc_0, cgCons_r, cgTup_r, cgLst_r, kPar_0, kPar_e, kPar_c, cPar_r, kPar3_0, kPar3_e, kPar3_c, cPar3_r, kap3_0, kap2_0, kap2_e, kap2_c, kap1_0, cApp_r, ksi3_0, ksi4_0, ksi2_0, ksi2_e, ksi2_c, ksi1_0, ksi0_0, ksi0_e, ksi0_c, cSetIx_r, kix_l, kix_t, kix_s, kSq_0, kSq_e, kSq_c, ciSeq_r, kr1_e, kr1_c, ciRange1_r, kr2_e, kr2_c, ciRange2_r, kFor_0, kFor_e, kFor_c, cFor_r, forL_c, forL_n, kf1_0, kf2_nx, kf2_ct, kf2_bk, kf2_rt, kf2_exc, kf2_cond, kb_0, kbb_0, kb1_0, kb1_c, kb1_e, cB1_r, kb3_0, kb3_e, kb3_c, kb2_0, kb2_c, kb2_e, cB2_r, kres_0, res_d, res_s, kbn_0, cbN_r, kbD_0, kbD_e, kbD_c, cbD_r, kv_0, cV_r, kvm_0, cVm_r, cV_0, st_0, gt_0, cV_1, st_1, gt_1, cV_2, st_2, gt_2, cV_3, st_3, gt_3, cV_4, st_4, gt_4, cV_5, st_5, gt_5, cV_6, st_6, gt_6, cV_7, st_7, gt_7, cV_8, st_8, gt_8, cV_9, st_9, gt_9, cV_10, st_10, gt_10, cV_11, st_11, gt_11, cV_12, st_12, gt_12, cV_13, st_13, gt_13, cV_14, st_14, gt_14, cV_15, st_15, gt_15, cV_16, st_16, gt_16, cV_17, st_17, gt_17, cV_18, st_18, gt_18, cV_19, st_19, gt_19, cV_20, st_20, gt_20, cV_21, st_21, gt_21, cV_22, st_22, gt_22, cV_23, st_23, gt_23, tCh2_0, tCh2_e, tCh1_0, tCh0b_0, tCh0b_e, tCh0a_0, tCh0a_e, cChain_r, lcL_nil, lcL_c, ml1_0, ml2_t, ml2_f, ml2_b, ml3_0, ml5_0, ml4_0, ml4_e, ml4_c, nO_d, nO_n, nO_l, noOwn_n, noOwn_c, wipe_n, wipe_c, rsE_0, rest_n, rest_c, mkF_r, fo_0, fx_0, fin_nx', fin_rt', fin_exc', ob_0, og_0, od_0, outs_n, outs_c, lift_some, S_d, S_l, gAdd, gSub, gNeg, gNot, gLt, gLe, gGt, gGe, gEq_ii, gNe_ii, gLen, gAbs, gInt, tru_b, gMax2, gMin2, gGcd, gList, gTuple, gAll, gAny, bools_nil, bools_cons, gIs_bb, gIsN_bb, gPow, gMul, gFd, gMod, atI_0, atI_1, atI_2, atI_3, ixL_1, ixL_2, ixL_3, ixN_41, ixN_42, ixN_43, List.getElem?_cons_zero, List.getElem?_cons_succ, List.set_cons_zero, List.set_cons_succ, List.map_cons, List.map_nil, List.length_cons, List.length_nil, List.cons_append, List.nil_append, List.replicate_succ, List.replicate_zero, List.length_map, ↓cond_true, ↓cond_false, cond_true, cond_false, Option.map_some, beq_self_eq_true, List.contains_cons, List.contains_nil, Bool.or_false, Bool.false_or, Bool.or_true, Bool.and_true, Bool.true_and, Bool.not_true, Bool.not_false, Nat.reduceBEq, Nat.reduceAdd, Nat.reduceSub, Nat.reduceEqDiff, reduceCtorEq, Bool.false_eq_true, sq_nx, sq_rt, sq_bad, sq_bk, sq_ct, sq_exc, dz0, dz1, dz2, dz3, dz4, dz5, dz6, dz7, dz8, dz9, dz10, dz11, dz12, ic0, ic1, ic2, ic3, ic4, tAnd_ok, tOr_ok, tIf_ok, tIfS_ok, tAnd_exc, tOr_exc, tIf_exc, tIfS_exc, cAnd_t, cOr_t, cIf_t, cIfS_t, co_and, co_or, tAnd_cond, tOr_cond, tIfS_cond, sq_cond, fin_cond, rangeL_2, rangeL_3, List.all_cons, List.all_nil, List.any_cons, List.any_nil, id, rng1_t, rng2_t, Int.reduceToNat, if_true, ite_true, if_false, eq_self, decide_true, decide_false, isi_int_n, isi_int_b, isi_int_i, isi_int_s, isi_int_l, isi_int_t, isi_bool_n, isi_bool_b, isi_bool_i, isi_bool_s, isi_bool_l, isi_bool_t, isi_str_n, isi_str_b, isi_str_i, isi_str_s, isi_str_l, isi_str_t, isi_list_n, isi_list_b, isi_list_i, isi_list_s, isi_list_l, isi_list_t, isi_tuple_n, isi_tuple_b, isi_tuple_i, isi_tuple_s, isi_tuple_l, isi_tuple_t, isi_dict_n, isi_dict_b, isi_dict_i, isi_dict_s, isi_dict_l, isi_dict_t, nh_d, nh_l, nh_k, nh_o, nh_fn, nh_fc, ss3_0, sat_n, sat_0, sat_c, sup_n, sup_c, supc_0, fsg_c, fsg_n, fss_c, fss_n, pbs_0, pb_t, so_t, ssOf_t, gIx_l, gIx_t, S_k, Option.map_none, e5]
  rw [cSeq_r]
  simp -implicitDefEqProofs only [k1_0, k1_e, k1_c, c1_r, k2b_0, k2b_e, k2b_c, k2a_0, k2a_e, k2a_c, c2_r, kN_0, kN_e, kN_c, cN_r, kTup_0, kTup_e, kTup_c, cTup_r, kLst_0, kLst_e, kLst_c, cLst_r, cK_r, caNil_r, kcb_0, kcb_e, kcb_c, kca_0, kca_e, kca_c, caCons_r, cxNil_r, kxb_0, kxb_e, kxb_c, kxa_0, kxa_e, kxa_c, cxD_r, cxS_r, kxs_0, cCall_r, kc1_0, kc1_e, kc2_0, kc3_0, kc3_e, kc3_c, ssOf_n, ss1_0, ss2_0, ssOf_d, ssOf_s, pb_n, pb_d, pb_s, so_n, so_d, so_s, di_n, di_1, di_c, cNext_r, cRetN_r, cBrk_r, cCnt_r, kRet_0, kRet_e, kRet_c, cRet_r, kDrop_0, kDrop_e, kDrop_c, cDrop_r, kSet_0, kSet_e, kSet_c, cSet_r, kAs_0, kAsg_0, kAsg_e, kAsg_c, cAsg_r, cgName_r, cgNil_r, kgc_0, cgCons_r, cgTup_r, cgLst_r, kPar_0, kPar_e, kPar_c, cPar_r, kPar3_0, kPar3_e, kPar3_c, cPar3_r, kap3_0, kap2_0, kap2_e, kap2_c, kap1_0, cApp_r, ksi3_0, ksi4_0, ksi2_0, ksi2_e, ksi2_c, ksi1_0, ksi0_0, ksi0_e, ksi0_c, cSetIx_r, kix_l, kix_t, kix_s, kSq_0, kSq_e, kSq_c, ciSeq_r, kr1_e, kr1_c, ciRange1_r, kr2_e, kr2_c, ciRange2_r, kFor_0, kFor_e, kFor_c, cFor_r, forL_c, forL_n, kf1_0, kf2_nx, kf2_ct, kf2_bk, kf2_rt, kf2_exc, kf2_cond, kb_0, kbb_0, kb1_0, kb1_c, kb1_e, cB1_r, kb3_0, kb3_e, kb3_c, kb2_0, kb2_c, kb2_e, cB2_r, kres_0, res_d, res_s, kbn_0, cbN_r, kbD_0, kbD_e, kbD_c, cbD_r, kv_0, cV_r, kvm_0, cVm_r, cV_0, st_0, gt_0, cV_1, st_1, gt_1, cV_2, st_2, gt_2, cV_3, st_3, gt_3, cV_4, st_4, gt_4, cV_5, st_5, gt_5, cV_6, st_6, gt_6, cV_7, st_7, gt_7, cV_8, st_8, gt_8, cV_9, st_9, gt_9, cV_10, st_10, gt_10, cV_11, st_11, gt_11, cV_12, st_12, gt_12, cV_13, st_13, gt_13, cV_14, st_14, gt_14, cV_15, st_15, gt_15, cV_16, st_16, gt_16, cV_17, st_17, gt_17, cV_18, st_18, gt_18, cV_19, st_19, gt_19, cV_20, st_20, gt_20, cV_21, st_21, gt_21, cV_22, st_22, gt_22, cV_23, st_23, gt_23, tCh2_0, tCh2_e, tCh1_0, tCh0b_0, tCh0b_e, tCh0a_0, tCh0a_e, cChain_r, lcL_nil, lcL_c, ml1_0, ml2_t, ml2_f, ml2_b, ml3_0, ml5_0, ml4_0, ml4_e, ml4_c, nO_d, nO_n, nO_l, noOwn_n, noOwn_c, wipe_n, wipe_c, rsE_0, rest_n, rest_c, mkF_r, fo_0, fx_0, fin_nx', fin_rt', fin_exc', ob_0, og_0, od_0, outs_n, outs_c, lift_some, S_d, S_l, gAdd, gSub, gNeg, gNot, gLt, gLe, gGt, gGe, gEq_ii, gNe_ii, gLen, gAbs, gInt, tru_b, gMax2, gMin2, gGcd, gList, gTuple, gAll, gAny, bools_nil, bools_cons, gIs_bb, gIsN_bb, gPow, gMul, gFd, gMod, atI_0, atI_1, atI_2, atI_3, ixL_1, ixL_2, ixL_3, ixN_41, ixN_42, ixN_43, List.getElem?_cons_zero, List.getElem?_cons_succ, List.set_cons_zero, List.set_cons_succ, List.map_cons, List.map_nil, List.length_cons, List.length_nil, List.cons_append, List.nil_append, List.replicate_succ, List.replicate_zero, List.length_map, ↓cond_true, ↓cond_false, cond_true, cond_false, Option.map_some, beq_self_eq_true, List.contains_cons, List.contains_nil, Bool.or_false, Bool.false_or, Bool.or_true, Bool.and_true, Bool.true_and, Bool.not_true, Bool.not_false, Nat.reduceBEq, Nat.reduceAdd, Nat.reduceSub, Nat.reduceEqDiff, reduceCtorEq, Bool.false_eq_true, sq_nx, sq_rt, sq_bad, sq_bk, sq_ct, sq_exc, dz0, dz1, dz2, dz3, dz4, dz5, dz6, dz7, dz8, dz9, dz10, dz11, dz12, ic0, ic1, ic2, ic3, ic4, tAnd_ok, tOr_ok, tIf_ok, tIfS_ok, tAnd_exc, tOr_exc, tIf_exc, tIfS_exc, cAnd_t, cOr_t, cIf_t, cIfS_t, co_and, co_or, tAnd_cond, tOr_cond, tIfS_cond, sq_cond, fin_cond, rangeL_2, rangeL_3, List.all_cons, List.all_nil, List.any_cons, List.any_nil, id, rng1_t, rng2_t, Int.reduceToNat, if_true, ite_true, if_false, eq_self, decide_true, decide_false, isi_int_n, isi_int_b, isi_int_i, isi_int_s, isi_int_l, isi_int_t, isi_bool_n, isi_bool_b, isi_bool_i, isi_bool_s, isi_bool_l, isi_bool_t, isi_str_n, isi_str_b, isi_str_i, isi_str_s, isi_str_l, isi_str_t, isi_list_n, isi_list_b, isi_list_i, isi_list_s, isi_list_l, isi_list_t, isi_tuple_n, isi_tuple_b, isi_tuple_i, isi_tuple_s, isi_tuple_l, isi_tuple_t, isi_dict_n, isi_dict_b, isi_dict_i, isi_dict_s, isi_dict_l, isi_dict_t, nh_d, nh_l, nh_k, nh_o, nh_fn, nh_fc, ss3_0, sat_n, sat_0, sat_c, sup_n, sup_c, supc_0, fsg_c, fsg_n, fss_c, fss_n, pbs_0, pb_t, so_t, ssOf_t, gIx_l, gIx_t, S_k, Option.map_none, e6, ha]
  rw [cSeq_r]
  simp -implicitDefEqProofs only [k1_0, k1_e, k1_c, c1_r, k2b_0, k2b_e, k2b_c, k2a_0, k2a_e, k2a_c, c2_r, kN_0, kN_e, kN_c, cN_r, kTup_0, kTup_e, kTup_c, cTup_r, kLst_0, kLst_e, kLst_c, cLst_r, cK_r, caNil_r, kcb_0, kcb_e, kcb_c, kca_0, kca_e, kca_c, caCons_r, cxNil_r, kxb_0, kxb_e, kxb_c, kxa_0, kxa_e, kxa_c, cxD_r, cxS_r, kxs_0, cCall_r, kc1_0, kc1_e, kc2_0, kc3_0, kc3_e, kc3_c, ssOf_n, ss1_0, ss2_0, ssOf_d, ssOf_s, pb_n, pb_d, pb_s, so_n, so_d, so_s, di_n, di_1, di_c, cNext_r, cRetN_r, cBrk_r, cCnt_r, kRet_0, kRet_e, kRet_c, cRet_r, kDrop_0, kDrop_e, kDrop_c, cDrop_r, kSet_0, kSet_e, kSet_c, cSet_r, kAs_0, kAsg_0, kAsg_e, kAsg_c, cAsg_r, cgName_r, cgNil_r, kgc_0, cgCons_r, cgTup_r, cgLst_r, kPar_0, kPar_e, kPar_c, cPar_r, kPar3_0, kPar3_e, kPar3_c, cPar3_r, kap3_0, kap2_0, kap2_e, kap2_c, kap1_0, cApp_r, ksi3_0, ksi4_0, ksi2_0, ksi2_e, ksi2_c, ksi1_0, ksi0_0, ksi0_e, ksi0_c, cSetIx_r, kix_l, kix_t, kix_s, kSq_0, kSq_e, kSq_c, ciSeq_r, kr1_e, kr1_c, ciRange1_r, kr2_e, kr2_c, ciRange2_r, kFor_0, kFor_e, kFor_c, cFor_r, forL_c, forL_n, kf1_0, kf2_nx, kf2_ct, kf2_bk, kf2_rt, kf2_exc, kf2_cond, kb_0, kbb_0, kb1_0, kb1_c, kb1_e, cB1_r, kb3_0, kb3_e, kb3_c, kb2_0, kb2_c, kb2_e, cB2_r, kres_0, res_d, res_s, kbn_0, cbN_r, kbD_0, kbD_e, kbD_c, cbD_r, kv_0, cV_r, kvm_0, cVm_r, cV_0, st_0, gt_0, cV_1, st_1, gt_1, cV_2, st_2, gt_2, cV_3, st_3, gt_3, cV_4, st_4, gt_4, cV_5, st_5, gt_5, cV_6, st_6, gt_6, cV_7, st_7, gt_7, cV_8, st_8, gt_8, cV_9, st_9, gt_9, cV_10, st_10, gt_10, cV_11, st_11, gt_11, cV_12, st_12, gt_12, cV_13, st_13, gt_13, cV_14, st_14, gt_14, cV_15, st_15, gt_15, cV_16, st_16, gt_16, cV_17, st_17, gt_17, cV_18, st_18, gt_18, cV_19, st_19, gt_19, cV_20, st_20, gt_20, cV_21, st_21, gt_21, cV_22, st_22, gt_22, cV_23, st_23, gt_23, tCh2_0, tCh2_e, tCh1_0, tCh0b_0, tCh0b_e, tCh0a_0, tCh0a_e, cChain_r, lcL_nil, lcL_c, ml1_0, ml2_t, ml2_f, ml2_b, ml3_0, ml5_0, ml4_0, ml4_e, ml4_c, nO_d, nO_n, nO_l, noOwn_n, noOwn_c, wipe_n, wipe_c, rsE_0, rest_n, rest_c, mkF_r, fo_0, fx_0, fin_nx', fin_rt', fin_exc', ob_0, og_0, od_0, outs_n, outs_c, lift_some, S_d, S_l, gAdd, gSub, gNeg, gNot, gLt, gLe, gGt, gGe, gEq_ii, gNe_ii, gLen, gAbs, gInt, tru_b, gMax2, gMin2, gGcd, gList, gTuple, gAll, gAny, bools_nil, bools_cons, gIs_bb, gIsN_bb, gPow, gMul, gFd, gMod, atI_0, atI_1, atI_2, atI_3, ixL_1, ixL_2, ixL_3, ixN_41, ixN_42, ixN_43, List.getElem?_cons_zero, List.getElem?_cons_succ, List.set_cons_zero, List.set_cons_succ, List.map_cons, List.map_nil, List.length_cons, List.length_nil, List.cons_append, List.nil_append, List.replicate_succ, List.replicate_zero, List.length_map, ↓cond_true, ↓cond_false, cond_true, cond_false, Option.map_some, beq_self_eq_true, List.contains_cons, List.contains_nil, Bool.or_false, Bool.false_or, Bool.or_true, Bool.and_true, Bool.true_and, Bool.not_true, Bool.not_false, Nat.reduceBEq, Nat.reduceAdd, Nat.reduceSub, Nat.reduceEqDiff, reduceCtorEq, Bool.false_eq_true, sq_nx, sq_rt, sq_bad, sq_bk, sq_ct, sq_exc, dz0, dz1, dz2, dz3, dz4, dz5, dz6, dz7, dz8, dz9, dz10, dz11, dz12, ic0, ic1, ic2, ic3, ic4, tAnd_ok, tOr_ok, tIf_ok, tIfS_ok, tAnd_exc, tOr_exc, tIf_exc, tIfS_exc, cAnd_t, cOr_t, cIf_t, cIfS_t, co_and, co_or, tAnd_cond, tOr_cond, tIfS_cond, sq_cond, fin_cond, rangeL_2, rangeL_3, List.all_cons, List.all_nil, List.any_cons, List.any_nil, id, rng1_t, rng2_t, Int.reduceToNat, if_true, ite_true, if_false, eq_self, decide_true, decide_false, isi_int_n, isi_int_b, isi_int_i, isi_int_s, isi_int_l, isi_int_t, isi_bool_n, isi_bool_b, isi_bool_i, isi_bool_s, isi_bool_l, isi_bool_t, isi_str_n, isi_str_b, isi_str_i, isi_str_s, isi_str_l, isi_str_t, isi_list_n, isi_list_b, isi_list_i, isi_list_s, isi_list_l, isi_list_t, isi_tuple_n, isi_tuple_b, isi_tuple_i, isi_tuple_s, isi_tuple_l, isi_tuple_t, isi_dict_n, isi_dict_b, isi_dict_i, isi_dict_s, isi_dict_l, isi_dict_t, nh_d, nh_l, nh_k, nh_o, nh_fn, nh_fc, ss3_0, sat_n, sat_0, sat_c, sup_n, sup_c, supc_0, fsg_c, fsg_n, fss_c, fss_n, pbs_0, pb_t, so_t, ssOf_t, gIx_l, gIx_t, S_k, Option.map_none, e7, hb]
  rw [cSeq_r]
  simp -implicitDefEqProofs only [k1_0, k1_e, k1_c, c1_r, k2b_0, k2b_e, k2b_c, k2a_0, k2a_e, k2a_c, c2_r, kN_0, kN_e, kN_c, cN_r, kTup_0, kTup_e, kTup_c, cTup_r, kLst_0, kLst_e, kLst_c, cLst_r, cK_r, caNil_r, kcb_0, kcb_e, kcb_c, kca_0, kca_e, kca_c, caCons_r, cxNil_r, kxb_0, kxb_e, kxb_c, kxa_0, kxa_e, kxa_c, cxD_r, cxS_r, kxs_0, cCall_r, kc1_0, kc1_e, kc2_0, kc3_0, kc3_e, kc3_c, ssOf_n, ss1_0, ss2_0, ssOf_d, ssOf_s, pb_n, pb_d, pb_s, so_n, so_d, so_s, di_n, di_1, di_c, cNext_r, cRetN_r, cBrk_r, cCnt_r, kRet_0, kRet_e, kRet_c, cRet_r, kDrop_0, kDrop_e, kDrop_c, cDrop_r, kSet_0, kSet_e, kSet_c, cSet_r, kAs_0, kAsg_0, kAsg_e, kAsg_c, cAsg_r, cgName_r, cgNil_r, kgc_0, cgCons_r, cgTup_r, cgLst_r, kPar_0, kPar_e, kPar_c, cPar_r, kPar3_0, kPar3_e, kPar3_c, cPar3_r, kap3_0, kap2_0, kap2_e, kap2_c, kap1_0, cApp_r, ksi3_0, ksi4_0, ksi2_0, ksi2_e, ksi2_c, ksi1_0, ksi0_0, ksi0_e, ksi0_c, cSetIx_r, kix_l, kix_t, kix_s, kSq_0, kSq_e, kSq_c, ciSeq_r, kr1_e, kr1_c, ciRange1_r, kr2_e, kr2_c, ciRange2_r, kFor_0, kFor_e, kFor_c, cFor_r, forL_c, forL_n, kf1_0, kf2_nx, kf2_ct, kf2_bk, kf2_rt, kf2_exc, kf2_cond, kb_0, kbb_0, kb1_0, kb1_c, kb1_e, cB1_r, kb3_0, kb3_e, kb3_c, kb2_0, kb2_c, kb2_e, cB2_r, kres_0, res_d, res_s, kbn_0, cbN_r, kbD_0, kbD_e, kbD_c, cbD_r, kv_0, cV_r, kvm_0, cVm_r, cV_0, st_0, gt_0, cV_1, st_1, gt_1, cV_2, st_2, gt_2, cV_3, st_3, gt_3, cV_4, st_4, gt_4, cV_5, st_5, gt_5, cV_6, st_6, gt_6, cV_7, st_7, gt_7, cV_8, st_8, gt_8, cV_9, st_9, gt_9, cV_10, st_10, gt_10, cV_11, st_11, gt_11, cV_12, st_12, gt_12, cV_13, st_13, gt_13, cV_14, st_14, gt_14, cV_15, st_15, gt_15, cV_16, st_16, gt_16, cV_17, st_17, gt_17, cV_18, st_18, gt_18, cV_19, st_19, gt_19, cV_20, st_20, gt_20, cV_21, st_21, gt_21, cV_22, st_22, gt_22, cV_23, st_23, gt_23, tCh2_0, tCh2_e, tCh1_0, tCh0b_0, tCh0b_e, tCh0a_0, tCh0a_e, cChain_r, lcL_nil, lcL_c, ml1_0, ml2_t, ml2_f, ml2_b, ml3_0, ml5_0, ml4_0, ml4_e, ml4_c, nO_d, nO_n, nO_l, noOwn_n, noOwn_c, wipe_n, wipe_c, rsE_0, rest_n, rest_c, mkF_r, fo_0, fx_0, fin_nx', fin_rt', fin_exc', ob_0, og_0, od_0, outs_n, outs_c, lift_some, S_d, S_l, gAdd, gSub, gNeg, gNot, gLt, gLe, gGt, gGe, gEq_ii, gNe_ii, gLen, gAbs, gInt, tru_b, gMax2, gMin2, gGcd, gList, gTuple, gAll, gAny, bools_nil, bools_cons, gIs_bb, gIsN_bb, gPow, gMul, gFd, gMod, atI_0, atI_1, atI_2, atI_3, ixL_1, ixL_2, ixL_3, ixN_41, ixN_42, ixN_43, List.getElem?_cons_zero, List.getElem?_cons_succ, List.set_cons_zero, List.set_cons_succ, List.map_cons, List.map_nil, List.length_cons, List.length_nil, List.cons_append, List.nil_append, List.replicate_succ, List.replicate_zero, List.length_map, ↓cond_true, ↓cond_false, cond_true, cond_false, Option.map_some, beq_self_eq_true, List.contains_cons, List.contains_nil, Bool.or_false, Bool.false_or, Bool.or_true, Bool.and_true, Bool.true_and, Bool.not_true, Bool.not_false, Nat.reduceBEq, Nat.reduceAdd, Nat.reduceSub, Nat.reduceEqDiff, reduceCtorEq, Bool.false_eq_true, sq_nx, sq_rt, sq_bad, sq_bk, sq_ct, sq_exc, dz0, dz1, dz2, dz3, dz4, dz5, dz6, dz7, dz8, dz9, dz10, dz11, dz12, ic0, ic1, ic2, ic3, ic4, tAnd_ok, tOr_ok, tIf_ok, tIfS_ok, tAnd_exc, tOr_exc, tIf_exc, tIfS_exc, cAnd_t, cOr_t, cIf_t, cIfS_t, co_and, co_or, tAnd_cond, tOr_cond, tIfS_cond, sq_cond, fin_cond, rangeL_2, rangeL_3, List.all_cons, List.all_nil, List.any_cons, List.any_nil, id, rng1_t, rng2_t, Int.reduceToNat, if_true, ite_true, if_false, eq_self, decide_true, decide_false, isi_int_n, isi_int_b, isi_int_i, isi_int_s, isi_int_l, isi_int_t, isi_bool_n, isi_bool_b, isi_bool_i, isi_bool_s, isi_bool_l, isi_bool_t, isi_str_n, isi_str_b, isi_str_i, isi_str_s, isi_str_l, isi_str_t, isi_list_n, isi_list_b, isi_list_i, isi_list_s, isi_list_l, isi_list_t, isi_tuple_n, isi_tuple_b, isi_tuple_i, isi_tuple_s, isi_tuple_l, isi_tuple_t, isi_dict_n, isi_dict_b, isi_dict_i, isi_dict_s, isi_dict_l, isi_dict_t, nh_d, nh_l, nh_k, nh_o, nh_fn, nh_fc, ss3_0, sat_n, sat_0, sat_c, sup_n, sup_c, supc_0, fsg_c, fsg_n, fss_c, fss_n, pbs_0, pb_t, so_t, ssOf_t, gIx_l, gIx_t, S_k, Option.map_none, gx, gy, z1, pa]
  rw [cSeq_r]
  simp -implicitDefEqProofs only [k1_0, k1_e, k1_c, c1_r, k2b_0, k2b_e, k2b_c, k2a_0, k2a_e, k2a_c, c2_r, kN_0, kN_e, kN_c, cN_r, kTup_0, kTup_e, kTup_c, cTup_r, kLst_0, kLst_e, kLst_c, cLst_r, cK_r, caNil_r, kcb_0, kcb_e, kcb_c, kca_0, kca_e, kca_c, caCons_r, cxNil_r, kxb_0, kxb_e, kxb_c, kxa_0, kxa_e, kxa_c, cxD_r, cxS_r, kxs_0, cCall_r, kc1_0, kc1_e, kc2_0, kc3_0, kc3_e, kc3_c, ssOf_n, ss1_0, ss2_0, ssOf_d, ssOf_s, pb_n, pb_d, pb_s, so_n, so_d, so_s, di_n, di_1, di_c, cNext_r, cRetN_r, cBrk_r, cCnt_r, kRet_0, kRet_e, kRet_c, cRet_r, kDrop_0, kDrop_e, kDrop_c, cDrop_r, kSet_0, kSet_e, kSet_c, cSet_r, kAs_0, kAsg_0, kAsg_e, kAsg_c, cAsg_r, cgName_r, cgNil_r, kgc_0, cgCons_r, cgTup_r, cgLst_r, kPar_0, kPar_e, kPar_c, cPar_r, kPar3_0, kPar3_e, kPar3_c, cPar3_r, kap3_0, kap2_0, kap2_e, kap2_c, kap1_0, cApp_r, ksi3_0, ksi4_0, ksi2_0, ksi2_e, ksi2_c, ksi1_0, ksi0_0, ksi0_e, ksi0_c, cSetIx_r, kix_l, kix_t, kix_s, kSq_0, kSq_e, kSq_c, ciSeq_r, kr1_e, kr1_c, ciRange1_r, kr2_e, kr2_c, ciRange2_r, kFor_0, kFor_e, kFor_c, cFor_r, forL_c, forL_n, kf1_0, kf2_nx, kf2_ct, kf2_bk, kf2_rt, kf2_exc, kf2_cond, kb_0, kbb_0, kb1_0, kb1_c, kb1_e, cB1_r, kb3_0, kb3_e, kb3_c, kb2_0, kb2_c, kb2_e, cB2_r, kres_0, res_d, res_s, kbn_0, cbN_r, kbD_0, kbD_e, kbD_c, cbD_r, kv_0, cV_r, kvm_0, cVm_r, cV_0, st_0, gt_0, cV_1, st_1, gt_1, cV_2, st_2, gt_2, cV_3, st_3, gt_3, cV_4, st_4, gt_4, cV_5, st_5, gt_5, cV_6, st_6, gt_6, cV_7, st_7, gt_7, cV_8, st_8, gt_8, cV_9, st_9, gt_9, cV_10, st_10, gt_10, cV_11, st_11, gt_11, cV_12, st_12, gt_12, cV_13, st_13, gt_13, cV_14, st_14, gt_14, cV_15, st_15, gt_15, cV_16, st_16, gt_16, cV_17, st_17, gt_17, cV_18, st_18, gt_18, cV_19, st_19, gt_19, cV_20, st_20, gt_20, cV_21, st_21, gt_21, cV_22, st_22, gt_22, cV_23, st_23, gt_23, tCh2_0, tCh2_e, tCh1_0, tCh0b_0, tCh0b_e, tCh0a_0, tCh0a_e, cChain_r, lcL_nil, lcL_c, ml1_0, ml2_t, ml2_f, ml2_b, ml3_0, ml5_0, ml4_0, ml4_e, ml4_c, nO_d, nO_n, nO_l, noOwn_n, noOwn_c, wipe_n, wipe_c, rsE_0, rest_n, rest_c, mkF_r, fo_0, fx_0, fin_nx', fin_rt', fin_exc', ob_0, og_0, od_0, outs_n, outs_c, lift_some, S_d, S_l, gAdd, gSub, gNeg, gNot, gLt, gLe, gGt, gGe, gEq_ii, gNe_ii, gLen, gAbs, gInt, tru_b, gMax2, gMin2, gGcd, gList, gTuple, gAll, gAny, bools_nil, bools_cons, gIs_bb, gIsN_bb, gPow, gMul, gFd, gMod, atI_0, atI_1, atI_2, atI_3, ixL_1, ixL_2, ixL_3, ixN_41, ixN_42, ixN_43, List.getElem?_cons_zero, List.getElem?_cons_succ, List.set_cons_zero, List.set_cons_succ, List.map_cons, List.map_nil, List.length_cons, List.length_nil, List.cons_append, List.nil_append, List.replicate_succ, List.replicate_zero, List.length_map, ↓cond_true, ↓cond_false, cond_true, cond_false, Option.map_some, beq_self_eq_true, List.contains_cons, List.contains_nil, Bool.or_false, Bool.false_or, Bool.or_true, Bool.and_true, Bool.true_and, Bool.not_true, Bool.not_false, Nat.reduceBEq, Nat.reduceAdd, Nat.reduceSub, Nat.reduceEqDiff, reduceCtorEq, Bool.false_eq_true, sq_nx, sq_rt, sq_bad, sq_bk, sq_ct, sq_exc, dz0, dz1, dz2, dz3, dz4, dz5, dz6, dz7, dz8, dz9, dz10, dz11, dz12, ic0, ic1, ic2, ic3, ic4, tAnd_ok, tOr_ok, tIf_ok, tIfS_ok, tAnd_exc, tOr_exc, tIf_exc, tIfS_exc, cAnd_t, cOr_t, cIf_t, cIfS_t, co_and, co_or, tAnd_cond, tOr_cond, tIfS_cond, sq_cond, fin_cond, rangeL_2, rangeL_3, List.all_cons, List.all_nil, List.any_cons, List.any_nil, id, rng1_t, rng2_t, Int.reduceToNat, if_true, ite_true, if_false, eq_self, decide_true, decide_false, isi_int_n, isi_int_b, isi_int_i, isi_int_s, isi_int_l, isi_int_t, isi_bool_n, isi_bool_b, isi_bool_i, isi_bool_s, isi_bool_l, isi_bool_t, isi_str_n, isi_str_b, isi_str_i, isi_str_s, isi_str_l, isi_str_t, isi_list_n, isi_list_b, isi_list_i, isi_list_s, isi_list_l, isi_list_t, isi_tuple_n, isi_tuple_b, isi_tuple_i, isi_tuple_s, isi_tuple_l, isi_tuple_t, isi_dict_n, isi_dict_b, isi_dict_i, isi_dict_s, isi_dict_l, isi_dict_t, nh_d, nh_l, nh_k, nh_o, nh_fn, nh_fc, ss3_0, sat_n, sat_0, sat_c, sup_n, sup_c, supc_0, fsg_c, fsg_n, fss_c, fss_n, pbs_0, pb_t, so_t, ssOf_t, gIx_l, gIx_t, S_k, Option.map_none, gx, gy, hx, hy, g1, g2, z2, pb]
  rw [cSeq_r]
  simp -implicitDefEqProofs only [k1_0, k1_e, k1_c, c1_r, k2b_0, k2b_e, k2b_c, k2a_0, k2a_e, k2a_c, c2_r, kN_0, kN_e, kN_c, cN_r, kTup_0, kTup_e, kTup_c, cTup_r, kLst_0, kLst_e, kLst_c, cLst_r, cK_r, caNil_r, kcb_0, kcb_e, kcb_c, kca_0, kca_e, kca_c, caCons_r, cxNil_r, kxb_0, kxb_e, kxb_c, kxa_0, kxa_e, kxa_c, cxD_r, cxS_r, kxs_0, cCall_r, kc1_0, kc1_e, kc2_0, kc3_0, kc3_e, kc3_c, ssOf_n, ss1_0, ss2_0, ssOf_d, ssOf_s, pb_n, pb_d, pb_s, so_n, so_d, so_s, di_n, di_1, di_c, cNext_r, cRetN_r, cBrk_r, cCnt_r, kRet_0, kRet_e, kRet_c, cRet_r, kDrop_0, kDrop_e, kDrop_c, cDrop_r, kSet_0, kSet_e, kSet_c, cSet_r, kAs_0, kAsg_0, kAsg_e, kAsg_c, cAsg_r, cgName_r, cgNil_r, kgc_0, cgCons_r, cgTup_r, cgLst_r, kPar_0, kPar_e, kPar_c, cPar_r, kPar3_0, kPar3_e, kPar3_c, cPar3_r, kap3_0, kap2_0, kap2_e, kap2_c, kap1_0, cApp_r, ksi3_0, ksi4_0, ksi2_0, ksi2_e, ksi2_c, ksi1_0, ksi0_0, ksi0_e, ksi0_c, cSetIx_r, kix_l, kix_t, kix_s, kSq_0, kSq_e, kSq_c, ciSeq_r, kr1_e, kr1_c, ciRange1_r, kr2_e, kr2_c, ciRange2_r, kFor_0, kFor_e, kFor_c, cFor_r, kf1_0, kf2_nx, kf2_ct, kf2_bk, kf2_rt, kf2_exc, kf2_cond, kb_0, kbb_0, kb1_0, kb1_c, kb1_e, cB1_r, kb3_0, kb3_e, kb3_c, kb2_0, kb2_c, kb2_e, cB2_r, kres_0, res_d, res_s, kbn_0, cbN_r, kbD_0, kbD_e, kbD_c, cbD_r, kv_0, cV_r, kvm_0, cVm_r, cV_0, st_0, gt_0, cV_1, st_1, gt_1, cV_2, st_2, gt_2, cV_3, st_3, gt_3, cV_4, st_4, gt_4, cV_5, st_5, gt_5, cV_6, st_6, gt_6, cV_7, st_7, gt_7, cV_8, st_8, gt_8, cV_9, st_9, gt_9, cV_10, st_10, gt_10, cV_11, st_11, gt_11, cV_12, st_12, gt_12, cV_13, st_13, gt_13, cV_14, st_14, gt_14, cV_15, st_15, gt_15, cV_16, st_16, gt_16, cV_17, st_17, gt_17, cV_18, st_18, gt_18, cV_19, st_19, gt_19, cV_20, st_20, gt_20, cV_21, st_21, gt_21, cV_22, st_22, gt_22, cV_23, st_23, gt_23, tCh2_0, tCh2_e, tCh1_0, tCh0b_0, tCh0b_e, tCh0a_0, tCh0a_e, cChain_r, lcL_nil, lcL_c, ml1_0, ml2_t, ml2_f, ml2_b, ml3_0, ml5_0, ml4_0, ml4_e, ml4_c, nO_d, nO_n, nO_l, noOwn_n, noOwn_c, wipe_n, wipe_c, rsE_0, rest_n, rest_c, mkF_r, fo_0, fx_0, fin_nx', fin_rt', fin_exc', ob_0, og_0, od_0, outs_n, outs_c, lift_some, S_d, S_l, gAdd, gSub, gNeg, gNot, gLt, gLe, gGt, gGe, gEq_ii, gNe_ii, gLen, gAbs, gInt, tru_b, gMax2, gMin2, gGcd, gList, gTuple, gAll, gAny, bools_nil, bools_cons, gIs_bb, gIsN_bb, gPow, gMul, gFd, gMod, atI_0, atI_1, atI_2, atI_3, ixL_1, ixL_2, ixL_3, ixN_41, ixN_42, ixN_43, List.getElem?_cons_zero, List.getElem?_cons_succ, List.set_cons_zero, List.set_cons_succ, List.map_cons, List.map_nil, List.length_cons, List.length_nil, List.cons_append, List.nil_append, List.replicate_succ, List.replicate_zero, List.length_map, ↓cond_true, ↓cond_false, cond_true, cond_false, Option.map_some, beq_self_eq_true, List.contains_cons, List.contains_nil, Bool.or_false, Bool.false_or, Bool.or_true, Bool.and_true, Bool.true_and, Bool.not_true, Bool.not_false, Nat.reduceBEq, Nat.reduceAdd, Nat.reduceSub, Nat.reduceEqDiff, reduceCtorEq, Bool.false_eq_true, sq_nx, sq_rt, sq_bad, sq_bk, sq_ct, sq_exc, dz0, dz1, dz2, dz3, dz4, dz5, dz6, dz7, dz8, dz9, dz10, dz11, dz12, ic0, ic1, ic2, ic3, ic4, tAnd_ok, tOr_ok, tIf_ok, tIfS_ok, tAnd_exc, tOr_exc, tIf_exc, tIfS_exc, cAnd_t, cOr_t, cIf_t, cIfS_t, co_and, co_or, tAnd_cond, tOr_cond, tIfS_cond, sq_cond, fin_cond, rangeL_2, rangeL_3, List.all_cons, List.all_nil, List.any_cons, List.any_nil, id, rng1_t, rng2_t, Int.reduceToNat, if_true, ite_true, if_false, eq_self, decide_true, decide_false, isi_int_n, isi_int_b, isi_int_i, isi_int_s, isi_int_l, isi_int_t, isi_bool_n, isi_bool_b, isi_bool_i, isi_bool_s, isi_bool_l, isi_bool_t, isi_str_n, isi_str_b, isi_str_i, isi_str_s, isi_str_l, isi_str_t, isi_list_n, isi_list_b, isi_list_i, isi_list_s, isi_list_l, isi_list_t, isi_tuple_n, isi_tuple_b, isi_tuple_i, isi_tuple_s, isi_tuple_l, isi_tuple_t, isi_dict_n, isi_dict_b, isi_dict_i, isi_dict_s, isi_dict_l, isi_dict_t, nh_d, nh_l, nh_k, nh_o, nh_fn, nh_fc, ss3_0, sat_n, sat_0, sat_c, sup_n, sup_c, supc_0, fsg_c, fsg_n, fss_c, fss_n, pbs_0, pb_t, so_t, ssOf_t, gIx_l, gIx_t, S_k, Option.map_none, gx, gy, hx, hy, m1, m2, g3, g4, z3, pc, e8]
theorem mk110 {c : CS} {s : S} : mkF 1 10 [] c [s] = finish [] [s] (c [some s, none, none, none, none, none, none, none, none, none]) := rfl
theorem law_true : LawTrue F_law := by
  intro ns _ _
  obtain ⟨l0, e0, k0⟩ := pot_spec ns
  obtain ⟨ρ', e, l, x2, x3, x4, x5, x6, x7, x8, x9, rfl, _⟩ := forL_nx (g := cgName 2) (body := L_law_1)
    (fun _ ρ => ∃ (l : List PyData) (x2 x3 x4 x5 x6 x7 x8 x9 : Option S), ρ = [some (.dat (.list (ns.map .int))), some (.lst l), x2, x3, x4, x5, x6, x7, x8, x9] ∧ PotOk l)
    (fun d ds ρ h => by
      obtain ⟨l, x2, x3, x4, x5, x6, x7, x8, x9, rfl, hl⟩ := h
      obtain ⟨l', y3, y4, y5, y6, y7, y8, y9, e, hl'⟩ := law_turn (sc := .list (ns.map .int)) (d := d) (x3 := x3) (x4 := x4) (x5 := x5) (x6 := x6) (x7 := x7) (x8 := x8) (x9 := x9) hl
      exact ⟨_, _, rfl, e, l', _, y3, y4, y5, y6, y7, y8, y9, rfl, hl'⟩) (rangeL 0 4) [some (.dat (.list (ns.map .int))), some (.lst l0), none, none, none, none, none, none, none, none] ⟨l0, none, none, none, none, none, none, none, none, rfl, k0⟩
  have s4 : Sml 4 := by unfold Sml; omega
  have tn : (4 : Int).toNat = 4 := rfl
  unfold F_law M_law
  rw [mk110, cSeq_r]
  simp -implicitDefEqProofs only [k1_0, k1_e, k1_c, c1_r, k2b_0, k2b_e, k2b_c, k2a_0, k2a_e, k2a_c, c2_r, kN_0, kN_e, kN_c, cN_r, kTup_0, kTup_e, kTup_c, cTup_r, kLst_0, kLst_e, kLst_c, cLst_r, cK_r, caNil_r, kcb_0, kcb_e, kcb_c, kca_0, kca_e, kca_c, caCons_r, cxNil_r, kxb_0, kxb_e, kxb_c, kxa_0, kxa_e, kxa_c, cxD_r, cxS_r, kxs_0, cCall_r, kc1_0, kc1_e, kc2_0, kc3_0, kc3_e, kc3_c, ssOf_n, ss1_0, ss2_0, ssOf_d, ssOf_s, pb_n, pb_d, pb_s, so_n, so_d, so_s, di_n, di_1, di_c, cNext_r, cRetN_r, cBrk_r, cCnt_r, kRet_0, kRet_e, kRet_c, cRet_r, kDrop_0, kDrop_e, kDrop_c, cDrop_r, kSet_0, kSet_e, kSet_c, cSet_r, kAs_0, kAsg_0, kAsg_e, kAsg_c, cAsg_r, cgName_r, cgNil_r, kgc_0, cgCons_r, cgTup_r, cgLst_r, kPar_0, kPar_e, kPar_c, cPar_r, kPar3_0, kPar3_e, kPar3_c, cPar3_r, kap3_0, kap2_0, kap2_e, kap2_c, kap1_0, cApp_r, ksi3_0, ksi4_0, ksi2_0, ksi2_e, ksi2_c, ksi1_0, ksi0_0, ksi0_e, ksi0_c, cSetIx_r, kix_l, kix_t, kix_s, kSq_0, kSq_e, kSq_c, ciSeq_r, kr1_e, kr1_c, ciRange1_r, kr2_e, kr2_c, ciRange2_r, kFor_0, kFor_e, kFor_c, cFor_r, forL_c, forL_n, kf1_0, kf2_nx, kf2_ct, kf2_bk, kf2_rt, kf2_exc, kf2_cond, kb_0, kbb_0, kb1_0, kb1_c, kb1_e, cB1_r, kb3_0, kb3_e, kb3_c, kb2_0, kb2_c, kb2_e, cB2_r, kres_0, res_d, res_s, kbn_0, cbN_r, kbD_0, kbD_e, kbD_c, cbD_r, kv_0, cV_r, kvm_0, cVm_r, cV_0, st_0, gt_0, cV_1, st_1, gt_1, cV_2, st_2, gt_2, cV_3, st_3, gt_3, cV_4, st_4, gt_4, cV_5, st_5, gt_5, cV_6, st_6, gt_6, cV_7, st_7, gt_7, cV_8, st_8, gt_8, cV_9, st_9, gt_9, cV_10, st_10, gt_10, cV_11, st_11, gt_11, cV_12, st_12, gt_12, cV_13, st_13, gt_13, cV_14, st_14, gt_14, cV_15, st_15, gt_15, cV_16, st_16, gt_16, cV_17, st_17, gt_17, cV_18, st_18, gt_18, cV_19, st_19, gt_19, cV_20, st_20, gt_20, cV_21, st_21, gt_21, cV_22, st_22, gt_22, cV_23, st_23, gt_23, tCh2_0, tCh2_e, tCh1_0, tCh0b_0, tCh0b_e, tCh0a_0, tCh0a_e, cChain_r, lcL_nil, lcL_c, ml1_0, ml2_t, ml2_f, ml2_b, ml3_0, ml5_0, ml4_0, ml4_e, ml4_c, nO_d, nO_n, nO_l, noOwn_n, noOwn_c, wipe_n, wipe_c, rsE_0, rest_n, rest_c, mkF_r, fo_0, fx_0, fin_nx', fin_rt', fin_exc', ob_0, og_0, od_0, outs_n, outs_c, lift_some, S_d, S_l, gAdd, gSub, gNeg, gNot, gLt, gLe, gGt, gGe, gEq_ii, gNe_ii, gLen, gAbs, gInt, tru_b, gMax2, gMin2, gGcd, gList, gTuple, gAll, gAny, bools_nil, bools_cons, gIs_bb, gIsN_bb, gPow, gMul, gFd, gMod, atI_0, atI_1, atI_2, atI_3, ixL_1, ixL_2, ixL_3, ixN_41, ixN_42, ixN_43, List.getElem?_cons_zero, List.getElem?_cons_succ, List.set_cons_zero, List.set_cons_succ, List.map_cons, List.map_nil, List.length_cons, List.length_nil, List.cons_append, List.nil_append, List.replicate_succ, List.replicate_zero, List.length_map, ↓cond_true, ↓cond_false, cond_true, cond_false, Option.map_some, beq_self_eq_true, List.contains_cons, List.contains_nil, Bool.or_false, Bool.false_or, Bool.or_true, Bool.and_true, Bool.true_and, Bool.not_true, Bool.not_false, Nat.reduceBEq, Nat.reduceAdd, Nat.reduceSub, Nat.reduceEqDiff, reduceCtorEq, Bool.false_eq_true, sq_nx, sq_rt, sq_bad, sq_bk, sq_ct, sq_exc, dz0, dz1, dz2, dz3, dz4, dz5, dz6, dz7, dz8, dz9, dz10, dz11, dz12, ic0, ic1, ic2, ic3, ic4, tAnd_ok, tOr_ok, tIf_ok, tIfS_ok, tAnd_exc, tOr_exc, tIf_exc, tIfS_exc, cAnd_t, cOr_t, cIf_t, cIfS_t, co_and, co_or, tAnd_cond, tOr_cond, tIfS_cond, sq_cond, fin_cond, rangeL_2, rangeL_3, List.all_cons, List.all_nil, List.any_cons, List.any_nil, id, rng1_t, rng2_t, Int.reduceToNat, if_true, ite_true, if_false, eq_self, decide_true, decide_false, isi_int_n, isi_int_b, isi_int_i, isi_int_s, isi_int_l, isi_int_t, isi_bool_n, isi_bool_b, isi_bool_i, isi_bool_s, isi_bool_l, isi_bool_t, isi_str_n, isi_str_b, isi_str_i, isi_str_s, isi_str_l, isi_str_t, isi_list_n, isi_list_b, isi_list_i, isi_list_s, isi_list_l, isi_list_t, isi_tuple_n, isi_tuple_b, isi_tuple_i, isi_tuple_s, isi_tuple_l, isi_tuple_t, isi_dict_n, isi_dict_b, isi_dict_i, isi_dict_s, isi_dict_l, isi_dict_t, nh_d, nh_l, nh_k, nh_o, nh_fn, nh_fc, ss3_0, sat_n, sat_0, sat_c, sup_n, sup_c, supc_0, fsg_c, fsg_n, fss_c, fss_n, pbs_0, pb_t, so_t, ssOf_t, gIx_l, gIx_t, S_k, Option.map_none, e0]
  rw [cSeq_r]
  simp -implicitDefEqProofs only [k1_0, k1_e, k1_c, c1_r, k2b_0, k2b_e, k2b_c, k2a_0, k2a_e, k2a_c, c2_r, kN_0, kN_e, kN_c, cN_r, kTup_0, kTup_e, kTup_c, cTup_r, kLst_0, kLst_e, kLst_c, cLst_r, cK_r, caNil_r, kcb_0, kcb_e, kcb_c, kca_0, kca_e, kca_c, caCons_r, cxNil_r, kxb_0, kxb_e, kxb_c, kxa_0, kxa_e, kxa_c, cxD_r, cxS_r, kxs_0, cCall_r, kc1_0, kc1_e, kc2_0, kc3_0, kc3_e, kc3_c, ssOf_n, ss1_0, ss2_0, ssOf_d, ssOf_s, pb_n, pb_d, pb_s, so_n, so_d, so_s, di_n, di_1, di_c, cNext_r, cRetN_r, cBrk_r, cCnt_r, kRet_0, kRet_e, kRet_c, cRet_r, kDrop_0, kDrop_e, kDrop_c, cDrop_r, kSet_0, kSet_e, kSet_c, cSet_r, kAs_0, kAsg_0, kAsg_e, kAsg_c, cAsg_r, cgName_r, cgNil_r, kgc_0, cgCons_r, cgTup_r, cgLst_r, kPar_0, kPar_e, kPar_c, cPar_r, kPar3_0, kPar3_e, kPar3_c, cPar3_r, kap3_0, kap2_0, kap2_e, kap2_c, kap1_0, cApp_r, ksi3_0, ksi4_0, ksi2_0, ksi2_e, ksi2_c, ksi1_0, ksi0_0, ksi0_e, ksi0_c, cSetIx_r, kix_l, kix_t, kix_s, kSq_0, kSq_e, kSq_c, ciSeq_r, kr1_e, kr1_c, ciRange1_r, kr2_e, kr2_c, ciRange2_r, kFor_0, kFor_e, kFor_c, cFor_r, forL_c, forL_n, kf1_0, kf2_nx, kf2_ct, kf2_bk, kf2_rt, kf2_exc, kf2_cond, kb_0, kbb_0, kb1_0, kb1_c, kb1_e, cB1_r, kb3_0, kb3_e, kb3_c, kb2_0, kb2_c, kb2_e, cB2_r, kres_0, res_d, res_s, kbn_0, cbN_r, kbD_0, kbD_e, kbD_c, cbD_r, kv_0, cV_r, kvm_0, cVm_r, cV_0, st_0, gt_0, cV_1, st_1, gt_1, cV_2, st_2, gt_2, cV_3, st_3, gt_3, cV_4, st_4, gt_4, cV_5, st_5, gt_5, cV_6, st_6, gt_6, cV_7, st_7, gt_7, cV_8, st_8, gt_8, cV_9, st_9, gt_9, cV_10, st_10, gt_10, cV_11, st_11, gt_11, cV_12, st_12, gt_12, cV_13, st_13, gt_13, cV_14, st_14, gt_14, cV_15, st_15, gt_15, cV_16, st_16, gt_16, cV_17, st_17, gt_17, cV_18, st_18, gt_18, cV_19, st_19, gt_19, cV_20, st_20, gt_20, cV_21, st_21, gt_21, cV_22, st_22, gt_22, cV_23, st_23, gt_23, tCh2_0, tCh2_e, tCh1_0, tCh0b_0, tCh0b_e, tCh0a_0, tCh0a_e, cChain_r, lcL_nil, lcL_c, ml1_0, ml2_t, ml2_f, ml2_b, ml3_0, ml5_0, ml4_0, ml4_e, ml4_c, nO_d, nO_n, nO_l, noOwn_n, noOwn_c, wipe_n, wipe_c, rsE_0, rest_n, rest_c, mkF_r, fo_0, fx_0, fin_nx', fin_rt', fin_exc', ob_0, og_0, od_0, outs_n, outs_c, lift_some, S_d, S_l, gAdd, gSub, gNeg, gNot, gLt, gLe, gGt, gGe, gEq_ii, gNe_ii, gLen, gAbs, gInt, tru_b, gMax2, gMin2, gGcd, gList, gTuple, gAll, gAny, bools_nil, bools_cons, gIs_bb, gIsN_bb, gPow, gMul, gFd, gMod, atI_0, atI_1, atI_2, atI_3, ixL_1, ixL_2, ixL_3, ixN_41, ixN_42, ixN_43, List.getElem?_cons_zero, List.getElem?_cons_succ, List.set_cons_zero, List.set_cons_succ, List.map_cons, List.map_nil, List.length_cons, List.length_nil, List.cons_append, List.nil_append, List.replicate_succ, List.replicate_zero, List.length_map, ↓cond_true, ↓cond_false, cond_true, cond_false, Option.map_some, beq_self_eq_true, List.contains_cons, List.contains_nil, Bool.or_false, Bool.false_or, Bool.or_true, Bool.and_true, Bool.true_and, Bool.not_true, Bool.not_false, Nat.reduceBEq, Nat.reduceAdd, Nat.reduceSub, Nat.reduceEqDiff, reduceCtorEq, Bool.false_eq_true, sq_nx, sq_rt, sq_bad, sq_bk, sq_ct, sq_exc, dz0, dz1, dz2, dz3, dz4, dz5, dz6, dz7, dz8, dz9, dz10, dz11, dz12, ic0, ic1, ic2, ic3, ic4, tAnd_ok, tOr_ok, tIf_ok, tIfS_ok, tAnd_exc, tOr_exc, tIf_exc, tIfS_exc, cAnd_t, cOr_t, cIf_t, cIfS_t, co_and, co_or, tAnd_cond, tOr_cond, tIfS_cond, sq_cond, fin_cond, rangeL_2, rangeL_3, List.all_cons, List.all_nil, List.any_cons, List.any_nil, id, rng1_t, rng2_t, Int.reduceToNat, if_true, ite_true, if_false, eq_self, decide_true, decide_false, isi_int_n, isi_int_b, isi_int_i, isi_int_s, isi_int_l, isi_int_t, isi_bool_n, isi_bool_b, isi_bool_i, isi_bool_s, isi_bool_l, isi_bool_t, isi_str_n, isi_str_b, isi_str_i, isi_str_s, isi_str_l, isi_str_t, isi_list_n, isi_list_b, isi_list_i, isi_list_s, isi_list_l, isi_list_t, isi_tuple_n, isi_tuple_b, isi_tuple_i, isi_tuple_s, isi_tuple_l, isi_tuple_t, isi_dict_n, isi_dict_b, isi_dict_i, isi_dict_s, isi_dict_l, isi_dict_t, nh_d, nh_l, nh_k, nh_o, nh_fn, nh_fc, ss3_0, sat_n, sat_0, sat_c, sup_n, sup_c, supc_0, fsg_c, fsg_n, fss_c, fss_n, pbs_0, pb_t, so_t, ssOf_t, gIx_l, gIx_t, S_k, Option.map_none, kr1_s s4, tn, e]
  exact ⟨_, rfl⟩
end Z
namespace Z
open PySem PySem.Spec PyProof.Rows L2
section
end
/-! ### what the top has written -/
theorem all_mk {l : PySem.W.OpenLaw} {w : World} {K : PySem.W.Frag} {h : Heap} {mg : Str → Option Value} {fa f0 f1 f2 f3 f4 f5 f6 f7 f8 f9 f10 f11 f12 f13 f14 f15 f16 f17 f18 f19 f20 f21 : Addr} (X : K.In h) (G : h.Ns mainGlobals mg) (hfa : mg "law" = some (.ref fa))
    {od0 an0 od1 an1 od2 an2 od3 an3 od4 an4 od5 an5 od6 an6 od7 an7 od8 an8 od9 an9 od10 an10 od11 an11 od12 an12 od13 an13 od14 an14 od15 an15 od16 an16 od17 an17 od18 an18 od19 an19 od20 an20 od21 an21 : Option Addr} {sl0 sl1 sl2 sl3 sl4 sl5 sl6 sl7 sl8 sl9 sl10 sl11 sl12 sl13 sl14 sl15 sl16 sl17 sl18 sl19 sl20 sl21 : Array (Option Value)} {oc0 kV0 dc0 pm0 cd0 ct0 oc1 kV1 dc1 pm1 cd1 ct1 oc2 kV2 dc2 pm2 cd2 ct2 oc3 kV3 dc3 pm3 cd3 ct3 oc4 kV4 dc4 pm4 cd4 ct4 oc5 kV5 dc5 pm5 cd5 ct5 oc6 kV6 dc6 pm6 cd6 ct6 oc7 kV7 dc7 pm7 cd7 ct7 oc8 kV8 dc8 pm8 cd8 ct8 oc9 kV9 dc9 pm9 cd9 ct9 oc10 kV10 dc10 pm10 cd10 ct10 oc11 kV11 dc11 pm11 cd11 ct11 oc12 kV12 dc12 pm12 cd12 ct12 oc13 kV13 dc13 pm13 cd13 ct13 oc14 kV14 dc14 pm14 cd14 ct14 oc15 kV15 dc15 pm15 cd15 ct15 oc16 kV16 dc16 pm16 cd16 ct16 oc17 kV17 dc17 pm17 cd17 ct17 oc18 kV18 dc18 pm18 cd18 ct18 oc19 kV19 dc19 pm19 cd19 ct19 oc20 kV20 dc20 pm20 cd20 ct20 oc21 kV21 dc21 pm21 cd21 ct21 : Value}
    (a0 : PySem.W.nsIn K mainGlobals "scaled" = some (some (.ref f0))) (l0 : K.lookup f0 = some ⟨oc0, od0, .func (PySem.W.fnOf "scaled" "scaled" (defArgs s_scaled) (defBody s_scaled) (defScope s_scaled) .none kV0 dc0 pm0 an0 cd0 ct0), sl0⟩) (c0 : PySem.W.codeIn K cd0 "scaled" = true) (k0 : PySem.W.keepIn K (.ref f0) = true)
    (a1 : PySem.W.nsIn K mainGlobals "half_plane" = some (some (.ref f1))) (l1 : K.lookup f1 = some ⟨oc1, od1, .func (PySem.W.fnOf "half_plane" "half_plane" (defArgs s_half_plane) (defBody s_half_plane) (defScope s_half_plane) .none kV1 dc1 pm1 an1 cd1 ct1), sl1⟩) (c1 : PySem.W.codeIn K cd1 "half_plane" = true) (k1 : PySem.W.keepIn K (.ref f1) = true)
    (a2 : PySem.W.nsIn K mainGlobals "bounds_of" = some (some (.ref f2))) (l2 : K.lookup f2 = some ⟨oc2, od2, .func (PySem.W.fnOf "bounds_of" "bounds_of" (defArgs s_bounds_of) (defBody s_bounds_of) (defScope s_bounds_of) .none kV2 dc2 pm2 an2 cd2 ct2), sl2⟩) (c2 : PySem.W.codeIn K cd2 "bounds_of" = true) (k2 : PySem.W.keepIn K (.ref f2) = true)
    (a3 : PySem.W.nsIn K mainGlobals "height_over" = some (some (.ref f3))) (l3 : K.lookup f3 = some ⟨oc3, od3, .func (PySem.W.fnOf "height_over" "height_over" (defArgs s_height_over) (defBody s_height_over) (defScope s_height_over) .none kV3 dc3 pm3 an3 cd3 ct3), sl3⟩) (c3 : PySem.W.codeIn K cd3 "height_over" = true) (k3 : PySem.W.keepIn K (.ref f3) = true)
    (a4 : PySem.W.nsIn K mainGlobals "is_in" = some (some (.ref f4))) (l4 : K.lookup f4 = some ⟨oc4, od4, .func (PySem.W.fnOf "is_in" "is_in" (defArgs s_is_in) (defBody s_is_in) (defScope s_is_in) .none kV4 dc4 pm4 an4 cd4 ct4), sl4⟩) (c4 : PySem.W.codeIn K cd4 "is_in" = true) (k4 : PySem.W.keepIn K (.ref f4) = true)
    (a5 : PySem.W.nsIn K mainGlobals "is_inside" = some (some (.ref f5))) (l5 : K.lookup f5 = some ⟨oc5, od5, .func (PySem.W.fnOf "is_inside" "is_inside" (defArgs s_is_inside) (defBody s_is_inside) (defScope s_is_inside) .none kV5 dc5 pm5 an5 cd5 ct5), sl5⟩) (c5 : PySem.W.codeIn K cd5 "is_inside" = true) (k5 : PySem.W.keepIn K (.ref f5) = true)
    (a6 : PySem.W.nsIn K mainGlobals "_law_pot" = some (some (.ref f6))) (l6 : K.lookup f6 = some ⟨oc6, od6, .func (PySem.W.fnOf "_law_pot" "_law_pot" (defArgs s_u_law_pot) (defBody s_u_law_pot) (defScope s_u_law_pot) .none kV6 dc6 pm6 an6 cd6 ct6), sl6⟩) (c6 : PySem.W.codeIn K cd6 "_law_pot" = true) (k6 : PySem.W.keepIn K (.ref f6) = true)
    (a7 : PySem.W.nsIn K mainGlobals "_law_next" = some (some (.ref f7))) (l7 : K.lookup f7 = some ⟨oc7, od7, .func (PySem.W.fnOf "_law_next" "_law_next" (defArgs s_u_law_next) (defBody s_u_law_next) (defScope s_u_law_next) .none kV7 dc7 pm7 an7 cd7 ct7), sl7⟩) (c7 : PySem.W.codeIn K cd7 "_law_next" = true) (k7 : PySem.W.keepIn K (.ref f7) = true)
    (a8 : PySem.W.nsIn K mainGlobals "_law_other" = some (some (.ref f8))) (l8 : K.lookup f8 = some ⟨oc8, od8, .func (PySem.W.fnOf "_law_other" "_law_other" (defArgs s_u_law_other) (defBody s_u_law_other) (defScope s_u_law_other) .none kV8 dc8 pm8 an8 cd8 ct8), sl8⟩) (c8 : PySem.W.codeIn K cd8 "_law_other" = true) (k8 : PySem.W.keepIn K (.ref f8) = true)
    (a9 : PySem.W.nsIn K mainGlobals "_law_scale" = some (some (.ref f9))) (l9 : K.lookup f9 = some ⟨oc9, od9, .func (PySem.W.fnOf "_law_scale" "_law_scale" (defArgs s_u_law_scale) (defBody s_u_law_scale) (defScope s_u_law_scale) .none kV9 dc9 pm9 an9 cd9 ct9), sl9⟩) (c9 : PySem.W.codeIn K cd9 "_law_scale" = true) (k9 : PySem.W.keepIn K (.ref f9) = true)
    (a10 : PySem.W.nsIn K mainGlobals "_law_det" = some (some (.ref f10))) (l10 : K.lookup f10 = some ⟨oc10, od10, .func (PySem.W.fnOf "_law_det" "_law_det" (defArgs s_u_law_det) (defBody s_u_law_det) (defScope s_u_law_det) .none kV10 dc10 pm10 an10 cd10 ct10), sl10⟩) (c10 : PySem.W.codeIn K cd10 "_law_det" = true) (k10 : PySem.W.keepIn K (.ref f10) = true)
    (a11 : PySem.W.nsIn K mainGlobals "_law_mid" = some (some (.ref f11))) (l11 : K.lookup f11 = some ⟨oc11, od11, .func (PySem.W.fnOf "_law_mid" "_law_mid" (defArgs s_u_law_mid) (defBody s_u_law_mid) (defScope s_u_law_mid) .none kV11 dc11 pm11 an11 cd11 ct11), sl11⟩) (c11 : PySem.W.codeIn K cd11 "_law_mid" = true) (k11 : PySem.W.keepIn K (.ref f11) = true)
    (a12 : PySem.W.nsIn K mainGlobals "_law_on" = some (some (.ref f12))) (l12 : K.lookup f12 = some ⟨oc12, od12, .func (PySem.W.fnOf "_law_on" "_law_on" (defArgs s_u_law_on) (defBody s_u_law_on) (defScope s_u_law_on) .none kV12 dc12 pm12 an12 cd12 ct12), sl12⟩) (c12 : PySem.W.codeIn K cd12 "_law_on" = true) (k12 : PySem.W.keepIn K (.ref f12) = true)
    (a13 : PySem.W.nsIn K mainGlobals "_law_corners" = some (some (.ref f13))) (l13 : K.lookup f13 = some ⟨oc13, od13, .func (PySem.W.fnOf "_law_corners" "_law_corners" (defArgs s_u_law_corners) (defBody s_u_law_corners) (defScope s_u_law_corners) .none kV13 dc13 pm13 an13 cd13 ct13), sl13⟩) (c13 : PySem.W.codeIn K cd13 "_law_corners" = true) (k13 : PySem.W.keepIn K (.ref f13) = true)
    (a14 : PySem.W.nsIn K mainGlobals "_law_in" = some (some (.ref f14))) (l14 : K.lookup f14 = some ⟨oc14, od14, .func (PySem.W.fnOf "_law_in" "_law_in" (defArgs s_u_law_in) (defBody s_u_law_in) (defScope s_u_law_in) .none kV14 dc14 pm14 an14 cd14 ct14), sl14⟩) (c14 : PySem.W.codeIn K cd14 "_law_in" = true) (k14 : PySem.W.keepIn K (.ref f14) = true)
    (a15 : PySem.W.nsIn K mainGlobals "_law_strict" = some (some (.ref f15))) (l15 : K.lookup f15 = some ⟨oc15, od15, .func (PySem.W.fnOf "_law_strict" "_law_strict" (defArgs s_u_law_strict) (defBody s_u_law_strict) (defScope s_u_law_strict) .none kV15 dc15 pm15 an15 cd15 ct15), sl15⟩) (c15 : PySem.W.codeIn K cd15 "_law_strict" = true) (k15 : PySem.W.keepIn K (.ref f15) = true)
    (a16 : PySem.W.nsIn K mainGlobals "_law_area" = some (some (.ref f16))) (l16 : K.lookup f16 = some ⟨oc16, od16, .func (PySem.W.fnOf "_law_area" "_law_area" (defArgs s_u_law_area) (defBody s_u_law_area) (defScope s_u_law_area) .none kV16 dc16 pm16 an16 cd16 ct16), sl16⟩) (c16 : PySem.W.codeIn K cd16 "_law_area" = true) (k16 : PySem.W.keepIn K (.ref f16) = true)
    (a17 : PySem.W.nsIn K mainGlobals "_law_hull" = some (some (.ref f17))) (l17 : K.lookup f17 = some ⟨oc17, od17, .func (PySem.W.fnOf "_law_hull" "_law_hull" (defArgs s_u_law_hull) (defBody s_u_law_hull) (defScope s_u_law_hull) .none kV17 dc17 pm17 an17 cd17 ct17), sl17⟩) (c17 : PySem.W.codeIn K cd17 "_law_hull" = true) (k17 : PySem.W.keepIn K (.ref f17) = true)
    (a18 : PySem.W.nsIn K mainGlobals "_law_piece" = some (some (.ref f18))) (l18 : K.lookup f18 = some ⟨oc18, od18, .func (PySem.W.fnOf "_law_piece" "_law_piece" (defArgs s_u_law_piece) (defBody s_u_law_piece) (defScope s_u_law_piece) .none kV18 dc18 pm18 an18 cd18 ct18), sl18⟩) (c18 : PySem.W.codeIn K cd18 "_law_piece" = true) (k18 : PySem.W.keepIn K (.ref f18) = true)
    (a19 : PySem.W.nsIn K mainGlobals "_law_ratio" = some (some (.ref f19))) (l19 : K.lookup f19 = some ⟨oc19, od19, .func (PySem.W.fnOf "_law_ratio" "_law_ratio" (defArgs s_u_law_ratio) (defBody s_u_law_ratio) (defScope s_u_law_ratio) .none kV19 dc19 pm19 an19 cd19 ct19), sl19⟩) (c19 : PySem.W.codeIn K cd19 "_law_ratio" = true) (k19 : PySem.W.keepIn K (.ref f19) = true)
    (a20 : PySem.W.nsIn K mainGlobals "_law_place" = some (some (.ref f20))) (l20 : K.lookup f20 = some ⟨oc20, od20, .func (PySem.W.fnOf "_law_place" "_law_place" (defArgs s_u_law_place) (defBody s_u_law_place) (defScope s_u_law_place) .none kV20 dc20 pm20 an20 cd20 ct20), sl20⟩) (c20 : PySem.W.codeIn K cd20 "_law_place" = true) (k20 : PySem.W.keepIn K (.ref f20) = true)
    (a21 : PySem.W.nsIn K mainGlobals "law" = some (some (.ref f21))) (l21 : K.lookup f21 = some ⟨oc21, od21, .func (PySem.W.fnOf "law" "law" (defArgs s_law) (defBody s_law) (defScope s_law) .none kV21 dc21 pm21 an21 cd21 ct21), sl21⟩) (c21 : PySem.W.codeIn K cd21 "law" = true) (k21 : PySem.W.keepIn K (.ref f21) = true)
    (z_abs : PySem.W.nsIn K mainGlobals "abs" = some none)
    (z_all : PySem.W.nsIn K mainGlobals "all" = some none)
    (z_any : PySem.W.nsIn K mainGlobals "any" = some none)
    (z_bool : PySem.W.nsIn K mainGlobals "bool" = some none)
    (z_dict : PySem.W.nsIn K mainGlobals "dict" = some none)
    (z_int : PySem.W.nsIn K mainGlobals "int" = some none)
    (z_isinstance : PySem.W.nsIn K mainGlobals "isinstance" = some none)
    (z_len : PySem.W.nsIn K mainGlobals "len" = some none)
    (z_list : PySem.W.nsIn K mainGlobals "list" = some none)
    (z_range : PySem.W.nsIn K mainGlobals "range" = some none)
    (z_sorted : PySem.W.nsIn K mainGlobals "sorted" = some none)
    (z_tuple : PySem.W.nsIn K mainGlobals "tuple" = some none) :
    ∃ fd : FuncData, (∀ (s : Shared) (v : Value), BindsTo s fd ⟨[v], []⟩ [("_law_script", v)]) ∧ ∀ base : Heap, K.In base → base.Ns mainGlobals mg → FnOk l.prog w K mg base (L2.CX l.prog w) 4 fa fd ["_law_script"] (spLaw K) := by
  have e := hfa.symm.trans (PySem.W.mg_of X G a21)
  cases e
  have T : Tx K mg := ⟨PySem.W.mg_none_of X G z_abs, PySem.W.mg_none_of X G z_all, PySem.W.mg_none_of X G z_any, PySem.W.mg_none_of X G z_bool, PySem.W.mg_none_of X G z_dict, PySem.W.mg_none_of X G z_int, PySem.W.mg_none_of X G z_isinstance, PySem.W.mg_none_of X G z_len, PySem.W.mg_none_of X G z_list, PySem.W.mg_none_of X G z_range, PySem.W.mg_none_of X G z_sorted, PySem.W.mg_none_of X G z_tuple⟩
  have U0 := fun_mk (st := s_scaled) l0 c0 k0
  have b0 := U0.binds (ps := ["p"]) fun _ _ _ _ _ _ us hl => match us, hl with | [_], _ => rfl
  have U1 := fun_mk (st := s_half_plane) l1 c1 k1
  have b1 := U1.binds (ps := ["p", "q"]) fun _ _ _ _ _ _ us hl => match us, hl with | [_, _], _ => rfl
  have U2 := fun_mk (st := s_bounds_of) l2 c2 k2
  have b2 := U2.binds (ps := ["piece"]) fun _ _ _ _ _ _ us hl => match us, hl with | [_], _ => rfl
  have U3 := fun_mk (st := s_height_over) l3 c3 k3
  have b3 := U3.binds (ps := ["bound", "place"]) fun _ _ _ _ _ _ us hl => match us, hl with | [_, _], _ => rfl
  have U4 := fun_mk (st := s_is_in) l4 c4 k4
  have b4 := U4.binds (ps := ["p", "piece"]) fun _ _ _ _ _ _ us hl => match us, hl with | [_, _], _ => rfl
  have U5 := fun_mk (st := s_is_inside) l5 c5 k5
  have b5 := U5.binds (ps := ["p", "piece"]) fun _ _ _ _ _ _ us hl => match us, hl with | [_, _], _ => rfl
  have U6 := fun_mk (st := s_u_law_pot) l6 c6 k6
  have b6 := U6.binds (ps := ["_law_script"]) fun _ _ _ _ _ _ us hl => match us, hl with | [_], _ => rfl
  have U7 := fun_mk (st := s_u_law_next) l7 c7 k7
  have b7 := U7.binds (ps := ["_law_pot_here", "_law_limit"]) fun _ _ _ _ _ _ us hl => match us, hl with | [_, _], _ => rfl
  have U8 := fun_mk (st := s_u_law_other) l8 c8 k8
  have b8 := U8.binds (ps := ["_law_found", "_law_due"]) fun _ _ _ _ _ _ us hl => match us, hl with | [_, _], _ => rfl
  have U9 := fun_mk (st := s_u_law_scale) l9 c9 k9
  have b9 := U9.binds (ps := ["_law_p"]) fun _ _ _ _ _ _ us hl => match us, hl with | [_], _ => rfl
  have U10 := fun_mk (st := s_u_law_det) l10 c10 k10
  have b10 := U10.binds (ps := ["_law_a", "_law_b", "_law_c"]) fun _ _ _ _ _ _ us hl => match us, hl with | [_, _, _], _ => rfl
  have U11 := fun_mk (st := s_u_law_mid) l11 c11 k11
  have b11 := U11.binds (ps := ["_law_a", "_law_b", "_law_c"]) fun _ _ _ _ _ _ us hl => match us, hl with | [_, _, _], _ => rfl
  have U12 := fun_mk (st := s_u_law_on) l12 c12 k12
  have b12 := U12.binds (ps := ["_law_p", "_law_a", "_law_b"]) fun _ _ _ _ _ _ us hl => match us, hl with | [_, _, _], _ => rfl
  have U13 := fun_mk (st := s_u_law_corners) l13 c13 k13
  have b13 := U13.binds (ps := ["_law_piece_here"]) fun _ _ _ _ _ _ us hl => match us, hl with | [_], _ => rfl
  have U14 := fun_mk (st := s_u_law_in) l14 c14 k14
  have b14 := U14.binds (ps := ["_law_p", "_law_corners_here"]) fun _ _ _ _ _ _ us hl => match us, hl with | [_, _], _ => rfl
  have U15 := fun_mk (st := s_u_law_strict) l15 c15 k15
  have b15 := U15.binds (ps := ["_law_p", "_law_corners_here"]) fun _ _ _ _ _ _ us hl => match us, hl with | [_, _], _ => rfl
  have U16 := fun_mk (st := s_u_law_area) l16 c16 k16
  have b16 := U16.binds (ps := ["_law_a", "_law_b", "_law_c"]) fun _ _ _ _ _ _ us hl => match us, hl with | [_, _, _], _ => rfl
  have U17 := fun_mk (st := s_u_law_hull) l17 c17 k17
  have b17 := U17.binds (ps := ["_law_corners_here"]) fun _ _ _ _ _ _ us hl => match us, hl with | [_], _ => rfl
  have U18 := fun_mk (st := s_u_law_piece) l18 c18 k18
  have b18 := U18.binds (ps := ["_law_pot_here", "_law_at", "_law_size"]) fun _ _ _ _ _ _ us hl => match us, hl with | [_, _, _], _ => rfl
  have U19 := fun_mk (st := s_u_law_ratio) l19 c19 k19
  have b19 := U19.binds (ps := ["_law_n", "_law_d"]) fun _ _ _ _ _ _ us hl => match us, hl with | [_, _], _ => rfl
  have U20 := fun_mk (st := s_u_law_place) l20 c20 k20
  have b20 := U20.binds (ps := ["_law_pot_here", "_law_width", "_law_height"]) fun _ _ _ _ _ _ us hl => match us, hl with | [_, _, _], _ => rfl
  have U21 := fun_mk (st := s_law) l21 c21 k21
  have b21 := U21.binds (ps := ["_law_script"]) fun _ _ _ _ _ _ us hl => match us, hl with | [_], _ => rfl
  refine ⟨PySem.W.fnOf "law" "law" (defArgs s_law) (defBody s_law) (defScope s_law) .none kV21 dc21 pm21 an21 cd21 ct21, fun s v => .of_eq rfl, fun base _ _ => ?_⟩
  have G0 := ok_scaled (P := l.prog) (w := w) (base := base) (xc := fun _ => .none) T  U0 (PySem.W.mg_of X G a0) b0
  have G1 := ok_half_plane (P := l.prog) (w := w) (base := base) (xc := fun _ => .none) T  U1 (PySem.W.mg_of X G a1) b1
  have G2 := ok_bounds_of (P := l.prog) (w := w) (base := base) (xc := fun _ => .none) T G1 U2 (PySem.W.mg_of X G a2) b2
  have G3 := ok_height_over (P := l.prog) (w := w) (base := base) (xc := fun _ => .none) T  U3 (PySem.W.mg_of X G a3) b3
  have G4 := ok_is_in (P := l.prog) (w := w) (base := base) (xc := fun _ => .none) T G2 G3 G0 U4 (PySem.W.mg_of X G a4) b4
  have G5 := ok_is_inside (P := l.prog) (w := w) (base := base) (xc := fun _ => .none) T G2 G3 G0 U5 (PySem.W.mg_of X G a5) b5
  have G6 := ok_u_law_pot (P := l.prog) (w := w) (base := base) (xc := fun _ => .none) T  U6 (PySem.W.mg_of X G a6) b6
  have G7 := ok_u_law_next (P := l.prog) (w := w) (base := base) (xc := fun _ => .none) T  U7 (PySem.W.mg_of X G a7) b7
  have G8 := ok_u_law_other (P := l.prog) (w := w) (base := base) (xc := fun _ => .none) T  U8 (PySem.W.mg_of X G a8) b8
  have G9 := ok_u_law_scale (P := l.prog) (w := w) (base := base) (xc := fun _ => .none) T  U9 (PySem.W.mg_of X G a9) b9
  have G10 := ok_u_law_det (P := l.prog) (w := w) (base := base) (xc := fun _ => .none) T  U10 (PySem.W.mg_of X G a10) b10
  have G11 := ok_u_law_mid (P := l.prog) (w := w) (base := base) (xc := fun _ => .none) T  U11 (PySem.W.mg_of X G a11) b11
  have G12 := ok_u_law_on (P := l.prog) (w := w) (base := base) (xc := fun _ => .none) T G10 G11 U12 (PySem.W.mg_of X G a12) b12
  have G13 := ok_u_law_corners (P := l.prog) (w := w) (base := base) (xc := fun _ => .none) T  U13 (PySem.W.mg_of X G a13) b13
  have G14 := ok_u_law_in (P := l.prog) (w := w) (base := base) (xc := fun _ => .none) T G10 G12 U14 (PySem.W.mg_of X G a14) b14
  have G15 := ok_u_law_strict (P := l.prog) (w := w) (base := base) (xc := fun _ => .none) T G10 U15 (PySem.W.mg_of X G a15) b15
  have G16 := ok_u_law_area (P := l.prog) (w := w) (base := base) (xc := fun _ => .none) T  U16 (PySem.W.mg_of X G a16) b16
  have G17 := ok_u_law_hull (P := l.prog) (w := w) (base := base) (xc := fun _ => .none) T G16 U17 (PySem.W.mg_of X G a17) b17
  have G18 := ok_u_law_piece (P := l.prog) (w := w) (base := base) (xc := fun _ => .none) T G17 G7 U18 (PySem.W.mg_of X G a18) b18
  have G19 := ok_u_law_ratio (P := l.prog) (w := w) (base := base) (xc := fun _ => .none) T  U19 (PySem.W.mg_of X G a19) b19
  have G20 := ok_u_law_place (P := l.prog) (w := w) (base := base) (xc := fun _ => .none) T G7 G19 U20 (PySem.W.mg_of X G a20) b20
  have G21 := ok_law (P := l.prog) (w := w) (base := base) (xc := fun _ => .none) T G13 G14 G7 G8 G18 G20 G6 G19 G9 G15 G4 G5 U21 (PySem.W.mg_of X G a21) b21
  exact G21.imp fun vs H Q E p => law_imp law_true vs H Q E p
end Z
open PySem PySem.W PyProof.Rows
set_option maxRecDepth 100000 in
set_option maxHeartbeats 0 in
theorem PySem.Challenge.cw_roomyway_k04_in_and_inside_holds : PySem.Challenge.rw_roomyway_k04_in_and_inside.Holds := by
  w_on; o_law; k_head; (case hw => w_witness2)
  k_fill
  refine Z.z_walk (l := PySem.Challenge.rw_roomyway_k04_in_and_inside) (k := 4) (x := "_law_script") rfl rfl ⟨rfl, by decide, by decide⟩ (fun w h Y => PySem.W.kIn_of Y) ?F
  case F =>
    intro w mg fa h KX G hmg
    refine' Z.all_mk KX G hmg ?a0 ?l0 ?c0 ?k0 ?a1 ?l1 ?c1 ?k1 ?a2 ?l2 ?c2 ?k2 ?a3 ?l3 ?c3 ?k3 ?a4 ?l4 ?c4 ?k4 ?a5 ?l5 ?c5 ?k5 ?a6 ?l6 ?c6 ?k6 ?a7 ?l7 ?c7 ?k7 ?a8 ?l8 ?c8 ?k8 ?a9 ?l9 ?c9 ?k9 ?a10 ?l10 ?c10 ?k10 ?a11 ?l11 ?c11 ?k11 ?a12 ?l12 ?c12 ?k12 ?a13 ?l13 ?c13 ?k13 ?a14 ?l14 ?c14 ?k14 ?a15 ?l15 ?c15 ?k15 ?a16 ?l16 ?c16 ?k16 ?a17 ?l17 ?c17 ?k17 ?a18 ?l18 ?c18 ?k18 ?a19 ?l19 ?c19 ?k19 ?a20 ?l20 ?c20 ?k20 ?a21 ?l21 ?c21 ?k21 ?z_abs ?z_all ?z_any ?z_bool ?z_dict ?z_int ?z_isinstance ?z_len ?z_list ?z_range ?z_sorted ?z_tuple
    (case a0 => k_is); (case l0 => k_is); (case c0 => k_is); (case k0 => k_is); (case a1 => k_is); (case l1 => k_is); (case c1 => k_is); (case k1 => k_is); (case a2 => k_is); (case l2 => k_is); (case c2 => k_is); (case k2 => k_is); (case a3 => k_is); (case l3 => k_is); (case c3 => k_is); (case k3 => k_is); (case a4 => k_is); (case l4 => k_is); (case c4 => k_is); (case k4 => k_is); (case a5 => k_is); (case l5 => k_is); (case c5 => k_is); (case k5 => k_is); (case a6 => k_is); (case l6 => k_is); (case c6 => k_is); (case k6 => k_is); (case a7 => k_is); (case l7 => k_is); (case c7 => k_is); (case k7 => k_is); (case a8 => k_is); (case l8 => k_is); (case c8 => k_is); (case k8 => k_is); (case a9 => k_is); (case l9 => k_is); (case c9 => k_is); (case k9 => k_is); (case a10 => k_is); (case l10 => k_is); (case c10 => k_is); (case k10 => k_is); (case a11 => k_is); (case l11 => k_is); (case c11 => k_is); (case k11 => k_is); (case a12 => k_is); (case l12 => k_is); (case c12 => k_is); (case k12 => k_is); (case a13 => k_is); (case l13 => k_is); (case c13 => k_is); (case k13 => k_is); (case a14 => k_is); (case l14 => k_is); (case c14 => k_is); (case k14 => k_is); (case a15 => k_is); (case l15 => k_is); (case c15 => k_is); (case k15 => k_is); (case a16 => k_is); (case l16 => k_is); (case c16 => k_is); (case k16 => k_is); (case a17 => k_is); (case l17 => k_is); (case c17 => k_is); (case k17 => k_is); (case a18 => k_is); (case l18 => k_is); (case c18 => k_is); (case k18 => k_is); (case a19 => k_is); (case l19 => k_is); (case c19 => k_is); (case k19 => k_is); (case a20 => k_is); (case l20 => k_is); (case c20 => k_is); (case k20 => k_is); (case a21 => k_is); (case l21 => k_is); (case c21 => k_is); (case k21 => k_is); (case z_abs => k_is); (case z_all => k_is); (case z_any => k_is); (case z_bool => k_is); (case z_dict => k_is); (case z_int => k_is); (case z_isinstance => k_is); (case z_len => k_is); (case z_list => k_is); (case z_range => k_is); (case z_sorted => k_is); (case z_tuple => k_is)
