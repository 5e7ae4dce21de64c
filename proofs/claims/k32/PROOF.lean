import PyProof.Rows.All
import Wide.All
import OpenK.AllK
import Wide.FinOn
import HandS.ForExc
import HandS.Comp
import HandS.Evl
import HandS.Wide
import HandS.Gcd
import HandS.IsInst
import HandS.Deep
import HandS.TupAny
import HandS.EndBits
import HandS.DictComp
import KE.KDictKeyed
import HandS.Iter
import HandS.Style
import HandS.Text
import PyProof.Rows.InDataRows
import HandS.SortRule
import HandS.Conv
import KE.KDictPairs
import KE.SortData
import KE.DataMinMax
import PyProof.Transfer
import HandS.RevTup
import HandS.Rev
import HandS.More
import HandS.TupLen
import HandS.ExcIs
import PyProof.Rows.StrJoin2
import HandS.FStr
import KE.KIntText
import PySem.Challenge.RW_roomyway_k32_write_and_read
set_option Elab.async false
set_option linter.all false
set_option maxRecDepth 100000
set_option maxHeartbeats 2000000
/-! Z (second form): mirrors. Data (dicts and objects among them), things of one's own, environments, outcomes. -/
namespace Z
open PySem PySem.Spec PyProof.Rows L2
open Evl (Ex ex_l ex_t ex_rd)
/-- the written part, with program and world -/
structure KF where
  K : PySem.W.Frag
  P : Program
  w : World
abbrev _root_.L2.Cx.kf (X : Cx) : KF := ⟨X.K, X.prog, X.w⟩
abbrev SqL (K : KF) (H : Hp) (a : Addr) (xs : List V) : Prop := L2.SqL K.K H a xs
abbrev SqT (K : KF) (H : Hp) (a : Addr) (xs : List V) : Prop := L2.SqT K.K H a xs
/-- the class of that name stands at C -/
def ClsAt (K : KF) (c : Str) (C : Addr) : Prop := PySem.W.nsIn K.K mainGlobals c = some (some (.ref C))
theorem ClsAt.inj {K : KF} {c : Str} {C D : Addr} (h : ClsAt K c C) (g : ClsAt K c D) : C = D := by
  have e := h.symm.trans g
  injection e with e
  injection e with e
  injection e
/-! ### a dict with keys that are tuples -/
abbrev NL := List (NestedKey × Addr × V)
/-- the entries that a list of keys, addresses and values stands for -/
abbrev NX : NL → List (NestedKey × Addr × Value) → Prop := Paired fun x y => x.1 = y.1 ∧ x.2.1 = y.2.1 ∧ RelV x.2.2 y.2.2
structure NOk (K : KF) (D : Addr) (L : NL) (h : Heap) : Prop where
  low : (D == sysModules) = false
  len : L.length ≤ sizeLine
  nd : (L.map (·.1)).Nodup
  obj : ∃ (xs : List (NestedKey × Addr × Value)) (o : Obj) (es : Array DictEntry) (ep : Nat), NX L xs ∧ h.get? D = some o ∧ o.ExactDict ∧ o.data = .dict es ep ∧ es.toList = xs.map (entryOfKey (nestedKind K.P K.w))
def nO (K : KF) (D : Addr) (L : NL) : HO := .ext (NOk K D L)
/-! ### data -/
def kD : Key → PyData
  | .inl i => .int i
  | .inr x => .str x
theorem rd_ex {H H' : Hp} {a : Addr} {u : HO} (e : Ex H H') (h : Rd H a u) : Rd H' a u := by
  rcases h with h | ⟨o, h⟩
  · exact .inl (e _ _ h)
  · exact .inr ⟨o, e _ _ h⟩
mutual
inductive Dp (K : KF) (H : Hp) : V → PyData → Prop
  | non : Dp K H .non .none
  | bl (b : Bool) : Dp K H (.bl b) (.bool b)
  | int (i : Int) : Dp K H (.int i) (.int i)
  | str (x : Str) : Dp K H (.str x) (.str x)
  | lst {a : Addr} {xs : List V} {ds : List PyData} : SqL K H a xs → DpAll K H xs ds → Dp K H (.ref a) (.list ds)
  | tup {a : Addr} {xs : List V} {ds : List PyData} : SqT K H a xs → DpAll K H xs ds → Dp K H (.ref a) (.tuple ds)
  | dic {a : Addr} {kvs : List (Key × V)} {ds : List (PyData × PyData)} : Rd H a (.dK kvs) → DpKV K H kvs ds → Dp K H (.ref a) (.dict ds)
  | dit {a : Addr} {L : NL} {ds : List (PyData × PyData)} : H a = some (nO K a L) → ds ≠ [] → DpKN K H L ds → Dp K H (.ref a) (.dict ds)
  | ins {a C dx : Addr} {c : Str} {vs : List (Str × V)} {ds : List (PyData × PyData)} : H a = some (.ins C dx vs) → ClsAt K c C → DpF K H vs ds → Dp K H (.ref a) (.dict ((.none, .str c) :: ds))
inductive DpAll (K : KF) (H : Hp) : List V → List PyData → Prop
  | nil : DpAll K H [] []
  | cons {v : V} {vs : List V} {d : PyData} {ds : List PyData} : Dp K H v d → DpAll K H vs ds → DpAll K H (v :: vs) (d :: ds)
inductive DpKV (K : KF) (H : Hp) : List (Key × V) → List (PyData × PyData) → Prop
  | nil : DpKV K H [] []
  | cons {k : Key} {v : V} {vs : List (Key × V)} {d : PyData} {ds : List (PyData × PyData)} : Dp K H v d → DpKV K H vs ds → DpKV K H ((k, v) :: vs) ((kD k, d) :: ds)
inductive DpKN (K : KF) (H : Hp) : NL → List (PyData × PyData) → Prop
  | nil : DpKN K H [] []
  | cons {ks : List NestedKey} {b : Addr} {v : V} {vs : NL} {d : PyData} {ds : List (PyData × PyData)} : Dp K H (.ref b) (.tuple (NestedKey.datas ks)) → (NestedKey.tup ks).depth ≤ 8 → Dp K H v d → DpKN K H vs ds → DpKN K H ((.tup ks, b, v) :: vs) ((.tuple (NestedKey.datas ks), d) :: ds)
inductive DpF (K : KF) (H : Hp) : List (Str × V) → List (PyData × PyData) → Prop
  | nil : DpF K H [] []
  | cons {f : Str} {v : V} {vs : List (Str × V)} {d : PyData} {ds : List (PyData × PyData)} : Dp K H v d → DpF K H vs ds → DpF K H ((f, v) :: vs) ((.str f, d) :: ds)
end
section
variable {K : KF} {H H' : Hp}
theorem dp_all_mono (e : Ex H H') : (∀ {v : V} {d : PyData}, Dp K H v d → Dp K H' v d) ∧ (∀ {vs : List V} {ds : List PyData}, DpAll K H vs ds → DpAll K H' vs ds) ∧
    (∀ {vs : List (Key × V)} {ds : List (PyData × PyData)}, DpKV K H vs ds → DpKV K H' vs ds) ∧ (∀ {vs : NL} {ds : List (PyData × PyData)}, DpKN K H vs ds → DpKN K H' vs ds) ∧ (∀ {vs : List (Str × V)} {ds : List (PyData × PyData)}, DpF K H vs ds → DpF K H' vs ds) := by
  have r := fun (a1 : V → PyData → Prop) => True
  refine ⟨fun {v d} h => ?_, fun {v d} h => ?_, fun {v d} h => ?_, fun {v d} h => ?_, fun {v d} h => ?_⟩
  · exact Dp.rec (motive_1 := fun v d _ => Dp K H' v d) (motive_2 := fun v d _ => DpAll K H' v d) (motive_3 := fun v d _ => DpKV K H' v d) (motive_4 := fun v d _ => DpKN K H' v d) (motive_5 := fun v d _ => DpF K H' v d)
      .non .bl .int .str (fun h _ i => .lst (ex_l e h) i) (fun h _ i => .tup (ex_t e h) i) (fun h _ i => .dic (rd_ex e h) i) (fun h n _ i => .dit (e _ _ h) n i) (fun h c _ i => .ins (e _ _ h) c i)
      .nil (fun _ _ i j => .cons i j) .nil (fun _ _ i j => .cons i j) .nil (fun _ z _ _ i j l => .cons i z j l) .nil (fun _ _ i j => .cons i j) h
  · exact DpAll.rec (motive_1 := fun v d _ => Dp K H' v d) (motive_2 := fun v d _ => DpAll K H' v d) (motive_3 := fun v d _ => DpKV K H' v d) (motive_4 := fun v d _ => DpKN K H' v d) (motive_5 := fun v d _ => DpF K H' v d)
      .non .bl .int .str (fun h _ i => .lst (ex_l e h) i) (fun h _ i => .tup (ex_t e h) i) (fun h _ i => .dic (rd_ex e h) i) (fun h n _ i => .dit (e _ _ h) n i) (fun h c _ i => .ins (e _ _ h) c i)
      .nil (fun _ _ i j => .cons i j) .nil (fun _ _ i j => .cons i j) .nil (fun _ z _ _ i j l => .cons i z j l) .nil (fun _ _ i j => .cons i j) h
  · exact DpKV.rec (motive_1 := fun v d _ => Dp K H' v d) (motive_2 := fun v d _ => DpAll K H' v d) (motive_3 := fun v d _ => DpKV K H' v d) (motive_4 := fun v d _ => DpKN K H' v d) (motive_5 := fun v d _ => DpF K H' v d)
      .non .bl .int .str (fun h _ i => .lst (ex_l e h) i) (fun h _ i => .tup (ex_t e h) i) (fun h _ i => .dic (rd_ex e h) i) (fun h n _ i => .dit (e _ _ h) n i) (fun h c _ i => .ins (e _ _ h) c i)
      .nil (fun _ _ i j => .cons i j) .nil (fun _ _ i j => .cons i j) .nil (fun _ z _ _ i j l => .cons i z j l) .nil (fun _ _ i j => .cons i j) h
  · exact DpKN.rec (motive_1 := fun v d _ => Dp K H' v d) (motive_2 := fun v d _ => DpAll K H' v d) (motive_3 := fun v d _ => DpKV K H' v d) (motive_4 := fun v d _ => DpKN K H' v d) (motive_5 := fun v d _ => DpF K H' v d)
      .non .bl .int .str (fun h _ i => .lst (ex_l e h) i) (fun h _ i => .tup (ex_t e h) i) (fun h _ i => .dic (rd_ex e h) i) (fun h n _ i => .dit (e _ _ h) n i) (fun h c _ i => .ins (e _ _ h) c i)
      .nil (fun _ _ i j => .cons i j) .nil (fun _ _ i j => .cons i j) .nil (fun _ z _ _ i j l => .cons i z j l) .nil (fun _ _ i j => .cons i j) h
  · exact DpF.rec (motive_1 := fun v d _ => Dp K H' v d) (motive_2 := fun v d _ => DpAll K H' v d) (motive_3 := fun v d _ => DpKV K H' v d) (motive_4 := fun v d _ => DpKN K H' v d) (motive_5 := fun v d _ => DpF K H' v d)
      .non .bl .int .str (fun h _ i => .lst (ex_l e h) i) (fun h _ i => .tup (ex_t e h) i) (fun h _ i => .dic (rd_ex e h) i) (fun h n _ i => .dit (e _ _ h) n i) (fun h c _ i => .ins (e _ _ h) c i)
      .nil (fun _ _ i j => .cons i j) .nil (fun _ _ i j => .cons i j) .nil (fun _ z _ _ i j l => .cons i z j l) .nil (fun _ _ i j => .cons i j) h
theorem dp_mono (e : Ex H H') {v : V} {d : PyData} (h : Dp K H v d) : Dp K H' v d := (dp_all_mono e).1 h
theorem dpAll_mono (e : Ex H H') {vs : List V} {ds : List PyData} (h : DpAll K H vs ds) : DpAll K H' vs ds := (dp_all_mono e).2.1 h
theorem dpKV_mono (e : Ex H H') {vs : List (Key × V)} {ds : List (PyData × PyData)} (h : DpKV K H vs ds) : DpKV K H' vs ds := (dp_all_mono e).2.2.1 h
theorem dpKN_mono (e : Ex H H') {vs : NL} {ds : List (PyData × PyData)} (h : DpKN K H vs ds) : DpKN K H' vs ds := (dp_all_mono e).2.2.2.1 h
theorem dpF_mono (e : Ex H H') {vs : List (Str × V)} {ds : List (PyData × PyData)} (h : DpF K H vs ds) : DpF K H' vs ds := (dp_all_mono e).2.2.2.2 h
end
section
variable {K : KF} {H : Hp}
theorem dpAll_len : ∀ {vs : List V} {ds : List PyData}, DpAll K H vs ds → vs.length = ds.length
  | _, _, .nil => rfl
  | _, _, .cons _ t => congrArg (· + 1) (dpAll_len t)
theorem dpAll_get : ∀ {vs : List V} {ds : List PyData} {i : Nat} {d : PyData}, DpAll K H vs ds → ds[i]? = some d → ∃ v, vs[i]? = some v ∧ Dp K H v d
  | _, _, _, _, .nil, h => by simp at h
  | _, _, 0, _, .cons h t, e => by
    simp at e
    subst e
    exact ⟨_, rfl, h⟩
  | _, _, i + 1, _, .cons h t, e => by
    obtain ⟨v, h1, h2⟩ := dpAll_get (i := i) t (by simpa using e)
    exact ⟨v, by simpa using h1, h2⟩
theorem dpAll_get' : ∀ {vs : List V} {ds : List PyData} {i : Nat} {v : V}, DpAll K H vs ds → vs[i]? = some v → ∃ d, ds[i]? = some d ∧ Dp K H v d
  | _, _, _, _, .nil, h => by simp at h
  | _, _, 0, _, .cons h t, e => by
    simp at e
    subst e
    exact ⟨_, rfl, h⟩
  | _, _, i + 1, _, .cons h t, e => by
    obtain ⟨v, h1, h2⟩ := dpAll_get' (i := i) t (by simpa using e)
    exact ⟨v, by simpa using h1, h2⟩
theorem dpAll_app : ∀ {vs ws : List V} {ds es : List PyData}, DpAll K H vs ds → DpAll K H ws es → DpAll K H (vs ++ ws) (ds ++ es)
  | _, _, _, _, .nil, h => h
  | _, _, _, _, .cons h t, g => .cons h (dpAll_app t g)
theorem dpAll_drop : ∀ (n : Nat) {vs : List V} {ds : List PyData}, DpAll K H vs ds → DpAll K H (vs.drop n) (ds.drop n)
  | 0, _, _, h => h
  | n + 1, _, _, .nil => .nil
  | n + 1, _, _, .cons h t => dpAll_drop n t
theorem dpAll_take : ∀ (n : Nat) {vs : List V} {ds : List PyData}, DpAll K H vs ds → DpAll K H (vs.take n) (ds.take n)
  | 0, _, _, h => .nil
  | n + 1, _, _, .nil => .nil
  | n + 1, _, _, .cons h t => .cons h (dpAll_take n t)
theorem dpAll_set : ∀ (n : Nat) {v : V} {d : PyData} {vs : List V} {ds : List PyData}, Dp K H v d → DpAll K H vs ds → DpAll K H (vs.set n v) (ds.set n d)
  | 0, _, _, _, _, h, .nil => .nil
  | n + 1, _, _, _, _, h, .nil => .nil
  | 0, _, _, _, _, h, .cons _ t => .cons h t
  | n + 1, _, _, _, _, h, .cons g t => .cons g (dpAll_set n h t)
theorem dpAll_rev : ∀ {vs : List V} {ds : List PyData}, DpAll K H vs ds → DpAll K H vs.reverse ds.reverse
  | _, _, .nil => .nil
  | _, _, .cons h t => by
    rw [List.reverse_cons, List.reverse_cons]
    exact dpAll_app (dpAll_rev t) (.cons h .nil)
theorem dpAll_cut {vs : List V} {ds : List PyData} (h : DpAll K H vs ds) (lo hi : Option Int) : DpAll K H (cutV vs lo hi) ((ds.drop (HT.sIx ds.length 0 lo)).take (HT.sIx ds.length ds.length hi - HT.sIx ds.length 0 lo)) := by
  unfold cutV
  rw [dpAll_len h]
  exact dpAll_take _ (dpAll_drop _ h)
theorem dp_int {v : V} {i : Int} (h : Dp K H v (.int i)) : v = .int i := by cases h; rfl
theorem dp_bool {v : V} {b : Bool} (h : Dp K H v (.bool b)) : v = .bl b := by cases h; rfl
theorem dp_str {v : V} {x : Str} (h : Dp K H v (.str x)) : v = .str x := by cases h; rfl
theorem dp_none {v : V} (h : Dp K H v .none) : v = .non := by cases h; rfl
theorem dp_list {v : V} {ds : List PyData} (h : Dp K H v (.list ds)) : ∃ a xs, v = .ref a ∧ SqL K H a xs ∧ DpAll K H xs ds := by
  cases h with
  | lst h1 h2 => exact ⟨_, _, rfl, h1, h2⟩
theorem dp_tup {v : V} {ds : List PyData} (h : Dp K H v (.tuple ds)) : ∃ a xs, v = .ref a ∧ SqT K H a xs ∧ DpAll K H xs ds := by
  cases h with
  | tup h1 h2 => exact ⟨_, _, rfl, h1, h2⟩
theorem dp_dict {v : V} {ds : List (PyData × PyData)} (h : Dp K H v (.dict ds)) : ∃ a, v = .ref a ∧ ((∃ kvs, Rd H a (.dK kvs) ∧ DpKV K H kvs ds) ∨ (∃ L, H a = some (nO K a L) ∧ DpKN K H L ds ∧ ds ≠ []) ∨ ∃ C dx c vs es, ds = (.none, .str c) :: es ∧ H a = some (.ins C dx vs) ∧ ClsAt K c C ∧ DpF K H vs es) := by
  cases h with
  | dic h1 h2 => exact ⟨_, rfl, .inl ⟨_, h1, h2⟩⟩
  | dit h1 h0 h2 => exact ⟨_, rfl, .inr (.inl ⟨_, h1, h2, h0⟩)⟩
  | ins h1 h2 h3 => exact ⟨_, rfl, .inr (.inr ⟨_, _, _, _, _, rfl, h1, h2, h3⟩)⟩
theorem dpKV_head {kvs : List (Key × V)} {c : PyData} {ds : List (PyData × PyData)} (h : DpKV K H kvs ((.none, c) :: ds)) : False := by
  generalize e : ((PyData.none, c) :: ds) = es at h
  cases h with
  | nil => cases e
  | @cons k v vs d ds' h1 h2 => cases k <;> cases e
theorem dpKN_head {kvs : NL} {c : PyData} {ds : List (PyData × PyData)} (h : DpKN K H kvs ((.none, c) :: ds)) : False := by cases h
/-- a frozen object -/
theorem dp_obj {v : V} {c : Str} {ds : List (PyData × PyData)} (h : Dp K H v (.dict ((.none, .str c) :: ds))) : ∃ a C dx vs, v = .ref a ∧ H a = some (.ins C dx vs) ∧ ClsAt K c C ∧ DpF K H vs ds := by
  obtain ⟨a, rfl, h | h | h⟩ := dp_dict h
  · obtain ⟨_, _, h⟩ := h; exact (dpKV_head h).elim
  · obtain ⟨_, _, h⟩ := h; exact (dpKN_head h.1).elim
  · obtain ⟨C, dx, c', vs, es, e, h1, h2, h3⟩ := h
    injection e with e1 e2
    injection e1 with e3 e4
    injection e4 with e5
    subst e2 e5
    exact ⟨a, C, dx, vs, rfl, h1, h2, h3⟩
theorem dpAll_ints : ∀ {vs : List V} {ns : List Int}, DpAll K H vs (ns.map PyData.int) → vs = ns.map V.int
  | _, [], .nil => rfl
  | _, n :: ns, .cons h t => by rw [dp_int h, dpAll_ints t]; rfl
theorem dpAll_bools : ∀ {vs : List V} {ns : List Bool}, DpAll K H vs (ns.map PyData.bool) → vs = ns.map V.bl
  | _, [], .nil => rfl
  | _, n :: ns, .cons h t => by rw [dp_bool h, dpAll_bools t]; rfl
theorem ints_dpAll : ∀ (ns : List Int), DpAll K H (ns.map V.int) (ns.map PyData.int)
  | [] => .nil
  | n :: ns => .cons (.int n) (ints_dpAll ns)
end
/-! no dict, no object anywhere inside -/
mutual
def plain : PyData → Bool
  | .none => true
  | .bool _ => true
  | .int _ => true
  | .str _ => true
  | .list l => plains l
  | .tuple l => plains l
  | .dict _ => false
def plains : List PyData → Bool
  | [] => true
  | d :: ds => plain d && plains ds
end
theorem plain_dp {K : KF} {H : Hp} {v : V} {d : PyData} (h : Dp K H v d) : plain d = true → L2.Dp K.K H v d := by
  refine Dp.rec (motive_1 := fun v d _ => plain d = true → L2.Dp K.K H v d) (motive_2 := fun v d _ => plains d = true → L2.DpAll K.K H v d) (motive_3 := fun _ _ _ => True) (motive_4 := fun _ _ _ => True) (motive_5 := fun _ _ _ => True)
    (fun _ => .non) (fun b _ => .bl b) (fun b _ => .int b) (fun b _ => .str b) (fun h _ i p => .lst h (i p)) (fun h _ i p => .tup h (i p)) (fun _ _ _ p => nomatch p) (fun _ _ _ _ p => nomatch p) (fun _ _ _ _ p => nomatch p)
      (fun _ => .nil) (fun _ _ i j p => ?_) trivial (fun _ _ _ _ => trivial) trivial (fun _ _ _ _ _ _ _ => trivial) trivial (fun _ _ _ _ => trivial) h
  have q := Bool.and_eq_true_iff.mp p
  exact .cons (i q.1) (j q.2)
theorem dp_plain {K : KF} {H : Hp} {v : V} {d : PyData} (h : L2.Dp K.K H v d) : Dp K H v d := by
  exact L2.Dp.rec (motive_1 := fun v d _ => Dp K H v d) (motive_2 := fun v d _ => DpAll K H v d) .non .bl .int .str (fun h _ i => .lst h i) (fun h _ i => .tup h i) .nil (fun _ _ i j => .cons i j) h
theorem dpAll_plain {K : KF} {H : Hp} : ∀ {v : List V} {d : List PyData}, L2.DpAll K.K H v d → DpAll K H v d
  | _, _, .nil => .nil
  | _, _, .cons h t => .cons (dp_plain h) (dpAll_plain t)
/-! ### slots, environments, outcomes -/
mutual
/-- what a slot holds: data (never changed any more), or a thing of its own: a list, a dict, an object -/
inductive S where
  | dat (d : PyData)
  | lst (l : List PyData)
  | dic (l : List (PyData × PyData))
  /-- an object of a class, or (none) a dict with keys that are texts and things of its own in it -/
  | obj (c : Option Str) (fs : Fs)
  /-- a place whose thing is out of hand -/
  | hole
inductive Fs where
  | nil
  | cons (f : Str) (s : S) (fs : Fs)
end
def obH : Option Str → List (PyData × PyData) → List (PyData × PyData)
  | some c, l => (.none, .str c) :: l
  | none, l => l
mutual
/-- seen as data -/
def S.d : S → PyData
  | .dat d => d
  | .lst l => .list l
  | .dic l => .dict l
  | .obj c fs => .dict (obH c fs.d)
  | .hole => .none
def Fs.d : Fs → List (PyData × PyData)
  | .nil => []
  | .cons f s fs => (.str f, s.d) :: fs.d
end
mutual
/-- nothing is out of hand -/
def S.nh : S → Bool
  | .obj _ fs => fs.nh
  | .hole => false
  | .dat _ => true
  | .lst _ => true
  | .dic _ => true
def Fs.nh : Fs → Bool
  | .nil => true
  | .cons _ s fs => s.nh && fs.nh
end
abbrev En := List (Option S)
/-- an expression's outcome -/
inductive R where
  | ok (s : S) (ρ : En)
  | exc (x : Str) (ρ : En)
  | bad
/-- a statement's -/
inductive O where
  | nx (ρ : En)
  | rt (s : S) (ρ : En)
  | bk (ρ : En)
  | ct (ρ : En)
  | exc (x : Str) (ρ : En)
  | bad
/-- a call's: the parameters' contents behind it -/
inductive FR where
  | ok (s : S) (ss : List S)
  | exc (x : Str) (ss : List S)
  | bad
abbrev CE := En → R
abbrev CS := En → O
abbrev Fn := List S → FR
/-- the frame of a body: what the callers have (F), the data at the entry (B0), the slots of parameters that are handed on (io) -/
structure Fm (J : List Nat) where
  F : Hp
  B0 : Hp
  io : List V
  hv : V
/-- what the things of one's own are told by: the callers' heap, the thing that is out of hand -/
structure Fx where
  F : Hp
  hv : V
abbrev Fm.X {J : List Nat} (Γ : Fm J) : Fx := ⟨Γ.F, Γ.hv⟩
/-- what is wanted of an exception; the slots of parameters that are handed on -/
structure Ww where
  W : WX
  J : List Nat
def Own (F : Fx) (B : Hp) (a : Addr) : Prop := B a = none ∧ F.F a = none
/-- a dict's pairs from fields -/
def kvS (vs : List (Str × V)) : List (Key × V) := vs.map fun p => (.inr p.1, p.2)
theorem kvS_inj : ∀ {vs us : List (Str × V)}, kvS vs = kvS us → vs = us
  | [], [], _ => rfl
  | [], _ :: _, h => by cases h
  | _ :: _, [], h => by cases h
  | (f, v) :: vs, (g, u) :: us, h => by
    have h' : ((Sum.inr f, v) : Key × V) :: kvS vs = (Sum.inr g, u) :: kvS us := h
    injection h' with h1 h2
    injection h1 with h3 h4
    injection h3 with h5
    rw [h5, h4, kvS_inj h2]
/-- fields at a: an object's, a dict's -/
def RawAt (H : Hp) (a : Addr) (vs : List (Str × V)) : Prop := (∃ C dx, H a = some (.ins C dx vs)) ∨ H a = some (.dK (kvS vs))
def ObAt (K : KF) (H : Hp) (a : Addr) : Option Str → List (Str × V) → Prop
  | some c, vs => ∃ C dx, ClsAt K c C ∧ H a = some (.ins C dx vs)
  | none, vs => H a = some (.dK (kvS vs))
theorem ObAt.raw {K : KF} {H : Hp} {a : Addr} : ∀ {c : Option Str} {vs : List (Str × V)}, ObAt K H a c vs → RawAt H a vs
  | some c, vs, ⟨C, dx, _, h⟩ => .inl ⟨C, dx, h⟩
  | none, vs, h => .inr h
theorem RawAt.inj {H : Hp} {a : Addr} {vs us : List (Str × V)} (h : RawAt H a vs) (g : RawAt H a us) : vs = us := by
  rcases h with ⟨C, dx, h⟩ | h
  · rcases g with ⟨D, dy, g⟩ | g
    · rw [h] at g; cases g; rfl
    · rw [h] at g; cases g
  · rcases g with ⟨D, dy, g⟩ | g
    · rw [h] at g; cases g
    · rw [h] at g
      injection g with g
      injection g with g
      exact kvS_inj g
theorem RawAt.some {H : Hp} {a : Addr} {vs : List (Str × V)} (h : RawAt H a vs) : ∃ o, H a = some o := by
  rcases h with ⟨C, dx, h⟩ | h
  · exact ⟨_, h⟩
  · exact ⟨_, h⟩
theorem ObAt.mv {K : KF} {H H' : Hp} {a : Addr} (e : H' a = H a) : ∀ {c : Option Str} {vs : List (Str × V)}, ObAt K H a c vs → ObAt K H' a c vs
  | some c, vs, ⟨C, dx, h1, h2⟩ => ⟨C, dx, h1, by rw [e]; exact h2⟩
  | none, vs, h => by show H' a = _; rw [e]; exact h
theorem RawAt.mv {H H' : Hp} {a : Addr} {vs : List (Str × V)} (e : H' a = H a) (h : RawAt H a vs) : RawAt H' a vs := by
  rcases h with ⟨C, dx, h⟩ | h
  · exact .inl ⟨C, dx, by rw [e]; exact h⟩
  · exact .inr (by rw [e]; exact h)
theorem dpF_kv {K : KF} {B : Hp} : ∀ {vs : List (Str × V)} {ds : List (PyData × PyData)}, DpF K B vs ds → DpKV K B (kvS vs) ds
  | _, _, .nil => .nil
  | _, _, .cons h t => .cons (k := .inr _) h (dpF_kv t)
/-- a dict of one's own at a -/
def DicAt (K : KF) (B H : Hp) (a : Addr) (l : List (PyData × PyData)) : Prop := (∃ kvs, H a = some (.dK kvs) ∧ DpKV K B kvs l) ∨ ∃ L, H a = some (nO K a L) ∧ DpKN K B L l ∧ l ≠ []
/-- a dict at a, read -/
def DicR (K : KF) (B H : Hp) (a : Addr) (l : List (PyData × PyData)) : Prop := (∃ kvs, Rd H a (.dK kvs) ∧ DpKV K B kvs l) ∨ ∃ L, H a = some (nO K a L) ∧ DpKN K B L l ∧ l ≠ []
theorem DicAt.r {K : KF} {B H : Hp} {a : Addr} {l : List (PyData × PyData)} (h : DicAt K B H a l) : DicR K B H a l := h.imp (fun ⟨kvs, h1, h2⟩ => ⟨kvs, .inl h1, h2⟩) id
mutual
/-- v holds s; A: the addresses of what it has of its own -/
def SA (K : KF) (F : Fx) (B H : Hp) : S → V → List Addr → Prop
  | .dat d, v, A => A = [] ∧ Dp K B v d
  | .lst l, v, A => ∃ a xs, v = .ref a ∧ A = [a] ∧ Own F B a ∧ H a = some (.lst xs) ∧ DpAll K B xs l
  | .dic l, v, A => ∃ a, v = .ref a ∧ A = [a] ∧ Own F B a ∧ DicAt K B H a l
  | .obj c fs, v, A => ∃ a vs A', v = .ref a ∧ A = a :: A' ∧ a ∉ A' ∧ Own F B a ∧ ObAt K H a c vs ∧ SF K F B H fs vs A'
  | .hole, v, A => A = [] ∧ v = F.hv
def SF (K : KF) (F : Fx) (B H : Hp) : Fs → List (Str × V) → List Addr → Prop
  | .nil, vs, A => vs = [] ∧ A = []
  | .cons f s fs, vs, A => ∃ v vs' A1 A2, vs = (f, v) :: vs' ∧ A = A1 ++ A2 ∧ (∀ a ∈ A1, a ∉ A2) ∧ SA K F B H s v A1 ∧ SF K F B H fs vs' A2
end
section
variable {K : KF} {F F' : Fx} {B B' H H' : Hp}
mutual
theorem SA.move (eB : Ex B B') (hv : F'.hv = F.hv) : ∀ {s : S} {v : V} {A : List Addr}, (∀ a ∈ A, B' a = none ∧ F'.F a = none ∧ H' a = H a) → SA K F B H s v A → SA K F' B' H' s v A
  | .dat d, v, A, _, h => ⟨h.1, dp_mono eB h.2⟩
  | .hole, v, A, _, h => ⟨h.1, h.2.trans hv.symm⟩
  | .lst l, v, A, k, h => by
    obtain ⟨a, xs, rfl, rfl, _, h2, h3⟩ := h
    have q := k a (by simp)
    exact ⟨a, xs, rfl, rfl, ⟨q.1, q.2.1⟩, by rw [q.2.2]; exact h2, dpAll_mono eB h3⟩
  | .dic l, v, A, k, h => by
    obtain ⟨a, rfl, rfl, _, h2⟩ := h
    have q := k a (by simp)
    refine ⟨a, rfl, rfl, ⟨q.1, q.2.1⟩, ?_⟩
    rcases h2 with ⟨kvs, h2, h3⟩ | ⟨L, h2, h3, h0⟩
    · exact .inl ⟨kvs, by rw [q.2.2]; exact h2, dpKV_mono eB h3⟩
    · exact .inr ⟨L, by rw [q.2.2]; exact h2, dpKN_mono eB h3, h0⟩
  | .obj c fs, v, A, k, h => by
    obtain ⟨a, vs, A', rfl, rfl, na, _, h2, h3⟩ := h
    have q := k a (by simp)
    exact ⟨a, vs, A', rfl, rfl, na, ⟨q.1, q.2.1⟩, h2.mv q.2.2, SF.move eB hv (fun b hb => k b (by simp [hb])) h3⟩
theorem SF.move (eB : Ex B B') (hv : F'.hv = F.hv) : ∀ {s : Fs} {v : List (Str × V)} {A : List Addr}, (∀ a ∈ A, B' a = none ∧ F'.F a = none ∧ H' a = H a) → SF K F B H s v A → SF K F' B' H' s v A
  | .nil, v, A, _, h => h
  | .cons f s fs, v, A, k, h => by
    obtain ⟨v, vs', A1, A2, rfl, rfl, dj, h1, h2⟩ := h
    exact ⟨v, vs', A1, A2, rfl, rfl, dj, SA.move eB hv (fun b hb => k b (by simp [hb])) h1, SF.move eB hv (fun b hb => k b (by simp [hb])) h2⟩
end
mutual
theorem SA.uniq : ∀ {s : S} {v : V} {A A' : List Addr}, SA K F B H s v A → SA K F' B' H s v A' → A = A'
  | .dat d, v, A, A', h, g => by rw [h.1, g.1]
  | .hole, v, A, A', h, g => by rw [h.1, g.1]
  | .lst l, v, A, A', h, g => by
    obtain ⟨a, xs, rfl, rfl, _⟩ := h
    obtain ⟨b, ys, e, rfl, _⟩ := g
    cases e
    rfl
  | .dic l, v, A, A', h, g => by
    obtain ⟨a, rfl, rfl, _⟩ := h
    obtain ⟨b, e, rfl, _⟩ := g
    cases e
    rfl
  | .obj c fs, v, A, A', h, g => by
    obtain ⟨a, vs, A1, rfl, rfl, na, _, h2, h3⟩ := h
    obtain ⟨b, vs', A2, e, rfl, nb, _, g2, g3⟩ := g
    cases e
    have ev := h2.raw.inj g2.raw
    subst ev
    rw [SF.uniq h3 g3]
theorem SF.uniq : ∀ {s : Fs} {v : List (Str × V)} {A A' : List Addr}, SF K F B H s v A → SF K F' B' H s v A' → A = A'
  | .nil, v, A, A', h, g => by rw [h.2, g.2]
  | .cons f s fs, v, A, A', h, g => by
    obtain ⟨v, vs', A1, A2, rfl, rfl, dj, h1, h2⟩ := h
    obtain ⟨u, us', C1, C2, e, rfl, dj', g1, g2⟩ := g
    injection e with e1 e2
    injection e1 with e3 e4
    subst e2 e4
    rw [SA.uniq h1 g1, SF.uniq h2 g2]
end
mutual
theorem SA.own : ∀ {s : S} {v : V} {A : List Addr}, SA K F B H s v A → ∀ a ∈ A, B a = none ∧ F.F a = none ∧ ∃ o, H a = some o
  | .dat d, v, A, h => by rw [h.1]; simp
  | .hole, v, A, h => by rw [h.1]; simp
  | .lst l, v, A, h => by
    obtain ⟨a, xs, rfl, rfl, h1, h2, h3⟩ := h
    intro b hb
    have e : b = a := by simpa using hb
    subst e
    exact ⟨h1.1, h1.2, _, h2⟩
  | .dic l, v, A, h => by
    obtain ⟨a, rfl, rfl, h1, h2⟩ := h
    intro b hb
    have e : b = a := by simpa using hb
    subst e
    rcases h2 with ⟨kvs, h2, h3⟩ | ⟨L, h2, h3, h0⟩
    · exact ⟨h1.1, h1.2, _, h2⟩
    · exact ⟨h1.1, h1.2, _, h2⟩
  | .obj c fs, v, A, h => by
    obtain ⟨a, vs, A', rfl, rfl, na, h1, h2, h3⟩ := h
    intro b hb
    rcases List.mem_cons.mp hb with rfl | hb
    · exact ⟨h1.1, h1.2, h2.raw.some⟩
    · exact SF.own h3 b hb
theorem SF.own : ∀ {s : Fs} {v : List (Str × V)} {A : List Addr}, SF K F B H s v A → ∀ a ∈ A, B a = none ∧ F.F a = none ∧ ∃ o, H a = some o
  | .nil, v, A, h => by rw [h.2]; simp
  | .cons f s fs, v, A, h => by
    obtain ⟨v, vs', A1, A2, rfl, rfl, dj, h1, h2⟩ := h
    intro b hb
    rcases List.mem_append.mp hb with hb | hb
    · exact SA.own h1 b hb
    · exact SF.own h2 b hb
end
mutual
/-- frozen: the data world has what it had of its own -/
theorem SA.froz (eB : Ex B B') : ∀ {s : S} {v : V} {A : List Addr}, s.nh = true → (∀ a ∈ A, B' a = H a) → SA K F B H s v A → Dp K B' v s.d
  | .dat d, v, A, _, _, h => dp_mono eB h.2
  | .lst l, v, A, _, k, h => by
    obtain ⟨a, xs, rfl, rfl, h1, h2, h3⟩ := h
    exact .lst (.inl (.inl (by rw [k a (by simp)]; exact h2))) (dpAll_mono eB h3)
  | .dic l, v, A, _, k, h => by
    obtain ⟨a, rfl, rfl, h1, h2⟩ := h
    rcases h2 with ⟨kvs, h2, h3⟩ | ⟨L, h2, h3, h0⟩
    · exact .dic (.inl (by rw [k a (by simp)]; exact h2)) (dpKV_mono eB h3)
    · exact .dit (by rw [k a (by simp)]; exact h2) h0 (dpKN_mono eB h3)
  | .obj c fs, v, A, n, k, h => by
    obtain ⟨a, vs, A', rfl, rfl, na, h1, h2, h3⟩ := h
    have h4 := SF.froz eB n (fun b hb => k b (by simp [hb])) h3
    cases c with
    | some c =>
      obtain ⟨C, dx, hc, h2⟩ := h2
      exact .ins (by rw [k a (by simp)]; exact h2) hc h4
    | none => exact .dic (.inl (by rw [k a (by simp)]; exact h2)) (dpF_kv h4)
theorem SF.froz (eB : Ex B B') : ∀ {s : Fs} {v : List (Str × V)} {A : List Addr}, s.nh = true → (∀ a ∈ A, B' a = H a) → SF K F B H s v A → DpF K B' v s.d
  | .nil, v, A, _, _, h => by rw [h.1]; exact .nil
  | .cons f s fs, v, A, n, k, h => by
    obtain ⟨v, vs', A1, A2, rfl, rfl, dj, h1, h2⟩ := h
    have n2 := Bool.and_eq_true_iff.mp n
    exact .cons (SA.froz eB n2.1 (fun b hb => k b (by simp [hb])) h1) (SF.froz eB n2.2 (fun b hb => k b (by simp [hb])) h2)
end
end
section
variable (K : KF) {J : List Nat} (Γ : Fm J)
structure Rep (B : Hp) (ρ : En) (σ : L2.St) (H : Hp) : Prop where
  bh : Ex B H
  fh : Ex Γ.F H
  fb : ∀ a o, Γ.F a = some o → B a = none
  b0 : Ex Γ.B0 B
  len : ρ.length = σ.length
  at_ : ∀ (i : Nat) s, ρ[i]? = some (some s) → ∃ v A, σ[i]? = some (some v) ∧ SA K Γ.X B H s v A
  sep : ∀ (i j : Nat) s t v u A C, i ≠ j → ρ[i]? = some (some s) → ρ[j]? = some (some t) → σ[i]? = some (some v) → σ[j]? = some (some u) → SA K Γ.X B H s v A → SA K Γ.X B H t u C → ∀ a ∈ A, a ∉ C
  iot : ∀ (k j : Nat) v, J[k]? = some j → Γ.io[k]? = some v → σ[j]? = some (some v)
/-- apart from what all slots have -/
def Apart (B : Hp) (ρ : En) (σ : L2.St) (H : Hp) (A : List Addr) : Prop := ∀ (i : Nat) t u C, ρ[i]? = some (some t) → σ[i]? = some (some u) → SA K Γ.X B H t u C → ∀ a ∈ A, a ∉ C
/-- a result: what it has of its own is no slot's -/
def SRes (B : Hp) (ρ : En) (σ : L2.St) (H : Hp) (s : S) (v : V) : Prop := s.nh = true ∧ ∃ A, SA K Γ.X B H s v A ∧ Apart K Γ B ρ σ H A
end
section
variable (K : KF) (xc : Str → Value) (W : Ww)
/-- what is wanted behind an expression's outcome -/
def outZ (Γ : Fm W.J) (B : Hp) (σ : L2.St) (Q : VK) : R → Prop
  | .ok s ρ' => ∀ v B' H', Ex B B' → Rep K Γ B' ρ' σ H' → SRes K Γ B' ρ' σ H' s v → Q v H'
  | .exc x ρ' => ∀ B' H', Ex B B' → Rep K Γ B' ρ' σ H' → W.W (xc x) none σ H'
  | .bad => False
/-- the reading that a mirror gives -/
def tZ (c : CE) : TE := fun σ H Q => ∃ (Γ : Fm W.J) (B : Hp) (ρ : En), Rep K Γ B ρ σ H ∧ outZ K xc W Γ B σ Q (c ρ)
/-- .. of a test -/
def outT (Γ : Fm W.J) (B : Hp) (σ : L2.St) (Q : Bool → Hp → Prop) : R → Prop
  | .ok s ρ' => ∃ b, s.d = .bool b ∧ ∀ B' H', Ex B B' → Rep K Γ B' ρ' σ H' → Q b H'
  | .exc x ρ' => ∀ B' H', Ex B B' → Rep K Γ B' ρ' σ H' → W.W (xc x) none σ H'
  | .bad => False
def tZT (c : CE) : TT := fun σ H Q => ∃ (Γ : Fm W.J) (B : Hp) (ρ : En), Rep K Γ B ρ σ H ∧ outT K xc W Γ B σ Q (c ρ)
def outS (Γ : Fm W.J) (D : Ends) : O → Prop
  | .nx ρ' => ∀ B' σ' H', Rep K Γ B' ρ' σ' H' → D.nx σ' H'
  | .rt s ρ' => ∀ v B' σ' H', Rep K Γ B' ρ' σ' H' → SRes K Γ B' ρ' σ' H' s v → D.rt v H'
  | .bk ρ' => ∀ B' σ' H', Rep K Γ B' ρ' σ' H' → D.bk σ' H'
  | .ct ρ' => ∀ B' σ' H', Rep K Γ B' ρ' σ' H' → D.ct σ' H'
  | .exc x ρ' => ∀ B' σ' H', Rep K Γ B' ρ' σ' H' → W.W (xc x) none σ' H'
  | .bad => False
def tZS (c : CS) : TS := fun D σ H => ∃ (Γ : Fm W.J) (B : Hp) (ρ : En), Rep K Γ B ρ σ H ∧ outS K xc W Γ D (c ρ)
end
theorem set_none_at {ρ : En} {i j : Nat} {t : S} (h : (ρ.set i none)[j]? = some (some t)) : i ≠ j ∧ ρ[j]? = some (some t) := by
  by_cases e : i = j
  · subst e
    have hl : i < ρ.length := by
      have := (List.getElem?_eq_some_iff.mp h).1
      simpa using this
    rw [List.getElem?_set_self (by exact hl)] at h
    cases h
  · rw [List.getElem?_set_ne e] at h
    exact ⟨e, h⟩
theorem set_some_at {ρ : En} {i j : Nat} {s t : S} (h : (ρ.set i (some s))[j]? = some (some t)) : (i = j ∧ s = t) ∨ (i ≠ j ∧ ρ[j]? = some (some t)) := by
  by_cases e : i = j
  · subst e
    have hl : i < ρ.length := by
      have := (List.getElem?_eq_some_iff.mp h).1
      simpa using this
    rw [List.getElem?_set_self (by exact hl)] at h
    injection h with h
    injection h with h
    exact .inl ⟨rfl, h⟩
  · rw [List.getElem?_set_ne e] at h
    exact .inr ⟨e, h⟩
theorem some_inj2 {α : Type} {a b : α} (h : some (some a) = some (some b)) : a = b := by injection h with h; injection h
section
variable {K : KF} {J : List Nat} {Γ : Fm J} {B B' : Hp} {ρ : En} {σ : L2.St} {H H' : Hp} {s : S} {v : V}
/-- THE FRAME: the heap changes beside what the slots have -/
theorem Rep.frame (r : Rep K Γ B ρ σ H) (eB : Ex B B') (bh : Ex B' H') (fh : Ex Γ.F H') (fb : ∀ a o, Γ.F a = some o → B' a = none)
    (k : ∀ (i : Nat) s v A, ρ[i]? = some (some s) → σ[i]? = some (some v) → SA K Γ.X B H s v A → ∀ a ∈ A, B' a = none ∧ H' a = H a) : Rep K Γ B' ρ σ H' ∧ ∀ (i : Nat) s v A, ρ[i]? = some (some s) → σ[i]? = some (some v) → SA K Γ.X B' H' s v A → SA K Γ.X B H s v A := by
  have old : ∀ (i : Nat) s v A, ρ[i]? = some (some s) → σ[i]? = some (some v) → SA K Γ.X B' H' s v A → SA K Γ.X B H s v A := fun i s v A h1 h2 h3 => by
    obtain ⟨u, C, g1, g2⟩ := r.at_ i s h1
    have e := some_inj2 (h2.symm.trans g1)
    subst e
    have g3 := SA.move (F' := Γ.X) (H' := H') eB rfl (fun a ha => ⟨(k i s v C h1 h2 g2 a ha).1, (SA.own g2 a ha).2.1, (k i s v C h1 h2 g2 a ha).2⟩) g2
    rw [SA.uniq h3 g3]
    exact g2
  refine ⟨⟨bh, fh, fb, r.b0.trans eB, r.len, fun i s h => ?_, fun i j s t v u A C ne h1 h2 h3 h4 h5 h6 => ?_, r.iot⟩, old⟩
  · obtain ⟨u, C, g1, g2⟩ := r.at_ i s h
    exact ⟨u, C, g1, SA.move eB rfl (fun a ha => ⟨(k i s u C h g1 g2 a ha).1, (SA.own g2 a ha).2.1, (k i s u C h g1 g2 a ha).2⟩) g2⟩
  · exact r.sep i j s t v u A C ne h1 h2 h3 h4 (old i s v A h1 h3 h5) (old j t u C h2 h4 h6)
/-- new data at p -/
theorem Rep.new (r : Rep K Γ B ρ σ H) {p : Addr} {o : HO} (hp : H p = none) : Rep K Γ (upd B p o) ρ σ (upd H p o) ∧ Ex B (upd B p o) ∧ Γ.F p = none ∧ B p = none := by
  have hb : B p = none := Evl.fresh_back r.bh hp
  have hf : Γ.F p = none := Evl.fresh_back r.fh hp
  have eb : Ex B (upd B p o) := Ex.new hb
  have eh : Ex H (upd H p o) := Ex.new hp
  refine ⟨(r.frame eb ?_ (r.fh.trans eh) ?_ ?_).1, eb, hf, hb⟩
  · intro a u h
    by_cases e : a = p
    · subst e
      rw [upd_same] at h
      rw [upd_same]
      exact h
    · rw [upd_ne e] at h
      rw [upd_ne e]
      exact r.bh a u h
  · intro a u h
    rw [upd_ne (ne_of_none h hf)]
    exact r.fb a u h
  · intro i s v A _ _ h3 a ha
    obtain ⟨g1, _, o, g2⟩ := SA.own h3 a ha
    have ne : a ≠ p := ne_of_none g2 hp
    rw [upd_ne ne, upd_ne ne]
    exact ⟨g1, rfl⟩
/-- a new thing of nobody's at p -/
theorem Rep.newX (r : Rep K Γ B ρ σ H) {p : Addr} {o : HO} (hp : H p = none) : Rep K Γ B ρ σ (upd H p o) ∧ Own Γ.X B p ∧ ∀ s, s.nh = true → SA K Γ.X B (upd H p o) s (.ref p) [p] → SRes K Γ B ρ σ (upd H p o) s (.ref p) := by
  have hb : B p = none := Evl.fresh_back r.bh hp
  have hf : Γ.F p = none := Evl.fresh_back r.fh hp
  have eh : Ex H (upd H p o) := Ex.new hp
  obtain ⟨r2, old⟩ := r.frame (B' := B) (H' := upd H p o) (Ex.refl B) (r.bh.trans eh) (r.fh.trans eh) r.fb fun i s v A _ _ h3 a ha => by
    obtain ⟨g1, _, o, g2⟩ := SA.own h3 a ha
    rw [upd_ne (ne_of_none g2 hp)]
    exact ⟨g1, rfl⟩
  refine ⟨r2, ⟨hb, hf⟩, fun s n h => ⟨n, [p], h, fun i t u C h1 h2 h3 a ha hc => ?_⟩⟩
  have e : a = p := by simpa using ha
  subst e
  obtain ⟨_, _, o, g⟩ := SA.own (old i t u C h1 h2 h3) a hc
  rw [hp] at g
  cases g
theorem Rep.newL (r : Rep K Γ B ρ σ H) {p : Addr} {xs : List V} {l : List PyData} (hp : H p = none) (hx : DpAll K B xs l) :
    Rep K Γ B ρ σ (upd H p (.lst xs)) ∧ SRes K Γ B ρ σ (upd H p (.lst xs)) (.lst l) (.ref p) := by
  obtain ⟨r2, o, h⟩ := r.newX (o := .lst xs) hp
  exact ⟨r2, h _ rfl ⟨p, xs, rfl, rfl, o, upd_same, hx⟩⟩
/-- a thing of one's own turns data: the world grows by it -/
theorem freeze (r : Rep K Γ B ρ σ H) (h : SRes K Γ B ρ σ H s v) : ∃ B', Ex B B' ∧ Rep K Γ B' ρ σ H ∧ Dp K B' v s.d := by
  classical
  obtain ⟨nh, A, h1, h2⟩ := h
  have own := SA.own h1
  have eb : Ex B (fun b => if b ∈ A then H b else B b) := fun b o hb => by
    have n : b ∉ A := fun m => by rw [(own b m).1] at hb; cases hb
    simp only [if_neg n]
    exact hb
  refine ⟨fun b => if b ∈ A then H b else B b, eb, (r.frame eb ?_ r.fh ?_ ?_).1, SA.froz eb nh (fun a ha => by simp only [if_pos ha]) h1⟩
  · intro b o hb
    by_cases m : b ∈ A
    · simp only [if_pos m] at hb
      exact hb
    · simp only [if_neg m] at hb
      exact r.bh b o hb
  · intro b o hb
    have n : b ∉ A := fun m => by rw [show Γ.F b = none from (own b m).2.1] at hb; cases hb
    simp only [if_neg n]
    exact r.fb b o hb
  · intro i t u C g1 g2 g3 a ha
    have n : a ∉ A := fun m => h2 i t u C g1 g2 g3 a m ha
    simp only [if_neg n]
    exact ⟨(SA.own g3 a ha).1, trivial⟩
theorem SRes.data (r : Rep K Γ B ρ σ H) (h : SRes K Γ B ρ σ H s v) : ∃ B', Ex B B' ∧ Rep K Γ B' ρ σ H ∧ Dp K B' v s.d := freeze r h
theorem sres_dat {d : PyData} (h : Dp K B v d) : SRes K Γ B ρ σ H (.dat d) v := ⟨rfl, [], ⟨rfl, h⟩, fun _ _ _ _ _ _ _ _ ha => nomatch ha⟩
theorem sa_dat {F : Fx} {d : PyData} {A : List Addr} (h : SA K F B H (.dat d) v A) : Dp K B v d := h.2
theorem SRes.dp {d : PyData} (h : SRes K Γ B ρ σ H (.dat d) v) : Dp K B v d := by
  obtain ⟨_, A, h1, _⟩ := h
  exact h1.2
/-- the slots' and values' lists change at i: what holds of the new ones -/
theorem Rep.put' (r : Rep K Γ B ρ σ H) (i : Nat) {σ' : L2.St} (hl : σ'.length = σ.length) (hv : i < σ.length → σ'[i]? = some (some v)) (ho : ∀ j, i ≠ j → σ'[j]? = σ[j]?) (h : ∃ A, SA K Γ.X B H s v A ∧ Apart K Γ B (ρ.set i none) σ H A) (hi : ∀ (k j : Nat) v, J[k]? = some j → Γ.io[k]? = some v → σ'[j]? = some (some v)) : Rep K Γ B (ρ.set i (some s)) σ' H := by
  obtain ⟨A, h1, h2⟩ := h
  have lt : ∀ {j : Nat} {t : S}, (ρ.set i (some s))[j]? = some (some t) → j < σ.length := fun {j t} hj => by
    have := (List.getElem?_eq_some_iff.mp hj).1
    rw [List.length_set, r.len] at this
    exact this
  have no : ∀ {j : Nat} {t : S}, i ≠ j → ρ[j]? = some (some t) → (ρ.set i none)[j]? = some (some t) := fun {j t} ne hj => by rw [List.getElem?_set_ne ne]; exact hj
  refine ⟨r.bh, r.fh, r.fb, r.b0, by rw [List.length_set, hl]; exact r.len, fun j t hj => ?_, fun j k s1 t1 v1 u1 A1 C1 ne hj hk ej ek g1 g2 => ?_, hi⟩
  · rcases set_some_at hj with ⟨e, e2⟩ | ⟨e, hj'⟩
    · subst e e2
      exact ⟨v, A, hv (lt hj), h1⟩
    · rw [ho j e]
      exact r.at_ j t hj'
  · rcases set_some_at hj with ⟨e, e2⟩ | ⟨e, hj'⟩
    · subst e e2
      rcases set_some_at hk with ⟨f, _⟩ | ⟨f, hk'⟩
      · exact absurd f ne
      · rw [hv (lt hj)] at ej
        have ev := some_inj2 ej
        subst ev
        rw [ho k f] at ek
        rw [SA.uniq g1 h1]
        exact h2 k t1 u1 C1 (no f hk') ek g2
    · rw [ho j e] at ej
      rcases set_some_at hk with ⟨f, f2⟩ | ⟨f, hk'⟩
      · subst f f2
        rw [hv (lt hk)] at ek
        have ev := some_inj2 ek
        subst ev
        intro a ha hc
        rw [SA.uniq g2 h1] at hc
        exact h2 j s1 v1 A1 (no e hj') ej g1 a hc ha
      · rw [ho k f] at ek
        exact r.sep j k s1 t1 v1 u1 A1 C1 ne hj' hk' ej ek g1 g2
theorem Rep.slot (r : Rep K Γ B ρ σ H) (i : Nat) (hi : i ∉ J) (h : SRes K Γ B (ρ.set i none) σ H s v) : Rep K Γ B (ρ.set i (some s)) (σ.set i (some v)) H := by
  refine r.put' i List.length_set (fun hl => List.getElem?_set_self (by exact hl)) (fun j ne => List.getElem?_set_ne ne) h.2 fun k j v hk hv => ?_
  rw [List.getElem?_set_ne (fun e => hi (by rw [e]; exact List.mem_of_getElem? hk))]
  exact r.iot k j v hk hv
theorem Rep.put (r : Rep K Γ B ρ σ H) {i : Nat} (hv : σ[i]? = some (some v)) (h : ∃ A, SA K Γ.X B H s v A ∧ Apart K Γ B (ρ.set i none) σ H A) : Rep K Γ B (ρ.set i (some s)) σ H :=
  r.put' i rfl (fun _ => hv) (fun _ _ => rfl) h r.iot
/-- a slot is forgotten in the mirror -/
theorem Rep.drop (r : Rep K Γ B ρ σ H) (i : Nat) : Rep K Γ B (ρ.set i none) σ H :=
  ⟨r.bh, r.fh, r.fb, r.b0, by rw [List.length_set]; exact r.len, fun j t hj => r.at_ j t (set_none_at hj).2, fun j k s1 t1 v u A C ne hj hk => r.sep j k s1 t1 v u A C ne (set_none_at hj).2 (set_none_at hk).2, r.iot⟩
theorem Apart.drop {A : List Addr} (h : Apart K Γ B ρ σ H A) (i : Nat) : Apart K Γ B (ρ.set i none) σ H A := fun j t u C hj => h j t u C (set_none_at hj).2
theorem SRes.drop (h : SRes K Γ B ρ σ H s v) (i : Nat) : SRes K Γ B (ρ.set i none) σ H s v := by
  obtain ⟨n, A, h1, h2⟩ := h
  exact ⟨n, A, h1, h2.drop i⟩
/-- a slot's content, taken out -/
theorem Rep.take (r : Rep K Γ B ρ σ H) {i : Nat} (hi : ρ[i]? = some (some s)) : ∃ v, σ[i]? = some (some v) ∧ Rep K Γ B (ρ.set i none) σ H ∧ ∃ A, SA K Γ.X B H s v A ∧ Apart K Γ B (ρ.set i none) σ H A := by
  obtain ⟨v, A, h1, h2⟩ := r.at_ i _ hi
  refine ⟨v, h1, r.drop i, A, h2, fun j t u C hj ej g => ?_⟩
  obtain ⟨ne, hj⟩ := set_none_at hj
  exact r.sep i j s t v u A C ne hi hj h1 ej h2 g
/-- what a slot has changes in place -/
theorem Rep.mut (r : Rep K Γ B ρ σ H) {i : Nat} {A A' : List Addr} {s' : S} (hi : ρ[i]? = some (some s)) (hv : σ[i]? = some (some v)) (hA : SA K Γ.X B H s v A) (hk : ∀ a, a ∉ A → ∀ o, H a = some o → H' a = some o)
    (hn : SA K Γ.X B H' s' v A') (hs : ∀ a ∈ A', a ∈ A ∨ H a = none) : Rep K Γ B (ρ.set i (some s')) σ H' := by
  obtain ⟨v', h1, r1, _, q1, q2⟩ := r.take hi
  have ev := some_inj2 (h1.symm.trans hv)
  subst ev
  have eA := SA.uniq hA q1
  subst eA
  have out : ∀ {G : Hp}, Ex G H → (∀ a ∈ A, G a = none) → Ex G H' := fun {G} e n a o h => hk a (fun m => by rw [n a m] at h; cases h) o (e a o h)
  obtain ⟨r2, old⟩ := r1.frame (B' := B) (H' := H') (Ex.refl B) (out r.bh fun a m => (SA.own hA a m).1) (out r.fh fun a m => (SA.own hA a m).2.1) r.fb fun j t u C g1 g2 g3 a ha => by
    obtain ⟨k1, _, o, k2⟩ := SA.own g3 a ha
    exact ⟨k1, by rw [k2]; exact hk a (fun m => q2 j t u C g1 g2 g3 a m ha) o k2⟩
  have h3 : Rep K Γ B ((ρ.set i none).set i (some s')) σ H' := by
    refine r2.put hv ?_
    rw [List.set_set]
    refine ⟨A', hn, fun j t u C g1 g2 g3 a ha hc => ?_⟩
    have g4 := old j t u C g1 g2 g3
    rcases hs a ha with m | m
    · exact q2 j t u C g1 g2 g4 a m hc
    · obtain ⟨_, _, o, g5⟩ := SA.own g4 a hc
      rw [m] at g5
      cases g5
  rw [List.set_set] at h3
  exact h3
end
end Z
set_option maxHeartbeats 2000000
/-! Z: expressions. -/
namespace Z
open PySem PySem.Spec PyProof.Rows L2
open Evl (Ex ex_l ex_t ex_rd)
/-! ### joining outcomes -/
/-- go on with the value as data -/
def R.bd : R → (PyData → En → R) → R
  | .ok s ρ, k => k s.d ρ
  | .exc x ρ, _ => .exc x ρ
  | .bad, _ => .bad
def R.lift (o : Option S) (ρ : En) : R := match o with
  | some s => .ok s ρ
  | none => .bad
inductive RA where
  | ok (ds : List PyData) (ρ : En)
  | exc (x : Str) (ρ : En)
  | bad
abbrev CA := En → RA
def RA.bd : RA → (List PyData → En → R) → R
  | .ok ds ρ, k => k ds ρ
  | .exc x ρ, _ => .exc x ρ
  | .bad, _ => .bad
def R.ba : R → (PyData → En → RA) → RA
  | .ok s ρ, k => k s.d ρ
  | .exc x ρ, _ => .exc x ρ
  | .bad, _ => .bad
def RA.ba : RA → (List PyData → En → RA) → RA
  | .ok s ρ, k => k s ρ
  | .exc x ρ, _ => .exc x ρ
  | .bad, _ => .bad
section
variable (K : KF) (xc : Str → Value) (W : Ww)
def outA (Γ : Fm W.J) (B : Hp) (σ : L2.St) (Q : List V → Hp → Prop) : RA → Prop
  | .ok ds ρ' => ∀ vs B' H', Ex B B' → Rep K Γ B' ρ' σ H' → DpAll K B' vs ds → Q vs H'
  | .exc x ρ' => ∀ B' H', Ex B B' → Rep K Γ B' ρ' σ H' → W.W (xc x) none σ H'
  | .bad => False
def tZA (c : CA) : TA := fun σ H Q => ∃ (Γ : Fm W.J) (B : Hp) (ρ : En), Rep K Γ B ρ σ H ∧ outA K xc W Γ B σ Q (c ρ)
end
section
variable {K : KF} {xc : Str → Value} {W : Ww} {Γ : Fm W.J} {B B' : Hp} {ρ : En} {σ : L2.St} {H : Hp} {s : S} {v : V}
theorem outZ_mono {Q : VK} (e : Ex B B') : ∀ {r : R}, outZ K xc W Γ B σ Q r → outZ K xc W Γ B' σ Q r
  | .ok s ρ', h => fun v B2 H2 e2 r2 q => h v B2 H2 (e.trans e2) r2 q
  | .exc x ρ', h => fun B2 H2 e2 r2 => h B2 H2 (e.trans e2) r2
  | .bad, h => h
theorem outT_mono {Q : Bool → Hp → Prop} (e : Ex B B') : ∀ {r : R}, outT K xc W Γ B σ Q r → outT K xc W Γ B' σ Q r
  | .ok s ρ', ⟨b, h1, h⟩ => ⟨b, h1, fun B2 H2 e2 r2 => h B2 H2 (e.trans e2) r2⟩
  | .exc x ρ', h => fun B2 H2 e2 r2 => h B2 H2 (e.trans e2) r2
  | .bad, h => h
theorem outA_mono {Q : List V → Hp → Prop} (e : Ex B B') : ∀ {r : RA}, outA K xc W Γ B σ Q r → outA K xc W Γ B' σ Q r
  | .ok s ρ', h => fun v B2 H2 e2 r2 q => h v B2 H2 (e.trans e2) r2 q
  | .exc x ρ', h => fun B2 H2 e2 r2 => h B2 H2 (e.trans e2) r2
  | .bad, h => h
/-- an expression is evaluated, its value seen as data; then the rest -/
theorem tz_bd {c : CE} {k : PyData → En → R} {Q Q' : VK} (rep : Rep K Γ B ρ σ H) (h : outZ K xc W Γ B σ Q ((c ρ).bd k))
    (next : ∀ v B' H' d ρ', Ex B B' → Rep K Γ B' ρ' σ H' → Dp K B' v d → outZ K xc W Γ B' σ Q (k d ρ') → Q' v H') : tZ K xc W c σ H Q' := by
  refine ⟨Γ, B, ρ, rep, ?_⟩
  cases hc : c ρ with
  | ok s ρ1 =>
    rw [hc] at h
    intro v B1 H1 e1 r1 q1
    obtain ⟨B2, e2, r2, q2⟩ := SRes.data r1 q1
    exact next v B2 H1 s.d ρ1 (e1.trans e2) r2 q2 (outZ_mono (e1.trans e2) h)
  | exc x ρ1 =>
    rw [hc] at h
    exact h
  | bad =>
    rw [hc] at h
    exact h
/-- .. where a test is wanted in the end -/
theorem tz_bdT {c : CE} {k : PyData → En → R} {Q : Bool → Hp → Prop} {Q' : VK} (rep : Rep K Γ B ρ σ H) (h : outT K xc W Γ B σ Q ((c ρ).bd k))
    (next : ∀ v B' H' d ρ', Ex B B' → Rep K Γ B' ρ' σ H' → Dp K B' v d → outT K xc W Γ B' σ Q (k d ρ') → Q' v H') : tZ K xc W c σ H Q' := by
  refine ⟨Γ, B, ρ, rep, ?_⟩
  cases hc : c ρ with
  | ok s ρ1 =>
    rw [hc] at h
    intro v B1 H1 e1 r1 q1
    obtain ⟨B2, e2, r2, q2⟩ := SRes.data r1 q1
    exact next v B2 H1 s.d ρ1 (e1.trans e2) r2 q2 (outT_mono (e1.trans e2) h)
  | exc x ρ1 =>
    rw [hc] at h
    exact h
  | bad =>
    rw [hc] at h
    exact h
theorem tz_ba {c : CE} {k : PyData → En → RA} {Q : List V → Hp → Prop} {Q' : VK} (rep : Rep K Γ B ρ σ H) (h : outA K xc W Γ B σ Q ((c ρ).ba k))
    (next : ∀ v B' H' d ρ', Ex B B' → Rep K Γ B' ρ' σ H' → Dp K B' v d → outA K xc W Γ B' σ Q (k d ρ') → Q' v H') : tZ K xc W c σ H Q' := by
  refine ⟨Γ, B, ρ, rep, ?_⟩
  cases hc : c ρ with
  | ok s ρ1 =>
    rw [hc] at h
    intro v B1 H1 e1 r1 q1
    obtain ⟨B2, e2, r2, q2⟩ := SRes.data r1 q1
    exact next v B2 H1 s.d ρ1 (e1.trans e2) r2 q2 (outA_mono (e1.trans e2) h)
  | exc x ρ1 =>
    rw [hc] at h
    exact h
  | bad =>
    rw [hc] at h
    exact h
theorem tza_bd {c : CA} {k : List PyData → En → R} {Q : VK} {Q' : List V → Hp → Prop} (rep : Rep K Γ B ρ σ H) (h : outZ K xc W Γ B σ Q ((c ρ).bd k))
    (next : ∀ vs B' H' ds ρ', Ex B B' → Rep K Γ B' ρ' σ H' → DpAll K B' vs ds → outZ K xc W Γ B' σ Q (k ds ρ') → Q' vs H') : tZA K xc W c σ H Q' := by
  refine ⟨Γ, B, ρ, rep, ?_⟩
  cases hc : c ρ with
  | ok s ρ1 =>
    rw [hc] at h
    intro v B1 H1 e1 r1 q1
    exact next v B1 H1 s ρ1 e1 r1 q1 (outZ_mono e1 h)
  | exc x ρ1 =>
    rw [hc] at h
    exact h
  | bad =>
    rw [hc] at h
    exact h
theorem tza_ba {c : CA} {k : List PyData → En → RA} {Q Q' : List V → Hp → Prop} (rep : Rep K Γ B ρ σ H) (h : outA K xc W Γ B σ Q ((c ρ).ba k))
    (next : ∀ vs B' H' ds ρ', Ex B B' → Rep K Γ B' ρ' σ H' → DpAll K B' vs ds → outA K xc W Γ B' σ Q (k ds ρ') → Q' vs H') : tZA K xc W c σ H Q' := by
  refine ⟨Γ, B, ρ, rep, ?_⟩
  cases hc : c ρ with
  | ok s ρ1 =>
    rw [hc] at h
    intro v B1 H1 e1 r1 q1
    exact next v B1 H1 s ρ1 e1 r1 q1 (outA_mono e1 h)
  | exc x ρ1 =>
    rw [hc] at h
    exact h
  | bad =>
    rw [hc] at h
    exact h
end
/-! ### operations on data -/
section
variable (K : KF)
/-- what follows a result -/
abbrev After {J : List Nat} (Γ : Fm J) (B : Hp) (ρ : En) (σ : L2.St) (s : S) (Q : VK) : Prop := ∀ v B' H', Ex B B' → Rep K Γ B' ρ σ H' → SRes K Γ B' ρ σ H' s v → Q v H'
def Op1 (r : V → Hp → VK → Prop) (g : PyData → Option S) : Prop :=
  ∀ (J : List Nat) (Γ : Fm J) (B : Hp) (ρ : En) (σ : L2.St) (H : Hp) x d s Q, Rep K Γ B ρ σ H → Dp K B x d → g d = some s → After K Γ B ρ σ s Q → r x H Q
def Op2 (r : R2) (g : PyData → PyData → Option S) : Prop :=
  ∀ (J : List Nat) (Γ : Fm J) (B : Hp) (ρ : En) (σ : L2.St) (H : Hp) x y d e s Q, Rep K Γ B ρ σ H → Dp K B x d → Dp K B y e → g d e = some s → After K Γ B ρ σ s Q → r x y H Q
def OpN (r : List V → Hp → VK → Prop) (g : List PyData → Option S) : Prop :=
  ∀ (J : List Nat) (Γ : Fm J) (B : Hp) (ρ : En) (σ : L2.St) (H : Hp) xs ds s Q, Rep K Γ B ρ σ H → DpAll K B xs ds → g ds = some s → After K Γ B ρ σ s Q → r xs H Q
/-- read in place: data, or a thing of one's own -/
def Pk (B H : Hp) (x : V) (d : PyData) : Prop := ∃ F s A, S.d s = d ∧ s.nh = true ∧ SA K F B H s x A
def Op2P (r : R2) (g : PyData → PyData → Option S) : Prop :=
  ∀ (J : List Nat) (Γ : Fm J) (B : Hp) (ρ : En) (σ : L2.St) (H : Hp) x y d e s Q, Rep K Γ B ρ σ H → Pk K B H x d → Dp K B y e → g d e = some s → After K Γ B ρ σ s Q → r x y H Q
end
section
variable {K : KF} {J : List Nat} {Γ : Fm J} {B : Hp} {ρ : En} {σ : L2.St} {H : Hp} {s : S} {v : V} {d : PyData} {Q : VK}
theorem After.now (r : Rep K Γ B ρ σ H) (a : After K Γ B ρ σ (.dat d) Q) (h : Dp K B v d) : Q v H := a v B H (Ex.refl B) r (sres_dat h)
theorem After.tup (r : Rep K Γ B ρ σ H) {xs : List V} {ds : List PyData} (a : After K Γ B ρ σ (.dat (.tuple ds)) Q) (h : DpAll K B xs ds) {p : Addr} (hp : H p = none) : Q (.ref p) (upd H p (.tup xs)) := by
  obtain ⟨r2, e2, _, _⟩ := r.new (o := .tup xs) hp
  exact a _ _ _ e2 r2 (sres_dat (.tup (.inl (.inl upd_same)) (dpAll_mono e2 h)))
theorem After.lst (r : Rep K Γ B ρ σ H) {xs : List V} {ds : List PyData} (a : After K Γ B ρ σ (.lst ds) Q) (h : DpAll K B xs ds) {p : Addr} (hp : H p = none) : Q (.ref p) (upd H p (.lst xs)) := by
  obtain ⟨r2, q2⟩ := r.newL hp h
  exact a _ _ _ (Ex.refl B) r2 q2
theorem Op2.or {r r' : R2} {g : PyData → PyData → Option S} (g1 g2 : PyData → PyData → Option S) (h1 : Op2 K r g1) (h2 : Op2 K r' g2) (hg : ∀ d e s, g d e = some s → g1 d e = some s ∨ g2 d e = some s) : Op2 K (fun x y H Q => r x y H Q ∨ r' x y H Q) g := by
  intro J Γ B ρ σ H x y d e s Q rep hx hy hs a
  rcases hg d e s hs with h | h
  · exact .inl (h1 J Γ B ρ σ H x y d e s Q rep hx hy h a)
  · exact .inr (h2 J Γ B ρ σ H x y d e s Q rep hx hy h a)
theorem Pk.of (h : Dp K B v d) : Pk K B H v d := ⟨⟨fun _ => none, .non⟩, .dat d, [], rfl, rfl, rfl, h⟩
theorem Pk.list {a : Addr} {ds : List PyData} (rep : Rep K Γ B ρ σ H) (h : Pk K B H (.ref a) (.list ds)) : ∃ xs, SqL K H a xs ∧ DpAll K B xs ds := by
  obtain ⟨F, s, A, e, nh, h⟩ := h
  cases s with
  | dat d =>
    have e' : d = .list ds := e
    subst e'
    obtain ⟨b, xs, e, h1, h2⟩ := dp_list (sa_dat h)
    cases e
    exact ⟨xs, ex_l rep.bh h1, h2⟩
  | lst l =>
    obtain ⟨b, xs, e2, _, _, h1, h2⟩ := h
    cases e2
    cases e
    exact ⟨xs, .inl (.inl h1), h2⟩
  | hole => cases nh
  | dic l | obj c fs => cases e
theorem Pk.refL {ds : List PyData} (h : Pk K B H v (.list ds)) : ∃ a, v = .ref a := by
  obtain ⟨F, s, A, e, nh, h⟩ := h
  cases s with
  | dat d =>
    have e' : d = .list ds := e
    subst e'
    obtain ⟨b, xs, e, _⟩ := dp_list (sa_dat h)
    exact ⟨b, e⟩
  | lst l =>
    obtain ⟨b, xs, e2, _⟩ := h
    exact ⟨b, e2⟩
  | hole => cases nh
  | dic l | obj c fs => cases e
theorem Pk.dp (h : Pk K B H v d) (n : ∀ l, d ≠ .list l) (n2 : ∀ l, d ≠ .dict l := by intro l e; cases e) : Dp K B v d := by
  obtain ⟨F, s, A, e, nh, h⟩ := h
  cases s with
  | dat d' =>
    have e' : d' = d := e
    subst e'
    exact sa_dat h
  | lst l => exact absurd e.symm (n l)
  | hole => cases nh
  | dic l | obj c fs => exact absurd e.symm (n2 _)
end
/-! ### judgements -/
section
variable (X : Cx) (xc : Str → Value) (W : Ww)
abbrev ZE (e : Expr) (c : CE) : Prop := PE X e (tZ X.kf xc W c)
abbrev ZT (e : Expr) (c : CE) : Prop := PT X e (tZT X.kf xc W c)
abbrev ZW (e : Expr) (c : CE) : Prop := PW X e (tZT X.kf xc W c)
abbrev ZS (st : Stmt) (c : CS) : Prop := PS X st (tZS X.kf xc W c)
abbrev ZSs (st : List Stmt) (c : CS) : Prop := PSs X st (tZS X.kf xc W c)
structure ZA (es : List Expr) (c : CA) : Prop where
  run : PA X es (tZA X.kf xc W c)
  len : ∀ ρ ds ρ', c ρ = .ok ds ρ' → ds.length = es.length
end
section
variable {X : Cx} {e : Expr} {st : Stmt} {sts : List Stmt} {es : List Expr}
theorem PE.imp {t t' : TE} (h : PE X e t) (m : ∀ σ H Q, t' σ H Q → t σ H Q) : PE X e t' := ⟨fun pins s σ H Q I q => h.run pins s σ H Q I (m σ H Q q)⟩
theorem PT.imp {t t' : TT} (h : PT X e t) (m : ∀ σ H Q, t' σ H Q → t σ H Q) : PT X e t' := ⟨fun pins s σ H Q I q => h.run pins s σ H Q I (m σ H Q q)⟩
theorem PW.imp {t t' : TT} (h : PW X e t) (m : ∀ σ H Q, t' σ H Q → t σ H Q) : PW X e t' := ⟨fun wh pins s σ H Q I q => h.run wh pins s σ H Q I (m σ H Q q)⟩
theorem PA.imp {t t' : TA} (h : PA X es t) (m : ∀ σ H Q, t' σ H Q → t σ H Q) : PA X es t' := ⟨fun pos pins s σ H Q I q => h.run pos pins s σ H Q I (m σ H Q q)⟩
theorem PS.imp {t t' : TS} (h : PS X st t) (m : ∀ D σ H, t' D σ H → t D σ H) : PS X st t' := ⟨fun pins s σ H D I q => h.run pins s σ H D I (m D σ H q)⟩
theorem PSs.imp {t t' : TS} (h : PSs X sts t) (m : ∀ D σ H, t' D σ H → t D σ H) : PSs X sts t' := ⟨fun pins s σ H D I q => h.run pins s σ H D I (m D σ H q)⟩
end
section
variable {X : Cx} {xc : Str → Value} {W : Ww} {a b e : Expr} {es : List Expr} {pos : Pos} {ca cb cc : CE} {cas : CA}
/-! ### constants, names -/
def cK (d : PyData) : CE := fun ρ => .ok (.dat d) ρ
theorem ze_of {t : TE} {v : V} {d : PyData} (h : PE X e t) (ht : ∀ σ H Q, Q v H → t σ H Q) (hd : ∀ B, Dp X.kf B v d) : ZE X xc W e (cK d) := PE.imp h fun σ H Q ⟨Γ, B, ρ, rep, k⟩ => ht σ H Q (k v B H (Ex.refl B) rep (sres_dat (hd B)))
theorem ze_int {i : Int} {j : Nat} : ZE X xc W (.Constant (.int i) j pos) (cK (.int i)) := ze_of pe_int (fun _ _ _ q => q) fun _ => .int i
theorem ze_bool {i : Bool} {j : Nat} : ZE X xc W (.Constant (.bool i) j pos) (cK (.bool i)) := ze_of pe_bl (fun _ _ _ q => q) fun _ => .bl i
theorem ze_none {j : Nat} : ZE X xc W (.Constant .none j pos) (cK .none) := ze_of pe_non (fun _ _ _ q => q) fun _ => .non
theorem ze_str {x : Str} {j : Nat} : ZE X xc W (.Constant (.str x) j pos) (cK (.str x)) := ze_of pe_str (fun _ _ _ q => q) fun _ => .str x
/-- a name's value; a list of its own turns data -/
def cV (i : Nat) : CE := fun ρ => match ρ[i]? with
  | some (some s) => bif s.nh then .ok (.dat s.d) (ρ.set i (some (.dat s.d))) else .bad
  | _ => .bad
theorem ze_var {i : Nat} (h : PE X e (tVar i)) : ZE X xc W e (cV i) := PE.imp h fun σ H Q ⟨Γ, B, ρ, rep, k⟩ => by
  unfold cV at k
  cases hi : ρ[i]? with
  | none => rw [hi] at k; exact k.elim
  | some o =>
    cases o with
    | none => rw [hi] at k; exact k.elim
    | some s =>
      rw [hi] at k
      have k' : outZ X.kf xc W Γ B σ Q (bif s.nh then .ok (.dat s.d) (ρ.set i (some (.dat s.d))) else .bad) := k
      cases hn : s.nh with
      | false => rw [hn] at k'; exact k'.elim
      | true =>
      rw [hn, cond_true] at k'
      obtain ⟨v, h1, r1, q1⟩ := rep.take hi
      obtain ⟨B2, e2, r2, q2⟩ := freeze r1 ⟨hn, q1⟩
      refine ⟨v, h1, ?_⟩
      have r3 := Rep.put (s := .dat s.d) (i := i) (v := v) r2 h1 (sres_dat q2).2
      rw [List.set_set] at r3
      exact k' v B2 H e2 r3 (sres_dat q2)
/-- a name's list handed on as it is (behind a return) -/
def cVm (i : Nat) : CE := fun ρ => match ρ[i]? with
  | some (some s) => bif s.nh then .ok s (ρ.set i none) else .bad
  | _ => .bad
theorem ze_varm {i : Nat} (h : PE X e (tVar i)) : ZE X xc W e (cVm i) := PE.imp h fun σ H Q ⟨Γ, B, ρ, rep, k⟩ => by
  unfold cVm at k
  cases hi : ρ[i]? with
  | none => rw [hi] at k; exact k.elim
  | some o =>
    cases o with
    | none => rw [hi] at k; exact k.elim
    | some s =>
      rw [hi] at k
      have k' : outZ X.kf xc W Γ B σ Q (bif s.nh then .ok s (ρ.set i none) else .bad) := k
      cases hn : s.nh with
      | false => rw [hn] at k'; exact k'.elim
      | true =>
      rw [hn, cond_true] at k'
      obtain ⟨v, h1, r1, q1⟩ := rep.take hi
      exact ⟨v, h1, k' v B H (Ex.refl B) r1 ⟨hn, q1⟩⟩
/-! ### operators -/
def c1 (g : PyData → Option S) (ca : CE) : CE := fun ρ => (ca ρ).bd fun d ρ => R.lift (g d) ρ
def c2 (g : PyData → PyData → Option S) (ca cb : CE) : CE := fun ρ => (ca ρ).bd fun d ρ => (cb ρ).bd fun e ρ => R.lift (g d e) ρ
def cN (g : List PyData → Option S) (cas : CA) : CE := fun ρ => (cas ρ).bd fun ds ρ => R.lift (g ds) ρ
theorem out_lift {K : KF} {Γ : Fm W.J} {B : Hp} {ρ : En} {σ : L2.St} {Q : VK} {o : Option S} (h : outZ K xc W Γ B σ Q (R.lift o ρ)) : ∃ s, o = some s ∧ After K Γ B ρ σ s Q := by
  cases o with
  | none => exact h.elim
  | some s => exact ⟨s, rfl, h⟩
theorem tz_op2 {K : KF} {r : R2} {g : PyData → PyData → Option S} (hr : Op2 K r g) {σ : L2.St} {H : Hp} {Q : VK} (h : tZ K xc W (c2 g ca cb) σ H Q) : tOp r (tZ K xc W ca) (tZ K xc W cb) σ H Q := by
  obtain ⟨Γ, B, ρ, rep, k⟩ := h
  refine tz_bd rep k fun x B1 H1 d ρ1 e1 r1 q1 k1 => ?_
  refine tz_bd r1 k1 fun y B2 H2 e ρ2 e2 r2 q2 k2 => ?_
  obtain ⟨s, hs, af⟩ := out_lift k2
  exact hr W.J Γ B2 ρ2 σ H2 x y d e s Q r2 (dp_mono e2 q1) q2 hs af
theorem ze_op {op : Operator} {r : R2} {g : PyData → PyData → Option S} (ho : OpR X (binaryOp op) r) (hr : Op2 X.kf r g) (ha : ZE X xc W a ca) (hb : ZE X xc W b cb) : ZE X xc W (.BinOp a op b pos) (c2 g ca cb) :=
  PE.imp (pe_op ho ha hb) fun _ _ _ h => tz_op2 hr h
theorem ze_cmp {op : CmpOp} {r : R2} {g : PyData → PyData → Option S} (ho : OpR X (compareOp op) r) (hr : Op2 X.kf r g) (hm : behindInMarks op b = false) (ha : ZE X xc W a ca) (hb : ZE X xc W b cb) : ZE X xc W (.Compare a [op] [b] pos) (c2 g ca cb) :=
  PE.imp (pe_cmpR ho ha hb hm) fun _ _ _ h => tz_op2 hr h
theorem ze_un {op : UnaryOp} {r : V → Hp → VK → Prop} {g : PyData → Option S} (ho : UnR X (unaryOp op) r) (hr : Op1 X.kf r g) (ha : ZE X xc W a ca) : ZE X xc W (.UnaryOp op a pos) (c1 g ca) :=
  PE.imp (pe_un ho ha) fun σ H Q ⟨Γ, B, ρ, rep, k⟩ => tz_bd rep k fun x B1 H1 d ρ1 e1 r1 q1 k1 => by
    obtain ⟨s, hs, af⟩ := out_lift k1
    exact hr W.J Γ B1 ρ1 σ H1 x d s Q r1 q1 hs af
/-- a value that is a bool, from an out for tests: the value's test -/
theorem tzt_of {K : KF} {σ : L2.St} {H : Hp} {Q : Bool → Hp → Prop} (h : tZT K xc W ca σ H Q) : tZ K xc W ca σ H fun x H' => ∃ k, x = .bl k ∧ Q k H' := by
  obtain ⟨Γ, B, ρ, rep, k⟩ := h
  refine ⟨Γ, B, ρ, rep, ?_⟩
  cases hc : ca ρ with
  | ok s ρ1 =>
    rw [hc] at k
    obtain ⟨b, hb, k⟩ := k
    intro v B1 H1 e1 r1 q1
    cases s with
    | dat d =>
      have hd : d = .bool b := hb
      subst hd
      exact ⟨b, dp_bool q1.dp, k B1 H1 e1 r1⟩
    | lst l | dic l | obj c fs | hole => cases hb
  | exc x ρ1 =>
    rw [hc] at k
    exact k
  | bad =>
    rw [hc] at k
    exact k
theorem zt_cmp {op : CmpOp} {r : R2} {g : PyData → PyData → Option S} (ho : OpR X (compareOp op) r) (hr : Op2 X.kf r g) (hm : behindInMarks op b = false) (ha : ZE X xc W a ca) (hb : ZE X xc W b cb) : ZT X xc W (.Compare a [op] [b] pos) (c2 g ca cb) :=
  PT.imp (pt_cmpR ho ha hb hm) fun _ _ _ h => tz_op2 hr (tzt_of h)
/-! ### and, or, not -/
def cAnd (ca cb : CE) : CE := fun ρ => (ca ρ).bd fun d ρ => match d with
  | .bool true => cb ρ
  | .bool false => .ok (.dat (.bool false)) ρ
  | _ => .bad
def cOr (ca cb : CE) : CE := fun ρ => (ca ρ).bd fun d ρ => match d with
  | .bool true => .ok (.dat (.bool true)) ρ
  | .bool false => cb ρ
  | _ => .bad
def gNot : PyData → Option S
  | .bool b => some (.dat (.bool (!b)))
  | _ => none
def cIf (ct ca cb : CE) : CE := fun ρ => (ct ρ).bd fun d ρ => match d with
  | .bool true => ca ρ
  | .bool false => cb ρ
  | _ => .bad
theorem ze_and {rest : List Expr} (ha : ZE X xc W a ca) (hb : ZE X xc W (.BoolOp .And (b :: rest) pos) cb) : ZE X xc W (.BoolOp .And (a :: b :: rest) pos) (cAnd ca cb) :=
  PE.imp (pe_and ha hb) fun σ H Q ⟨Γ, B, ρ, rep, k⟩ => tz_bd rep k fun x B1 H1 d ρ1 e1 r1 q1 k1 => by
    cases d with
    | bool t =>
      refine ⟨t, dp_bool q1, ?_⟩
      cases t with
      | true => exact iteT ⟨Γ, B1, ρ1, r1, k1⟩
      | false => exact iteF (k1 _ B1 H1 (Ex.refl _) r1 (sres_dat (.bl false)))
    | none | int _ | str _ | list _ | tuple _ | dict _ => exact k1.elim
theorem ze_or {rest : List Expr} (ha : ZE X xc W a ca) (hb : ZE X xc W (.BoolOp .Or (b :: rest) pos) cb) : ZE X xc W (.BoolOp .Or (a :: b :: rest) pos) (cOr ca cb) :=
  PE.imp (pe_or ha hb) fun σ H Q ⟨Γ, B, ρ, rep, k⟩ => tz_bd rep k fun x B1 H1 d ρ1 e1 r1 q1 k1 => by
    cases d with
    | bool t =>
      refine ⟨t, dp_bool q1, ?_⟩
      cases t with
      | true => exact iteT (k1 _ B1 H1 (Ex.refl _) r1 (sres_dat (.bl true)))
      | false => exact iteF ⟨Γ, B1, ρ1, r1, k1⟩
    | none | int _ | str _ | list _ | tuple _ | dict _ => exact k1.elim
theorem ze_one {op : BoolOp} (h : ZE X xc W a ca) : ZE X xc W (.BoolOp op [a] pos) ca := pe_one h
theorem ze_not (ha : ZE X xc W a ca) : ZE X xc W (.UnaryOp .Not a pos) (c1 gNot ca) :=
  PE.imp (pe_not ha) fun σ H Q ⟨Γ, B, ρ, rep, k⟩ => tz_bd rep k fun x B1 H1 d ρ1 e1 r1 q1 k1 => by
    obtain ⟨s, hs, af⟩ := out_lift k1
    cases d with
    | bool t =>
      have e : S.dat (.bool (!t)) = s := Option.some.inj hs
      subst e
      exact ⟨t, dp_bool q1, af _ B1 H1 (Ex.refl _) r1 (sres_dat (.bl _))⟩
    | none | int _ | str _ | list _ | tuple _ | dict _ => cases hs
/-- a test, then one of two ways -/
theorem tzt_bd {K : KF} {Γ : Fm W.J} {B : Hp} {ρ : En} {σ : L2.St} {H : Hp} {c : CE} {k : PyData → En → R} {Q : VK} {Q' : Bool → Hp → Prop} (rep : Rep K Γ B ρ σ H)
    (h : outZ K xc W Γ B σ Q ((c ρ).bd k)) (hk : ∀ d ρ', (∀ b, d ≠ .bool b) → k d ρ' = .bad)
    (next : ∀ b B' H' ρ', Ex B B' → Rep K Γ B' ρ' σ H' → outZ K xc W Γ B' σ Q (k (.bool b) ρ') → Q' b H') : tZT K xc W c σ H Q' := by
  refine ⟨Γ, B, ρ, rep, ?_⟩
  cases hc : c ρ with
  | ok s ρ1 =>
    rw [hc] at h
    have h' : outZ K xc W Γ B σ Q (k s.d ρ1) := h
    by_cases e : ∃ b, s.d = .bool b
    · obtain ⟨b, e⟩ := e
      rw [e] at h'
      exact ⟨b, e, fun B1 H1 e1 r1 => next b B1 H1 ρ1 e1 r1 (outZ_mono e1 h')⟩
    · rw [hk s.d ρ1 fun b z => e ⟨b, z⟩] at h'
      exact h'.elim
  | exc x ρ1 =>
    rw [hc] at h
    exact h
  | bad =>
    rw [hc] at h
    exact h
theorem tzt_bdT {K : KF} {Γ : Fm W.J} {B : Hp} {ρ : En} {σ : L2.St} {H : Hp} {c : CE} {k : PyData → En → R} {Q Q' : Bool → Hp → Prop} (rep : Rep K Γ B ρ σ H)
    (h : outT K xc W Γ B σ Q ((c ρ).bd k)) (hk : ∀ d ρ', (∀ b, d ≠ .bool b) → k d ρ' = .bad)
    (next : ∀ b B' H' ρ', Ex B B' → Rep K Γ B' ρ' σ H' → outT K xc W Γ B' σ Q (k (.bool b) ρ') → Q' b H') : tZT K xc W c σ H Q' := by
  refine ⟨Γ, B, ρ, rep, ?_⟩
  cases hc : c ρ with
  | ok s ρ1 =>
    rw [hc] at h
    have h' : outT K xc W Γ B σ Q (k s.d ρ1) := h
    by_cases e : ∃ b, s.d = .bool b
    · obtain ⟨b, e⟩ := e
      rw [e] at h'
      exact ⟨b, e, fun B1 H1 e1 r1 => next b B1 H1 ρ1 e1 r1 (outT_mono e1 h')⟩
    · rw [hk s.d ρ1 fun b z => e ⟨b, z⟩] at h'
      exact h'.elim
  | exc x ρ1 =>
    rw [hc] at h
    exact h
  | bad =>
    rw [hc] at h
    exact h
theorem ze_if {c : Expr} {ct : CE} (hc : ZT X xc W c ct) (ha : ZE X xc W a ca) (hb : ZE X xc W b cb) : ZE X xc W (.IfExp c a b pos) (cIf ct ca cb) :=
  PE.imp (pe_ifExp hc ha hb) fun σ H Q ⟨Γ, B, ρ, rep, k⟩ => tzt_bd rep k (fun d ρ' hd => by cases d with | bool b => exact absurd rfl (hd b) | none | int _ | str _ | list _ | tuple _ | dict _ => rfl) fun b B1 H1 ρ1 e1 r1 k1 => by
    cases b with
    | true => exact iteT ⟨Γ, B1, ρ1, r1, k1⟩
    | false => exact iteF ⟨Γ, B1, ρ1, r1, k1⟩
theorem zt_not (ha : ZT X xc W a ca) : ZT X xc W (.UnaryOp .Not a pos) (c1 gNot ca) :=
  PT.imp (pt_not ha) fun σ H Q ⟨Γ, B, ρ, rep, k⟩ => tzt_bdT rep k (fun d ρ' hd => by cases d with | bool b => exact absurd rfl (hd b) | none | int _ | str _ | list _ | tuple _ | dict _ => rfl) fun b B1 H1 ρ1 e1 r1 k1 => by
    obtain ⟨b', hb, k2⟩ := k1
    have e : (!b) = b' := by injection hb
    rw [e]
    exact k2 B1 H1 (Ex.refl _) r1
theorem zw_and1 (ha : ZT X xc W a ca) : ZW X xc W (.BoolOp .And [a] pos) ca := pw_and1 ha
theorem zw_or1 (ha : ZT X xc W a ca) : ZW X xc W (.BoolOp .Or [a] pos) ca := pw_or1 ha
theorem zw_and {rest : List Expr} (ha : ZT X xc W a ca) (hb : ZW X xc W (.BoolOp .And (b :: rest) pos) cb) : ZW X xc W (.BoolOp .And (a :: b :: rest) pos) (cAnd ca cb) :=
  PW.imp (pw_and ha hb) fun σ H Q ⟨Γ, B, ρ, rep, k⟩ => tzt_bdT rep k (fun d ρ' hd => by cases d with | bool b => exact absurd rfl (hd b) | none | int _ | str _ | list _ | tuple _ | dict _ => rfl) fun b B1 H1 ρ1 e1 r1 k1 => by
    cases b with
    | true => exact iteT ⟨Γ, B1, ρ1, r1, k1⟩
    | false =>
      obtain ⟨b', hb, k2⟩ := k1
      have e : false = b' := by injection hb
      rw [← e] at k2
      exact iteF (k2 B1 H1 (Ex.refl _) r1)
theorem zw_or {rest : List Expr} (ha : ZT X xc W a ca) (hb : ZW X xc W (.BoolOp .Or (b :: rest) pos) cb) : ZW X xc W (.BoolOp .Or (a :: b :: rest) pos) (cOr ca cb) :=
  PW.imp (pw_or ha hb) fun σ H Q ⟨Γ, B, ρ, rep, k⟩ => tzt_bdT rep k (fun d ρ' hd => by cases d with | bool b => exact absurd rfl (hd b) | none | int _ | str _ | list _ | tuple _ | dict _ => rfl) fun b B1 H1 ρ1 e1 r1 k1 => by
    cases b with
    | true =>
      obtain ⟨b', hb, k2⟩ := k1
      have e : true = b' := by injection hb
      rw [← e] at k2
      exact iteT (k2 B1 H1 (Ex.refl _) r1)
    | false => exact iteF ⟨Γ, B1, ρ1, r1, k1⟩
theorem zt_w (h : ZW X xc W e ca) : ZT X xc W e ca := h.pt
/-- a value's truth -/
def gTru : PyData → Option S
  | .none => some (.dat (.bool false))
  | .bool b => some (.dat (.bool b))
  | .int i => some (.dat (.bool (i != 0)))
  | .str x => if x.length ≤ sizeLine then some (.dat (.bool ((x.length : Int) != 0))) else none
  | .list l => some (.dat (.bool (!l.isEmpty)))
  | .tuple l => some (.dat (.bool (!l.isEmpty)))
  | .dict _ => none
theorem isEmpty_len {α β : Type} {l : List α} {m : List β} (h : l.length = m.length) : l.isEmpty = m.isEmpty := by
  cases l <;> cases m <;> simp_all
theorem zt_truth (ha : ZE X xc W a ca) (he : ∀ whole, isTrue a X.env whole = (do let v ← whole; standAt a.pos; holding [v] (truthy v))) : ZT X xc W a (c1 gTru ca) :=
  PT.imp (pt_truth ha he) fun σ H Q ⟨Γ, B, ρ, rep, k⟩ => tz_bdT rep k fun x B1 H1 d ρ1 e1 r1 q1 k1 => by
    cases d with
    | none =>
      obtain ⟨b, hb, k2⟩ := k1
      have e : false = b := by injection hb
      rw [dp_none q1]
      exact ⟨b, by rw [← e]; rfl, k2 B1 H1 (Ex.refl _) r1⟩
    | bool t =>
      obtain ⟨b, hb, k2⟩ := k1
      have e : t = b := by injection hb
      rw [dp_bool q1]
      exact ⟨b, by rw [← e]; rfl, k2 B1 H1 (Ex.refl _) r1⟩
    | int t =>
      obtain ⟨b, hb, k2⟩ := k1
      have e : (t != 0) = b := by injection hb
      rw [dp_int q1]
      exact ⟨b, by rw [← e]; rfl, k2 B1 H1 (Ex.refl _) r1⟩
    | str t =>
      unfold gTru at k1
      by_cases hz : t.length ≤ sizeLine
      · simp only [if_pos hz] at k1
        obtain ⟨b, hb, k2⟩ := k1
        have e : ((t.length : Int) != 0) = b := by injection hb
        rw [dp_str q1]
        exact ⟨b, ⟨hz, by rw [← e]⟩, k2 B1 H1 (Ex.refl _) r1⟩
      · simp only [if_neg hz] at k1
        exact k1.elim
    | list l =>
      obtain ⟨b, hb, k2⟩ := k1
      have e : (!l.isEmpty) = b := by injection hb
      obtain ⟨p, xs, rfl, h1, h2⟩ := dp_list q1
      exact ⟨b, .inl ⟨xs, ex_l r1.bh h1, by rw [← e, isEmpty_len (dpAll_len h2)]⟩, k2 B1 H1 (Ex.refl _) r1⟩
    | tuple l =>
      obtain ⟨b, hb, k2⟩ := k1
      have e : (!l.isEmpty) = b := by injection hb
      obtain ⟨p, xs, rfl, h1, h2⟩ := dp_tup q1
      exact ⟨b, .inr (.inl ⟨xs, ex_t r1.bh h1, by rw [← e, isEmpty_len (dpAll_len h2)]⟩), k2 B1 H1 (Ex.refl _) r1⟩
    | dict _ => exact k1.elim
/-- a bool's test -/
theorem zt_val (h : ZE X xc W e ca) (he : ∀ whole, isTrue e X.env whole = (do let v ← whole; standAt e.pos; holding [v] (truthy v)) := by intro _; rfl) : ZT X xc W e ca := PT.imp (pt_val h he) fun _ _ _ h => tzt_of h
/-! ### argument lists, displays -/
def caNil : CA := fun ρ => .ok [] ρ
def caCons (ca : CE) (cs : CA) : CA := fun ρ => (ca ρ).ba fun d ρ => (cs ρ).ba fun ds ρ => .ok (d :: ds) ρ
theorem za_nil : ZA X xc W [] caNil := ⟨PA.imp pa_nil fun σ H Q ⟨Γ, B, ρ, rep, k⟩ => k [] B H (Ex.refl _) rep .nil, fun ρ ds ρ' h => by cases h; rfl⟩
theorem za_cons (ha : ZE X xc W e ca) (hr : ZA X xc W es cas) (hs : starEach (e :: es) X.env = (false, eval e X.env) :: starEach es X.env := by rfl) : ZA X xc W (e :: es) (caCons ca cas) := by
  refine ⟨PA.imp (pa_cons ha hr.run hs) fun σ H Q ⟨Γ, B, ρ, rep, k⟩ => ?_, fun ρ ds ρ' h => ?_⟩
  · refine tz_ba rep k fun x B1 H1 d ρ1 e1 r1 q1 k1 => ?_
    refine tza_ba r1 k1 fun xs B2 H2 ds ρ2 e2 r2 q2 k2 => ?_
    exact k2 _ B2 H2 (Ex.refl _) r2 (.cons (dp_mono e2 q1) q2)
  · unfold caCons at h
    cases h1 : ca ρ with
    | ok s ρ1 =>
      rw [h1] at h
      cases h2 : cas ρ1 with
      | ok es' ρ2 =>
        have h' : (RA.ba (cas ρ1) fun ds ρ => .ok (s.d :: ds) ρ) = .ok ds ρ' := h
        rw [h2] at h'
        have h3 : RA.ok (s.d :: es') ρ2 = .ok ds ρ' := h'
        have h4 := hr.len _ _ _ h2
        injection h3 with h5 h6
        rw [← h5, List.length_cons, List.length_cons, h4]
      | exc x ρ2 =>
        have h' : (RA.ba (cas ρ1) fun ds ρ => .ok (s.d :: ds) ρ) = .ok ds ρ' := h
        rw [h2] at h'
        cases h'
      | bad =>
        have h' : (RA.ba (cas ρ1) fun ds ρ => .ok (s.d :: ds) ρ) = .ok ds ρ' := h
        rw [h2] at h'
        cases h'
    | exc x ρ1 =>
      rw [h1] at h
      cases h
    | bad =>
      rw [h1] at h
      cases h
def cTup (cas : CA) : CE := fun ρ => (cas ρ).bd fun ds ρ => .ok (.dat (.tuple ds)) ρ
def cLst (cas : CA) : CE := fun ρ => (cas ρ).bd fun ds ρ => .ok (.lst ds) ρ
theorem small_es {n : Nat} (h : n ≤ 1000) : n ≤ sizeLine := Nat.le_of_lt (small1000 h)
/-- as tza_bd, with the length -/
theorem tza_len {K : KF} {Γ : Fm W.J} {B : Hp} {ρ : En} {σ : L2.St} {H : Hp} {n : Nat} {k : List PyData → En → R} {Q : VK} {Q' : List V → Hp → Prop} (hl : ∀ ρ ds ρ', cas ρ = .ok ds ρ' → ds.length = n) (rep : Rep K Γ B ρ σ H)
    (h : outZ K xc W Γ B σ Q ((cas ρ).bd k))
    (next : ∀ vs B' H' ds ρ', Ex B B' → Rep K Γ B' ρ' σ H' → DpAll K B' vs ds → ds.length = n → outZ K xc W Γ B' σ Q (k ds ρ') → Q' vs H') : tZA K xc W cas σ H Q' := by
  refine ⟨Γ, B, ρ, rep, ?_⟩
  cases hc : cas ρ with
  | ok s ρ1 =>
    rw [hc] at h
    intro v B1 H1 e1 r1 q1
    exact next v B1 H1 s ρ1 e1 r1 q1 (hl _ _ _ hc) (outZ_mono e1 h)
  | exc x ρ1 =>
    rw [hc] at h
    exact h
  | bad =>
    rw [hc] at h
    exact h
theorem ze_tup {k1 : Nat} (h : ZA X xc W es cas) (hz : es.length ≤ 1000 := by decide) : ZE X xc W (.Tuple es k1 pos) (cTup cas) :=
  PE.imp (pe_tup h.run) fun σ H Q ⟨Γ, B, ρ, rep, k⟩ => tza_len h.len rep k fun xs B1 H1 ds ρ1 e1 r1 q1 hl k1 =>
    ⟨by rw [dpAll_len q1, hl]; exact small_es hz, fun p hp => After.tup r1 k1 q1 hp⟩
theorem ze_lst (h : ZA X xc W es cas) (hz : es.length ≤ 1000 := by decide) : ZE X xc W (.List es pos) (cLst cas) :=
  PE.imp (pe_lst h.run) fun σ H Q ⟨Γ, B, ρ, rep, k⟩ => tza_len h.len rep k fun xs B1 H1 ds ρ1 e1 r1 q1 hl k1 =>
    ⟨by rw [dpAll_len q1, hl]; exact small_es hz, fun p hp => After.lst r1 k1 q1 hp⟩
end
end Z
set_option maxHeartbeats 2000000
/-! Z: places within things of one's own. -/
namespace Z
open PySem PySem.Spec PyProof.Rows L2
open Evl (Ex ex_l ex_t ex_rd)
def Fs.get : Fs → Str → Option S
  | .nil, _ => none
  | .cons f s fs, g => bif f == g then some s else fs.get g
def Fs.set : Fs → Str → S → Fs
  | .nil, g, t => .cons g t .nil
  | .cons f s fs, g, t => bif f == g then .cons f t fs else .cons f s (fs.set g t)
def S.at : List Str → S → Option S
  | [], s => some s
  | f :: p, .obj _ fs => match fs.get f with
    | some s => S.at p s
    | none => none
  | _ :: _, _ => none
def S.up : List Str → S → S → S
  | [], _, t => t
  | f :: p, .obj c fs, t => match fs.get f with
    | some s => .obj c (fs.set f (S.up p s t))
    | none => .obj c fs
  | _ :: _, s, _ => s
/-- the value at a place -/
def VAt (H : Hp) : List Str → V → V → Prop
  | [], v, u => u = v
  | f :: p, v, u => ∃ a vs w, v = .ref a ∧ RawAt H a vs ∧ vs.lookup f = some w ∧ VAt H p w u
theorem VAt.inj {H : Hp} : ∀ {p : List Str} {v u u' : V}, VAt H p v u → VAt H p v u' → u = u'
  | [], v, u, u', h, g => h.trans (show u' = v from g).symm
  | f :: p, v, u, u', ⟨a, vs, w, e, h1, h2, h3⟩, ⟨b, us, z, e', g1, g2, g3⟩ => by
    subst e
    cases e'
    have ev := h1.inj g1
    subst ev
    rw [h2] at g2
    cases g2
    exact VAt.inj h3 g3
section
variable {K : KF} {F : Fx} {B H : Hp}
theorem SF.field : ∀ {fs : Fs} {vs : List (Str × V)} {A : List Addr} {f : Str} {s : S}, SF K F B H fs vs A → fs.get f = some s → ∃ (w : V) (A1 A0 : List Addr), vs.lookup f = some w ∧ SA K F B H s w A1 ∧ (∀ a, a ∈ A ↔ a ∈ A0 ∨ a ∈ A1) ∧ (∀ a ∈ A0, a ∉ A1) ∧
    ∀ (F' : Fx) (B' H' : Hp) (s' : S) (w' : V) (A1' : List Addr), Ex B B' → F'.hv = F.hv → (∀ a ∈ A0, B' a = none ∧ F'.F a = none ∧ H' a = H a) → (∀ a ∈ A0, a ∉ A1') → SA K F' B' H' s' w' A1' → ∃ A', SF K F' B' H' (fs.set f s') (putF f w' vs) A' ∧ ∀ a, a ∈ A' ↔ a ∈ A0 ∨ a ∈ A1'
  | .nil, vs, A, f, s, h, hg => by cases hg
  | .cons g t fs, vs, A, f, s, h, hg => by
    obtain ⟨v, vs', A1, A2, rfl, rfl, dj, h1, h2⟩ := h
    unfold Fs.get at hg
    cases e : (g == f) with
    | true =>
      rw [e, cond_true] at hg
      cases hg
      have e' := eq_of_beq e
      subst e'
      refine ⟨v, A1, A2, by simp [List.lookup], h1, fun a => by rw [List.mem_append]; exact Or.comm, fun a ha hb => dj a hb ha, fun F' B' H' s' w' A1' eB hv k dk hs => ⟨A1' ++ A2, ?_, fun a => by rw [List.mem_append]; exact Or.comm⟩⟩
      have e1 : Fs.set (.cons g t fs) g s' = .cons g s' fs := by unfold Fs.set; rw [e]; rfl
      have e2 : putF g w' ((g, v) :: vs') = (g, w') :: vs' := by unfold putF; rw [if_pos rfl]
      rw [e1, e2]
      exact ⟨w', vs', A1', A2, rfl, rfl, fun a ha hb => dk a hb ha, hs, SF.move eB hv k h2⟩
    | false =>
      rw [e, cond_false] at hg
      obtain ⟨w, C1, C0, g1, g2, g3, g4, g5⟩ := SF.field h2 hg
      have ne : ¬ g = f := fun z => by rw [z] at e; simp at e
      have fne : (f == g) = false := beq_eq_false_iff_ne.mpr fun z => ne z.symm
      refine ⟨w, C1, A1 ++ C0, by simp [List.lookup, fne, g1], g2, fun a => by rw [List.mem_append, List.mem_append, g3]; exact or_assoc.symm, fun a ha hb => ?_, fun F' B' H' s' w' A1' eB hv k dk hs => ?_⟩
      · rcases List.mem_append.mp ha with ha | ha
        · exact dj a ha ((g3 a).mpr (.inr hb))
        · exact g4 a ha hb
      · obtain ⟨A', k1, k2⟩ := g5 F' B' H' s' w' A1' eB hv (fun a ha => k a (List.mem_append_right _ ha)) (fun a ha => dk a (List.mem_append_right _ ha)) hs
        refine ⟨A1 ++ A', ?_, fun a => by rw [List.mem_append, List.mem_append, k2]; exact or_assoc.symm⟩
        have e1 : Fs.set (.cons g t fs) f s' = .cons g t (fs.set f s') := by conv => lhs; unfold Fs.set; rw [e, cond_false]
        have e2 : putF f w' ((g, v) :: vs') = (g, v) :: putF f w' vs' := by conv => lhs; unfold putF; rw [if_neg ne]
        rw [e1, e2]
        refine ⟨v, _, A1, A', rfl, rfl, fun a ha hb => ?_, SA.move eB hv (fun a ha => k a (List.mem_append_left _ ha)) h1, k1⟩
        rcases (k2 a).mp hb with hb | hb
        · exact dj a ha ((g3 a).mpr (.inl hb))
        · exact dk a (List.mem_append_left _ ha) hb
theorem putF_same : ∀ {vs : List (Str × V)} {f : Str} {w : V}, vs.lookup f = some w → putF f w vs = vs
  | [], f, w, h => by cases h
  | (g, x) :: vs, f, w, h => by
    unfold putF
    by_cases e : g = f
    · subst e
      simp [List.lookup] at h
      rw [if_pos rfl, h]
    · have e2 : (f == g) = false := beq_eq_false_iff_ne.mpr fun z => e z.symm
      simp [List.lookup, e2] at h
      rw [if_neg e, putF_same h]
/-- a thing at a place: what it has; how it is put back -/
theorem SA.path : ∀ {p : List Str} {s t : S} {v : V} {A : List Addr}, SA K F B H s v A → S.at p s = some t → ∃ (u : V) (A1 A0 : List Addr), VAt H p v u ∧ SA K F B H t u A1 ∧ (∀ a, a ∈ A ↔ a ∈ A0 ∨ a ∈ A1) ∧ (∀ a ∈ A0, a ∉ A1) ∧
    ∀ (F' : Fx) (B' H' : Hp) (t' : S) (A1' : List Addr), Ex B B' → F'.hv = F.hv → (∀ a ∈ A0, B' a = none ∧ F'.F a = none ∧ H' a = H a) → (∀ a ∈ A0, a ∉ A1') → SA K F' B' H' t' u A1' → VAt H' p v u ∧ ∃ A', SA K F' B' H' (S.up p s t') v A' ∧ ∀ a, a ∈ A' ↔ a ∈ A0 ∨ a ∈ A1'
  | [], s, t, v, A, h, hg => by
    have e : s = t := Option.some.inj hg
    subst e
    exact ⟨v, A, [], rfl, h, fun a => by simp, fun a ha => absurd ha (by simp), fun F' B' H' t' A1' _ _ _ _ ht => ⟨rfl, A1', ht, fun a => by simp⟩⟩
  | f :: p, .obj c fs, t, v, A, h, hg => by
    obtain ⟨a, vs, A', rfl, rfl, na, ho, h2, h3⟩ := h
    unfold S.at at hg
    cases e : fs.get f with
    | none => rw [e] at hg; cases hg
    | some s =>
      rw [e] at hg
      obtain ⟨w, C1, C0, g1, g2, g3, g4, g5⟩ := SF.field h3 e
      obtain ⟨u, D1, D0, k1, k2, k3, k4, k5⟩ := SA.path g2 hg
      have inC : ∀ b, b ∈ D0 ∨ b ∈ D1 → b ∈ A' := fun b hb => (g3 b).mpr (.inr ((k3 b).mpr hb))
      refine ⟨u, D1, a :: (C0 ++ D0), ⟨a, vs, w, rfl, h2.raw, g1, k1⟩, k2, fun b => ?_, fun b hb hd => ?_, fun F' B' H' t' A1' eB hv k dk ht => ?_⟩
      · rw [List.mem_cons, List.mem_cons, List.mem_append, g3, k3, or_assoc, or_assoc]
      · rcases List.mem_cons.mp hb with rfl | hb
        · exact na (inC b (.inr hd))
        · rcases List.mem_append.mp hb with hb | hb
          · exact g4 b hb ((k3 b).mpr (.inr hd))
          · exact k4 b hb hd
      · obtain ⟨m0, E', m1, m2⟩ := k5 F' B' H' t' A1' eB hv (fun b hb => k b (by simp [hb])) (fun b hb => dk b (by simp [hb])) ht
        obtain ⟨G', n1, n2⟩ := g5 F' B' H' _ w E' eB hv (fun b hb => k b (by simp [hb])) (fun b hb hb' => by
          rcases (m2 b).mp hb' with hb' | hb'
          · exact g4 b hb ((k3 b).mpr (.inl hb'))
          · exact dk b (by simp [hb]) hb') m1
        rw [putF_same g1] at n1
        have ka := k a (by simp)
        refine ⟨⟨a, vs, w, rfl, h2.raw.mv ka.2.2, g1, m0⟩, a :: G', ?_, fun b => ?_⟩
        · unfold S.up
          rw [e]
          refine ⟨a, vs, G', rfl, rfl, fun hm => ?_, ⟨ka.1, ka.2.1⟩, h2.mv ka.2.2, n1⟩
          rcases (n2 a).mp hm with hm | hm
          · exact na ((g3 a).mpr (.inl hm))
          · rcases (m2 a).mp hm with hm | hm
            · exact na (inC a (.inl hm))
            · exact dk a (by simp) hm
        · rw [List.mem_cons, List.mem_cons, List.mem_append, n2, m2, or_assoc, or_assoc]
  | f :: p, .dat _, t, v, A, h, hg => by cases hg
  | f :: p, .lst _, t, v, A, h, hg => by cases hg
  | f :: p, .dic _, t, v, A, h, hg => by cases hg
  | f :: p, .hole, t, v, A, h, hg => by cases hg
end
end Z
set_option maxHeartbeats 2000000
/-! Z: defs and their calls. -/
namespace Z
open PySem PySem.Spec PyProof.Rows L2
open Evl (Ex ex_l ex_t ex_rd)
/-! ### arguments: data, or a place that is handed on, or a thing that is nobody's yet -/
inductive Ar where
  | d (d : PyData)
  | s (i : Nat) (p : List Str)
  | t (s : S)
inductive RX where
  | ok (as : List Ar) (ρ : En)
  | exc (x : Str) (ρ : En)
  | bad
abbrev CX' := En → RX
def RX.bx : RX → (List Ar → En → RX) → RX
  | .ok s ρ, k => k s ρ
  | .exc x ρ, _ => .exc x ρ
  | .bad, _ => .bad
def R.bx : R → (PyData → En → RX) → RX
  | .ok s ρ, k => k s.d ρ
  | .exc x ρ, _ => .exc x ρ
  | .bad, _ => .bad
section
variable (K : KF) (xc : Str → Value) (W : Ww)
def ArAt (B : Hp) (σ : L2.St) (v : V) : Ar → Prop
  | .d d => Dp K B v d
  | .s i p => p = [] ∧ σ[i]? = some (some v)
  | .t _ => False
abbrev ArsAt (B : Hp) (σ : L2.St) (vs : List V) (as : List Ar) : Prop := Paired (fun v a => ArAt K B σ v a) vs as
def outX (Γ : Fm W.J) (B : Hp) (σ : L2.St) (Q : List V → Hp → Prop) : RX → Prop
  | .ok as ρ' => ∀ vs B' H', Ex B B' → Rep K Γ B' ρ' σ H' → ArsAt K B' σ vs as → Q vs H'
  | .exc x ρ' => ∀ B' H', Ex B B' → Rep K Γ B' ρ' σ H' → W.W (xc x) none σ H'
  | .bad => False
def tZX (c : CX') : TA := fun σ H Q => ∃ (Γ : Fm W.J) (B : Hp) (ρ : En), Rep K Γ B ρ σ H ∧ outX K xc W Γ B σ Q (c ρ)
end
section
variable {K : KF} {xc : Str → Value} {W : Ww} {Γ : Fm W.J} {B B' : Hp} {ρ : En} {σ : L2.St} {H : Hp}
theorem ArAt.mono {v : V} {a : Ar} (e : Ex B B') (h : ArAt K B σ v a) : ArAt K B' σ v a := by
  cases a with
  | d d => exact dp_mono e h
  | s i p => exact h
  | t s => exact h
theorem ArsAt.mono {vs : List V} {as : List Ar} (e : Ex B B') (h : ArsAt K B σ vs as) : ArsAt K B' σ vs as := Paired.mapP h fun _ _ q => q.mono e
theorem outX_mono {Q : List V → Hp → Prop} (e : Ex B B') : ∀ {r : RX}, outX K xc W Γ B σ Q r → outX K xc W Γ B' σ Q r
  | .ok s ρ', h => fun v B2 H2 e2 r2 q => h v B2 H2 (e.trans e2) r2 q
  | .exc x ρ', h => fun B2 H2 e2 r2 => h B2 H2 (e.trans e2) r2
  | .bad, h => h
end
section
variable {X : Cx} {xc : Str → Value} {W : Ww} {a b e : Expr} {es : List Expr} {pos : Pos} {ca : CE} {cx : CX'}
abbrev ZX (X : Cx) (xc : Str → Value) (W : Ww) (es : List Expr) (c : CX') : Prop := PA X es (tZX X.kf xc W c)
def cxNil : CX' := fun ρ => .ok [] ρ
def cxD (ca : CE) (cs : CX') : CX' := fun ρ => (ca ρ).bx fun d ρ => (cs ρ).bx fun as ρ => .ok (.d d :: as) ρ
def cxS (i : Nat) (cs : CX') : CX' := fun ρ => match ρ[i]? with
  | some (some _) => (cs ρ).bx fun as ρ => .ok (.s i [] :: as) ρ
  | _ => .bad
theorem zx_nil : ZX X xc W [] cxNil := PA.imp pa_nil fun σ H Q ⟨Γ, B, ρ, rep, k⟩ => k [] B H (Ex.refl _) rep .nil
theorem tzx_bx {K : KF} {Γ : Fm W.J} {B : Hp} {ρ : En} {σ : L2.St} {H : Hp} {k : List Ar → En → RX} {Q Q' : List V → Hp → Prop} (rep : Rep K Γ B ρ σ H) (h : outX K xc W Γ B σ Q ((cx ρ).bx k))
    (next : ∀ vs B' H' ds ρ', Ex B B' → Rep K Γ B' ρ' σ H' → ArsAt K B' σ vs ds → outX K xc W Γ B' σ Q (k ds ρ') → Q' vs H') : tZX K xc W cx σ H Q' := by
  refine ⟨Γ, B, ρ, rep, ?_⟩
  cases hc : cx ρ with
  | ok s ρ1 =>
    rw [hc] at h
    intro v B1 H1 e1 r1 q1
    exact next v B1 H1 s ρ1 e1 r1 q1 (outX_mono e1 h)
  | exc x ρ1 =>
    rw [hc] at h
    exact h
  | bad =>
    rw [hc] at h
    exact h
theorem zx_d (ha : ZE X xc W e ca) (hr : ZX X xc W es cx) (hs : starEach (e :: es) X.env = (false, eval e X.env) :: starEach es X.env := by rfl) : ZX X xc W (e :: es) (cxD ca cx) :=
  PA.imp (pa_cons ha hr hs) fun σ H Q ⟨Γ, B, ρ, rep, k⟩ => by
    refine ⟨Γ, B, ρ, rep, ?_⟩
    unfold cxD at k
    cases hc : ca ρ with
    | ok s ρ1 =>
      rw [hc] at k
      intro v B1 H1 e1 r1 q1
      obtain ⟨B2, e2, r2, q2⟩ := SRes.data r1 q1
      refine tzx_bx r2 (outX_mono (e1.trans e2) k) fun vs B3 H3 as ρ3 e3 r3 q3 k3 => ?_
      exact k3 _ B3 H3 (Ex.refl _) r3 (.cons (dp_mono e3 q2) q3)
    | exc x ρ1 =>
      rw [hc] at k
      exact k
    | bad =>
      rw [hc] at k
      exact k
theorem zx_s {i : Nat} (ha : PE X e (tVar i)) (hr : ZX X xc W es cx) (hs : starEach (e :: es) X.env = (false, eval e X.env) :: starEach es X.env := by rfl) : ZX X xc W (e :: es) (cxS i cx) :=
  PA.imp (pa_cons ha hr hs) fun σ H Q ⟨Γ, B, ρ, rep, k⟩ => by
    unfold cxS at k
    cases hi : ρ[i]? with
    | none => rw [hi] at k; exact k.elim
    | some o =>
      cases o with
      | none => rw [hi] at k; exact k.elim
      | some s =>
        rw [hi] at k
        obtain ⟨v, _, h1, _⟩ := rep.at_ i _ hi
        exact ⟨v, h1, tzx_bx rep k fun vs B3 H3 as ρ3 e3 r3 q3 k3 => k3 _ B3 H3 (Ex.refl _) r3 (.cons ⟨rfl, h1⟩ q3)⟩
end
/-! ### what a def promises -/
section
variable (K : KF) (xc : Str → Value)
def outF (Γ : Fm []) (B : Hp) (vs : List V) (Q : VK) (E : XK) : FR → Prop
  | .ok s ss' => ∀ v B' H', Ex B B' → Rep K Γ B' (ss'.map some) (vs.map some) H' → SRes K Γ B' (ss'.map some) (vs.map some) H' s v → Q v H'
  | .exc x ss' => ∀ B' H', Ex B B' → Rep K Γ B' (ss'.map some) (vs.map some) H' → E (xc x) none H'
  | .bad => False
def spZ (n : Nat) (F : Fn) : Sp := fun vs H Q E => vs.length = n ∧ ∃ (Γ : Fm []) (B : Hp) (ss : List S), Rep K Γ B (ss.map some) (vs.map some) H ∧ outF K xc Γ B vs Q E (F ss)
end
def slotsOf : List Ar → List Nat
  | [] => []
  | .d _ :: as => slotsOf as
  | .s i _ :: as => i :: slotsOf as
  | .t _ :: as => slotsOf as
def tmps : List Ar → Nat
  | [] => 0
  | .d _ :: as => tmps as
  | .s _ _ :: as => tmps as
  | .t _ :: as => tmps as + 1
def ssOf (ρ : En) : List Ar → Option (List S)
  | [] => some []
  | .d d :: as => match ssOf ρ as with
    | some ss => some (.dat d :: ss)
    | none => none
  | .s i p :: as => match ρ[i]?, ssOf ρ as with
    | some (some s), some ss => match S.at p s with
      | some t => some (t :: ss)
      | none => none
    | _, _ => none
  | .t s :: as => match ssOf ρ as with
    | some ss => some (s :: ss)
    | none => none
def putBack (ρ : En) : List Ar → List S → En
  | .d _ :: as, _ :: ss => putBack ρ as ss
  | .s i p :: as, s :: ss => match ρ[i]? with
    | some (some s0) => (putBack ρ as ss).set i (some (S.up p s0 s))
    | _ => putBack ρ as ss
  | .t _ :: as, _ :: ss => putBack ρ as ss
  | _, _ => ρ
def dist : List Nat → Bool
  | [] => true
  | i :: is => !is.contains i && dist is
def cCall (F : Fn) (cx : CX') : CE := fun ρ => match cx ρ with
  | .ok as ρ1 => match ssOf ρ1 as with
    | some ss => bif dist (slotsOf as) then (match F ss with
      | .ok s ss' => .ok s (putBack ρ1 as ss')
      | .exc x ss' => .exc x (putBack ρ1 as ss')
      | .bad => .bad) else .bad
    | none => .bad
  | .exc x ρ1 => .exc x ρ1
  | .bad => .bad
theorem slots_mem : ∀ {as : List Ar} {i k : Nat} {p : List Str}, as[k]? = some (.s i p) → i ∈ slotsOf as
  | [], i, k, p, h => by simp at h
  | .d d :: as, i, 0, p, h => by simp at h
  | .d d :: as, i, k + 1, p, h => slots_mem (as := as) (k := k) (p := p) (by simpa using h)
  | .t d :: as, i, 0, p, h => by simp at h
  | .t d :: as, i, k + 1, p, h => slots_mem (as := as) (k := k) (p := p) (by simpa using h)
  | .s j _ :: as, i, 0, p, h => by
    simp at h
    rw [h.1]
    exact List.mem_cons_self
  | .s j _ :: as, i, k + 1, p, h => List.mem_cons_of_mem _ (slots_mem (as := as) (k := k) (p := p) (by simpa using h))
theorem dist_inj : ∀ {as : List Ar} {i k m : Nat} {p q : List Str}, dist (slotsOf as) = true → as[k]? = some (.s i p) → as[m]? = some (.s i q) → k = m
  | [], i, k, m, p, q, _, h, _ => by simp at h
  | .d d :: as, i, 0, m, p, q, _, h, _ => by simp at h
  | .d d :: as, i, k + 1, 0, p, q, _, _, h => by simp at h
  | .d d :: as, i, k + 1, m + 1, p, q, hd, h1, h2 => congrArg (· + 1) (dist_inj (as := as) hd (by simpa using h1) (by simpa using h2))
  | .t d :: as, i, 0, m, p, q, _, h, _ => by simp at h
  | .t d :: as, i, k + 1, 0, p, q, _, _, h => by simp at h
  | .t d :: as, i, k + 1, m + 1, p, q, hd, h1, h2 => congrArg (· + 1) (dist_inj (as := as) hd (by simpa using h1) (by simpa using h2))
  | .s j _ :: as, i, 0, 0, p, q, _, _, _ => rfl
  | .s j _ :: as, i, 0, m + 1, p, q, hd, h1, h2 => by
    simp at h1
    have h3 := slots_mem (as := as) (k := m) (by simpa using h2)
    have h4 := (Bool.and_eq_true_iff.mp hd).1
    rw [h1.1, List.contains_iff_mem.mpr h3] at h4
    cases h4
  | .s j _ :: as, i, k + 1, 0, p, q, hd, h1, h2 => by
    simp at h2
    have h3 := slots_mem (as := as) (k := k) (by simpa using h1)
    have h4 := (Bool.and_eq_true_iff.mp hd).1
    rw [h2.1, List.contains_iff_mem.mpr h3] at h4
    cases h4
  | .s j _ :: as, i, k + 1, m + 1, p, q, hd, h1, h2 => congrArg (· + 1) (dist_inj (as := as) (Bool.and_eq_true_iff.mp hd).2 (by simpa using h1) (by simpa using h2))
theorem tmps_inj : ∀ {as : List Ar} {k m : Nat} {s t : S}, tmps as ≤ 1 → as[k]? = some (.t s) → as[m]? = some (.t t) → k = m
  | [], k, m, s, t, _, h, _ => by simp at h
  | .d d :: as, 0, m, s, t, _, h, _ => by simp at h
  | .d d :: as, k + 1, 0, s, t, _, _, h => by simp at h
  | .d d :: as, k + 1, m + 1, s, t, hd, h1, h2 => congrArg (· + 1) (tmps_inj (as := as) hd (by simpa using h1) (by simpa using h2))
  | .s j _ :: as, 0, m, s, t, _, h, _ => by simp at h
  | .s j _ :: as, k + 1, 0, s, t, _, _, h => by simp at h
  | .s j _ :: as, k + 1, m + 1, s, t, hd, h1, h2 => congrArg (· + 1) (tmps_inj (as := as) hd (by simpa using h1) (by simpa using h2))
  | .t u :: as, 0, 0, s, t, _, _, _ => rfl
  | .t u :: as, 0, m + 1, s, t, hd, _, h2 => by
    have z : tmps as = 0 := by unfold tmps at hd; omega
    have n : ∀ {as : List Ar} {m : Nat} {t : S}, tmps as = 0 → as[m]? = some (.t t) → False := fun {as} => by
      induction as with
      | nil => intro m t _ h; simp at h
      | cons a as ih =>
        intro m t hz h
        cases a with
        | t u => unfold tmps at hz; omega
        | d u =>
          cases m with
          | zero => simp at h
          | succ m => exact ih hz (by simpa using h)
        | s u _ =>
          cases m with
          | zero => simp at h
          | succ m => exact ih hz (by simpa using h)
    exact (n (as := as) (m := m) (t := t) z (by simpa using h2)).elim
  | .t u :: as, k + 1, 0, s, t, hd, h1, _ => by
    have z : tmps as = 0 := by unfold tmps at hd; omega
    have n : ∀ {as : List Ar} {m : Nat} {t : S}, tmps as = 0 → as[m]? = some (.t t) → False := fun {as} => by
      induction as with
      | nil => intro m t _ h; simp at h
      | cons a as ih =>
        intro m t hz h
        cases a with
        | t u => unfold tmps at hz; omega
        | d u =>
          cases m with
          | zero => simp at h
          | succ m => exact ih hz (by simpa using h)
        | s u _ =>
          cases m with
          | zero => simp at h
          | succ m => exact ih hz (by simpa using h)
    exact (n (as := as) (m := k) (t := s) z (by simpa using h1)).elim
  | .t u :: as, k + 1, m + 1, s, t, hd, h1, h2 => congrArg (· + 1) (tmps_inj (as := as) (by unfold tmps at hd; omega) (by simpa using h1) (by simpa using h2))
theorem putBack_len {ρ : En} : ∀ {as : List Ar} {ss : List S}, (putBack ρ as ss).length = ρ.length
  | [], ss => by cases ss <;> rfl
  | .d _ :: as, [] => rfl
  | .s _ _ :: as, [] => rfl
  | .t _ :: as, [] => rfl
  | .d _ :: as, s :: ss => putBack_len (as := as)
  | .t _ :: as, s :: ss => putBack_len (as := as)
  | .s i p :: as, s :: ss => by
    unfold putBack
    split
    · rw [List.length_set, putBack_len (as := as)]
    · exact putBack_len (as := as)
theorem putBack_at {ρ : En} : ∀ {as : List Ar} {ss : List S}, ss.length = as.length → ∀ {j : Nat} {s : S}, (putBack ρ as ss)[j]? = some (some s) →
    (∃ (k : Nat) (p : List Str) (s0 t : S), as[k]? = some (.s j p) ∧ ss[k]? = some t ∧ ρ[j]? = some (some s0) ∧ s = S.up p s0 t) ∨ ((∀ (k : Nat) p, as[k]? = some (.s j p) → ∀ s0, ρ[j]? ≠ some (some s0)) ∧ ρ[j]? = some (some s))
  | [], [], _, j, s, h => .inr ⟨fun k p h => by simp at h, h⟩
  | .d d :: as, t :: ss, hl, j, s, h => by
    rcases putBack_at (as := as) (ss := ss) (by simpa using hl) (show (putBack ρ as ss)[j]? = some (some s) from h) with ⟨k, p, s0, t', h1, h2⟩ | ⟨h1, h2⟩
    · exact .inl ⟨k + 1, p, s0, t', by simpa using h1, by simpa using h2⟩
    · refine .inr ⟨fun k p hk => ?_, h2⟩
      cases k with
      | zero => simp at hk
      | succ k => exact h1 k p (by simpa using hk)
  | .t d :: as, t :: ss, hl, j, s, h => by
    rcases putBack_at (as := as) (ss := ss) (by simpa using hl) (show (putBack ρ as ss)[j]? = some (some s) from h) with ⟨k, p, s0, t', h1, h2⟩ | ⟨h1, h2⟩
    · exact .inl ⟨k + 1, p, s0, t', by simpa using h1, by simpa using h2⟩
    · refine .inr ⟨fun k p hk => ?_, h2⟩
      cases k with
      | zero => simp at hk
      | succ k => exact h1 k p (by simpa using hk)
  | .s i q :: as, t :: ss, hl, j, s, h => by
    unfold putBack at h
    split at h
    · rename_i s0 hi
      rcases set_some_at h with ⟨e, e2⟩ | ⟨e, h'⟩
      · subst e
        exact .inl ⟨0, q, s0, t, by simp, by simp, hi, e2.symm⟩
      · rcases putBack_at (as := as) (ss := ss) (by simpa using hl) h' with ⟨k, p, s1, t', h1, h2⟩ | ⟨h1, h2⟩
        · exact .inl ⟨k + 1, p, s1, t', by simpa using h1, by simpa using h2⟩
        · refine .inr ⟨fun k p hk => ?_, h2⟩
          cases k with
          | zero =>
            simp at hk
            exact absurd hk.1 e
          | succ k => exact h1 k p (by simpa using hk)
    · rename_i hn
      rcases putBack_at (as := as) (ss := ss) (by simpa using hl) h with ⟨k, p, s1, t', h1, h2⟩ | ⟨h1, h2⟩
      · exact .inl ⟨k + 1, p, s1, t', by simpa using h1, by simpa using h2⟩
      · refine .inr ⟨fun k p hk => ?_, h2⟩
        cases k with
        | zero =>
          simp at hk
          rw [hk.1] at hn
          exact fun s0 => hn s0
        | succ k => exact h1 k p (by simpa using hk)
theorem map_some_at {α : Type} {l : List α} {k : Nat} {s : α} : (l.map some)[k]? = some (some s) ↔ l[k]? = some s := by
  rw [List.getElem?_map]
  cases l[k]? <;> simp
section
variable {K : KF} {J : List Nat} (Γ : Fm J) (B : Hp) (ρ : En) (σ : L2.St) (H : Hp)
/-- what an argument hands over -/
def Hand1 (K : KF) (v : V) (s : S) (A : List Addr) : Ar → Prop
  | .d d => s = .dat d ∧ SA K Γ.X B H s v A
  | .s i p => SA K Γ.X B H s v A ∧ ∃ s0 u, ρ[i]? = some (some s0) ∧ σ[i]? = some (some u) ∧ S.at p s0 = some s ∧ VAt H p u v
  | .t t => s = t ∧ SA K Γ.X B H s v A ∧ Apart K Γ B ρ σ H A
inductive Hand (K : KF) : List V → List Ar → List S → List (List Addr) → Prop
  | nil : Hand K [] [] [] []
  | cons {v : V} {a : Ar} {s : S} {A : List Addr} {vs : List V} {as : List Ar} {ss : List S} {AA : List (List Addr)} : Hand1 Γ B ρ σ H K v s A a → Hand K vs as ss AA → Hand K (v :: vs) (a :: as) (s :: ss) (A :: AA)
/-- what stays behind at a call -/
def Stays (K : KF) (AA : List (List Addr)) (a : Addr) : Prop := (∃ (i : Nat) (s : S) (v : V) (A : List Addr), ρ[i]? = some (some s) ∧ σ[i]? = some (some v) ∧ SA K Γ.X B H s v A ∧ a ∈ A) ∧ ∀ A ∈ AA, a ∉ A
open Classical in
noncomputable def FmCall (K : KF) (AA : List (List Addr)) : Fm [] := ⟨fun a => if Stays Γ B ρ σ H K AA a then H a else Γ.F a, B, [], Γ.hv⟩
end
section
variable {K : KF} {J : List Nat} {Γ : Fm J} {B : Hp} {ρ : En} {σ : L2.St} {H : Hp} {as : List Ar} {vs : List V} {ss : List S} {AA : List (List Addr)}
theorem Hand.get : ∀ {vs : List V} {as : List Ar} {ss : List S} {AA : List (List Addr)}, Hand Γ B ρ σ H K vs as ss AA → vs.length = as.length ∧ ss.length = as.length ∧ (∀ (k : Nat) a, as[k]? = some a → ∃ v s A, vs[k]? = some v ∧ ss[k]? = some s ∧ AA[k]? = some A ∧ Hand1 Γ B ρ σ H K v s A a) ∧ ∀ A ∈ AA, ∃ k : Nat, k < as.length ∧ AA[k]? = some A
  | _, _, _, _, .nil => ⟨rfl, rfl, fun k a h => by simp at h, fun A h => by simp at h⟩
  | v :: vs, a :: as, s :: ss, A :: AA, .cons h t => by
    obtain ⟨h1, h2, h3, h4⟩ := Hand.get t
    refine ⟨by simp [h1], by simp [h2], fun k b hk => ?_, fun C hC => ?_⟩
    · cases k with
      | zero =>
        simp at hk
        subst hk
        exact ⟨v, s, A, rfl, rfl, rfl, h⟩
      | succ k => simpa using h3 k b (by simpa using hk)
    · rcases List.mem_cons.mp hC with rfl | hC
      · exact ⟨0, by simp, rfl⟩
      · obtain ⟨k, k1, k2⟩ := h4 C hC
        exact ⟨k + 1, by simp; exact k1, by simpa using k2⟩
theorem Hand1.sa {v : V} {s : S} {A : List Addr} {a : Ar} (h : Hand1 Γ B ρ σ H K v s A a) : SA K Γ.X B H s v A := by
  cases a with
  | d d => exact h.2
  | s i p => exact h.1
  | t t => exact h.2.1
theorem fmCall_yes {a : Addr} (h : Stays Γ B ρ σ H K AA a) : (FmCall Γ B ρ σ H K AA).F a = H a := if_pos h
theorem fmCall_no {a : Addr} (h : ¬ Stays Γ B ρ σ H K AA a) : (FmCall Γ B ρ σ H K AA).F a = Γ.F a := if_neg h
theorem Stays.own {a : Addr} (h : Stays Γ B ρ σ H K AA a) : B a = none ∧ Γ.F a = none ∧ ∃ o, H a = some o := by
  obtain ⟨⟨i, s, v, A, h1, h2, h3, h4⟩, _⟩ := h
  exact SA.own h3 a h4
theorem fm_none {a : Addr} (h : (FmCall Γ B ρ σ H K AA).F a = none) : Γ.F a = none ∧ ¬ Stays Γ B ρ σ H K AA a := by
  by_cases e : Stays Γ B ρ σ H K AA a
  · rw [fmCall_yes e] at h
    obtain ⟨_, _, o, ho⟩ := e.own
    rw [ho] at h
    cases h
  · rw [fmCall_no e] at h
    exact ⟨h, e⟩
/-- two arguments have nothing in common -/
theorem Hand.apart (rep : Rep K Γ B ρ σ H) (hv : Hand Γ B ρ σ H K vs as ss AA) (hd : dist (slotsOf as) = true) (ht : tmps as ≤ 1) {k m : Nat} {v u : V} {s t : S} {A C : List Addr} {a b : Ar} (ne : k ≠ m) (ha : as[k]? = some a) (hb : as[m]? = some b)
    (h1 : Hand1 Γ B ρ σ H K v s A a) (h2 : Hand1 Γ B ρ σ H K u t C b) : ∀ x ∈ A, x ∉ C := by
  cases a with
  | d d =>
    obtain ⟨e, h⟩ := h1
    subst e
    rw [h.1]
    exact fun x hx => absurd hx (by simp)
  | s i p =>
    obtain ⟨q1, s0, u0, g1, g2, g3, g4⟩ := h1
    obtain ⟨v1, A1, e1, e2⟩ := rep.at_ i s0 g1
    have ev := some_inj2 (g2.symm.trans e1)
    subst ev
    obtain ⟨w, D1, D0, k1, k2, k3, k4, _⟩ := SA.path e2 g3
    have ew := VAt.inj g4 k1
    subst ew
    have eA := SA.uniq q1 k2
    subst eA
    cases b with
    | d d =>
      obtain ⟨e, h⟩ := h2
      subst e
      rw [h.1]
      exact fun x _ hx => absurd hx (by simp)
    | s j q =>
      obtain ⟨r1, t0, w0, f1, f2, f3, f4⟩ := h2
      obtain ⟨v2, A2, e3, e4⟩ := rep.at_ j t0 f1
      have ev := some_inj2 (f2.symm.trans e3)
      subst ev
      obtain ⟨z, E1, E0, l1, l2, l3, l4, _⟩ := SA.path e4 f3
      have ew := VAt.inj f4 l1
      subst ew
      have eA := SA.uniq r1 l2
      subst eA
      have nij : i ≠ j := fun e => by
        subst e
        exact ne (dist_inj hd ha hb)
      exact fun x hx hc => rep.sep i j s0 t0 _ _ _ _ nij g1 f1 g2 f2 e2 e4 x ((k3 x).mpr (.inr hx)) ((l3 x).mpr (.inr hc))
    | t t =>
      obtain ⟨_, r1, r2⟩ := h2
      exact fun x hx hc => r2 i s0 _ _ g1 g2 e2 x hc ((k3 x).mpr (.inr hx))
  | t t0 =>
    obtain ⟨e0, q1, q2⟩ := h1
    cases b with
    | d d =>
      obtain ⟨e, h⟩ := h2
      subst e
      rw [h.1]
      exact fun x _ hx => absurd hx (by simp)
    | s j q =>
      obtain ⟨r1, t0, w0, f1, f2, f3, f4⟩ := h2
      obtain ⟨v2, A2, e3, e4⟩ := rep.at_ j t0 f1
      have ev := some_inj2 (f2.symm.trans e3)
      subst ev
      obtain ⟨z, E1, E0, l1, l2, l3, l4, _⟩ := SA.path e4 f3
      have ew := VAt.inj f4 l1
      subst ew
      have eA := SA.uniq r1 l2
      subst eA
      exact fun x hx hc => q2 j t0 _ _ f1 f2 e4 x hx ((l3 x).mpr (.inr hc))
    | t t1 => exact absurd (tmps_inj ht ha hb) ne
theorem Rep.enter (rep : Rep K Γ B ρ σ H) (hv : Hand Γ B ρ σ H K vs as ss AA) (hd : dist (slotsOf as) = true) (ht : tmps as ≤ 1) : Rep K (FmCall Γ B ρ σ H K AA) B (ss.map some) (vs.map some) H := by
  obtain ⟨l1, l2, a1, _⟩ := hv.get
  have sa : ∀ {v : V} {s : S} {A : List Addr} {a : Ar} {k : Nat}, AA[k]? = some A → Hand1 Γ B ρ σ H K v s A a → SA K (FmCall Γ B ρ σ H K AA).X B H s v A := fun {v s A a k} hA h => by
    refine SA.move (F := Γ.X) (H := H) (Ex.refl B) (show (FmCall Γ B ρ σ H K AA).X.hv = Γ.X.hv from rfl) (fun x hx => ?_) h.sa
    have q := SA.own h.sa x hx
    refine ⟨q.1, ?_, rfl⟩
    show (FmCall Γ B ρ σ H K AA).F x = none
    rw [fmCall_no fun st => st.2 A (List.mem_of_getElem? hA) hx]
    exact q.2.1
  refine ⟨rep.bh, fun a o h => ?_, fun a o h => ?_, Ex.refl B, by rw [List.length_map, List.length_map, l1, l2], fun k s h => ?_, fun k m s t v u A C ne hk hm ek em g1 g2 => ?_, fun k j v h => by simp [FmCall] at h⟩
  · by_cases e : Stays Γ B ρ σ H K AA a
    · rw [fmCall_yes e] at h
      exact h
    · rw [fmCall_no e] at h
      exact rep.fh a o h
  · by_cases e : Stays Γ B ρ σ H K AA a
    · exact e.own.1
    · rw [fmCall_no e] at h
      exact rep.fb a o h
  · rw [map_some_at] at h
    have hk : k < as.length := by rw [← l2]; exact (List.getElem?_eq_some_iff.mp h).1
    obtain ⟨v, s', A, h1, h2, h3, h4⟩ := a1 k _ (List.getElem?_eq_getElem hk)
    rw [h] at h2
    cases h2
    exact ⟨v, A, map_some_at.mpr h1, sa h3 h4⟩
  · rw [map_some_at] at hk hm ek em
    have lk : k < as.length := by rw [← l2]; exact (List.getElem?_eq_some_iff.mp hk).1
    have lm : m < as.length := by rw [← l2]; exact (List.getElem?_eq_some_iff.mp hm).1
    obtain ⟨v', s', A', h1, h2, h3, h4⟩ := a1 k _ (List.getElem?_eq_getElem lk)
    obtain ⟨u', t', C', k1, k2, k3, k4⟩ := a1 m _ (List.getElem?_eq_getElem lm)
    rw [hk] at h2
    cases h2
    rw [ek] at h1
    cases h1
    rw [hm] at k2
    cases k2
    rw [em] at k1
    cases k1
    rw [SA.uniq g1 (sa h3 h4), SA.uniq g2 (sa k3 k4)]
    exact Hand.apart rep hv hd ht ne (List.getElem?_eq_getElem lk) (List.getElem?_eq_getElem lm) h4 k4
theorem Rep.back (rep : Rep K Γ B ρ σ H) (hv : Hand Γ B ρ σ H K vs as ss AA) (hd : dist (slotsOf as) = true) {B' : Hp} {H' : Hp} {ss' : List S} (eb : Ex B B') (r' : Rep K (FmCall Γ B ρ σ H K AA) B' (ss'.map some) (vs.map some) H') :
    Rep K Γ B' (putBack ρ as ss') σ H' ∧ (∀ {s : S} {v : V}, SRes K (FmCall Γ B ρ σ H K AA) B' (ss'.map some) (vs.map some) H' s v → SRes K Γ B' (putBack ρ as ss') σ H' s v) ∧
      ∀ {k : Nat} {t s : S} {v : V}, as[k]? = some (.t t) → ss'[k]? = some s → vs[k]? = some v → ∃ A, SA K Γ.X B' H' s v A ∧ Apart K Γ B' (putBack ρ as ss') σ H' A := by
  obtain ⟨l1, l2, a1, a2⟩ := hv.get
  have l3 : ss'.length = as.length := by
    have := r'.len
    rw [List.length_map, List.length_map, l1] at this
    exact this
  have conv : ∀ {s : S} {v : V} {A : List Addr}, SA K (FmCall Γ B ρ σ H K AA).X B' H' s v A → SA K Γ.X B' H' s v A := fun {s v A} h =>
    SA.move (F := (FmCall Γ B ρ σ H K AA).X) (H := H') (Ex.refl B') (show Γ.X.hv = (FmCall Γ B ρ σ H K AA).X.hv from rfl) (fun a ha => ⟨(SA.own h a ha).1, (fm_none (SA.own h a ha).2.1).1, rfl⟩) h
  have vnoc : ∀ {s : S} {v : V} {A : List Addr} {a : Addr}, SA K (FmCall Γ B ρ σ H K AA).X B' H' s v A → a ∈ A → ¬ Stays Γ B ρ σ H K AA a := fun {s v A a} h ha => (fm_none (SA.own h a ha).2.1).2
  have stay : ∀ {a : Addr}, Stays Γ B ρ σ H K AA a → B' a = none ∧ Γ.F a = none ∧ H' a = H a := fun {a} st => by
    obtain ⟨_, q2, o, q3⟩ := st.own
    have fa : (FmCall Γ B ρ σ H K AA).F a = some o := by rw [fmCall_yes st]; exact q3
    exact ⟨r'.fb a o fa, q2, by rw [r'.fh a o fa, q3]⟩
  -- an address of a slot's, not of the place that is handed on, stays
  have stays : ∀ {j : Nat} {s : S} {v : V} {A : List Addr} {a : Addr}, ρ[j]? = some (some s) → σ[j]? = some (some v) → SA K Γ.X B H s v A → a ∈ A → (∀ (k : Nat) p u t C, as[k]? = some (.s j p) → S.at p s = some t → VAt H p v u → SA K Γ.X B H t u C → a ∉ C) → Stays Γ B ρ σ H K AA a := fun {j s v A a} h1 h2 h3 h4 h5 => by
    refine ⟨⟨j, s, v, A, h1, h2, h3, h4⟩, fun C hC hc => ?_⟩
    obtain ⟨k, lk, hk⟩ := a2 C hC
    obtain ⟨u, t, C', g1, g2, g3, g4⟩ := a1 k _ (List.getElem?_eq_getElem lk)
    rw [hk] at g3
    cases g3
    generalize ha : as[k] = b at g4
    have hb : as[k]? = some b := by rw [List.getElem?_eq_getElem lk, ha]
    cases b with
    | d d =>
      obtain ⟨e, h⟩ := g4
      subst e
      rw [h.1] at hc
      exact absurd hc (by simp)
    | s i p =>
      obtain ⟨q1, s0, u0, f1, f2, f3, f4⟩ := g4
      by_cases e : i = j
      · subst e
        rw [h1] at f1
        cases f1
        rw [h2] at f2
        cases f2
        exact h5 k p u t C hb f3 f4 q1 hc
      · obtain ⟨v1, A1, e1, e2⟩ := rep.at_ i s0 f1
        have ev := some_inj2 (f2.symm.trans e1)
        subst ev
        obtain ⟨w, D1, D0, k1, k2, k3, k4, _⟩ := SA.path e2 f3
        have ew := VAt.inj f4 k1
        subst ew
        have eA := SA.uniq q1 k2
        subst eA
        exact rep.sep i j s0 s _ _ _ _ e f1 h1 f2 h2 e2 h3 a ((k3 a).mpr (.inr hc)) h4
    | t t0 =>
      obtain ⟨_, q1, q2⟩ := g4
      exact q2 j s v A h1 h2 h3 a hc h4
  -- what is in a slot behind the call
  have slot : ∀ {j : Nat} {s : S}, (putBack ρ as ss')[j]? = some (some s) → ∃ v A, σ[j]? = some (some v) ∧ SA K Γ.X B' H' s v A ∧ ∀ a ∈ A, (Stays Γ B ρ σ H K AA a ∧ ∃ s0 A0, ρ[j]? = some (some s0) ∧ SA K Γ.X B H s0 v A0 ∧ a ∈ A0) ∨
      ∃ (k : Nat) (p : List Str) (t : S) (u : V) (C : List Addr), as[k]? = some (.s j p) ∧ (ss'.map some)[k]? = some (some t) ∧ (vs.map some)[k]? = some (some u) ∧ SA K (FmCall Γ B ρ σ H K AA).X B' H' t u C ∧ a ∈ C := fun {j s} h => by
    rcases putBack_at l3 h with ⟨k, p, s0, t, h1, h2, h3, rfl⟩ | ⟨h1, h2⟩
    · obtain ⟨u, t0, A1, g1, g2, g3, q1, s0', u0, f1, f2, f3, f4⟩ := a1 k _ h1
      rw [h3] at f1
      cases f1
      obtain ⟨v1, A, e1, e2⟩ := rep.at_ j s0 h3
      have ev := some_inj2 (f2.symm.trans e1)
      subst ev
      obtain ⟨w, D1, D0, k1, k2, k3, k4, k5⟩ := SA.path e2 f3
      have ew := VAt.inj f4 k1
      subst ew
      have eA := SA.uniq q1 k2
      subst eA
      have st : ∀ a ∈ D0, Stays Γ B ρ σ H K AA a := fun a ha => stays h3 f2 e2 ((k3 a).mpr (.inl ha)) fun m q u' t' C hm hq hu hC hc => by
        have em : m = k := dist_inj hd hm h1
        subst em
        rw [h1] at hm
        injection hm with hm
        injection hm with _ hm
        subst hm
        rw [f3] at hq
        cases hq
        have eu := VAt.inj f4 hu
        subst eu
        rw [SA.uniq hC q1] at hc
        exact k4 a ha hc
      obtain ⟨v', A1', m1, m2⟩ := r'.at_ k t (map_some_at.mpr h2)
      rw [map_some_at, g1] at m1
      cases m1
      obtain ⟨_, A', n1, n2⟩ := k5 Γ.X B' H' t A1' eb rfl (fun a ha => stay (st a ha)) (fun a ha hc => vnoc m2 hc (st a ha)) (conv m2)
      refine ⟨_, A', f2, n1, fun a ha => ?_⟩
      rcases (n2 a).mp ha with ha | ha
      · exact .inl ⟨st a ha, s0, A, h3, e2, (k3 a).mpr (.inl ha)⟩
      · exact .inr ⟨k, p, t, u, A1', h1, map_some_at.mpr h2, map_some_at.mpr g1, m2, ha⟩
    · obtain ⟨v, A, e1, e2⟩ := rep.at_ j s h2
      have st : ∀ a ∈ A, Stays Γ B ρ σ H K AA a := fun a ha => stays h2 e1 e2 ha fun m q u' t' C hm hq hu hC hc => h1 m q hm s h2
      exact ⟨v, A, e1, SA.move eb rfl (fun a ha => stay (st a ha)) e2, fun a ha => .inl ⟨st a ha, s, A, h2, e2, ha⟩⟩
  have apart : ∀ {A : List Addr}, (∀ a ∈ A, ¬ Stays Γ B ρ σ H K AA a) → Apart K (FmCall Γ B ρ σ H K AA) B' (ss'.map some) (vs.map some) H' A → Apart K Γ B' (putBack ρ as ss') σ H' A := fun {A} n h j s v C h1 h2 h3 a ha hc => by
    obtain ⟨v', C', g1, g2, g3⟩ := slot h1
    rw [h2] at g1
    cases g1
    rw [SA.uniq h3 g2] at hc
    rcases g3 a hc with ⟨st, _⟩ | ⟨k, p, t, u, D, q1, q2, q3, q4, q5⟩
    · exact n a ha st
    · exact h k t u D q2 q3 q4 a ha q5
  refine ⟨⟨r'.bh, fun a o h => ?_, fun a o h => ?_, rep.b0.trans eb, by rw [putBack_len]; exact rep.len, fun j s h => ?_, fun j m s t v u A C ne hj hm ej em gj gm => ?_, rep.iot⟩, fun {s v} h => ?_, fun {k t s v} hk hs hvk => ?_⟩
  · refine r'.fh a o ?_
    rw [fmCall_no fun st => by rw [st.own.2.1] at h; cases h]
    exact h
  · refine r'.fb a o ?_
    rw [fmCall_no fun st => by rw [st.own.2.1] at h; cases h]
    exact h
  · obtain ⟨v, A, g1, g2, _⟩ := slot h
    exact ⟨v, A, g1, g2⟩
  · obtain ⟨v1, A1, g1, g2, g3⟩ := slot hj
    rw [ej] at g1
    cases g1
    obtain ⟨u1, C1, k1, k2, k3⟩ := slot hm
    rw [em] at k1
    cases k1
    rw [SA.uniq gj g2, SA.uniq gm k2]
    intro a ha hc
    rcases g3 a ha with ⟨st, s0, A0, p1, p2, p3⟩ | ⟨k, p, t1, w1, D, q1, q2, q3, q4, q5⟩
    · rcases k3 a hc with ⟨_, t0, C0, l1, l2, l3⟩ | ⟨k', p', t', w', D', n1, n2, n3, n4, n5⟩
      · exact rep.sep j m s0 t0 _ _ _ _ ne p1 l1 ej em p2 l2 a p3 l3
      · exact vnoc n4 n5 st
    · rcases k3 a hc with ⟨st, _⟩ | ⟨k', p', t', w', D', n1, n2, n3, n4, n5⟩
      · exact vnoc q4 q5 st
      · have nk : k ≠ k' := fun e => by
          subst e
          rw [q1] at n1
          injection n1 with n1
          injection n1 with n1 _
          exact ne n1
        exact r'.sep k k' t1 t' w1 w' D D' nk q2 n2 q3 n3 q4 n4 a q5 n5
  · obtain ⟨nh, A, h1, h2⟩ := h
    exact ⟨nh, A, conv h1, apart (fun a ha => vnoc h1 ha) h2⟩
  · obtain ⟨v', A, g1, g2⟩ := r'.at_ k s (map_some_at.mpr hs)
    rw [map_some_at, hvk] at g1
    cases g1
    refine ⟨A, conv g2, fun j s1 v1 C h1 h2 h3 a ha hc => ?_⟩
    obtain ⟨v2, C', k1, k2, k3⟩ := slot h1
    rw [h2] at k1
    cases k1
    rw [SA.uniq h3 k2] at hc
    rcases k3 a hc with ⟨st, _⟩ | ⟨m, p, t', u, D, q1, q2, q3, q4, q5⟩
    · exact vnoc g2 ha st
    · have nk : k ≠ m := fun e => by
        subst e
        rw [hk] at q1
        cases q1
      exact r'.sep k m s t' v u A D nk (map_some_at.mpr hs) q2 (map_some_at.mpr hvk) q3 g2 q4 a ha q5
end
end Z
set_option maxHeartbeats 2000000
/-! Z: defs and their calls, continued. -/
namespace Z
open PySem PySem.Spec PyProof.Rows L2
open Evl (Ex ex_l ex_t ex_rd)
section
variable {K : KF} {J : List Nat} {Γ : Fm J} {B : Hp} {ρ : En} {σ : L2.St} {H : Hp}
theorem hand_of (rep : Rep K Γ B ρ σ H) : ∀ {vs : List V} {as : List Ar} {ss : List S}, ArsAt K B σ vs as → ssOf ρ as = some ss → tmps as = 0 ∧ ∃ AA, Hand Γ B ρ σ H K vs as ss AA
  | _, _, _, .nil, h => by
    cases h
    exact ⟨rfl, [], .nil⟩
  | v :: vs, .d d :: as, ss, .cons h1 t, h => by
    unfold ssOf at h
    cases e : ssOf ρ as with
    | none => rw [e] at h; cases h
    | some r =>
      rw [e] at h
      cases h
      obtain ⟨k1, AA, k2⟩ := hand_of rep t e
      exact ⟨k1, [] :: AA, .cons ⟨rfl, rfl, h1⟩ k2⟩
  | v :: vs, .s i p :: as, ss, .cons h1 t, h => by
    obtain ⟨rfl, hi⟩ := h1
    unfold ssOf at h
    cases er : ρ[i]? with
    | none => rw [er] at h; cases h
    | some o =>
      cases o with
      | none => rw [er] at h; cases h
      | some s =>
        rw [er] at h
        cases e : ssOf ρ as with
        | none => rw [e] at h; cases h
        | some r =>
          rw [e] at h
          have h' : (some (s :: r)) = some ss := h
          cases h'
          obtain ⟨k1, AA, k2⟩ := hand_of rep t e
          obtain ⟨u, A, g1, g2⟩ := rep.at_ i s er
          have ev := some_inj2 (hi.symm.trans g1)
          subst ev
          exact ⟨k1, A :: AA, .cons ⟨g2, s, v, er, g1, rfl, rfl⟩ k2⟩
  | v :: vs, .t s :: as, ss, .cons h1 t, h => h1.elim
end
section
variable {X : Cx} {xc : Str → Value} {W : Ww} {e : Expr} {es : List Expr} {pos p apos : Pos} {cx : CX'} {k n : Nat} {f : Addr} {fd : FuncData} {ps : List Str} {F : Fn} {x : Str}
/-- how many arguments a list of them gives -/
def CX'.Len (c : CX') (n : Nat) : Prop := ∀ {as : List Ar} {ρ ρ' : En}, c ρ = .ok as ρ' → as.length = n
theorem len_nil : CX'.Len cxNil 0 := fun h => by cases h; rfl
theorem len_d {ca : CE} {m : Nat} (h : CX'.Len cx m) : CX'.Len (cxD ca cx) (m + 1) := fun {as ρ ρ'} e => by
  unfold cxD at e
  cases h1 : ca ρ with
  | ok s ρ1 =>
    have e' : ((cx ρ1).bx fun as ρ => .ok (.d s.d :: as) ρ) = .ok as ρ' := by rw [h1] at e; exact e
    cases h2 : cx ρ1 with
    | ok bs ρ2 =>
      rw [h2] at e'
      have e2 : RX.ok (.d s.d :: bs) ρ2 = .ok as ρ' := e'
      injection e2 with e3 e4
      rw [← e3, List.length_cons, h h2]
    | exc y ρ2 => rw [h2] at e'; cases e'
    | bad => rw [h2] at e'; cases e'
  | exc y ρ2 => rw [h1] at e; cases e
  | bad => rw [h1] at e; cases e
theorem len_s {i : Nat} {m : Nat} (h : CX'.Len cx m) : CX'.Len (cxS i cx) (m + 1) := fun {as ρ ρ'} e => by
  unfold cxS at e
  cases hi : ρ[i]? with
  | none => rw [hi] at e; cases e
  | some o =>
    cases o with
    | none => rw [hi] at e; cases e
    | some t =>
      have e' : ((cx ρ).bx fun as ρ => .ok (.s i [] :: as) ρ) = .ok as ρ' := by rw [hi] at e; exact e
      cases h2 : cx ρ with
      | ok bs ρ2 =>
        rw [h2] at e'
        have e2 : RX.ok (.s i [] :: bs) ρ2 = .ok as ρ' := e'
        injection e2 with e3 e4
        rw [← e3, List.length_cons, h h2]
      | exc y ρ2 => rw [h2] at e'; cases e'
      | bad => rw [h2] at e'; cases e'
theorem arsAt_len {K : KF} {B : Hp} {σ : L2.St} {vs : List V} {as : List Ar} (h : ArsAt K B σ vs as) : vs.length = as.length := Paired.length h
/-- the outcome of a call -/
def callR (r : FR) (as : List Ar) (ρ : En) : R := match r with
  | .ok s ss' => .ok s (putBack ρ as ss')
  | .exc x ss' => .exc x (putBack ρ as ss')
  | .bad => .bad
theorem spz_call {K : KF} {J : List Nat} {Γ : Fm W.J} {B : Hp} {ρ : En} {σ : L2.St} {H : Hp} {Q : VK} {vs : List V} {as : List Ar} {ss : List S} {AA : List (List Addr)} (rep : Rep K Γ B ρ σ H) (hv : Hand Γ B ρ σ H K vs as ss AA) (hd : dist (slotsOf as) = true) (ht : tmps as ≤ 1) (hn : as.length = n)
    (h : outZ K xc W Γ B σ Q (callR (F ss) as ρ)) : spZ K xc n F vs H Q (WE W.W σ) := by
  refine ⟨by rw [hv.get.1, hn], FmCall Γ B ρ σ H K AA, B, ss, rep.enter hv hd ht, ?_⟩
  cases hF : F ss with
  | bad =>
    rw [hF] at h
    exact h.elim
  | ok s ss' =>
    rw [hF] at h
    intro v B2 H2 e2 r2 q2
    obtain ⟨r3, c3, _⟩ := rep.back hv hd e2 r2
    exact h v B2 H2 e2 r3 (c3 q2)
  | exc y ss' =>
    rw [hF] at h
    intro B2 H2 e2 r2
    obtain ⟨r3, c3, _⟩ := rep.back hv hd e2 r2
    exact h B2 H2 e2 r3
theorem tz_call {K : KF} {σ : L2.St} {H : Hp} {Q : VK} (hn : es.length = n) (h : tZ K xc W (cCall F cx) σ H Q) (hl : ∀ {vs : List V} {as : List Ar} {ρ ρ' : En}, cx ρ = .ok as ρ' → as.length = n) :
    tZX K xc W cx σ H fun vs H1 => spZ K xc n F vs H1 Q (WE W.W σ) := by
  obtain ⟨Γ, B, ρ, rep, h⟩ := h
  refine ⟨Γ, B, ρ, rep, ?_⟩
  unfold cCall at h
  cases hc : cx ρ with
  | exc x ρ1 =>
    rw [hc] at h
    exact h
  | bad =>
    rw [hc] at h
    exact h
  | ok as ρ1 =>
    rw [hc] at h
    intro vs B1 H1 e1 r1 q1
    have hlen := hl (vs := vs) hc
    cases hs : ssOf ρ1 as with
    | none =>
      simp only [hs] at h
      exact h.elim
    | some ss =>
      simp only [hs] at h
      cases hd : dist (slotsOf as) with
      | false =>
        rw [hd] at h
        exact h.elim
      | true =>
        rw [hd] at h
        obtain ⟨ht, AA, hv⟩ := hand_of r1 q1 hs
        exact spz_call (J := W.J) r1 hv hd (by omega) hlen (outZ_mono e1 h)
/-- f(e, ..), f a def of the text -/
theorem ze_call (G : FnOk X.prog X.w X.K X.mg X.base (L2.CX X.prog X.w) k f fd ps (spZ X.kf xc n F)) (hr : Room k X.A) (hm : X.mg x = some (.ref f)) (hk : PySem.W.keepIn X.K (.ref f) = true) (hb : Binds X.K fd ps []) (tk : Takes X W.W)
    (ha : ZX X xc W (e :: es) cx) (hl : CX'.Len cx n) (hn : (e :: es).length = n := by rfl) (hg : Gl X x := by rfl) (hdb : (x == ("__debug__" : Str)) = false := by decide) (he : starEach (e :: es) X.env = (false, eval e X.env) :: starEach es X.env := by rfl)
    (hpl : (backTo pos (starEach es X.env)).any (·.1) = false := by rfl) : ZE X xc W (.Call (.Name x p) (e :: es) [] pos) (cCall F cx) :=
  PE.imp (pe_callS G hr hg hm hk hb (fun σ => passAt tk σ) ha hdb he hpl) fun σ H Q h => tz_call (es := e :: es) hn h (fun {vs as ρ ρ'} q => hl q)
end
/-! ### a body -/
def outs (J : List Nat) (ρ : En) : Nat → List S → Option (List S)
  | _, [] => some []
  | k, s :: ss => match (bif J.contains k then (match ρ[k]? with
      | some (some s') => some s'
      | _ => none) else (match s with
      | .dat d => some (.dat d)
      | _ => none)), outs J ρ (k + 1) ss with
    | some s', some r => some (s' :: r)
    | _, _ => none
def finish (J : List Nat) (ss : List S) : O → FR
  | .nx ρ => match outs J ρ 0 ss with
    | some r => .ok (.dat .none) r
    | none => .bad
  | .rt s ρ => match outs J ρ 0 ss with
    | some r => .ok s r
    | none => .bad
  | .exc x ρ => match outs J ρ 0 ss with
    | some r => .exc x r
    | none => .bad
  | _ => .bad
/-- n parameters, m names in all, J the slots handed on -/
def mkF (n m : Nat) (J : List Nat) (c : CS) : Fn := fun ss => bif ss.length == n then finish J ss (c (ss.map some ++ List.replicate (m - n) none)) else .bad
theorem outs_at {J : List Nat} {ρ : En} : ∀ {k : Nat} {ss r : List S}, outs J ρ k ss = some r → r.length = ss.length ∧ ∀ (i : Nat) s, r[i]? = some s → (k + i ∈ J ∧ ρ[k + i]? = some (some s)) ∨ (k + i ∉ J ∧ ∃ d, s = .dat d ∧ ss[i]? = some (.dat d))
  | k, [], r, h => by
    cases h
    exact ⟨rfl, fun i s h => by simp at h⟩
  | k, t :: ss, r, h => by
    unfold outs at h
    cases e : outs J ρ (k + 1) ss with
    | none =>
      rw [e] at h
      split at h
      · rename_i h1 h2
        cases h2
      · cases h
    | some r' =>
      rw [e] at h
      obtain ⟨h1, h2⟩ := outs_at e
      split at h
      · rename_i s' r'' g1 g2
        cases g2
        cases h
        refine ⟨by simp [h1], fun i s hi => ?_⟩
        cases i with
        | zero =>
          simp at hi
          subst hi
          cases hJ : J.contains k with
          | true =>
            rw [hJ] at g1
            refine .inl ⟨List.contains_iff_mem.mp hJ, ?_⟩
            simp only [cond_true] at g1
            split at g1
            · rename_i q hq
              cases g1
              exact hq
            · cases g1
          | false =>
            rw [hJ] at g1
            refine .inr ⟨fun hm => absurd (List.contains_iff_mem.mpr (show k ∈ J from hm)) (by rw [hJ]; exact Bool.false_ne_true), ?_⟩
            simp only [cond_false] at g1
            cases t with
            | dat d =>
              cases g1
              exact ⟨d, rfl, rfl⟩
            | lst l | dic l | obj c fs | hole => cases g1
        | succ i =>
          have e2 : k + (i + 1) = k + 1 + i := by omega
          rw [e2]
          simpa using h2 i s (by simpa using hi)
      · cases h
theorem start_eq {N : List Str} {vs : List V} : start N vs = vs.map some ++ List.replicate (N.length - vs.length) none := rfl
theorem app_some {α β : Type} {l : List α} {m : Nat} {k : Nat} {s : α} : (l.map some ++ List.replicate m none)[k]? = some (some s) ↔ l[k]? = some s := by
  rw [List.getElem?_append]
  by_cases h : k < (l.map some).length
  · rw [if_pos h, map_some_at]
  · rw [if_neg h, List.getElem?_replicate]
    rw [List.length_map] at h
    have e : l[k]? = none := List.getElem?_eq_none (by omega)
    rw [e]
    split <;> simp
section
variable {P : Program} {w : World} {K : PySem.W.Frag} {mg : Str → Option Value} {base : Heap} {xc : Str → Value}
abbrev Fm.body {J : List Nat} (Γ : Fm []) (B : Hp) (vs : List V) : Fm J := ⟨Γ.F, B, J.map fun j => vs[j]?.getD .non, Γ.hv⟩
theorem zfn_read {K : KF} {J : List Nat} {n : Nat} {N : List Str} {c : CS} {vs : List V} {H : Hp} {Q : VK} {E : XK} (hNn : n ≤ N.length) (hJ : ∀ j ∈ J, j < n) (h : spZ K xc n (mkF n N.length J c) vs H Q E) :
    tZS K xc ⟨fun cls d _ H => E cls d H, J⟩ c { nx := fun _ H' => Q .non H', rt := Q } (start N vs) H := by
  obtain ⟨hl, Γ, B, ss, rep, h⟩ := h
  have hls : ss.length = n := by
    have := rep.len
    rw [List.length_map, List.length_map, hl] at this
    exact this
  have h0 : outF K xc Γ B vs Q E (finish J ss (c (ss.map some ++ List.replicate (N.length - n) none))) := by
    unfold mkF at h
    rw [hls, beq_self_eq_true] at h
    exact h
  have back : ∀ {B' : Hp} {ρ' : En} {σ' : L2.St} {H' : Hp} {r : List S}, Rep K (Fm.body (J := J) Γ B vs) B' ρ' σ' H' → outs J ρ' 0 ss = some r →
      Rep K Γ B' (r.map some) (vs.map some) H' ∧ ∀ {s : S} {v : V}, SRes K (Fm.body (J := J) Γ B vs) B' ρ' σ' H' s v → SRes K Γ B' (r.map some) (vs.map some) H' s v := fun {B' ρ' σ' H' r} r' ho => by
    obtain ⟨o1, o2⟩ := outs_at ho
    have at1 : ∀ (k : Nat) s, r[k]? = some s → k ∈ J → ρ'[k]? = some (some s) ∧ ∃ v, vs[k]? = some v ∧ σ'[k]? = some (some v) := fun k s hk hm => by
      rcases o2 k s hk with ⟨h1, h2⟩ | ⟨h1, _⟩
      · rw [Nat.zero_add] at h2
        refine ⟨h2, ?_⟩
        have hk' : k < vs.length := by rw [hl]; exact hJ k hm
        refine ⟨vs[k], List.getElem?_eq_getElem hk', ?_⟩
        obtain ⟨i, hi, ei⟩ := List.getElem_of_mem hm
        refine r'.iot i k _ (by rw [List.getElem?_eq_getElem hi, ei]) ?_
        show (J.map fun j => vs[j]?.getD .non)[i]? = _
        rw [List.getElem?_map, List.getElem?_eq_getElem hi, ei]
        simp [List.getElem?_eq_getElem hk']
      · rw [Nat.zero_add] at h1
        exact absurd hm h1
    -- a parameter's content with something of its own is a slot's
    have own : ∀ (k : Nat) s v A a, r[k]? = some s → vs[k]? = some v → SA K Γ.X B' H' s v A → a ∈ A → ρ'[k]? = some (some s) ∧ σ'[k]? = some (some v) := fun k s v A a hk hv hs ha => by
      by_cases hm : k ∈ J
      · obtain ⟨h1, u, h2, h3⟩ := at1 k s hk hm
        rw [hv] at h2
        cases h2
        exact ⟨h1, h3⟩
      · rcases o2 k s hk with ⟨h1, _⟩ | ⟨_, d, rfl, h2⟩
        · rw [Nat.zero_add] at h1
          exact absurd h1 hm
        · rw [hs.1] at ha
          exact absurd ha (by simp)
    refine ⟨⟨r'.bh, r'.fh, r'.fb, rep.b0.trans r'.b0, by rw [List.length_map, List.length_map, o1, hls, hl], fun k s hk => ?_, fun k m s t v u A C ne hk hm ek em g1 g2 a ha hc => ?_, fun k j v hk => by simp at hk⟩, fun {s v} h => ?_⟩
    · rw [map_some_at] at hk
      by_cases hm : k ∈ J
      · obtain ⟨h1, v, h2, h3⟩ := at1 k s hk hm
        obtain ⟨v', A, h4, h5⟩ := r'.at_ k s h1
        rw [h3] at h4
        cases h4
        exact ⟨v, A, map_some_at.mpr h2, h5⟩
      · rcases o2 k s hk with ⟨h1, _⟩ | ⟨_, d, rfl, h2⟩
        · rw [Nat.zero_add] at h1
          exact absurd h1 hm
        · obtain ⟨v, A, h3, h4⟩ := rep.at_ k _ (map_some_at.mpr h2)
          exact ⟨v, [], h3, rfl, dp_mono r'.b0 h4.2⟩
    · rw [map_some_at] at hk hm ek em
      obtain ⟨k1, k2⟩ := own k s v A a hk ek g1 ha
      obtain ⟨m1, m2⟩ := own m t u C a hm em g2 hc
      exact r'.sep k m s t v u A C ne k1 m1 k2 m2 g1 g2 a ha hc
    · obtain ⟨nh, A, h1, h2⟩ := h
      refine ⟨nh, A, h1, fun j t u C hj ej g a ha hc => ?_⟩
      rw [map_some_at] at hj ej
      obtain ⟨k1, k2⟩ := own j t u C a hj ej g hc
      exact h2 j t u C k1 k2 g a ha hc
  have hpad : start N vs = vs.map some ++ List.replicate (N.length - n) none := by rw [start_eq, hl]
  refine ⟨Fm.body (J := J) Γ B vs, B, ss.map some ++ List.replicate (N.length - n) none, ⟨rep.bh, rep.fh, rep.fb, Ex.refl B, by rw [hpad]; simp [hls, hl], fun i s hi => ?_, fun i j s t v u A C ne hi hj ei ej => ?_, fun k j v hk hv => ?_⟩, ?_⟩
  · rw [app_some (β := Unit)] at hi
    obtain ⟨v, A, h1, h2⟩ := rep.at_ i s (map_some_at.mpr hi)
    rw [map_some_at] at h1
    exact ⟨v, A, by rw [hpad, app_some (β := Unit)]; exact h1, h2⟩
  · rw [app_some (β := Unit)] at hi hj
    rw [hpad, app_some (β := Unit)] at ei ej
    exact rep.sep i j s t v u A C ne (map_some_at.mpr hi) (map_some_at.mpr hj) (map_some_at.mpr ei) (map_some_at.mpr ej)
  · have hj : j < vs.length := by rw [hl]; exact hJ j (List.mem_of_getElem? hk)
    rw [hpad, app_some (β := Unit)]
    have hv' : (J.map fun j => vs[j]?.getD .non)[k]? = some v := hv
    rw [List.getElem?_map, hk] at hv'
    simp [List.getElem?_eq_getElem hj] at hv'
    rw [List.getElem?_eq_getElem hj, hv']
  · cases hc : c (ss.map some ++ List.replicate (N.length - n) none) with
    | nx ρ' =>
      rw [hc] at h0
      unfold finish at h0
      cases ho : outs J ρ' 0 ss with
      | none => simp only [ho] at h0; exact h0.elim
      | some r =>
        simp only [ho] at h0
        intro B' σ' H' r'
        obtain ⟨r2, c2⟩ := back r' ho
        exact h0 .non B' H' r'.b0 r2 (sres_dat .non)
    | rt s ρ' =>
      rw [hc] at h0
      unfold finish at h0
      cases ho : outs J ρ' 0 ss with
      | none => simp only [ho] at h0; exact h0.elim
      | some r =>
        simp only [ho] at h0
        intro v B' σ' H' r' q'
        obtain ⟨r2, c2⟩ := back r' ho
        exact h0 v B' H' r'.b0 r2 (c2 q')
    | exc x ρ' =>
      rw [hc] at h0
      unfold finish at h0
      cases ho : outs J ρ' 0 ss with
      | none => simp only [ho] at h0; exact h0.elim
      | some r =>
        simp only [ho] at h0
        intro B' σ' H' r'
        obtain ⟨r2, c2⟩ := back r' ho
        exact h0 B' H' r'.b0 r2
    | bk ρ' => rw [hc] at h0; exact h0.elim
    | ct ρ' => rw [hc] at h0; exact h0.elim
    | bad => rw [hc] at h0; exact h0.elim
/-- THE RULE: a def keeps its mirror's promise -/
theorem zfn {x qual : Str} {st : Stmt} {f : Addr} {fd : FuncData} {N ps : List Str} {k n : Nat} {J : List Nat} {c : CS} (F : Fun K x qual st f fd) (S : FnScope N ps (defScope st)) (hn : ps.length = n) (hNn : n ≤ N.length) (hJ : ∀ j ∈ J, j < n)
    (hbody : ∀ (X : Cx) (E : XK) (cdv : Value) (A : Around) (outer : List Env) (s : Shared) (H : Hp), X = cxOf (L2.CX P w) P w K mg base N qual (defScope st) f cdv A outer s H E → Room k X.A → Takes X (fun cls d _ H => E cls d H) → PassesOwn (model X.prog X.w) X.A X.env X.xe →
      ZSs X xc ⟨fun cls d _ H => E cls d H, J⟩ (defBody st) c) : FnOk P w K mg base (L2.CX P w) (k + 1) f fd ps (spZ ⟨K, P, w⟩ xc n (mkF n N.length J c)) := by
  refine F.okX S (fun vs H Q E h => by rw [h.1, hn]) (fun cdv A outer s H vs Q E hr h => ?_)
  exact ⟨_, hbody _ E cdv A outer s H rfl hr (takes_of rfl rfl rfl rfl) (passes_of rfl), zfn_read hNn hJ h⟩
end
/-! ### defs by name -/
/-- the def of that name keeps the promise of F, at level k -/
def Has (P : Program) (w : World) (K : PySem.W.Frag) (mg : Str → Option Value) (base : Heap) (xc : Str → Value) (x : Str) (k n : Nat) (ps : List Str) (F : Fn) : Prop :=
  ∃ (f : Addr) (fd : FuncData), FnOk P w K mg base (L2.CX P w) k f fd ps (spZ ⟨K, P, w⟩ xc n F) ∧ mg x = some (.ref f) ∧ PySem.W.keepIn K (.ref f) = true ∧ Binds K fd ps []
section
variable {P : Program} {w : World} {K : PySem.W.Frag} {mg : Str → Option Value} {base : Heap} {xc : Str → Value}
theorem Has.mk {x : Str} {k n : Nat} {ps : List Str} {F : Fn} {st : Stmt} {f : Addr} {fd : FuncData} {q : Str} (U : Fun K x q st f fd) (hm : mg x = some (.ref f)) (b : Binds K fd ps []) (h : FnOk P w K mg base (L2.CX P w) k f fd ps (spZ ⟨K, P, w⟩ xc n F)) : Has P w K mg base xc x k n ps F := ⟨f, fd, h, hm, U.kp, b⟩
end
section
variable {X : Cx} {xc : Str → Value} {W : Ww} {e : Expr} {es : List Expr} {pos p : Pos} {cx : CX'} {j k n : Nat} {ps : List Str} {F : Fn} {x : Str}
theorem ze_callH (G : Has X.prog X.w X.K X.mg X.base xc x j n ps F) (hr : Room k X.A) (tk : Takes X W.W) (ha : ZX X xc W (e :: es) cx) (hl : CX'.Len cx n) (hjk : j ≤ k := by first | decide | omega) (hn : (e :: es).length = n := by rfl) (hg : Gl X x := by rfl) (hdb : (x == ("__debug__" : Str)) = false := by decide)
    (he : starEach (e :: es) X.env = (false, eval e X.env) :: starEach es X.env := by rfl) (hpl : (backTo pos (starEach es X.env)).any (·.1) = false := by rfl) : ZE X xc W (.Call (.Name x p) (e :: es) [] pos) (cCall F cx) := by
  obtain ⟨f, fd, h, hm, hk, hb⟩ := G
  exact ze_call h (hr.mono hjk) hm hk hb tk ha hl hn hg hdb he hpl
theorem zss_bad {sts : List Stmt} : ZSs X xc W sts (fun _ => .bad) := PSs.imp pss_never fun D σ H ⟨Γ, B, ρ, rep, k⟩ => k
theorem Has.mono {P : Program} {w : World} {K : PySem.W.Frag} {mg : Str → Option Value} {base : Heap} {i j : Nat} (G : Has P w K mg base xc x i n ps F) (h : i ≤ j) : Has P w K mg base xc x j n ps F := by
  obtain ⟨f, fd, h1, h2⟩ := G
  exact ⟨f, fd, h1.mono h, h2⟩
theorem hu64 {A : Around} (hr : Room k A) : A.units + 64 < cLine := hr.units
theorem hu65 {A : Around} (hr : Room k A) : A.units + 65 < cLine := Nat.lt_of_le_of_lt (Nat.add_le_add_left (by omega : 65 ≤ 16 * k + 200) _) (by have := hr.un; omega)
end
end Z
set_option maxHeartbeats 2000000
/-! Z: statements, loops, comprehensions. -/
namespace Z
open PySem PySem.Spec PyProof.Rows L2
open Evl (Ex ex_l ex_t ex_rd)
/-! ### statements -/
theorem notin {l : List Nat} {i : Nat} (h : l.contains i = false) : i ∉ l := fun m => by rw [List.contains_iff_mem.mpr m] at h; cases h
def R.bs : R → (S → En → O) → O
  | .ok s ρ, k => k s ρ
  | .exc x ρ, _ => .exc x ρ
  | .bad, _ => .bad
def RA.bs : RA → (List PyData → En → O) → O
  | .ok s ρ, k => k s ρ
  | .exc x ρ, _ => .exc x ρ
  | .bad, _ => .bad
def O.sq : O → CS → O
  | .nx ρ, c => c ρ
  | o, _ => o
def cNext : CS := fun ρ => .nx ρ
def cSeq (a b : CS) : CS := fun ρ => (a ρ).sq b
def cRet (c : CE) : CS := fun ρ => (c ρ).bs fun s ρ => .rt s ρ
def cRetN : CS := fun ρ => .rt (.dat .none) ρ
def cDrop (c : CE) : CS := fun ρ => (c ρ).bs fun _ ρ => .nx ρ
def cSet (i : Nat) (c : CE) : CS := fun ρ => (c ρ).bs fun s ρ => .nx (ρ.set i (some s))
def cIfS (ct : CE) (a b : CS) : CS := fun ρ => (ct ρ).bs fun s ρ => match s with
  | .dat (.bool true) => a ρ
  | .dat (.bool false) => b ρ
  | _ => .bad
section
variable {K : KF} {xc : Str → Value} {W : Ww} {Γ : Fm W.J} {B B' : Hp} {ρ : En} {σ : L2.St} {H : Hp}
/-- the frame whose data are those of now -/
abbrev Fm.now {J : List Nat} (Γ : Fm J) (B : Hp) : Fm J := ⟨Γ.F, B, Γ.io, Γ.hv⟩
theorem Rep.now {J : List Nat} {Γ : Fm J} (r : Rep K Γ B ρ σ H) : Rep K (Γ.now B) B ρ σ H := ⟨r.bh, r.fh, r.fb, Ex.refl B, r.len, r.at_, r.sep, r.iot⟩
theorem Rep.old {J : List Nat} {Γ : Fm J} (e : Ex Γ.B0 B) (r : Rep K (Γ.now B) B' ρ σ H) : Rep K Γ B' ρ σ H ∧ Ex B B' := ⟨⟨r.bh, r.fh, r.fb, e.trans r.b0, r.len, r.at_, r.sep, r.iot⟩, r.b0⟩
theorem SRes.old {J : List Nat} {Γ : Fm J} {s : S} {v : V} (r : SRes K (Γ.now B) B' ρ σ H s v) : SRes K Γ B' ρ σ H s v := r
theorem outS_now {D : Ends} (e : Ex Γ.B0 B) : ∀ {o : O}, outS K xc W Γ D o → outS K xc W (Γ.now B) D o
  | .nx ρ', h => fun B' σ' H' r => h B' σ' H' (Rep.old e r).1
  | .rt s ρ', h => fun v B' σ' H' r q => h v B' σ' H' (Rep.old e r).1 q.old
  | .bk ρ', h => fun B' σ' H' r => h B' σ' H' (Rep.old e r).1
  | .ct ρ', h => fun B' σ' H' r => h B' σ' H' (Rep.old e r).1
  | .exc x ρ', h => fun B' σ' H' r => h B' σ' H' (Rep.old e r).1
  | .bad, h => h
/-- an expression within a statement -/
theorem tz_bs {c : CE} {k : S → En → O} {D : Ends} {Q' : VK} (rep : Rep K Γ B ρ σ H) (h : outS K xc W Γ D ((c ρ).bs k))
    (next : ∀ v B' H' s ρ', Ex B B' → Rep K Γ B' ρ' σ H' → SRes K Γ B' ρ' σ H' s v → outS K xc W Γ D (k s ρ') → Q' v H') : tZ K xc W c σ H Q' := by
  refine ⟨Γ, B, ρ, rep, ?_⟩
  cases hc : c ρ with
  | ok s ρ1 =>
    rw [hc] at h
    intro v B1 H1 e1 r1 q1
    exact next v B1 H1 s ρ1 e1 r1 q1 h
  | exc x ρ1 =>
    rw [hc] at h
    exact fun B' H' e r => h B' σ H' r
  | bad =>
    rw [hc] at h
    exact h
theorem tza_bs {c : CA} {k : List PyData → En → O} {D : Ends} {Q' : List V → Hp → Prop} (rep : Rep K Γ B ρ σ H) (h : outS K xc W Γ D ((c ρ).bs k))
    (next : ∀ vs B' H' ds ρ', Ex B B' → Rep K Γ B' ρ' σ H' → DpAll K B' vs ds → outS K xc W Γ D (k ds ρ') → Q' vs H') : tZA K xc W c σ H Q' := by
  refine ⟨Γ, B, ρ, rep, ?_⟩
  cases hc : c ρ with
  | ok s ρ1 =>
    rw [hc] at h
    intro v B1 H1 e1 r1 q1
    exact next v B1 H1 s ρ1 e1 r1 q1 h
  | exc x ρ1 =>
    rw [hc] at h
    exact fun B' H' e r => h B' σ H' r
  | bad =>
    rw [hc] at h
    exact h
theorem tzt_bs {c : CE} {k : S → En → O} {D : Ends} {Q' : Bool → Hp → Prop} (rep : Rep K Γ B ρ σ H) (h : outS K xc W Γ D ((c ρ).bs k)) (hk : ∀ s ρ', (∀ b, s ≠ .dat (.bool b)) → k s ρ' = .bad)
    (next : ∀ b B' H' ρ', Ex B B' → Rep K Γ B' ρ' σ H' → outS K xc W Γ D (k (.dat (.bool b)) ρ') → Q' b H') : tZT K xc W c σ H Q' := by
  refine ⟨Γ, B, ρ, rep, ?_⟩
  cases hc : c ρ with
  | ok s ρ1 =>
    rw [hc] at h
    have h' : outS K xc W Γ D (k s ρ1) := h
    by_cases e : ∃ b, s = .dat (.bool b)
    · obtain ⟨b, rfl⟩ := e
      exact ⟨b, rfl, fun B1 H1 e1 r1 => next b B1 H1 ρ1 e1 r1 h'⟩
    · rw [hk s ρ1 fun b z => e ⟨b, z⟩] at h'
      exact h'.elim
  | exc x ρ1 =>
    rw [hc] at h
    exact fun B' H' e r => h B' σ H' r
  | bad =>
    rw [hc] at h
    exact h
theorem outS_sq {D : Ends} {c : CS} {o : O} (h : outS K xc W Γ D (o.sq c)) : outS K xc W Γ { D with nx := fun σ' H' => tZS K xc W c D σ' H' } o := by
  cases o with
  | nx ρ' => exact fun B' σ' H' r => ⟨Γ, B', ρ', r, h⟩
  | rt s ρ' => exact h
  | bk ρ' => exact h
  | ct ρ' => exact h
  | exc x ρ' => exact h
  | bad => exact h
end
section
variable {X : Cx} {xc : Str → Value} {W : Ww} {e : Expr} {es : List Expr} {st : Stmt} {rest : List Stmt} {pos : Pos} {ca : CE} {c d : CS}
theorem zss_nil : ZSs X xc W [] cNext := PSs.imp pss_nil fun D σ H ⟨Γ, B, ρ, rep, k⟩ => k B σ H rep
theorem zss_cons (h1 : ZS X xc W st c) (h2 : ZSs X xc W rest d) : ZSs X xc W (st :: rest) (cSeq c d) := PSs.imp (pss_cons h1 h2) fun D σ H ⟨Γ, B, ρ, rep, k⟩ => ⟨Γ, B, ρ, rep, outS_sq k⟩
theorem zss_one (h1 : ZS X xc W st c) : ZSs X xc W [st] c := pss_one h1
theorem zs_pass : ZS X xc W (.Pass pos) cNext := PS.imp ps_pass fun D σ H ⟨Γ, B, ρ, rep, k⟩ => k B σ H rep
def cBrk : CS := fun ρ => .bk ρ
def cCnt : CS := fun ρ => .ct ρ
theorem zs_break : ZS X xc W (.Break pos) cBrk := PS.imp ps_break fun D σ H ⟨Γ, B, ρ, rep, k⟩ => k B σ H rep
theorem zs_continue : ZS X xc W (.Continue pos) cCnt := PS.imp ps_continue fun D σ H ⟨Γ, B, ρ, rep, k⟩ => k B σ H rep
theorem zs_ret (he : ZE X xc W e ca) : ZS X xc W (.Return (some e) pos) (cRet ca) := PS.imp (ps_ret he) fun D σ H ⟨Γ, B, ρ, rep, k⟩ => tz_bs rep k fun v B' H' s ρ' e1 r1 q1 k1 => k1 v B' σ H' r1 q1
theorem zs_retN : ZS X xc W (.Return none pos) cRetN := PS.imp ps_retN fun D σ H ⟨Γ, B, ρ, rep, k⟩ => k .non B σ H rep (sres_dat .non)
theorem zs_expr (he : ZE X xc W e ca) (hs : swapsWith e none pos.line X.env = pure false := by rfl) : ZS X xc W (.Expr e pos) (cDrop ca) := PS.imp (ps_expr he hs) fun D σ H ⟨Γ, B, ρ, rep, k⟩ => tz_bs rep k fun v B' H' s ρ' e1 r1 q1 k1 => k1 B' σ H' r1
theorem zs_set {i : Nat} {x : Str} {pos' : Pos} (hN : X.N.Nodup) (hi : X.N[i]? = some x) (hx : Loc X.env.scope x) (he : ZE X xc W e ca) (hJ : W.J.contains i = false := by rfl) (hs : swapsWith e (some (.Name x pos')) pos.line X.env = pure false := by rfl)
    (hf : X.fn x = true ∨ X.env.scope.names.lookup x = some .local := by first | exact .inl rfl | exact .inr rfl | assumption) : ZS X xc W (.Assign [.Name x pos'] e pos) (cSet i ca) :=
  PS.imp (ps_set hN hi hx he hs hf) fun D σ H ⟨Γ, B, ρ, rep, k⟩ => tz_bs rep k fun v B' H' s ρ' e1 r1 q1 k1 => k1 B' _ H' (r1.slot i (notin hJ) (q1.drop i))
theorem zs_if {t : Expr} {a b : List Stmt} (hc : ZT X xc W t ca) (ha : ZSs X xc W a c) (hb : ZSs X xc W b d) : ZS X xc W (.If t a b pos) (cIfS ca c d) :=
  PS.imp (ps_if hc ha hb) fun D σ H ⟨Γ, B, ρ, rep, k⟩ => tzt_bs rep k (fun s ρ' hd => by
    cases s with
    | lst l | dic l | obj c fs | hole => rfl
    | dat d => cases d with
      | bool b => exact absurd rfl (hd b)
      | none | int _ | str _ | list _ | tuple _ | dict _ => rfl) fun b B1 H1 ρ1 e1 r1 k1 => by
    cases b with
    | true => exact iteT ⟨Γ, B1, ρ1, r1, k1⟩
    | false => exact iteF ⟨Γ, B1, ρ1, r1, k1⟩
/-! ### targets -/
abbrev CG := PyData → En → Option En
/-- only the slots gs have changed -/
def Diff (gs : List Nat) (σ σ' : L2.St) : Prop := σ'.length = σ.length ∧ ∀ i, i ∉ gs → σ'[i]? = σ[i]?
def gZ (K : KF) (J : List Nat) (gs : List Nat) (cg : CG) : TG := fun v σ H Q => ∃ (Γ : Fm J) (B : Hp) (ρ ρ' : En) (d : PyData), Rep K Γ B ρ σ H ∧ Dp K B v d ∧ cg d ρ = some ρ' ∧ ∀ σ', Rep K Γ B ρ' σ' H → Diff gs σ σ' → Q σ' H
def gsZ (K : KF) (J : List Nat) (gs : List Nat) (cg : List PyData → En → Option En) : TGs := fun vs σ H Q => ∃ (Γ : Fm J) (B : Hp) (ρ ρ' : En) (ds : List PyData), Rep K Γ B ρ σ H ∧ DpAll K B vs ds ∧ cg ds ρ = some ρ' ∧ ∀ σ', Rep K Γ B ρ' σ' H → Diff gs σ σ' → Q σ' H
abbrev ZG (X : Cx) (W : Ww) (tg : Expr) (gs : List Nat) (cg : CG) : Prop := PG X tg (gZ X.kf W.J gs cg)
abbrev ZGs (X : Cx) (W : Ww) (tgs : List Expr) (gs : List Nat) (cg : List PyData → En → Option En) : Prop := PGs X tgs (gsZ X.kf W.J gs cg)
theorem Diff.refl (gs : List Nat) (σ : L2.St) : Diff gs σ σ := ⟨rfl, fun _ _ => rfl⟩
theorem Diff.set {i : Nat} {v : Option V} (σ : L2.St) : Diff [i] σ (σ.set i v) := ⟨List.length_set, fun j hj => List.getElem?_set_ne (fun e => hj (by rw [e]; exact List.mem_cons_self))⟩
theorem Diff.trans {g1 g2 : List Nat} {σ σ1 σ2 : L2.St} (a : Diff g1 σ σ1) (b : Diff g2 σ1 σ2) : Diff (g1 ++ g2) σ σ2 := ⟨b.1.trans a.1, fun j hj => by
  rw [List.mem_append] at hj
  exact (b.2 j fun z => hj (.inr z)).trans (a.2 j fun z => hj (.inl z))⟩
theorem PG.imp {X : Cx} {tg : Expr} {t t' : TG} (h : PG X tg t) (m : ∀ v σ H Q, t' v σ H Q → t v σ H Q) : PG X tg t' := ⟨fun pins s σ H v u Q I r q => h.run pins s σ H v u Q I r (m v σ H Q q)⟩
theorem PGs.imp {X : Cx} {tg : List Expr} {t t' : TGs} (h : PGs X tg t) (m : ∀ v σ H Q, t' v σ H Q → t v σ H Q) : PGs X tg t' := ⟨fun pins s σ H v u Q I r q => h.run pins s σ H v u Q I r (m v σ H Q q)⟩
def cgName (i : Nat) : CG := fun d ρ => some (ρ.set i (some (.dat d)))
theorem zg_name {i : Nat} {x : Str} (hN : X.N.Nodup) (hi : X.N[i]? = some x) (hx : Loc X.env.scope x) (hJ : W.J.contains i = false := by rfl) (hf : X.fn x = true ∨ X.env.scope.names.lookup x = some .local := by first | exact .inl rfl | exact .inr rfl | assumption) : ZG X W (.Name x pos) [i] (cgName i) :=
  PG.imp (pg_name hN hi hx hf) fun v σ H Q ⟨Γ, B, ρ, ρ', d, rep, hd, h1, h⟩ => by
    have e : ρ.set i (some (.dat d)) = ρ' := Option.some.inj h1
    subst e
    exact h _ (rep.slot i (notin hJ) (sres_dat hd)) (Diff.set σ)
def cgNil : List PyData → En → Option En
  | [], ρ => some ρ
  | _, _ => none
def cgCons (a : CG) (b : List PyData → En → Option En) : List PyData → En → Option En
  | d :: ds, ρ => match a d ρ with
    | some ρ1 => b ds ρ1
    | none => none
  | _, _ => none
theorem zgs_nil : ZGs X W [] [] cgNil := PGs.imp pgs_nil fun vs σ H Q ⟨Γ, B, ρ, ρ', ds, rep, hd, h1, h⟩ => by
  cases hd with
  | nil =>
    have e : ρ = ρ' := Option.some.inj h1
    subst e
    exact ⟨rfl, h σ rep (Diff.refl _ _)⟩
  | cons _ _ => cases h1
theorem zgs_cons {g1 g2 : List Nat} {a : CG} {b : List PyData → En → Option En} (h1 : ZG X W e g1 a) (h2 : ZGs X W es g2 b) (hs : (assignEach (e :: es) X.env).map (·.2) = assign e X.env :: (assignEach es X.env).map (·.2) := by rfl) : ZGs X W (e :: es) (g1 ++ g2) (cgCons a b) :=
  PGs.imp (pgs_cons h1 h2 hs) fun vs σ H Q ⟨Γ, B, ρ, ρ', ds, rep, hd, h1, h⟩ => by
    cases hd with
    | nil => cases h1
    | @cons v vs d ds hd hds =>
      have h1' : (match a d ρ with
        | some ρ1 => b ds ρ1
        | none => none) = some ρ' := h1
      cases ha : a d ρ with
      | none => rw [ha] at h1'; cases h1'
      | some ρ1 =>
        rw [ha] at h1'
        exact ⟨v, vs, rfl, Γ, B, ρ, ρ1, d, rep, hd, ha, fun σ1 r1 d1 => ⟨Γ, B, ρ1, ρ', ds, r1, hds, h1', fun σ2 r2 d2 => h σ2 r2 (d1.trans d2)⟩⟩
def cgTup (n : Nat) (b : List PyData → En → Option En) : CG := fun d ρ => match d with
  | .tuple ds => bif ds.length == n then b ds ρ else none
  | _ => none
theorem zg_tup {gs : List Nat} {b : List PyData → En → Option En} {k n : Nat} (hc : X.calm = true) (h : ZGs X W es gs b) (hn : (assignEach es X.env).length = n := by rfl) (hst : (assignEach es X.env).findIdx? (·.1) = none := by rfl) : ZG X W (.Tuple es k pos) gs (cgTup n b) :=
  PG.imp (pg_tup hc h hn hst) fun v σ H Q ⟨Γ, B, ρ, ρ', d, rep, hd, h1, h⟩ => by
    unfold cgTup at h1
    cases d with
    | tuple ds =>
      obtain ⟨a, xs, rfl, k1, k2⟩ := dp_tup hd
      simp only at h1
      cases hl : (ds.length == n) with
      | false => rw [hl] at h1; cases h1
      | true =>
        rw [hl] at h1
        exact ⟨a, xs, rfl, ex_t rep.bh k1, by rw [dpAll_len k2]; exact eq_of_beq hl, Γ, B, ρ, ρ', ds, rep, k2, h1, h⟩
    | none | bool _ | int _ | str _ | list _ | dict _ => cases h1
def cgLst (n : Nat) (b : List PyData → En → Option En) : CG := fun d ρ => match d with
  | .list ds => bif ds.length == n then b ds ρ else none
  | _ => none
theorem zg_lst {gs : List Nat} {b : List PyData → En → Option En} {k n : Nat} (hc : X.calm = true) (h : ZGs X W es gs b) (hn : (assignEach es X.env).length = n := by rfl) (hst : (assignEach es X.env).findIdx? (·.1) = none := by rfl) : ZG X W (.Tuple es k pos) gs (cgLst n b) :=
  PG.imp (pg_lst hc h hn hst) fun v σ H Q ⟨Γ, B, ρ, ρ', d, rep, hd, h1, h⟩ => by
    unfold cgLst at h1
    cases d with
    | list ds =>
      obtain ⟨a, xs, rfl, k1, k2⟩ := dp_list hd
      simp only at h1
      cases hl : (ds.length == n) with
      | false => rw [hl] at h1; cases h1
      | true =>
        rw [hl] at h1
        exact ⟨a, xs, rfl, ex_l rep.bh k1, by rw [dpAll_len k2]; exact eq_of_beq hl, Γ, B, ρ, ρ', ds, rep, k2, h1, h⟩
    | none | bool _ | int _ | str _ | tuple _ | dict _ => cases h1
/-- targets = a value that is unpacked -/
def cAsg (g : CG) (c : CE) : CS := fun ρ => (c ρ).bs fun s ρ => match g s.d ρ with
  | some ρ' => .nx ρ'
  | none => .bad
theorem zs_asg {gs : List Nat} {tg : Expr} {g : CG} (he : ZE X xc W e ca) (hg : ZG X W tg gs g) (hs : swapsWithSole [tg] e pos.line X.env = pure false := by rfl) (hw : swappedStores [tg] e X.env = pure none := by rfl)
    (h1 : (assignEach [tg] X.env).map (·.2) = [assign tg X.env] := by rfl) : ZS X xc W (.Assign [tg] e pos) (cAsg g ca) :=
  PS.imp (ps_asg he hg hs hw h1) fun D σ H ⟨Γ, B, ρ, rep, k⟩ => tz_bs rep k fun v B1 H1 s ρ1 e1 r1 q1 k1 => by
    obtain ⟨B2, e2, r2, q2⟩ := SRes.data r1 q1
    cases hg' : g s.d ρ1 with
    | none => rw [hg'] at k1; exact k1.elim
    | some ρ2 =>
      rw [hg'] at k1
      exact ⟨Γ, B2, ρ1, ρ2, s.d, r2, q2, hg', fun σ' r3 _ => k1 B2 σ' H1 r3⟩
/-- a, b = x, y -/
def cPar (i j : Nat) (c : CA) : CS := fun ρ => (c ρ).bs fun ds ρ => match ds with
  | [a, b] => .nx ((ρ.set i (some (.dat a))).set j (some (.dat b)))
  | _ => .bad
theorem zs_par {i j : Nat} {x y : Str} {a b : Expr} {cas : CA} {px py pt pt2 : Pos} {kt k2 : Nat} (hc : X.calm = true) (hN : X.N.Nodup) (hi : X.N[i]? = some x) (hj : X.N[j]? = some y) (hij : i ≠ j)
    (hx : X.env.scope.names.lookup x = some .local) (hy : X.env.scope.names.lookup y = some .local) (ha : ZA X xc W [a, b] cas)
    (hw : swappedStores [.Tuple [.Name x px, .Name y py] kt pt] (.Tuple [a, b] k2 pt2) X.env = pure (some [x, y])) (hJi : W.J.contains i = false := by rfl) (hJj : W.J.contains j = false := by rfl)
    (hs : swapsWithSole [.Tuple [.Name x px, .Name y py] kt pt] (.Tuple [a, b] k2 pt2) pos.line X.env = pure false := by rfl) :
    ZS X xc W (.Assign [.Tuple [.Name x px, .Name y py] kt pt] (.Tuple [a, b] k2 pt2) pos) (cPar i j cas) :=
  PS.imp (ps_par hc hN hi hj hij hx hy ha.run hw hs) fun D σ H ⟨Γ, B, ρ, rep, k⟩ => tza_bs rep k fun vs B1 H1 ds ρ1 e1 r1 q1 k1 => by
    cases q1 with
    | nil => exact k1.elim
    | cons h1 t1 =>
      cases t1 with
      | nil => exact k1.elim
      | cons h2 t2 =>
        cases t2 with
        | cons _ _ => exact k1.elim
        | nil => exact ⟨_, _, rfl, k1 B1 _ H1 ((r1.slot i (notin hJi) (sres_dat h1)).slot j (notin hJj) (sres_dat h2))⟩
end
/-! ### a list of one's own is changed -/
section
variable {K : KF} {J : List Nat} {Γ : Fm J} {B : Hp} {ρ : En} {σ : L2.St} {H : Hp}
theorem Rep.own (rep : Rep K Γ B ρ σ H) {i : Nat} {l : List PyData} (hi : ρ[i]? = some (some (.lst l))) : ∃ a xs, σ[i]? = some (some (.ref a)) ∧ H a = some (.lst xs) ∧ DpAll K B xs l ∧
    ∀ (ys : List V) (m : List PyData), DpAll K B ys m → Rep K Γ B (ρ.set i (some (.lst m))) σ (upd H a (.lst ys)) := by
  obtain ⟨v, A, h1, h2⟩ := rep.at_ i _ hi
  obtain ⟨a, xs, rfl, rfl, k1, k2, k3⟩ := id h2
  refine ⟨a, xs, h1, k2, k3, fun ys m hm => rep.mut (A' := [a]) hi h1 h2 (fun b hb o ho => ?_) ⟨a, ys, rfl, rfl, k1, upd_same, hm⟩ fun b hb => .inl hb⟩
  rw [upd_ne (by simpa using hb)]
  exact ho
end
section
variable {X : Cx} {xc : Str → Value} {W : Ww} {o e ix : Expr} {pos tpos cpos apos : Pos} {ca ci : CE}
/-- name.append(e) -/
def cApp (i : Nat) (c : CE) : CS := fun ρ => match ρ[i]? with
  | some (some (.lst _)) => (c ρ).bs fun s ρ => match ρ[i]? with
    | some (some (.lst l)) => bif decide (l.length < sizeLine) then .nx (ρ.set i (some (.lst (l ++ [s.d])))) else .bad
    | _ => .bad
  | _ => .bad
theorem zs_append {i : Nat} (ho : PE X o (tVar i)) (he : ZE X xc W e ca)
    (hbase : attributeBase o "append" X.env (eval o X.env) = eval o X.env := by rfl)
    (hfew : ((backTo cpos (starEach [e] X.env)).all (fun x => !x.1) && (backToKw cpos (keywordEach [] X.env)).all (fun x => x.1.isSome)
      && decide ([e].length + ([] : List Keyword).length + (if ([] : List Keyword).isEmpty then 0 else 1) < 30)) = true := by rfl)
    (hline : (apos.endLine == cpos.line) = true := by rfl) (hs : starEach [e] X.env = (false, eval e X.env) :: starEach [] X.env := by rfl) (hplain : (backTo cpos (starEach [] X.env)).any (·.1) = false := by rfl)
    (hsw : swapsWith (.Call (.Attribute o "append" apos) [e] [] cpos) none pos.line X.env = pure false := by rfl) :
    ZS X xc W (.Expr (.Call (.Attribute o "append" apos) [e] [] cpos) pos) (cApp i ca) :=
  PS.imp (ps_expr (pe_bm PySem.F.plainAttrs_list PySem.F.slot_list_append PySem.F.type_list_append mt_append ho (pa_cons he pa_nil hs) hbase hfew hline hs hplain) hsw) fun D σ H ⟨Γ, B, ρ, rep, k⟩ => by
    unfold cApp at k
    split at k
    · rename_i l0 hi
      obtain ⟨a, xs, h1, h2, h3, _⟩ := rep.own hi
      refine ⟨_, h1, .inl ⟨rfl, xs, .inl (.inl h2)⟩, ?_⟩
      refine tz_bs rep k fun v B1 H1 s ρ1 e1 r1 q1 k1 => ?_
      obtain ⟨B2, e2, r2, q2⟩ := SRes.data r1 q1
      split at k1
      · rename_i l hl
        cases hd : decide (l.length < sizeLine) with
        | false => rw [hd] at k1; exact k1.elim
        | true =>
          rw [hd] at k1
          obtain ⟨b, ys, g1, g2, g3, g4⟩ := r2.own hl
          rw [h1] at g1
          cases g1
          exact ⟨a, ys, v, rfl, rfl, g2, by rw [dpAll_len g3]; exact of_decide_eq_true hd, k1 B2 σ _ (g4 _ _ (dpAll_app g3 (.cons q2 .nil)))⟩
      · exact k1.elim
    · exact k.elim
/-- name[ix] = e, a list of one's own -/
def cSetIx (i : Nat) (ci c : CE) : CS := fun ρ => (c ρ).bs fun s ρ => match ρ[i]? with
  | some (some (.lst _)) => (ci ρ).bs fun t ρ => match ρ[i]?, t.d with
    | some (some (.lst l)), .int k => match ixN l.length k with
      | some j => .nx (ρ.set i (some (.lst (l.set j s.d))))
      | none => .bad
    | _, _ => .bad
  | _ => .bad
theorem zs_setIx {i : Nat} (ho : PE X o (tVar i)) (hix : ZE X xc W ix ci) (he : ZE X xc W e ca)
    (ha : ∀ v, assign (.Subscript o ix tpos) X.env v = (do
      let ov ← holding [v] (eval o X.env)
      let iv ← holding [v, ov] (eval ix X.env)
      standAt tpos
      holding [v, ov, iv] (setItem ov iv v)
      release [v, ov, iv] []) := by intro _; rfl) (hs : swapsWithSole [.Subscript o ix tpos] e pos.line X.env = pure false := by rfl) (hw : swappedStores [.Subscript o ix tpos] e X.env = pure none := by rfl)
    (h1 : (assignEach [.Subscript o ix tpos] X.env).map (·.2) = [assign (.Subscript o ix tpos) X.env] := by rfl) : ZS X xc W (.Assign [.Subscript o ix tpos] e pos) (cSetIx i ci ca) :=
  PS.imp (ps_asg he (pg_sub ho hix set_list ha) hs hw h1) fun D σ H ⟨Γ, B, ρ, rep, k⟩ => tz_bs rep k fun v B1 H1 s ρ1 e1 r1 q1 k1 => by
    obtain ⟨B2, e2, r2, q2⟩ := SRes.data r1 q1
    split at k1
    · rename_i l0 hi
      obtain ⟨a, xs, h1, h2, h3, _⟩ := r2.own hi
      refine ⟨_, h1, ?_⟩
      refine tz_bs r2 k1 fun iv B3 H3 t ρ3 e3 r3 q3 k3 => ?_
      obtain ⟨B4, e4, r4, q4⟩ := SRes.data r3 q3
      split at k3
      · rename_i l kk hl ht
        rw [ht] at q4
        rw [dp_int q4]
        obtain ⟨b, ys, g1, g2, g3, g4⟩ := r4.own hl
        rw [h1] at g1
        cases g1
        cases hj : ixN l.length kk with
        | none => rw [hj] at k3; exact k3.elim
        | some j =>
          rw [hj] at k3
          exact ⟨a, ys, kk, j, rfl, rfl, g2, by rw [dpAll_len g3]; exact hj, k3 B4 σ _ (g4 _ _ (dpAll_set j (dp_mono (e3.trans e4) q2) g3))⟩
      · exact k3.elim
    · exact k1.elim
end
/-! ### what a loop walks -/
/-- an iterator over these items -/
def ItOk (K : KF) (B1 : Hp) (It : L2.It) (ds : List PyData) : Prop := ∀ {J : List Nat} {Γ : Fm J} {B : Hp} {ρ : En} {σ : L2.St} {H : Hp}, Rep K Γ B ρ σ H → Ex B1 B →
  (∀ (i : Nat) d, ds[i]? = some d → It.go i H ∧ ∀ x H', It.yld i H x H' → ∃ B', Ex B B' ∧ Rep K Γ B' ρ σ H' ∧ Dp K B' x d ∧ (∀ a o, H a = some o → H' a = some o)) ∧ It.stop ds.length H
section
variable (K : KF) (xc : Str → Value) (W : Ww)
def outI (Γ : Fm W.J) (B : Hp) (σ : L2.St) (Q : L2.It → Hp → Prop) : RA → Prop
  | .ok ds ρ' => ∀ It B' H', Ex B B' → Rep K Γ B' ρ' σ H' → ItOk K B' It ds → Q It H'
  | .exc x ρ' => ∀ B' H', Ex B B' → Rep K Γ B' ρ' σ H' → W.W (xc x) none σ H'
  | .bad => False
def iZ (c : CA) : TI := fun σ H Q => ∃ (Γ : Fm W.J) (B : Hp) (ρ : En), Rep K Γ B ρ σ H ∧ outI K xc W Γ B σ Q (c ρ)
end
abbrev ZI (X : Cx) (xc : Str → Value) (W : Ww) (tg iter : Expr) (c : CA) : Prop := PI X tg iter (iZ X.kf xc W c)
section
variable {X : Cx} {xc : Str → Value} {W : Ww} {tg e iter : Expr} {pos p : Pos} {ca : CE} {cas : CA}
theorem PI.imp {t t' : TI} (h : PI X tg iter t) (m : ∀ σ H Q, t' σ H Q → t σ H Q) : PI X tg iter t' := ⟨fun pins s σ H R I q => h.run pins s σ H R I (m σ H R q)⟩
/-- a list, a tuple or a text -/
theorem pi_seq {l : Expr} {tl : TE} (hl : PE X l tl) : PI X tg l (fun σ H R => tl σ H fun x H1 => (∃ z, x = .str z ∧ R (Its z) H1) ∨ ∃ a, x = .ref a ∧ (((∃ xs, SqL X.kf H1 a xs) ∧ R (Itl X.K a) H1) ∨ ((∃ xs, SqT X.kf H1 a xs) ∧ R (Itt X.K a) H1))) := by
  refine ⟨fun pins s σ H R I h => ?_⟩
  refine thn (hl.run pins s σ H _ I h) fun v s1 ⟨x, H1, I1, r1, q1⟩ => ?_
  rcases q1 with ⟨z, ex, q⟩ | ⟨a, e, q⟩
  · subst ex
    obtain ⟨t, rfl⟩ := r1
    cases ha : z.cps.all (· < 128)
    · exact wpAny_pyIter_wide ha (pi_one (tk := s1.toks) I1 _ (turn_str _ z t "str_iterator" (.inr rfl)) ⟨_, Heap.get?_push_size _ rfl, rfl, rfl⟩ q)
    · exact wpAny_pyIter_ascii ha (pi_one (tk := s1.toks) I1 _ (turn_str _ z t "str_ascii_iterator" (.inl rfl)) ⟨_, Heap.get?_push_size _ rfl, rfl, rfl⟩ q)
  subst e
  cases r1
  rcases q with ⟨⟨xs, hq⟩, q⟩ | ⟨⟨xs, hq⟩, q⟩
  · obtain ⟨its, rv, p, hz⟩ := I1.list hq
    refine wpAny_pyIter_list p.isList ?_
    refine ⟨s1.heap.objs.size, [s1.heap.objs.size], _, _, H1, rfl, I1.kept (t' := s1.toks) fun b o e => Heap.get?_push_of_some _ e, turn_list a _, ⟨_, Heap.get?_push_size _ rfl, rfl, rfl⟩, fun b hb => ?_, q⟩
    have e : b = s1.heap.objs.size := by simpa using hb
    subst e
    exact I1.fpOk (Nat.le_refl _) (I1.hok.fresh (Nat.le_refl _))
  · obtain ⟨its, rv, p, hz⟩ := I1.tuple hq
    refine wpAny_pyIter_tuple (show s1.heap.IsTuple a its.toArray from p) ?_
    refine ⟨s1.heap.objs.size, [s1.heap.objs.size], _, _, H1, rfl, I1.kept (t' := s1.toks) fun b o e => Heap.get?_push_of_some _ e, turn_tuple a _, ⟨_, Heap.get?_push_size _ rfl, rfl, rfl⟩, fun b hb => ?_, q⟩
    have e : b = s1.heap.objs.size := by simpa using hb
    subst e
    exact I1.fpOk (Nat.le_refl _) (I1.hok.fresh (Nat.le_refl _))
def R.bi : R → (PyData → En → RA) → RA := R.ba
/-- the signs of a text -/
def strL (z : Str) : List PyData := z.cps.toList.map fun c => .str ⟨#[c]⟩
theorem its_ok {K : KF} {B : Hp} (z : Str) : ItOk K B (Its z) (strL z) := fun {J Γ B' ρ σ H} rep e => by
  refine ⟨fun i d hd => ?_, show z.cps.size ≤ (strL z).length by simp [strL]⟩
  unfold strL at hd
  rw [List.getElem?_map] at hd
  by_cases hi : i < z.cps.size
  · refine ⟨hi, fun x H' ⟨eH, c, hc, hx⟩ => ?_⟩
    subst eH
    subst hx
    rw [Array.getElem?_toList, hc] at hd
    have hd' : PyData.str ⟨#[c]⟩ = d := Option.some.inj hd
    subst hd'
    exact ⟨B', Ex.refl _, rep, .str _, fun _ _ h => h⟩
  · rw [Array.getElem?_toList, Array.getElem?_eq_none (by omega)] at hd
    cases hd
/-- the items of a list, of a tuple, of a text -/
def ciSeq (c : CE) : CA := fun ρ => (c ρ).ba fun d ρ => match d with
  | .list l => .ok l ρ
  | .tuple l => .ok l ρ
  | .str z => .ok (strL z) ρ
  | _ => .bad
theorem itl_ok {K : KF} {B : Hp} {a : Addr} {xs : List V} {ds : List PyData} (h1 : SqL K B a xs) (h2 : DpAll K B xs ds) : ItOk K B (Itl K.K a) ds := fun {J Γ B' ρ σ H} rep e => by
  have hH := ex_l (e.trans rep.bh) h1
  refine ⟨fun i d hd => ?_, xs, hH, by rw [dpAll_len h2]; exact Nat.le_refl _⟩
  obtain ⟨v, g1, g2⟩ := dpAll_get h2 hd
  refine ⟨⟨xs, v, hH, g1⟩, fun x H' ⟨eH, hx⟩ => ?_⟩
  subst eH
  have := hx xs hH
  rw [g1] at this
  cases this
  exact ⟨B', Ex.refl _, rep, dp_mono e g2, fun _ _ h => h⟩
theorem itt_ok {K : KF} {B : Hp} {a : Addr} {xs : List V} {ds : List PyData} (h1 : SqT K B a xs) (h2 : DpAll K B xs ds) : ItOk K B (Itt K.K a) ds := fun {J Γ B' ρ σ H} rep e => by
  have hH := ex_t (e.trans rep.bh) h1
  refine ⟨fun i d hd => ?_, xs, hH, by rw [dpAll_len h2]; exact Nat.le_refl _⟩
  obtain ⟨v, g1, g2⟩ := dpAll_get h2 hd
  refine ⟨⟨xs, v, hH, g1⟩, fun x H' ⟨eH, hx⟩ => ?_⟩
  subst eH
  have := hx xs hH
  rw [g1] at this
  cases this
  exact ⟨B', Ex.refl _, rep, dp_mono e g2, fun _ _ h => h⟩
/-- the same as tz_ba, where items are wanted -/
theorem tz_bi {K : KF} {Γ : Fm W.J} {B : Hp} {ρ : En} {σ : L2.St} {H : Hp} {c : CE} {k : PyData → En → RA} {Q : L2.It → Hp → Prop} {Q' : VK} (rep : Rep K Γ B ρ σ H) (h : outI K xc W Γ B σ Q ((c ρ).ba k))
    (next : ∀ v B' H' d ρ', Ex B B' → Rep K Γ B' ρ' σ H' → Dp K B' v d → outI K xc W Γ B' σ Q (k d ρ') → Q' v H') : tZ K xc W c σ H Q' := by
  refine ⟨Γ, B, ρ, rep, ?_⟩
  have mono : ∀ {B' : Hp} {r : RA}, Ex B B' → outI K xc W Γ B σ Q r → outI K xc W Γ B' σ Q r := fun {B' r} e h => by
    cases r with
    | ok ds ρ' => exact fun It B2 H2 e2 r2 q => h It B2 H2 (e.trans e2) r2 q
    | exc x ρ' => exact fun B2 H2 e2 r2 => h B2 H2 (e.trans e2) r2
    | bad => exact h
  cases hc : c ρ with
  | ok s ρ1 =>
    rw [hc] at h
    intro v B1 H1 e1 r1 q1
    obtain ⟨B2, e2, r2, q2⟩ := SRes.data r1 q1
    exact next v B2 H1 s.d ρ1 (e1.trans e2) r2 q2 (mono (e1.trans e2) h)
  | exc x ρ1 =>
    rw [hc] at h
    exact h
  | bad =>
    rw [hc] at h
    exact h
theorem zi_seq (h : ZE X xc W iter ca) : ZI X xc W tg iter (ciSeq ca) := PI.imp (pi_seq h) fun σ H Q ⟨Γ, B, ρ, rep, k⟩ => tz_bi rep k fun v B1 H1 d ρ1 e1 r1 q1 k1 => by
  cases d with
  | list l =>
    obtain ⟨a, xs, rfl, h1, h2⟩ := dp_list q1
    exact .inr ⟨a, rfl, .inl ⟨⟨xs, ex_l r1.bh h1⟩, k1 _ B1 H1 (Ex.refl _) r1 (itl_ok h1 h2)⟩⟩
  | tuple l =>
    obtain ⟨a, xs, rfl, h1, h2⟩ := dp_tup q1
    exact .inr ⟨a, rfl, .inr ⟨⟨xs, ex_t r1.bh h1⟩, k1 _ B1 H1 (Ex.refl _) r1 (itt_ok h1 h2)⟩⟩
  | str z =>
    cases dp_str q1
    exact .inl ⟨z, rfl, k1 _ B1 H1 (Ex.refl _) r1 (its_ok z)⟩
  | none | bool _ | int _ | dict _ => exact k1.elim
def rangeL (lo : Int) (n : Nat) : List PyData := (List.range n).map fun (k : Nat) => .int (lo + k)
theorem itr_ok {K : KF} {B : Hp} (lo : Int) (n : Nat) : ItOk K B (Itr lo n) (rangeL lo n) := fun {J Γ B' ρ σ H} rep e => by
  refine ⟨fun i d hd => ?_, show n ≤ (rangeL lo n).length by simp [rangeL]⟩
  unfold rangeL at hd
  rw [List.getElem?_map] at hd
  by_cases hi : i < n
  · rw [List.getElem?_range hi] at hd
    have hd' : PyData.int (lo + i) = d := Option.some.inj hd
    subst hd'
    refine ⟨hi, fun x H' ⟨eH, hx⟩ => ?_⟩
    subst eH
    subst hx
    exact ⟨B', Ex.refl _, rep, .int _, fun _ _ h => h⟩
  · rw [List.getElem?_eq_none (by rw [List.length_range]; omega)] at hd
    cases hd
def ciRange1 (c : CA) : CA := fun ρ => (c ρ).ba fun ds ρ => match ds with
  | [.int j] => bif decide (-(2 ^ 62) ≤ j ∧ j < 2 ^ 62) then .ok (rangeL 0 j.toNat) ρ else .bad
  | _ => .bad
def ciRange2 (c : CA) : CA := fun ρ => (c ρ).ba fun ds ρ => match ds with
  | [.int i, .int j] => bif decide (-(2 ^ 62) ≤ i ∧ i < 2 ^ 62 ∧ -(2 ^ 62) ≤ j ∧ j < 2 ^ 62) then .ok (rangeL i (j - i).toNat) ρ else .bad
  | _ => .bad
theorem tza_bi {K : KF} {Γ : Fm W.J} {B : Hp} {ρ : En} {σ : L2.St} {H : Hp} {c : CA} {k : List PyData → En → RA} {Q : L2.It → Hp → Prop} {Q' : List V → Hp → Prop} (rep : Rep K Γ B ρ σ H) (h : outI K xc W Γ B σ Q ((c ρ).ba k))
    (next : ∀ v B' H' d ρ', Ex B B' → Rep K Γ B' ρ' σ H' → DpAll K B' v d → outI K xc W Γ B' σ Q (k d ρ') → Q' v H') : tZA K xc W c σ H Q' := by
  refine ⟨Γ, B, ρ, rep, ?_⟩
  have mono : ∀ {B' : Hp} {r : RA}, Ex B B' → outI K xc W Γ B σ Q r → outI K xc W Γ B' σ Q r := fun {B' r} e h => by
    cases r with
    | ok ds ρ' => exact fun It B2 H2 e2 r2 q => h It B2 H2 (e.trans e2) r2 q
    | exc x ρ' => exact fun B2 H2 e2 r2 => h B2 H2 (e.trans e2) r2
    | bad => exact h
  cases hc : c ρ with
  | ok s ρ1 =>
    rw [hc] at h
    intro v B1 H1 e1 r1 q1
    exact next v B1 H1 s ρ1 e1 r1 q1 (mono e1 h)
  | exc x ρ1 =>
    rw [hc] at h
    exact h
  | bad =>
    rw [hc] at h
    exact h
theorem zi_range1 {a : Expr} (hg : Gl X "range") (hm : X.mg "range" = none) (ha : ZA X xc W [a] cas) (hs : starEach [a] X.env = [(false, eval a X.env)] := by rfl) : ZI X xc W tg (.Call (.Name "range" p) [a] [] pos) (ciRange1 cas) :=
  PI.imp (pi_range1 hg hm ha.run hs) fun σ H Q ⟨Γ, B, ρ, rep, k⟩ => tza_bi rep k fun vs B1 H1 ds ρ1 e1 r1 q1 k1 => by
    split at k1
    · rename_i j
      cases q1 with
      | cons h t =>
        cases t
        rw [dp_int h]
        cases hd : decide (-(2 ^ 62) ≤ j ∧ j < 2 ^ 62) with
        | false => rw [hd] at k1; exact k1.elim
        | true =>
          rw [hd] at k1
          have hb := of_decide_eq_true hd
          exact ⟨j, rfl, hb.1, hb.2, k1 _ B1 H1 (Ex.refl _) r1 (itr_ok 0 j.toNat)⟩
    · exact k1.elim
theorem zi_range2 {a b : Expr} (hg : Gl X "range") (hm : X.mg "range" = none) (ha : ZA X xc W [a, b] cas) (hs : starEach [a, b] X.env = [(false, eval a X.env), (false, eval b X.env)] := by rfl) (hs2 : starEach [b] X.env = [(false, eval b X.env)] := by rfl) :
    ZI X xc W tg (.Call (.Name "range" p) [a, b] [] pos) (ciRange2 cas) :=
  PI.imp (pi_range2 hg hm ha.run hs hs2) fun σ H Q ⟨Γ, B, ρ, rep, k⟩ => tza_bi rep k fun vs B1 H1 ds ρ1 e1 r1 q1 k1 => by
    split at k1
    · rename_i i j
      cases q1 with
      | cons h t =>
        cases t with
        | cons h2 t2 =>
          cases t2
          rw [dp_int h, dp_int h2]
          cases hd : decide (-(2 ^ 62) ≤ i ∧ i < 2 ^ 62 ∧ -(2 ^ 62) ≤ j ∧ j < 2 ^ 62) with
          | false => rw [hd] at k1; exact k1.elim
          | true =>
            rw [hd] at k1
            have hb := of_decide_eq_true hd
            exact ⟨i, j, rfl, hb, k1 _ B1 H1 (Ex.refl _) r1 (itr_ok i (j - i).toNat)⟩
    · exact k1.elim
end
/-! ### for, while -/
def forL (g : CG) (body : CS) : List PyData → En → O
  | [], ρ => .nx ρ
  | d :: ds, ρ => match g d ρ with
    | none => .bad
    | some ρ1 => match body ρ1 with
      | .nx ρ2 => forL g body ds ρ2
      | .ct ρ2 => forL g body ds ρ2
      | .bk ρ2 => .nx ρ2
      | .rt s ρ2 => .rt s ρ2
      | .exc x ρ2 => .exc x ρ2
      | .bad => .bad
def cFor (src : CA) (g : CG) (body : CS) : CS := fun ρ => (src ρ).bs fun ds ρ => forL g body ds ρ
def whileL (t : CE) (body : CS) : Nat → En → O
  | 0, _ => .bad
  | n + 1, ρ => (t ρ).bs fun s ρ => match s with
    | .dat (.bool false) => .nx ρ
    | .dat (.bool true) => match body ρ with
      | .nx ρ2 => whileL t body n ρ2
      | .ct ρ2 => whileL t body n ρ2
      | .bk ρ2 => .nx ρ2
      | .rt s ρ2 => .rt s ρ2
      | .exc x ρ2 => .exc x ρ2
      | .bad => .bad
    | _ => .bad
section
variable {X : Cx} {xc : Str → Value} {W : Ww} {tg t iter : Expr} {body : List Stmt} {pos : Pos} {ct : CE} {cas : CA} {g : CG} {gs : List Nat} {cb : CS}
/-- behind what a loop walks -/
def forC (X : Cx) (g : TG) (tb : TS) (D : Ends) (σ : L2.St) : L2.It → Hp → Prop := fun J H1 => ∃ U : Nat → Nat → L2.St → Hp → Prop, (∃ m, U 0 m σ H1) ∧ ∀ i m σ H, U i m σ H →
  (J.stop i H ∧ D.nx σ H) ∨ (J.go i H ∧ ∃ N : L2.St → Hp → Prop, (∀ σ' H', N σ' H' → ∃ m', m' < m ∧ U (i + 1) m' σ' H') ∧ ∀ x H', J.yld i H x H' → g x σ H' fun σ2 H2 => tb { D with nx := N, ct := N, bk := D.nx } σ2 H2)
theorem for_out {Γ : Fm W.J} {B : Hp} {ρ : En} {σ : L2.St} {H : Hp} {D : Ends} (rep : Rep X.kf Γ B ρ σ H) (k : outS X.kf xc W Γ D (cFor cas g cb ρ)) : outI X.kf xc W Γ B σ (forC X (gZ X.kf W.J gs g) (tZS X.kf xc W cb) D σ) (cas ρ) := by
  unfold cFor at k
  cases hcs : cas ρ with
  | exc x ρ1 =>
    rw [hcs] at k
    exact fun B' H' e r => k B' σ H' r
  | bad => rw [hcs] at k; exact k
  | ok ds ρ1 =>
    rw [hcs] at k
    intro It B1 H1 e1 r1 hit
    refine ⟨fun i m σ H => m = ds.length - i ∧ i ≤ ds.length ∧ ∃ (B : Hp) (ρ : En), Rep X.kf Γ B ρ σ H ∧ Ex B1 B ∧ outS X.kf xc W Γ D (forL g cb (ds.drop i) ρ), ⟨ds.length, by simp, Nat.zero_le _, B1, ρ1, r1, Ex.refl _, k⟩, ?_⟩
    rintro i m σ H ⟨rfl, hi, B2, ρ2, r2, e2, k2⟩
    obtain ⟨h1, h2⟩ := hit r2 e2
    by_cases hlt : i < ds.length
    · obtain ⟨go, yl⟩ := h1 i ds[i] (List.getElem?_eq_getElem hlt)
      rw [List.drop_eq_getElem_cons hlt] at k2
      refine .inr ⟨go, fun σ' H' => ∃ (B : Hp) (ρ : En), Rep X.kf Γ B ρ σ' H' ∧ Ex B1 B ∧ outS X.kf xc W Γ D (forL g cb (ds.drop (i + 1)) ρ), fun σ' H' hN => ⟨ds.length - (i + 1), by omega, rfl, hlt, hN⟩, fun x H' hy => ?_⟩
      obtain ⟨B3, e3, r3, q3, _⟩ := yl x H' hy
      unfold forL at k2
      cases hg' : g ds[i] ρ2 with
      | none => rw [hg'] at k2; exact k2.elim
      | some ρ3 =>
        rw [hg'] at k2
        refine ⟨Γ, B3, ρ2, ρ3, _, r3, q3, hg', fun σ4 r4 _ => ?_⟩
        refine ⟨Γ.now B3, B3, ρ3, r4.now, ?_⟩
        have eb : Ex Γ.B0 B3 := r4.b0
        cases hb' : cb ρ3 with
        | nx ρ5 =>
          simp only [hb'] at k2
          intro B' σ' H' r'
          obtain ⟨r6, e6⟩ := Rep.old eb r'
          exact ⟨B', ρ5, r6, (e2.trans e3).trans e6, k2⟩
        | ct ρ5 =>
          simp only [hb'] at k2
          intro B' σ' H' r'
          obtain ⟨r6, e6⟩ := Rep.old eb r'
          exact ⟨B', ρ5, r6, (e2.trans e3).trans e6, k2⟩
        | bk ρ5 =>
          simp only [hb'] at k2
          intro B' σ' H' r'
          exact k2 B' σ' H' (Rep.old eb r').1
        | rt s ρ5 =>
          simp only [hb'] at k2
          intro v B' σ' H' r' q'
          exact k2 v B' σ' H' (Rep.old eb r').1 q'.old
        | exc x ρ5 =>
          simp only [hb'] at k2
          intro B' σ' H' r'
          exact k2 B' σ' H' (Rep.old eb r').1
        | bad => simp only [hb'] at k2; exact k2.elim
    · have e : i = ds.length := by omega
      subst e
      rw [List.drop_length] at k2
      exact .inl ⟨h2, k2 B2 σ H r2⟩
theorem zs_for (hp : PassesOwn (model X.prog X.w) X.A X.env X.xe) (hc : X.calm = true) (hi : ZI X xc W tg iter cas) (hg : ZG X W tg gs g) (hb : ZSs X xc W body cb)
    (hs : ∀ x, foldedSetIterable iter X.env x = pure x := by intro _; rfl) : ZS X xc W (.For tg iter body [] pos) (cFor cas g cb) :=
  PS.imp (ps_for hp hc hi hg hb hs) fun D σ H ⟨Γ, B, ρ, rep, k⟩ => ⟨Γ, B, ρ, rep, for_out rep k⟩
theorem zs_while {n : Nat} (hp : PassesOwn (model X.prog X.w) X.A X.env X.xe) (ht : ZT X xc W t ct) (hb : ZSs X xc W body cb) : ZS X xc W (.While t body [] pos) (whileL ct cb n) :=
  PS.imp (ps_while hp ht hb) fun D σ H ⟨Γ, B, ρ, rep, k⟩ => by
    refine ⟨fun m σ H => ∃ (B : Hp) (ρ : En), Rep X.kf Γ B ρ σ H ∧ outS X.kf xc W Γ D (whileL ct cb m ρ), ⟨n, B, ρ, rep, k⟩, ?_⟩
    rintro m σ H ⟨B1, ρ1, r1, k1⟩
    cases m with
    | zero => exact k1.elim
    | succ m =>
      unfold whileL at k1
      refine tzt_bs r1 k1 (fun s ρ' hd => by
        cases s with
        | lst l | dic l | obj c fs | hole => rfl
        | dat d => cases d with
          | bool b => exact absurd rfl (hd b)
          | none | int _ | str _ | list _ | tuple _ | dict _ => rfl) fun b B2 H2 ρ2 e2 r2 k2 => ?_
      cases b with
      | false => exact iteF (k2 B2 σ H2 r2)
      | true =>
        refine iteT ⟨fun σ' H' => ∃ (B : Hp) (ρ : En), Rep X.kf Γ B ρ σ' H' ∧ outS X.kf xc W Γ D (whileL ct cb m ρ), fun σ' H' hN => ⟨m, Nat.lt_succ_self m, hN⟩, Γ, B2, ρ2, r2, ?_⟩
        cases hb' : cb ρ2 with
        | nx ρ5 =>
          simp only [hb'] at k2
          exact fun B' σ' H' r' => ⟨B', ρ5, r', k2⟩
        | ct ρ5 =>
          simp only [hb'] at k2
          exact fun B' σ' H' r' => ⟨B', ρ5, r', k2⟩
        | bk ρ5 =>
          simp only [hb'] at k2
          exact fun B' σ' H' r' => k2 B' σ' H' r'
        | rt s ρ5 =>
          simp only [hb'] at k2
          exact k2
        | exc x ρ5 =>
          simp only [hb'] at k2
          exact k2
        | bad => simp only [hb'] at k2; exact k2.elim
end
end Z
set_option maxHeartbeats 2000000
/-! Z: comprehensions, subscripts, operators, built-ins. -/
namespace Z
open PySem PySem.Spec PyProof.Rows L2
open Evl (Ex ex_l ex_t ex_rd)
/-! ### comprehensions -/
def wipeE (ρ : En) : List Nat → En
  | [] => ρ
  | v :: vs => (wipeE ρ vs).set v none
def noOwn (ρ : En) : List Nat → Bool
  | [] => true
  | v :: vs => (match ρ[v]? with
    | some (some (.dat _)) => true
    | some (some _) => false
    | _ => true) && noOwn ρ vs
def restoreE (ρ0 ρ : En) : List Nat → En
  | [] => ρ
  | v :: vs => match ρ0[v]? with
    | some o => (restoreE ρ0 ρ vs).set v o
    | none => restoreE ρ0 ρ vs
def lcL (vs : List Nat) (g : CG) (ct ce : CE) : List PyData → En → List PyData → RA
  | [], ρ, acc => .ok acc ρ
  | d :: ds, ρ, acc => match g d (wipeE ρ vs) with
    | none => .bad
    | some ρ1 => match ct ρ1 with
      | .ok (.dat (.bool true)) ρ2 => match ce ρ2 with
        | .ok s ρ3 => bif decide (acc.length < sizeLine) then lcL vs g ct ce ds ρ3 (acc ++ [s.d]) else .bad
        | _ => .bad
      | .ok (.dat (.bool false)) ρ2 => lcL vs g ct ce ds ρ2 acc
      | _ => .bad
def cLc (vs : List Nat) (src : CA) (g : CG) (ct ce : CE) : CE := fun ρ => match src ρ with
  | .ok ds ρ1 => bif noOwn ρ1 vs then (match lcL vs g ct ce ds ρ1 [] with
    | .ok acc ρ2 => .ok (.lst acc) (restoreE ρ1 ρ2 vs)
    | _ => .bad) else .bad
  | .exc x ρ1 => .exc x ρ1
  | .bad => .bad
theorem wipe_len' {σ : L2.St} {vs : List Nat} : (wipe σ vs).length = σ.length := wipe_length σ vs
theorem wipe_in {σ : L2.St} {i : Nat} : ∀ {vs : List Nat}, i ∈ vs → i < σ.length → (wipe σ vs)[i]? = some none
  | v :: vs, h, hl => by
    show ((wipe σ vs).set v none)[i]? = _
    by_cases e : v = i
    · subst e
      rw [List.getElem?_set_self (by rw [wipe_length]; exact hl)]
    · rw [List.getElem?_set_ne e]
      exact wipe_in ((List.mem_cons.mp h).resolve_left fun z => e z.symm) hl
theorem wipeE_out {ρ : En} {i : Nat} : ∀ {vs : List Nat}, i ∉ vs → (wipeE ρ vs)[i]? = ρ[i]?
  | [], _ => rfl
  | v :: vs, h => by
    show ((wipeE ρ vs).set v none)[i]? = _
    rw [List.getElem?_set_ne (fun e => h (by rw [e]; exact List.mem_cons_self))]
    exact wipeE_out fun z => h (List.mem_cons_of_mem _ z)
theorem wipeE_len {ρ : En} : ∀ {vs : List Nat}, (wipeE ρ vs).length = ρ.length
  | [] => rfl
  | v :: vs => by
    show ((wipeE ρ vs).set v none).length = _
    rw [List.length_set]
    exact wipeE_len
theorem wipeE_some {ρ : En} {i : Nat} {s : S} : ∀ {vs : List Nat}, (wipeE ρ vs)[i]? = some (some s) → i ∉ vs ∧ ρ[i]? = some (some s)
  | [], h => ⟨by simp, h⟩
  | v :: vs, h => by
    have h' : ((wipeE ρ vs).set v none)[i]? = some (some s) := h
    by_cases e : v = i
    · subst e
      have hl : v < (wipeE ρ vs).length := by
        have := (List.getElem?_eq_some_iff.mp h').1
        simpa using this
      rw [List.getElem?_set_self hl] at h'
      cases h'
    · rw [List.getElem?_set_ne e] at h'
      obtain ⟨h1, h2⟩ := wipeE_some h'
      exact ⟨fun z => (List.mem_cons.mp z).elim (fun q => e q.symm) h1, h2⟩
theorem wipe_diff {σ σ' : L2.St} {vs gs : List Nat} (h : ∀ i ∈ gs, i ∈ vs) (d : Diff gs (wipe σ vs) σ') : wipe σ' vs = wipe σ vs := by
  have hl : σ'.length = σ.length := by rw [d.1, wipe_length]
  apply List.ext_getElem?
  intro i
  by_cases hi : i ∈ vs
  · by_cases hlt : i < σ.length
    · rw [wipe_in hi hlt, wipe_in hi (by rw [hl]; exact hlt)]
    · rw [List.getElem?_eq_none (by rw [wipe_length, hl]; omega), List.getElem?_eq_none (by rw [wipe_length]; omega)]
  · rw [wipe_out hi, d.2 i fun z => hi (h i z)]
theorem noOwn_at {ρ : En} {i : Nat} {s : S} : ∀ {vs : List Nat}, noOwn ρ vs = true → i ∈ vs → ρ[i]? = some (some s) → ∃ d, s = .dat d
  | v :: vs, h, hi, e => by
    have h' := Bool.and_eq_true_iff.mp h
    rcases List.mem_cons.mp hi with rfl | hi
    · cases s with
      | dat d => exact ⟨d, rfl⟩
      | lst l | dic l | obj c fs | hole =>
        have := h'.1
        rw [e] at this
        cases this
    · exact noOwn_at h'.2 hi e
theorem restoreE_in {ρ0 ρ : En} {i : Nat} (hl : ρ0.length = ρ.length) : ∀ {vs : List Nat}, (restoreE ρ0 ρ vs).length = ρ.length ∧ (i ∈ vs → (restoreE ρ0 ρ vs)[i]? = ρ0[i]?) ∧ (i ∉ vs → (restoreE ρ0 ρ vs)[i]? = ρ[i]?)
  | [] => ⟨rfl, fun h => by simp at h, fun _ => rfl⟩
  | v :: vs => by
    obtain ⟨h1, h2, h3⟩ := restoreE_in (vs := vs) (i := i) hl
    unfold restoreE
    cases hv : ρ0[v]? with
    | none =>
      have hge : ρ0.length ≤ v := List.getElem?_eq_none_iff.mp hv
      refine ⟨h1, fun h => ?_, fun h => h3 fun z => h (List.mem_cons_of_mem _ z)⟩
      rcases List.mem_cons.mp h with rfl | h
      · show (restoreE ρ0 ρ vs)[i]? = ρ0[i]?
        rw [List.getElem?_eq_none (by rw [h1]; omega), hv]
      · exact h2 h
    | some o =>
      have hlt : v < ρ0.length := (List.getElem?_eq_some_iff.mp hv).1
      refine ⟨by show ((restoreE ρ0 ρ vs).set v o).length = _; rw [List.length_set, h1], fun h => ?_, fun h => ?_⟩
      · show ((restoreE ρ0 ρ vs).set v o)[i]? = _
        by_cases e : v = i
        · subst e
          rw [List.getElem?_set_self (by rw [h1]; omega), hv]
        · rw [List.getElem?_set_ne e]
          exact h2 ((List.mem_cons.mp h).resolve_left fun z => e z.symm)
      · show ((restoreE ρ0 ρ vs).set v o)[i]? = _
        rw [List.getElem?_set_ne (fun e => h (by rw [e]; exact List.mem_cons_self))]
        exact h3 fun z => h (List.mem_cons_of_mem _ z)
section
variable {K : KF} {J : List Nat} {Γ : Fm J} {B B1 : Hp} {ρ ρ1 : En} {σ : L2.St} {H H1 : Hp} {vs : List Nat} {D : Addr}
theorem Rep.wiped (hJ : ∀ j ∈ J, j ∉ vs) (r : Rep K Γ B ρ σ H) : Rep K Γ B (wipeE ρ vs) (wipe σ vs) H := by
  refine ⟨r.bh, r.fh, r.fb, r.b0, by rw [wipeE_len, wipe_length]; exact r.len, fun i s h => ?_, fun i j s t v u A C ne hi hj ei ej => ?_, fun k j v hk hv => ?_⟩
  · obtain ⟨h1, h2⟩ := wipeE_some h
    rw [wipe_out h1]
    exact r.at_ i s h2
  · obtain ⟨h1, h2⟩ := wipeE_some hi
    obtain ⟨g1, g2⟩ := wipeE_some hj
    rw [wipe_out h1] at ei
    rw [wipe_out g1] at ej
    exact r.sep i j s t v u A C ne h2 g2 ei ej
  · rw [wipe_out (hJ j (List.mem_of_getElem? hk))]
    exact r.iot k j v hk hv
/-- the frame with one more thing in it -/
abbrev Fm.plus {J : List Nat} (Γ : Fm J) (D : Addr) (o : HO) : Fm J := ⟨upd Γ.F D o, Γ.B0, Γ.io, Γ.hv⟩
/-- another frame: the slots' things are in none of both -/
theorem Rep.refm {Γ' : Fm J} {H' : Hp} (r : Rep K Γ B ρ σ H) (bh : Ex B H') (fh : Ex Γ'.F H') (fb : ∀ a o, Γ'.F a = some o → B a = none) (h0 : Γ'.B0 = Γ.B0) (hio : Γ'.io = Γ.io) (hv : Γ'.hv = Γ.hv)
    (k : ∀ (i : Nat) s v A, ρ[i]? = some (some s) → σ[i]? = some (some v) → SA K Γ.X B H s v A → ∀ a ∈ A, Γ'.F a = none ∧ H' a = H a) : Rep K Γ' B ρ σ H' := by
  have new : ∀ (i : Nat) s v A, ρ[i]? = some (some s) → σ[i]? = some (some v) → SA K Γ.X B H s v A → SA K Γ'.X B H' s v A := fun i s v A h1 h2 h3 =>
    SA.move (F := Γ.X) (F' := Γ'.X) (Ex.refl B) hv (fun a ha => ⟨(SA.own h3 a ha).1, k i s v A h1 h2 h3 a ha⟩) h3
  have old : ∀ (i : Nat) s v A, ρ[i]? = some (some s) → σ[i]? = some (some v) → SA K Γ'.X B H' s v A → SA K Γ.X B H s v A := fun i s v A h1 h2 h3 => by
    obtain ⟨u, C, g1, g2⟩ := r.at_ i s h1
    have e := some_inj2 (h2.symm.trans g1)
    subst e
    rw [SA.uniq h3 (new i s v C h1 h2 g2)]
    exact g2
  refine ⟨bh, fh, fb, by rw [h0]; exact r.b0, r.len, fun i s h => ?_, fun i j s t v u A C ne h1 h2 h3 h4 h5 h6 => r.sep i j s t v u A C ne h1 h2 h3 h4 (old i s v A h1 h3 h5) (old j t u C h2 h4 h6), by rw [hio]; exact r.iot⟩
  obtain ⟨u, C, g1, g2⟩ := r.at_ i s h
  exact ⟨u, C, g1, new i s u C h g1 g2⟩
theorem Rep.plus (r : Rep K Γ B ρ σ H) {o : HO} (hD : H D = none) : Rep K (Γ.plus D o) B ρ σ (upd H D o) := by
  have hb : B D = none := Evl.fresh_back r.bh hD
  have eh : Ex H (upd H D o) := Ex.new hD
  refine r.refm (r.bh.trans eh) (fun a u h => ?_) (fun a u h => ?_) rfl rfl rfl fun i s v A _ _ h3 a ha => ?_
  · have h' : upd Γ.F D o a = some u := h
    by_cases e : a = D
    · subst e
      rw [upd_same] at h' ⊢
      exact h'
    · rw [upd_ne e] at h' ⊢
      exact r.fh a u h'
  · by_cases e : a = D
    · subst e
      exact hb
    · have h' : upd Γ.F D o a = some u := h
      rw [upd_ne e] at h'
      exact r.fb a u h'
  · obtain ⟨_, g2, u, g3⟩ := SA.own h3 a ha
    have ne : a ≠ D := ne_of_none g3 hD
    exact ⟨by show upd Γ.F D o a = none; rw [upd_ne ne]; exact g2, by rw [upd_ne ne]⟩
theorem Rep.bump {o o' : HO} (r : Rep K (Γ.plus D o) B ρ σ H) : Rep K (Γ.plus D o') B ρ σ (upd H D o') := by
  have hb : B D = none := r.fb D o upd_same
  refine r.refm (fun a u h => ?_) (fun a u h => ?_) (fun a u h => ?_) rfl rfl rfl fun i s v A _ _ h3 a ha => ?_
  · rw [upd_ne (ne_of_none h hb)]
    exact r.bh a u h
  · have h' : upd Γ.F D o' a = some u := h
    by_cases e : a = D
    · subst e
      rw [upd_same] at h' ⊢
      exact h'
    · rw [upd_ne e] at h' ⊢
      exact r.fh a u (by show upd Γ.F D o a = some u; rw [upd_ne e]; exact h')
  · by_cases e : a = D
    · subst e
      exact hb
    · have h' : upd Γ.F D o' a = some u := h
      rw [upd_ne e] at h'
      exact r.fb a u (by show upd Γ.F D o a = some u; rw [upd_ne e]; exact h')
  · obtain ⟨_, g2, u, g3⟩ := SA.own h3 a ha
    have g2' : upd Γ.F D o a = none := g2
    have ne : a ≠ D := fun e => by
      subst e
      rw [upd_same] at g2'
      cases g2'
    rw [upd_ne ne] at g2'
    exact ⟨by show upd Γ.F D o' a = none; rw [upd_ne ne]; exact g2', by rw [upd_ne ne]⟩
/-- the frame's thing is handed out -/
theorem Rep.minus {o : HO} (r : Rep K (Γ.plus D o) B ρ σ H) (fD : Γ.F D = none) : Rep K Γ B ρ σ H ∧ Own Γ.X B D ∧ H D = some o ∧ ∀ s, s.nh = true → SA K Γ.X B H s (.ref D) [D] → SRes K Γ B ρ σ H s (.ref D) := by
  have sub : ∀ a, upd Γ.F D o a = none → Γ.F a = none ∧ a ≠ D := fun a h => by
    have ne : a ≠ D := fun e => by
      subst e
      rw [upd_same] at h
      cases h
    rw [upd_ne ne] at h
    exact ⟨h, ne⟩
  have r2 : Rep K Γ B ρ σ H := r.refm r.bh (fun a u h => r.fh a u (by show upd Γ.F D o a = some u; rw [upd_ne (ne_of_none h fD)]; exact h)) (fun a u h => r.fb a u (by show upd Γ.F D o a = some u; rw [upd_ne (ne_of_none h fD)]; exact h)) rfl rfl rfl fun i s v A _ _ h3 a ha => ⟨(sub a (SA.own h3 a ha).2.1).1, rfl⟩
  refine ⟨r2, ⟨r.fb D o upd_same, fD⟩, r.fh D o upd_same, fun s n h => ⟨n, [D], h, fun i t u C h1 h2 h3 a ha hc => ?_⟩⟩
  have e : a = D := by simpa using ha
  subst e
  obtain ⟨u', C', g1, g2⟩ := r.at_ i t h1
  have ev := some_inj2 (h2.symm.trans g1)
  subst ev
  rw [SA.uniq h3 g2] at hc
  exact (sub a (SA.own g2 a hc).2.1).2 rfl
/-- behind a comprehension: the names of its block are as they were -/
theorem Rep.unwipe (r1 : Rep K Γ B1 ρ1 σ H1) (no : noOwn ρ1 vs = true) (e : Ex B1 B) (r : Rep K Γ B (wipeE ρ vs) (wipe σ vs) H) : Rep K Γ B (restoreE ρ1 ρ vs) σ H ∧ ∀ {s : S} {v : V}, SRes K Γ B (wipeE ρ vs) (wipe σ vs) H s v → SRes K Γ B (restoreE ρ1 ρ vs) σ H s v := by
  have hl : ρ1.length = ρ.length := by
    have := r.len
    rw [wipeE_len, wipe_length] at this
    rw [r1.len, this]
  have at1 : ∀ {i : Nat} {s : S}, (restoreE ρ1 ρ vs)[i]? = some (some s) → (i ∈ vs ∧ ρ1[i]? = some (some s)) ∨ (i ∉ vs ∧ (wipeE ρ vs)[i]? = some (some s)) := fun {i s} h => by
    obtain ⟨_, h2, h3⟩ := restoreE_in (ρ0 := ρ1) (ρ := ρ) (i := i) (vs := vs) hl
    by_cases hi : i ∈ vs
    · rw [h2 hi] at h
      exact .inl ⟨hi, h⟩
    · rw [h3 hi] at h
      exact .inr ⟨hi, by rw [wipeE_out hi]; exact h⟩
  have own : ∀ {i : Nat} {s : S} {v : V} {A : List Addr} {a : Addr}, (restoreE ρ1 ρ vs)[i]? = some (some s) → σ[i]? = some (some v) → SA K Γ.X B H s v A → a ∈ A → (wipeE ρ vs)[i]? = some (some s) ∧ (wipe σ vs)[i]? = some (some v) := fun {i s v A a} h hv hs ha => by
    rcases at1 h with ⟨hi, h2⟩ | ⟨hi, h2⟩
    · obtain ⟨d, rfl⟩ := noOwn_at no hi h2
      rw [hs.1] at ha
      exact absurd ha (by simp)
    · exact ⟨h2, by rw [wipe_out hi]; exact hv⟩
  refine ⟨⟨r.bh, r.fh, r.fb, r1.b0.trans e, by rw [(restoreE_in (i := 0) hl).1, ← hl]; exact r1.len, fun i s h => ?_, fun i j s t v u A C ne hi hj ei ej g1 g2 a ha hc => ?_, r1.iot⟩, fun {s v} h => ?_⟩
  · rcases at1 h with ⟨hi, h2⟩ | ⟨hi, h2⟩
    · obtain ⟨d, rfl⟩ := noOwn_at no hi h2
      obtain ⟨v, A, g1, g2⟩ := r1.at_ i _ h2
      exact ⟨v, [], g1, rfl, dp_mono e g2.2⟩
    · obtain ⟨v, A, g1, g2⟩ := r.at_ i s h2
      rw [wipe_out hi] at g1
      exact ⟨v, A, g1, g2⟩
  · obtain ⟨k1, k2⟩ := own hi ei g1 ha
    obtain ⟨m1, m2⟩ := own hj ej g2 hc
    exact r.sep i j s t v u A C ne k1 m1 k2 m2 g1 g2 a ha hc
  · obtain ⟨nh, A, h1, h2⟩ := h
    refine ⟨nh, A, h1, fun i t u C hi ei g a ha hc => ?_⟩
    obtain ⟨k1, k2⟩ := own hi ei g hc
    exact h2 i t u C k1 k2 g a ha hc
theorem Rep.done {accV : List V} {acc : List PyData} (r1 : Rep K Γ B1 ρ1 σ H1) (hD : H1 D = none) (no : noOwn ρ1 vs = true) (e : Ex B1 B) (r : Rep K (Γ.plus D (.lst accV)) B (wipeE ρ vs) (wipe σ vs) H) (ha : DpAll K B accV acc) :
    Rep K Γ B (restoreE ρ1 ρ vs) σ H ∧ SRes K Γ B (restoreE ρ1 ρ vs) σ H (.lst acc) (.ref D) := by
  obtain ⟨r2, o, hh, q⟩ := r.minus (Evl.fresh_back r1.fh hD)
  obtain ⟨r3, q3⟩ := Rep.unwipe r1 no e r2
  exact ⟨r3, q3 (q _ rfl ⟨D, accV, rfl, rfl, o, hh, ha⟩)⟩
end
section
variable {X : Cx} {xc : Str → Value} {W : Ww} {elt tg iter : Expr} {ifs : List Expr} {scope : Scope} {own : List (Str × Nat)} {pos spos : Pos} {cas : CA} {g : CG} {gs : List Nat} {ct ce : CE}
/-- inside a comprehension no exception is let out -/
abbrev W0 (W : Ww) : Ww := ⟨fun _ _ _ _ => False, W.J⟩
abbrev tcT (K : KF) (xc : Str → Value) (W : Ww) (ct : CE) : TT := tZT K xc (W0 W) ct
def lcC (g : TG) (tt : TT) (te : TE) (vs : List Nat) (σ : L2.St) (Q : VK) : L2.It → Hp → Prop := fun J H1 => ∀ D, H1 D = none → ∃ U : Nat → Nat → Hp → Prop, (∃ m, U 0 m (upd H1 D (.lst []))) ∧ ∀ i m H, U i m H →
  (J.stop i H ∧ Q (.ref D) H) ∨ (J.go i H ∧ ∃ Nx : Hp → Prop, (∀ H', Nx H' → ∃ m', m' < m ∧ U (i + 1) m' H') ∧ ∀ x H', J.yld i H x H' → g x (wipe σ vs) H' fun σ2 H2 => wipe σ2 vs = wipe σ vs ∧ tt σ2 H2 fun b H3 =>
    if b = true then te σ2 H3 fun y H4 => ∃ acc, H4 D = some (.lst acc) ∧ acc.length < sizeLine ∧ Nx (upd H4 D (.lst (acc ++ [y]))) else Nx H3)
theorem lc_out {K : KF} {Γ : Fm W.J} {B : Hp} {ρ : En} {σ : L2.St} {H : Hp} {Q : VK} {vs : List Nat} (hvs : ∀ i ∈ gs, i ∈ vs) (hJ : ∀ j ∈ W.J, j ∉ vs) (rep : Rep K Γ B ρ σ H) (k : outZ K xc W Γ B σ Q (cLc vs cas g ct ce ρ)) :
    outI K xc W Γ B σ (lcC (gZ K W.J gs g) (tZT K xc (W0 W) ct) (tZ K xc (W0 W) ce) vs σ Q) (cas ρ) := by
  unfold cLc at k
  cases hcs : cas ρ with
  | exc x ρ1 => rw [hcs] at k; exact k
  | bad => rw [hcs] at k; exact k
  | ok ds ρ1 =>
    rw [hcs] at k
    intro It B1 H1 e1 r1 hit D hD
    simp only at k
    cases no : noOwn ρ1 vs with
    | false => rw [no] at k; exact k.elim
    | true =>
      rw [no, cond_true] at k
      cases hl : lcL vs g ct ce ds ρ1 [] with
      | exc x ρF => rw [hl] at k; exact k.elim
      | bad => rw [hl] at k; exact k.elim
      | ok accF ρF =>
        rw [hl] at k
        refine ⟨fun i m H => m = ds.length - i ∧ i ≤ ds.length ∧ ∃ (B : Hp) (ρ : En) (acc : List PyData) (accV : List V), Rep K (Γ.plus D (.lst accV)) B (wipeE ρ vs) (wipe σ vs) H ∧ Ex B1 B ∧ DpAll K B accV acc ∧ lcL vs g ct ce (ds.drop i) ρ acc = .ok accF ρF,
          ⟨ds.length, by simp, Nat.zero_le _, B1, ρ1, [], [], (r1.wiped hJ).plus hD, Ex.refl _, .nil, hl⟩, ?_⟩
        rintro i m H ⟨rfl, hi, B2, ρ2, acc, accV, r2, e2, ha, k2⟩
        obtain ⟨h1, h2⟩ := hit r2 e2
        by_cases hlt : i < ds.length
        · obtain ⟨go, yl⟩ := h1 i ds[i] (List.getElem?_eq_getElem hlt)
          rw [List.drop_eq_getElem_cons hlt] at k2
          refine .inr ⟨go, fun H' => ∃ (B : Hp) (ρ : En) (acc : List PyData) (accV : List V), Rep K (Γ.plus D (.lst accV)) B (wipeE ρ vs) (wipe σ vs) H' ∧ Ex B1 B ∧ DpAll K B accV acc ∧ lcL vs g ct ce (ds.drop (i + 1)) ρ acc = .ok accF ρF, fun H' hN => ⟨ds.length - (i + 1), by omega, rfl, hlt, hN⟩, fun x H' hy => ?_⟩
          obtain ⟨B3, e3, r3, q3, _⟩ := yl x H' hy
          unfold lcL at k2
          cases hg' : g ds[i] (wipeE ρ2 vs) with
          | none => rw [hg'] at k2; cases k2
          | some ρ3 =>
            rw [hg'] at k2
            simp only at k2
            refine ⟨Γ.plus D (.lst accV), B3, wipeE ρ2 vs, ρ3, _, r3, q3, hg', fun σ4 r4 d4 => ?_⟩
            have ew : wipe σ4 vs = wipe σ vs := wipe_diff hvs d4
            refine ⟨ew, Γ.plus D (.lst accV), B3, ρ3, r4, ?_⟩
            cases hct : ct ρ3 with
            | exc x ρ5 => rw [hct] at k2; cases k2
            | bad => rw [hct] at k2; cases k2
            | ok s ρ5 =>
              rw [hct] at k2
              cases s with
              | lst l | dic l | obj c fs | hole => cases k2
              | dat d =>
                cases d with
                | none | int _ | str _ | list _ | tuple _ | dict _ => cases k2
                | bool b =>
                  refine ⟨b, rfl, fun B6 H6 e6 r6 => ?_⟩
                  cases b with
                  | false =>
                    refine iteF ⟨B6, ρ5, acc, accV, ?_, (e2.trans e3).trans e6, dpAll_mono (e3.trans e6) ha, k2⟩
                    have := r6.wiped hJ
                    rw [ew] at this
                    exact this
                  | true =>
                    refine iteT ⟨Γ.plus D (.lst accV), B6, ρ5, r6, ?_⟩
                    simp only at k2
                    cases hce : ce ρ5 with
                    | exc x ρ7 => rw [hce] at k2; cases k2
                    | bad => rw [hce] at k2; cases k2
                    | ok s7 ρ7 =>
                      rw [hce] at k2
                      simp only at k2
                      intro y B8 H8 e8 r8 q8
                      obtain ⟨B9, e9, r9, q9⟩ := SRes.data r8 q8
                      have haz := dpAll_mono (e3.trans (e6.trans (e8.trans e9))) ha
                      cases hz : decide (acc.length < sizeLine) with
                      | false => rw [hz] at k2; cases k2
                      | true =>
                        rw [hz, cond_true] at k2
                        refine ⟨accV, r9.fh D _ upd_same, by rw [dpAll_len haz]; exact of_decide_eq_true hz, B9, ρ7, acc ++ [s7.d], accV ++ [y], ?_, (e2.trans e3).trans (e6.trans (e8.trans e9)), dpAll_app haz (.cons q9 .nil), k2⟩
                        have := (r9.wiped hJ).bump (o' := .lst (accV ++ [y]))
                        rw [ew] at this
                        exact this
        · have e : i = ds.length := by omega
          subst e
          rw [List.drop_length] at k2
          have k3 : RA.ok acc ρ2 = .ok accF ρF := k2
          cases k3
          obtain ⟨r9, q9⟩ := Rep.done r1 hD no e2 r2 ha
          exact .inl ⟨h2, k (.ref D) B2 H (e1.trans e2) r9 q9⟩
theorem lc_read {K : KF} {σ : L2.St} {H : Hp} {Q : VK} {vs : List Nat} {wi : TI} (hvs : ∀ i ∈ gs, i ∈ vs) (hJ : ∀ j ∈ W.J, j ∉ vs) (hwi : wi = iZ K xc W cas) (h : tZ K xc W (cLc vs cas g ct ce) σ H Q) :
    tLc wi (gZ K W.J gs g) (tZT K xc (W0 W) ct) (tZ K xc (W0 W) ce) vs σ H Q := by
  subst hwi
  obtain ⟨Γ, B, ρ, rep, k⟩ := h
  exact ⟨Γ, B, ρ, rep, lc_out hvs hJ rep k⟩
theorem all_in {l m : List Nat} (h : (l.all fun i => m.contains i) = true) : ∀ i ∈ l, i ∈ m := fun i hi => List.contains_iff_mem.mp (List.all_eq_true.mp h i hi)
theorem all_out {l m : List Nat} (h : (l.all fun j => !m.contains j) = true) : ∀ j ∈ l, j ∉ m := fun j hj hm => by
  have h1 := List.all_eq_true.mp h j hj
  rw [List.contains_iff_mem.mpr hm] at h1
  cases h1
/-- no condition -/
theorem pts_yes {X : Cx} : PTs X [] (tZT X.kf xc (W0 W) (cK (.bool true))) := by
  refine ⟨fun pins s σ H Q I h => (pts_nil (X := X)).run pins s σ H Q I ?_⟩
  obtain ⟨Γ, B, ρ, rep, b, hb, k⟩ := h
  have e : true = b := by injection hb
  rw [← e] at k
  exact k B H (Ex.refl _) rep
theorem ze_lc (hc : X.calm = true) (hN : X.N.Nodup) (hi : ZI X xc W tg iter cas) (ok : BlkOk X.N X.env.scope scope own) (hvs : (gs.all fun i => (own.map (·.2)).contains i) = true) (hJ : (W.J.all fun j => !(own.map (·.2)).contains j) = true)
    (hg : ∀ (s : Shared) (H : Hp) (C : Addr) (cl : List (Str × Addr)) (fp : List Addr), PG (X.blk s H scope (compEnvC scope cl C X.env) fp) tg (gZ X.kf W.J gs g))
    (ht : ∀ (s : Shared) (H : Hp) (C : Addr) (cl : List (Str × Addr)) (fp : List Addr), PTs (X.blk s H scope (compEnvC scope cl C X.env) fp) ifs (tZT X.kf xc (W0 W) ct))
    (he : ∀ (s : Shared) (H : Hp) (C : Addr) (cl : List (Str × Addr)) (fp : List Addr), PE (X.blk s H scope (compEnvC scope cl C X.env) fp) elt (tZ X.kf xc (W0 W) ce)) (hs : ∀ x, foldedSetIterable iter X.env x = pure x := by intro _; rfl) :
    ZE X xc W (.ListComp elt [⟨tg, iter, ifs, 0⟩] scope pos) (cLc (own.map (·.2)) cas g ct ce) := PE.imp (pe_lc hc hN hi ok hg ht he hs) fun σ H Q h => lc_read (all_in hvs) (all_out hJ) rfl h
/-- name = [..] on one line -/
theorem zs_setLc {i : Nat} {y : Str} {py : Pos} (hc : X.calm = true) (hN : X.N.Nodup) (hy : X.N[i]? = some y) (hyl : X.env.scope.names.lookup y = some .local)
    (hsw : swapsWith (.ListComp elt [⟨tg, iter, ifs, 0⟩] scope pos) (some (.Name y py)) spos.line X.env = pure true) (hi : ZI X xc W tg iter cas) (ok : BlkOk X.N X.env.scope scope own) (hvs : (gs.all fun i => (own.map (·.2)).contains i) = true) (hJ : (W.J.all fun j => !(own.map (·.2)).contains j) = true)
    (hg : ∀ (s : Shared) (H : Hp) (C : Addr) (cl : List (Str × Addr)) (fp : List Addr), PG (X.blk s H scope (compEnvC scope cl C X.env) fp) tg (gZ X.kf W.J gs g))
    (ht : ∀ (s : Shared) (H : Hp) (C : Addr) (cl : List (Str × Addr)) (fp : List Addr), PTs (X.blk s H scope (compEnvC scope cl C X.env) fp) ifs (tZT X.kf xc (W0 W) ct))
    (he : ∀ (s : Shared) (H : Hp) (C : Addr) (cl : List (Str × Addr)) (fp : List Addr), PE (X.blk s H scope (compEnvC scope cl C X.env) fp) elt (tZ X.kf xc (W0 W) ce)) (hJi : W.J.contains i = false := by rfl) (hs : ∀ x, foldedSetIterable iter X.env x = pure x := by intro _; rfl) :
    ZS X xc W (.Assign [.Name y py] (.ListComp elt [⟨tg, iter, ifs, 0⟩] scope pos) spos) (cSet i (cLc (own.map (·.2)) cas g ct ce)) :=
  PS.imp (ps_setLc hc hN hy hyl hsw hi ok hg ht he hs) fun D σ H ⟨Γ, B, ρ, rep, k⟩ => by
    have h : tZ X.kf xc W (cLc (own.map (·.2)) cas g ct ce) σ H fun x H1 => gName i x σ H1 D.nx := tz_bs rep k fun v B' H' s ρ' e1 r1 q1 k1 => k1 B' _ H' (r1.slot i (notin hJi) (q1.drop i))
    exact lc_read (all_in hvs) (all_out hJ) rfl h
end
/-! ### what is read in place -/
section
variable (K : KF) (xc : Str → Value) (W : Ww)
inductive RB where
  | ok (a : Ar) (ρ : En)
  | exc (x : Str) (ρ : En)
  | bad
abbrev CB := En → RB
def outB (Γ : Fm W.J) (B : Hp) (σ : L2.St) (Q : VK) : RB → Prop
  | .ok a ρ' => ∀ v B' H', Ex B B' → Rep K Γ B' ρ' σ H' → ArAt K B' σ v a → Q v H'
  | .exc x ρ' => ∀ B' H', Ex B B' → Rep K Γ B' ρ' σ H' → W.W (xc x) none σ H'
  | .bad => False
def tZB (c : CB) : TE := fun σ H Q => ∃ (Γ : Fm W.J) (B : Hp) (ρ : En), Rep K Γ B ρ σ H ∧ outB K xc W Γ B σ Q (c ρ)
end
def resolve (ρ : En) : Ar → Option PyData
  | .d d => some d
  | .s i _ => match ρ[i]? with
    | some (some s) => bif s.nh then some s.d else none
    | _ => none
  | .t _ => none
def cbN (i : Nat) : CB := fun ρ => match ρ[i]? with
  | some (some _) => .ok (.s i []) ρ
  | _ => .bad
def cbD (c : CE) : CB := fun ρ => match c ρ with
  | .ok s ρ => .ok (.d s.d) ρ
  | .exc x ρ => .exc x ρ
  | .bad => .bad
def RB.bd : RB → (Ar → En → R) → R
  | .ok a ρ, k => k a ρ
  | .exc x ρ, _ => .exc x ρ
  | .bad, _ => .bad
section
variable {X : Cx} {xc : Str → Value} {W : Ww} {a b e : Expr} {es : List Expr} {pos p2 : Pos} {ca ci : CE} {cb : CB} {cas : CA}
abbrev ZB (X : Cx) (xc : Str → Value) (W : Ww) (e : Expr) (c : CB) : Prop := PE X e (tZB X.kf xc W c)
theorem zb_n {i : Nat} (h : PE X e (tVar i)) : ZB X xc W e (cbN i) := PE.imp h fun σ H Q ⟨Γ, B, ρ, rep, k⟩ => by
  unfold cbN at k
  cases hi : ρ[i]? with
  | none => rw [hi] at k; exact k.elim
  | some o =>
    cases o with
    | none => rw [hi] at k; exact k.elim
    | some s =>
      rw [hi] at k
      obtain ⟨v, _, h1, _⟩ := rep.at_ i _ hi
      exact ⟨v, h1, k v B H (Ex.refl _) rep ⟨rfl, h1⟩⟩
theorem zb_d (h : ZE X xc W e ca) : ZB X xc W e (cbD ca) := PE.imp h fun σ H Q ⟨Γ, B, ρ, rep, k⟩ => by
  refine ⟨Γ, B, ρ, rep, ?_⟩
  unfold cbD at k
  cases hc : ca ρ with
  | ok s ρ1 =>
    rw [hc] at k
    intro v B1 H1 e1 r1 q1
    obtain ⟨B2, e2, r2, q2⟩ := SRes.data r1 q1
    exact k v B2 H1 (e1.trans e2) r2 q2
  | exc x ρ1 => rw [hc] at k; exact k
  | bad => rw [hc] at k; exact k
theorem resolve_pk {K : KF} {J : List Nat} {Γ : Fm J} {B B1 : Hp} {ρ : En} {σ : L2.St} {H : Hp} {v : V} {ar : Ar} {d : PyData} (rep : Rep K Γ B ρ σ H) (eb : Ex B1 B) (h : ArAt K B1 σ v ar) (hr : resolve ρ ar = some d) : Pk K B H v d := by
  cases ar with
  | t s => cases hr
  | d d' =>
    cases hr
    exact .of (dp_mono eb h)
  | s i p =>
    unfold resolve at hr
    cases hi : ρ[i]? with
    | none => simp only [hi] at hr; cases hr
    | some o =>
      cases o with
      | none => simp only [hi] at hr; cases hr
      | some s =>
        simp only [hi] at hr
        cases hn : s.nh with
        | false => rw [hn] at hr; cases hr
        | true =>
          rw [hn, cond_true] at hr
          cases hr
          obtain ⟨u, A, h1, h2⟩ := rep.at_ i _ hi
          have ev := some_inj2 (h.2.symm.trans h1)
          subst ev
          exact ⟨Γ.X, s, A, rfl, hn, h2⟩
theorem tzb_bd {K : KF} {Γ : Fm W.J} {B : Hp} {ρ : En} {σ : L2.St} {H : Hp} {k : Ar → En → R} {Q Q' : VK} (rep : Rep K Γ B ρ σ H) (h : outZ K xc W Γ B σ Q ((cb ρ).bd k))
    (next : ∀ v B' H' ar ρ', Ex B B' → Rep K Γ B' ρ' σ H' → ArAt K B' σ v ar → outZ K xc W Γ B' σ Q (k ar ρ') → Q' v H') : tZB K xc W cb σ H Q' := by
  refine ⟨Γ, B, ρ, rep, ?_⟩
  cases hc : cb ρ with
  | ok s ρ1 =>
    rw [hc] at h
    intro v B1 H1 e1 r1 q1
    exact next v B1 H1 s ρ1 e1 r1 q1 (outZ_mono e1 h)
  | exc x ρ1 => rw [hc] at h; exact h
  | bad => rw [hc] at h; exact h
/-- an operation on a thing read in place -/
def cB1 (g : PyData → Option S) (cb : CB) : CE := fun ρ => (cb ρ).bd fun ar ρ => match resolve ρ ar with
  | some d => R.lift (g d) ρ
  | none => .bad
def cB2 (g : PyData → PyData → Option S) (cb : CB) (ci : CE) : CE := fun ρ => (cb ρ).bd fun ar ρ => (ci ρ).bd fun e ρ => match resolve ρ ar with
  | some d => R.lift (g d e) ρ
  | none => .bad
theorem ze_ix {r : R2} {g : PyData → PyData → Option S} (hr : IxR X r) (ho : Op2P X.kf r g) (ha : ZB X xc W a cb) (hb : ZE X xc W b ci) (hs : PlainIx b) : ZE X xc W (.Subscript a b pos) (cB2 g cb ci) :=
  PE.imp (pe_ix hr ha hb hs) fun σ H Q ⟨Γ, B, ρ, rep, k⟩ => tzb_bd rep k fun x B1 H1 ar ρ1 e1 r1 q1 k1 => tz_bd r1 k1 fun y B2 H2 e ρ2 e2 r2 q2 k2 => by
    cases hres : resolve ρ2 ar with
    | none => rw [hres] at k2; exact k2.elim
    | some d =>
      rw [hres] at k2
      obtain ⟨s, hs, af⟩ := out_lift k2
      exact ho W.J Γ B2 ρ2 σ H2 x y d e s Q r2 (resolve_pk r2 e2 q1 hres) q2 hs af
def gIx : PyData → PyData → Option S
  | .list l, .int k => (atI l k).map .dat
  | .tuple l, .int k => (atI l k).map .dat
  | .str z, .int k => bif decide (z.length ≤ sizeLine) then (atI z.cps.toList k).map fun c => .dat (.str ⟨#[c]⟩) else none
  | _, _ => none
theorem dpAll_atI {K : KF} {B : Hp} {xs : List V} {ds : List PyData} (h : DpAll K B xs ds) {k : Int} {d : PyData} (e : atI ds k = some d) : ∃ v, atI xs k = some v ∧ Dp K B v d := by
  unfold atI at e ⊢
  rw [dpAll_len h]
  cases hj : ixN ds.length k with
  | none => rw [hj] at e; cases e
  | some j =>
    rw [hj] at e
    exact dpAll_get h e
theorem op_ix {K : KF} : Op2P K (rIx K.K) gIx := by
  intro J Γ B ρ σ H x y d e s Q rep hx hy hs af
  unfold gIx at hs
  split at hs
  · rename_i l k
    obtain ⟨a, rfl⟩ := hx.refL
    obtain ⟨xs, h1, h2⟩ := hx.list rep
    cases hv : atI l k with
    | none => rw [hv] at hs; cases hs
    | some v =>
      rw [hv] at hs
      cases hs
      obtain ⟨u, g1, g2⟩ := dpAll_atI h2 hv
      exact .inl ⟨a, xs, k, u, rfl, dp_int hy, h1, g1, After.now rep af g2⟩
  · rename_i l k
    obtain ⟨a, xs, rfl, h1, h2⟩ := dp_tup (hx.dp fun l e => by cases e)
    cases hv : atI l k with
    | none => rw [hv] at hs; cases hs
    | some v =>
      rw [hv] at hs
      cases hs
      obtain ⟨u, g1, g2⟩ := dpAll_atI h2 hv
      exact .inr (.inl ⟨a, xs, k, u, rfl, dp_int hy, ex_t rep.bh h1, g1, After.now rep af g2⟩)
  · rename_i z k
    have hz := dp_str (hx.dp fun l e => by cases e)
    cases hd : decide (z.length ≤ sizeLine) with
    | false => rw [hd] at hs; cases hs
    | true =>
      rw [hd, cond_true] at hs
      cases hv : atI z.cps.toList k with
      | none => rw [hv] at hs; cases hs
      | some c =>
        rw [hv] at hs
        cases hs
        exact .inr (.inr ⟨z, k, c, hz, dp_int hy, of_decide_eq_true hd, hv, After.now rep af (.str _)⟩)
  · cases hs
theorem ze_item (ha : ZB X xc W a cb) (hb : ZE X xc W b ci) (hs : PlainIx b) : ZE X xc W (.Subscript a b pos) (cB2 gIx cb ci) := ze_ix ix_seq op_ix ha hb hs
/-! ### slices -/
def R.bo : R → (Int → En → R) → R
  | .ok s ρ, k => match s.d with
    | .int i => k i ρ
    | _ => .bad
  | .exc x ρ, _ => .exc x ρ
  | .bad, _ => .bad
/-- a part of a slice -/
def cOpt (c : Option CE) (k : Option Int → En → R) : CE := fun ρ => match c with
  | none => k none ρ
  | some c => (c ρ).bo fun i ρ => k (some i) ρ
def tZO (K : KF) (xc : Str → Value) (W : Ww) (c : Option CE) : TO := match c with
  | none => tNoPart
  | some c => tPart (tZ K xc W c)
abbrev ZO (X : Cx) (xc : Str → Value) (W : Ww) (e : Option Expr) (c : Option CE) : Prop := PO X e (tZO X.kf xc W c)
theorem zo_none : ZO X xc W none none := po_none
theorem zo_some (h : ZE X xc W e ca) : ZO X xc W (some e) (some ca) := po_some h
theorem tzo {K : KF} {Γ : Fm W.J} {B : Hp} {ρ : En} {σ : L2.St} {H : Hp} {c : Option CE} {k : Option Int → En → R} {Q : VK} {Q' : Option Int → Hp → Prop} (rep : Rep K Γ B ρ σ H) (h : outZ K xc W Γ B σ Q (cOpt c k ρ))
    (next : ∀ o B' H' ρ', Ex B B' → Rep K Γ B' ρ' σ H' → outZ K xc W Γ B' σ Q (k o ρ') → Q' o H') : tZO K xc W c σ H Q' := by
  cases c with
  | none => exact next none B H ρ (Ex.refl _) rep h
  | some c =>
    refine ⟨Γ, B, ρ, rep, ?_⟩
    unfold cOpt at h
    simp only at h
    cases hc : c ρ with
    | ok s ρ1 =>
      rw [hc] at h
      intro v B1 H1 e1 r1 q1
      obtain ⟨B2, e2, r2, q2⟩ := SRes.data r1 q1
      unfold R.bo at h
      simp only at h
      split at h
      · rename_i i hi
        rw [hi] at q2
        exact ⟨i, dp_int q2, next (some i) B2 H1 ρ1 (e1.trans e2) r2 (outZ_mono (e1.trans e2) h)⟩
      · exact h.elim
    | exc x ρ1 => rw [hc] at h; exact h
    | bad => rw [hc] at h; exact h
def cutD {α : Type} (xs : List α) (lo hi : Option Int) : List α := (xs.drop (HT.sIx xs.length 0 lo)).take (HT.sIx xs.length xs.length hi - HT.sIx xs.length 0 lo)
def gSl (d : PyData) (lo hi : Option Int) : Option S := match d with
  | .list l => some (.lst (cutD l lo hi))
  | .tuple l => some (.dat (.tuple (cutD l lo hi)))
  | _ => none
def cSl (g : PyData → Option Int → Option Int → Option S) (cb : CB) (lo hi : Option CE) : CE := fun ρ => (cb ρ).bd fun ar ρ => cOpt lo (fun l ρ => cOpt hi (fun u ρ => match resolve ρ ar with
  | some d => R.lift (g d l u) ρ
  | none => .bad) ρ) ρ
theorem cutV_whole {xs : List V} {lo hi : Option Int} (h : HT.sIx xs.length 0 lo = 0 ∧ HT.sIx xs.length xs.length hi = xs.length) : cutV xs lo hi = xs := by
  unfold cutV
  rw [h.1, h.2]
  simp
theorem ze_slice {lo hi : Option Expr} {cl ch : Option CE} (ha : ZB X xc W a cb) (hl : ZO X xc W lo cl) (hh : ZO X xc W hi ch) : ZE X xc W (.Subscript a (.Slice lo hi none p2) pos) (cSl gSl cb cl ch) :=
  PE.imp (pe_slice (SlR.or sl_list sl_tupA) ha hl hh) fun σ H Q ⟨Γ, B, ρ, rep, k⟩ => tzb_bd rep k fun x B1 H1 ar ρ1 e1 r1 q1 k1 => tzo r1 k1 fun l B2 H2 ρ2 e2 r2 k2 => tzo r2 k2 fun u B3 H3 ρ3 e3 r3 k3 => by
    cases hres : resolve ρ3 ar with
    | none => rw [hres] at k3; exact k3.elim
    | some d =>
      rw [hres] at k3
      obtain ⟨s, hs, af⟩ := out_lift k3
      have pk := resolve_pk r3 (e2.trans e3) q1 hres
      unfold gSl at hs
      split at hs
      · rename_i ds
        cases hs
        obtain ⟨c, rfl⟩ := pk.refL
        obtain ⟨xs, h1, h2⟩ := pk.list r3
        exact .inl ⟨c, xs, rfl, h1, fun p hp => After.lst r3 af (dpAll_cut h2 l u) hp⟩
      · rename_i ds
        cases hs
        obtain ⟨c, xs, rfl, h1, h2⟩ := dp_tup (pk.dp fun l e => by cases e)
        refine .inr ⟨c, xs, rfl, ex_t r3.bh h1, fun hw => ?_, fun hw p hp => After.tup r3 af (dpAll_cut h2 l u) hp⟩
        have h3 := dpAll_cut h2 l u
        rw [cutV_whole hw] at h3
        exact After.now r3 af (.tup h1 h3)
      · cases hs
end
end Z
set_option maxHeartbeats 2000000
/-! Z: operators, built-ins. -/
namespace Z
open PySem PySem.Spec PyProof.Rows L2
open Evl (Ex ex_l ex_t ex_rd)
/-! ### numbers -/
def CFd (_ j : Int) : Prop := j ≠ 0 ∧ j.natAbs.log2 < 9000
instance (i j : Int) : Decidable (CFd i j) := inferInstanceAs (Decidable (_ ∧ _))
instance (i j : Int) : Decidable (CMulW i j) := inferInstanceAs (Decidable (_ < _))
instance (i j : Int) : Decidable (CPow i j) := inferInstanceAs (Decidable (_ ∧ _ ∧ _))
def gAdd : PyData → PyData → Option S
  | .int i, .int j => some (.dat (.int (i + j)))
  | .str a, .str b => bif decide (a.length + b.length ≤ sizeLine) then some (.dat (.str (a ++ b))) else none
  | .tuple a, .tuple b => bif decide (a.length + b.length ≤ sizeLine) then some (.dat (.tuple (a ++ b))) else none
  | .list a, .list b => bif decide (a.length + b.length ≤ sizeLine) then some (.lst (a ++ b)) else none
  | _, _ => none
def gSub : PyData → PyData → Option S
  | .int i, .int j => some (.dat (.int (i - j)))
  | _, _ => none
def gMul : PyData → PyData → Option S
  | .int i, .int j => bif decide (CMulW i j) then some (.dat (.int (i * j))) else none
  | _, _ => none
def gFd : PyData → PyData → Option S
  | .int i, .int j => bif decide (CFd i j) then some (.dat (.int (i.fdiv j))) else none
  | _, _ => none
def gMod : PyData → PyData → Option S
  | .int i, .int j => bif decide (0 < j) then some (.dat (.int (i % j))) else none
  | _, _ => none
def gPow : PyData → PyData → Option S
  | .int i, .int j => bif decide (CPow i j) then some (.dat (.int (i ^ j.toNat))) else none
  | _, _ => none
def gNeg : PyData → Option S
  | .int i => some (.dat (.int (-i)))
  | _ => none
def gLt : PyData → PyData → Option S
  | .int i, .int j => some (.dat (.bool (decide (i < j))))
  | _, _ => none
def gLe : PyData → PyData → Option S
  | .int i, .int j => some (.dat (.bool (decide (i ≤ j))))
  | _, _ => none
def gGt : PyData → PyData → Option S
  | .int i, .int j => some (.dat (.bool (decide (j < i))))
  | _, _ => none
def gGe : PyData → PyData → Option S
  | .int i, .int j => some (.dat (.bool (decide (j ≤ i))))
  | _, _ => none
/-- data that can be compared -/
def shp (d : PyData) : Bool := plain d && SeqAt.shaped d
def gEq (d e : PyData) : Option S := bif shp d && shp e then some (.dat (.bool (PyData.eqv d e))) else none
def gNe (d e : PyData) : Option S := bif shp d && shp e then some (.dat (.bool (!PyData.eqv d e))) else none
def gIn (d e : PyData) : Option S := match e with
  | .list es => bif shp d && shp (.list es) then some (.dat (.bool (es.any fun z => PyData.eqv z d))) else none
  | .tuple es => bif shp d && shp (.tuple es) then some (.dat (.bool (es.any fun z => PyData.eqv z d))) else none
  | .str z => match d with
    | .str c => bif decide (c.length = 1) then some (.dat (.bool (decide (c.cps.getD 0 0 ∈ z.cps.toList)))) else none
    | _ => none
  | _ => none
def gNotIn (d e : PyData) : Option S := match gIn d e with
  | some (.dat (.bool b)) => some (.dat (.bool (!b)))
  | _ => none
def gIs : PyData → PyData → Option S
  | .bool a, .bool b => some (.dat (.bool (decide (a = b))))
  | .none, .none => some (.dat (.bool true))
  | .int _, .none => some (.dat (.bool false))
  | .bool _, .none => some (.dat (.bool false))
  | .str _, .none => some (.dat (.bool false))
  | .list _, .none => some (.dat (.bool false))
  | .tuple _, .none => some (.dat (.bool false))
  | _, _ => none
def gIsN (d e : PyData) : Option S := match e with
  | .bool b => match d with
    | .bool a => some (.dat (.bool (!decide (a = b))))
    | _ => none
  | .none => match gIs d e with
    | some (.dat (.bool b)) => some (.dat (.bool (!b)))
    | _ => none
  | _ => none
section
variable {X : Cx}
theorem op_fdX : OpR X (binaryOp .FloorDiv) (rI CFd fun i j => .int (i.fdiv j)) := opI fun i j _ _ _ _ _ hc q => floordiv_int hc.1 q (.inl (PyProof.noPylong_of_log2 hc.2))
/-- two ints by a rule -/
theorem o2_I {K : KF} {C : Int → Int → Prop} [∀ i j, Decidable (C i j)] {f : Int → Int → V} {g : PyData → PyData → Option S} {h : Int → Int → PyData} (hv : ∀ B i j, Dp K B (f i j) (h i j))
    (hg : ∀ d e s, g d e = some s → ∃ i j, d = .int i ∧ e = .int j ∧ C i j ∧ s = .dat (h i j)) : Op2 K (rI C f) g := by
  intro J Γ B ρ σ H x y d e s Q rep hx hy hs af
  obtain ⟨i, j, rfl, rfl, hc, rfl⟩ := hg d e s hs
  exact ⟨i, j, dp_int hx, dp_int hy, hc, After.now rep af (hv B i j)⟩
theorem o2_I0 {K : KF} {f : Int → Int → V} {g : PyData → PyData → Option S} {h : Int → Int → PyData} (hv : ∀ B i j, Dp K B (f i j) (h i j))
    (hg : ∀ d e s, g d e = some s → ∃ i j, d = .int i ∧ e = .int j ∧ s = .dat (h i j)) : Op2 K (rI0 f) g := by
  intro J Γ B ρ σ H x y d e s Q rep hx hy hs af
  obtain ⟨i, j, rfl, rfl, rfl⟩ := hg d e s hs
  exact ⟨i, j, dp_int hx, dp_int hy, After.now rep af (hv B i j)⟩
theorem bif_some {b : Bool} {α : Type} {x y : α} (h : (bif b then some x else none) = some y) : b = true ∧ x = y := by
  cases b with
  | true => exact ⟨rfl, Option.some.inj h⟩
  | false => cases h
theorem o_sub {K : KF} : Op2 K (rI0 fun i j => .int (i - j)) gSub := o2_I0 (h := fun i j => .int (i - j)) (fun _ _ _ => .int _) fun d e s h => by
  unfold gSub at h
  split at h
  · exact ⟨_, _, rfl, rfl, (Option.some.inj h).symm⟩
  · cases h
theorem o_mul {K : KF} : Op2 K (rI CMulW fun i j => .int (i * j)) gMul := o2_I (h := fun i j => .int (i * j)) (fun _ _ _ => .int _) fun d e s h => by
  unfold gMul at h
  split at h
  · obtain ⟨h1, h2⟩ := bif_some h
    exact ⟨_, _, rfl, rfl, of_decide_eq_true h1, h2.symm⟩
  · cases h
theorem o_fd {K : KF} : Op2 K (rI CFd fun i j => .int (i.fdiv j)) gFd := o2_I (h := fun i j => .int (i.fdiv j)) (fun _ _ _ => .int _) fun d e s h => by
  unfold gFd at h
  split at h
  · obtain ⟨h1, h2⟩ := bif_some h
    exact ⟨_, _, rfl, rfl, of_decide_eq_true h1, h2.symm⟩
  · cases h
theorem o_mod {K : KF} : Op2 K (rI (fun _ j => 0 < j) fun i j => .int (i % j)) gMod := o2_I (h := fun i j => .int (i % j)) (fun _ _ _ => .int _) fun d e s h => by
  unfold gMod at h
  split at h
  · obtain ⟨h1, h2⟩ := bif_some h
    exact ⟨_, _, rfl, rfl, of_decide_eq_true h1, h2.symm⟩
  · cases h
theorem o_pow {K : KF} : Op2 K (rI CPow fun i j => .int (i ^ j.toNat)) gPow := o2_I (h := fun i j => .int (i ^ j.toNat)) (fun _ _ _ => .int _) fun d e s h => by
  unfold gPow at h
  split at h
  · obtain ⟨h1, h2⟩ := bif_some h
    exact ⟨_, _, rfl, rfl, of_decide_eq_true h1, h2.symm⟩
  · cases h
theorem o_lt {K : KF} : Op2 K (rI0 fun i j => .bl (decide (i < j))) gLt := o2_I0 (h := fun i j => .bool (decide (i < j))) (fun _ _ _ => .bl _) fun d e s h => by
  unfold gLt at h
  split at h
  · exact ⟨_, _, rfl, rfl, (Option.some.inj h).symm⟩
  · cases h
theorem o_le {K : KF} : Op2 K (rI0 fun i j => .bl (decide (i ≤ j))) gLe := o2_I0 (h := fun i j => .bool (decide (i ≤ j))) (fun _ _ _ => .bl _) fun d e s h => by
  unfold gLe at h
  split at h
  · exact ⟨_, _, rfl, rfl, (Option.some.inj h).symm⟩
  · cases h
theorem o_gt {K : KF} : Op2 K (rI0 fun i j => .bl (decide (j < i))) gGt := o2_I0 (h := fun i j => .bool (decide (j < i))) (fun _ _ _ => .bl _) fun d e s h => by
  unfold gGt at h
  split at h
  · exact ⟨_, _, rfl, rfl, (Option.some.inj h).symm⟩
  · cases h
theorem o_ge {K : KF} : Op2 K (rI0 fun i j => .bl (decide (j ≤ i))) gGe := o2_I0 (h := fun i j => .bool (decide (j ≤ i))) (fun _ _ _ => .bl _) fun d e s h => by
  unfold gGe at h
  split at h
  · exact ⟨_, _, rfl, rfl, (Option.some.inj h).symm⟩
  · cases h
theorem o_neg {K : KF} : Op1 K (rU fun i => .int (-i)) gNeg := by
  intro J Γ B ρ σ H x d s Q rep hx hs af
  unfold gNeg at hs
  split at hs
  · rename_i i
    cases hs
    exact ⟨i, dp_int hx, After.now rep af (.int _)⟩
  · cases hs
/-! ### + -/
def rCatL (K : PySem.W.Frag) : R2 := fun x y H Q => ∃ l b xs zs, x = .ref l ∧ y = .ref b ∧ L2.SqL K H l xs ∧ L2.SqL K H b zs ∧ xs.length + zs.length ≤ sizeLine ∧ ∀ p, H p = none → Q (.ref p) (upd H p (.lst (xs ++ zs)))
theorem op_catL : OpR X (binaryOp .Add) (rCatL X.K) := by
  intro pins s σ H x y v u Q I rx ry h
  obtain ⟨l, b, xs, zs, rfl, rfl, hH, hB, hz, q⟩ := h
  cases rx
  cases ry
  obtain ⟨its, r, pl, hl⟩ := I.list hH
  obtain ⟨its2, r2, pl2, hl2⟩ := I.list hB
  obtain ⟨⟨cls, dd, data, sl⟩, ho, hc, n, hd⟩ := id pl.isList
  obtain ⟨⟨cls2, dd2, data2, sl2⟩, ho2, hc2, n2, hd2⟩ := id pl2.isList
  simp only at hc hd hc2 hd2
  subst hc hd hc2 hd2
  have e : its.toArray ++ its2.toArray = (its ++ its2).toArray := by simp
  have e1 := r.length
  have e2 := r2.length
  refine PySem.concat_meets ⟨_, ho, rfl⟩ ⟨_, ho2, rfl⟩ PySem.noFill_list_add PySem.seq_list_add PySem.F.slot_list_add PySem.F.entry_list_add (PySem.F.args_list_add_2 _ _)
    (PyProof.Rows.list_addW l b its.toArray its2.toArray n n2 dd dd2 sl sl2 (by rw [List.size_toArray, List.size_toArray]; omega)) ⟨ho, ho2, ?_⟩
  rw [e]
  exact ⟨.ref _, _, I.lnew (t' := s.toks) (r.append r2) (by rw [List.length_append]; omega), rfl, q _ I.fresh⟩
abbrev rAddI : R2 := rI0 fun i j => .int (i + j)
abbrev rAddS : R2 := fun x y H Q => ∃ i j, x = .str i ∧ y = .str j ∧ i.length + j.length ≤ sizeLine ∧ Q (.str (i ++ j)) H
abbrev rAddZ (K : PySem.W.Frag) : R2 := fun x y H Q => rAddI x y H Q ∨ (rAddS x y H Q ∨ (rCatA K x y H Q ∨ rCatL K x y H Q))
theorem op_addZ : OpR X (binaryOp .Add) (rAddZ X.K) := OpR.or op_add (OpR.or op_add_str (OpR.or op_catA op_catL))
theorem o_add {K : KF} : Op2 K (rAddZ K.K) gAdd := by
  intro J Γ B ρ σ H x y d e s Q rep hx hy hs af
  unfold gAdd at hs
  split at hs
  · rename_i i j
    cases hs
    exact .inl ⟨i, j, dp_int hx, dp_int hy, After.now rep af (.int _)⟩
  · rename_i a b
    obtain ⟨h1, h2⟩ := bif_some hs
    subst h2
    exact .inr (.inl ⟨a, b, dp_str hx, dp_str hy, of_decide_eq_true h1, After.now rep af (.str _)⟩)
  · rename_i a b
    obtain ⟨h1, h2⟩ := bif_some hs
    subst h2
    obtain ⟨l, xs, rfl, k1, k2⟩ := dp_tup hx
    obtain ⟨m, ys, rfl, j1, j2⟩ := dp_tup hy
    have e1 := dpAll_len k2
    have e2 := dpAll_len j2
    refine .inr (.inr (.inl ⟨l, m, xs, ys, rfl, rfl, ex_t rep.bh k1, ex_t rep.bh j1, by rw [e1, e2]; exact of_decide_eq_true h1, fun e => ?_, fun _ e => ?_, fun _ _ p hp => After.tup rep af (dpAll_app k2 j2) hp⟩))
    · subst e
      cases k2
      exact After.now rep af hy
    · subst e
      cases j2
      rw [List.append_nil] at af
      exact After.now rep af hx
  · rename_i a b
    obtain ⟨h1, h2⟩ := bif_some hs
    subst h2
    obtain ⟨l, xs, rfl, k1, k2⟩ := dp_list hx
    obtain ⟨m, ys, rfl, j1, j2⟩ := dp_list hy
    exact .inr (.inr (.inr ⟨l, m, xs, ys, rfl, rfl, ex_l rep.bh k1, ex_l rep.bh j1, by rw [dpAll_len k2, dpAll_len j2]; exact of_decide_eq_true h1, fun p hp => After.lst rep af (dpAll_app k2 j2) hp⟩))
  · cases hs
/-! ### ==, in, is -/
theorem o_eq {K : KF} : Op2 K (rEqD K.K) gEq := by
  intro J Γ B ρ σ H x y d e s Q rep hx hy hs af
  obtain ⟨h1, h2⟩ := bif_some hs
  subst h2
  have h3 := Bool.and_eq_true_iff.mp h1
  have p1 := Bool.and_eq_true_iff.mp h3.1
  have p2 := Bool.and_eq_true_iff.mp h3.2
  exact ⟨d, e, plain_dp (dp_mono rep.bh hx) p1.1, plain_dp (dp_mono rep.bh hy) p2.1, p1.2, p2.2, After.now rep af (.bl _)⟩
theorem o_ne {K : KF} : Op2 K (rNeD K.K) gNe := by
  intro J Γ B ρ σ H x y d e s Q rep hx hy hs af
  obtain ⟨h1, h2⟩ := bif_some hs
  subst h2
  have h3 := Bool.and_eq_true_iff.mp h1
  have p1 := Bool.and_eq_true_iff.mp h3.1
  have p2 := Bool.and_eq_true_iff.mp h3.2
  exact ⟨d, e, plain_dp (dp_mono rep.bh hx) p1.1, plain_dp (dp_mono rep.bh hy) p2.1, p1.2, p2.2, After.now rep af (.bl _)⟩
def rInT (K : PySem.W.Frag) : R2 := fun x y H Q => ∃ d ds, L2.Dp K H x d ∧ L2.Dp K H y (.tuple ds) ∧ SeqAt.shaped d = true ∧ SeqAt.shaped (.tuple ds) = true ∧ Q (.bl (ds.any fun z => PyData.eqv z d)) H
def rNotInT (K : PySem.W.Frag) : R2 := fun x y H Q => ∃ d ds, L2.Dp K H x d ∧ L2.Dp K H y (.tuple ds) ∧ SeqAt.shaped d = true ∧ SeqAt.shaped (.tuple ds) = true ∧ Q (.bl (!ds.any fun z => PyData.eqv z d)) H
theorem op_inT (hu : X.A.units + 65 < cLine) : OpR X (compareOp .In) (rInT X.K) := by
  intro pins s σ H x y v u Q I rx ry h
  obtain ⟨d, ds, hd, he, sd, se, q⟩ := h
  obtain ⟨as, r1⟩ := L2.Dp.reads I d x v hd rx
  obtain ⟨bs, r2⟩ := L2.Dp.reads I (.tuple ds) y u he ry
  exact SeqAt.in_tuple_reads r2 r1 (SeqAt.canLay_of_shaped se) (SeqAt.canLay_of_shaped sd) (room_in_shaped sd hu) ⟨.bl _, H, I, rfl, q⟩
theorem op_notInT (hu : X.A.units + 65 < cLine) : OpR X (compareOp .NotIn) (rNotInT X.K) := by
  intro pins s σ H x y v u Q I rx ry h
  obtain ⟨d, ds, hd, he, sd, se, q⟩ := h
  obtain ⟨as, r1⟩ := L2.Dp.reads I d x v hd rx
  obtain ⟨bs, r2⟩ := L2.Dp.reads I (.tuple ds) y u he ry
  exact SeqAt.notIn_tuple_reads r2 r1 (SeqAt.canLay_of_shaped se) (SeqAt.canLay_of_shaped sd) (room_in_shaped sd hu) ⟨.bl _, H, I, rfl, q⟩
abbrev rInC : R2 := fun x y H Q => ∃ (c : Nat) (z : Str), x = .str ⟨#[c]⟩ ∧ y = .str z ∧ Q (.bl (decide (c ∈ z.cps.toList))) H
abbrev rNotInC : R2 := fun x y H Q => ∃ (c : Nat) (z : Str), x = .str ⟨#[c]⟩ ∧ y = .str z ∧ Q (.bl (!decide (c ∈ z.cps.toList))) H
abbrev rInZ (K : PySem.W.Frag) : R2 := fun x y H Q => rInD K x y H Q ∨ (rInT K x y H Q ∨ rInC x y H Q)
abbrev rNotInZ (K : PySem.W.Frag) : R2 := fun x y H Q => rNotInD K x y H Q ∨ (rNotInT K x y H Q ∨ rNotInC x y H Q)
theorem op_inZ (hu : X.A.units + 65 < cLine) : OpR X (compareOp .In) (rInZ X.K) := OpR.or (op_inD hu) (OpR.or (op_inT hu) op_in_sign)
theorem op_notInZ (hu : X.A.units + 65 < cLine) : OpR X (compareOp .NotIn) (rNotInZ X.K) := OpR.or (op_notInD hu) (OpR.or (op_notInT hu) op_notIn_sign)
theorem one_sign {c : Str} (h : c.length = 1) : c = ⟨#[c.cps.getD 0 0]⟩ := by
  obtain ⟨⟨l⟩⟩ := c
  have h' : l.length = 1 := h
  match l, h' with
  | [a], _ => rfl
theorem o_in {K : KF} : Op2 K (rInZ K.K) gIn := by
  intro J Γ B ρ σ H x y d e s Q rep hx hy hs af
  unfold gIn at hs
  split at hs
  · rename_i es
    obtain ⟨h1, h2⟩ := bif_some hs
    subst h2
    have h3 := Bool.and_eq_true_iff.mp h1
    have p1 := Bool.and_eq_true_iff.mp h3.1
    have p2 := Bool.and_eq_true_iff.mp h3.2
    exact .inl ⟨d, es, plain_dp (dp_mono rep.bh hx) p1.1, plain_dp (dp_mono rep.bh hy) p2.1, p1.2, p2.2, After.now rep af (.bl _)⟩
  · rename_i es
    obtain ⟨h1, h2⟩ := bif_some hs
    subst h2
    have h3 := Bool.and_eq_true_iff.mp h1
    have p1 := Bool.and_eq_true_iff.mp h3.1
    have p2 := Bool.and_eq_true_iff.mp h3.2
    exact .inr (.inl ⟨d, es, plain_dp (dp_mono rep.bh hx) p1.1, plain_dp (dp_mono rep.bh hy) p2.1, p1.2, p2.2, After.now rep af (.bl _)⟩)
  · rename_i z
    split at hs
    · rename_i c
      obtain ⟨h1, h2⟩ := bif_some hs
      subst h2
      exact .inr (.inr ⟨c.cps.getD 0 0, z, by rw [dp_str hx, ← one_sign (of_decide_eq_true h1)], dp_str hy, After.now rep af (.bl _)⟩)
    · cases hs
  · cases hs
theorem o_notIn {K : KF} : Op2 K (rNotInZ K.K) gNotIn := by
  intro J Γ B ρ σ H x y d e s Q rep hx hy hs af
  unfold gNotIn at hs
  split at hs
  · rename_i b hb
    cases hs
    unfold gIn at hb
    split at hb
    · rename_i es
      obtain ⟨h1, h2⟩ := bif_some hb
      cases h2
      have h3 := Bool.and_eq_true_iff.mp h1
      have p1 := Bool.and_eq_true_iff.mp h3.1
      have p2 := Bool.and_eq_true_iff.mp h3.2
      exact .inl ⟨d, es, plain_dp (dp_mono rep.bh hx) p1.1, plain_dp (dp_mono rep.bh hy) p2.1, p1.2, p2.2, After.now rep af (.bl _)⟩
    · rename_i es
      obtain ⟨h1, h2⟩ := bif_some hb
      cases h2
      have h3 := Bool.and_eq_true_iff.mp h1
      have p1 := Bool.and_eq_true_iff.mp h3.1
      have p2 := Bool.and_eq_true_iff.mp h3.2
      exact .inr (.inl ⟨d, es, plain_dp (dp_mono rep.bh hx) p1.1, plain_dp (dp_mono rep.bh hy) p2.1, p1.2, p2.2, After.now rep af (.bl _)⟩)
    · rename_i z
      split at hb
      · rename_i c
        obtain ⟨h1, h2⟩ := bif_some hb
        cases h2
        exact .inr (.inr ⟨c.cps.getD 0 0, z, by rw [dp_str hx, ← one_sign (of_decide_eq_true h1)], dp_str hy, After.now rep af (.bl _)⟩)
      · cases hb
    · cases hb
  · cases hs
abbrev rIsNn : R2 := fun x y H Q => y = .non ∧ Q (.bl (decide (x = .non))) H
abbrev rIsNnN : R2 := fun x y H Q => y = .non ∧ Q (.bl (!decide (x = .non))) H
theorem op_isZ : OpR X (compareOp .Is) (fun x y H Q => rIsNn x y H Q ∨ rIsB x y H Q) := OpR.or op_isN op_isBl
theorem o_is {K : KF} : Op2 K (fun x y H Q => rIsNn x y H Q ∨ rIsB x y H Q) gIs := by
  intro J Γ B ρ σ H x y d e s Q rep hx hy hs af
  unfold gIs at hs
  split at hs
  · rename_i a b
    cases hs
    exact .inr ⟨a, b, dp_bool hx, dp_bool hy, After.now rep af (.bl _)⟩
  · cases hs
    exact .inl ⟨dp_none hy, by rw [dp_none hx]; exact After.now rep af (.bl _)⟩
  · cases hs
    exact .inl ⟨dp_none hy, by rw [dp_int hx]; exact After.now rep af (.bl _)⟩
  · cases hs
    exact .inl ⟨dp_none hy, by rw [dp_bool hx]; exact After.now rep af (.bl _)⟩
  · cases hs
    exact .inl ⟨dp_none hy, by rw [dp_str hx]; exact After.now rep af (.bl _)⟩
  · cases hs
    obtain ⟨a, xs, rfl, _⟩ := dp_list hx
    exact .inl ⟨dp_none hy, After.now rep af (.bl _)⟩
  · cases hs
    obtain ⟨a, xs, rfl, _⟩ := dp_tup hx
    exact .inl ⟨dp_none hy, After.now rep af (.bl _)⟩
  · cases hs
theorem op_notZ : OpR X (compareOp .IsNot) (fun x y H Q => rIsNnN x y H Q ∨ rNotB x y H Q) := OpR.or op_notN op_notBl
theorem o_isN {K : KF} : Op2 K (fun x y H Q => rIsNnN x y H Q ∨ rNotB x y H Q) gIsN := by
  intro J Γ B ρ σ H x y d e s Q rep hx hy hs af
  unfold gIsN at hs
  split at hs
  · split at hs
    · cases hs
      exact .inr ⟨_, _, dp_bool hx, dp_bool hy, After.now rep af (.bl _)⟩
    · cases hs
  · refine .inl ⟨dp_none hy, ?_⟩
    cases d with
    | none =>
      cases hs
      rw [dp_none hx]
      exact After.now rep af (.bl _)
    | bool b =>
      cases hs
      rw [dp_bool hx]
      exact After.now rep af (.bl _)
    | int b =>
      cases hs
      rw [dp_int hx]
      exact After.now rep af (.bl _)
    | str b =>
      cases hs
      rw [dp_str hx]
      exact After.now rep af (.bl _)
    | list l =>
      cases hs
      obtain ⟨a, xs, rfl, _⟩ := dp_list hx
      exact After.now rep af (.bl _)
    | tuple l =>
      cases hs
      obtain ⟨a, xs, rfl, _⟩ := dp_tup hx
      exact After.now rep af (.bl _)
    | dict _ => cases hs
  · cases hs
end
/-! ### chains of two comparisons -/
section
variable {X : Cx} {xc : Str → Value} {W : Ww} {a b c e : Expr} {es : List Expr} {pos p : Pos} {ca cb' cc : CE} {cas : CA}
def cChain (g1 g2 : PyData → PyData → Option S) (ca cb cc : CE) : CE := fun ρ => (ca ρ).bd fun d ρ => (cb ρ).bd fun e ρ => (R.lift (g1 d e) ρ).bd fun t ρ => match t with
  | .bool true => (cc ρ).bd fun f ρ => R.lift (g2 e f) ρ
  | .bool false => .ok (.dat (.bool false)) ρ
  | _ => .bad
theorem tz_chain {K : KF} {r1 r2 : R2} {g1 g2 : PyData → PyData → Option S} (h1 : Op2 K r1 g1) (h2 : Op2 K r2 g2) {σ : L2.St} {H : Hp} {Q : VK} (h : tZ K xc W (cChain g1 g2 ca cb' cc) σ H Q) : tChain r1 r2 (tZ K xc W ca) (tZ K xc W cb') (tZ K xc W cc) σ H Q := by
  obtain ⟨Γ, B, ρ, rep, k⟩ := h
  refine tz_bd rep k fun x B1 H1 d ρ1 e1 r1' q1 k1 => ?_
  refine tz_bd r1' k1 fun y B2 H2 e ρ2 e2 r2' q2 k2 => ?_
  cases hg : g1 d e with
  | none => rw [hg] at k2; exact k2.elim
  | some s =>
    rw [hg] at k2
    have k3 : outZ K xc W Γ B2 σ Q (match s.d with
      | .bool true => (cc ρ2).bd fun f ρ => R.lift (g2 e f) ρ
      | .bool false => .ok (.dat (.bool false)) ρ2
      | _ => .bad) := k2
    refine h1 W.J Γ B2 ρ2 σ H2 x y d e s _ r2' (dp_mono e2 q1) q2 hg fun z B3 H3 e3 r3 q3 => ?_
    cases s with
    | lst l | dic l | obj c fs | hole => exact k3.elim
    | dat t =>
      cases t with
      | none | int _ | str _ | list _ | tuple _ | dict _ => exact k3.elim
      | bool t =>
        refine ⟨t, dp_bool q3.dp, ?_⟩
        cases t with
        | false => exact iteF (k3 _ B3 H3 e3 r3 (sres_dat (.bl _)))
        | true =>
          refine iteT (tz_bd r3 (outZ_mono e3 k3) fun w B4 H4 f ρ4 e4 r4 q4 k4 => ?_)
          obtain ⟨s', hs', af⟩ := out_lift k4
          exact h2 W.J Γ B4 ρ4 σ H4 y w e f s' Q r4 (dp_mono (e3.trans e4) q2) q4 hs' af
theorem ze_chain {op op' : CmpOp} {r r' : R2} {g g' : PyData → PyData → Option S} (ho : OpR X (compareOp op) r) (ho' : OpR X (compareOp op') r') (hg : Op2 X.kf r g) (hg' : Op2 X.kf r' g') (ha : ZE X xc W a ca) (hb : ZE X xc W b cb') (hc : ZE X xc W c cc)
    (hm : lastMarks [op, op'] [b, c] = false := by with_unfolding_all rfl) : ZE X xc W (.Compare a [op, op'] [b, c] pos) (cChain g g' ca cb' cc) :=
  PE.imp (pe_chain ho ho' ha hb hc hm) fun _ _ _ h => tz_chain hg hg' h
theorem zt_chain {op op' : CmpOp} {r r' : R2} {g g' : PyData → PyData → Option S} (ho : OpR X (compareOp op) r) (ho' : OpR X (compareOp op') r') (hg : Op2 X.kf r g) (hg' : Op2 X.kf r' g') (ha : ZE X xc W a ca) (hb : ZE X xc W b cb') (hc : ZE X xc W c cc)
    (hm : lastMarks [op, op'] [b, c] = false := by with_unfolding_all rfl) : ZT X xc W (.Compare a [op, op'] [b, c] pos) (cChain g g' ca cb' cc) :=
  PT.imp (pt_chain ho ho' ha hb hc hm) fun _ _ _ h => tz_chain hg hg' (tzt_of h)
/-! ### built-ins -/
theorem tz_N {K : KF} {r : List V → Hp → VK → Prop} {g : List PyData → Option S} (hr : OpN K r g) {σ : L2.St} {H : Hp} {Q : VK} (h : tZ K xc W (cN g cas) σ H Q) : tCB r (tZA K xc W cas) σ H Q := by
  obtain ⟨Γ, B, ρ, rep, k⟩ := h
  refine tza_bd rep k fun xs B1 H1 ds ρ1 e1 r1 q1 k1 => ?_
  obtain ⟨s, hs, af⟩ := out_lift k1
  exact hr W.J Γ B1 ρ1 σ H1 xs ds s Q r1 q1 hs af
theorem ze_callB {x : Str} {id : String} {r : List V → Hp → VK → Prop} {g : List PyData → Option S} (hc : CallR X (.builtin id) r) (hr : OpN X.kf r g) (hm : X.mg x = none) (hv : bootBuiltins x = some (.builtin id)) (ha : ZA X xc W (e :: es) cas) (hg : Gl X x := by rfl) (hn : x ≠ "__name__" := by decide) (hdb : (x == ("__debug__" : Str)) = false := by decide)
    (he : starEach (e :: es) X.env = (false, eval e X.env) :: starEach es X.env := by rfl) (hpl : (backTo pos (starEach es X.env)).any (·.1) = false := by rfl) : ZE X xc W (.Call (.Name x p) (e :: es) [] pos) (cN g cas) :=
  PE.imp (pe_callB hc hg hm hv ha.run hn hdb he hpl) fun _ _ _ h => tz_N hr h
theorem ze_callT {x : Str} {T : String} {r : List V → Hp → VK → Prop} {g : List PyData → Option S} (hc : CallR X (.type T) r) (hr : OpN X.kf r g) (hm : X.mg x = none) (hv : bootBuiltins x = some (.type T)) (ha : ZA X xc W (e :: es) cas) (hg : Gl X x := by rfl) (hn : x ≠ "__name__" := by decide) (hdb : (x == ("__debug__" : Str)) = false := by decide)
    (he : starEach (e :: es) X.env = (false, eval e X.env) :: starEach es X.env := by rfl) (hpl : (backTo pos (starEach es X.env)).any (·.1) = false := by rfl) : ZE X xc W (.Call (.Name x p) (e :: es) [] pos) (cN g cas) :=
  PE.imp (pe_callTy hc hg hm hv ha.run hn hdb he hpl) fun _ _ _ h => tz_N hr h
theorem ze_callM {x : Str} {id : String} {r : List V → Hp → VK → Prop} {g : List PyData → Option S} (hc : CallR X (.builtin id) r) (hr : OpN X.kf r g) (hm : X.mg x = some (.builtin id)) (ha : ZA X xc W (e :: es) cas) (hg : Gl X x := by rfl) (hdb : (x == ("__debug__" : Str)) = false := by decide)
    (he : starEach (e :: es) X.env = (false, eval e X.env) :: starEach es X.env := by rfl) (hpl : (backTo pos (starEach es X.env)).any (·.1) = false := by rfl) : ZE X xc W (.Call (.Name x p) (e :: es) [] pos) (cN g cas) :=
  PE.imp (pe_callBfun hc hg hm ha.run hdb he hpl) fun _ _ _ h => tz_N hr h
/-- len, in place -/
def gLen : PyData → Option S
  | .list l => some (.dat (.int l.length))
  | .tuple l => some (.dat (.int l.length))
  | .str z => bif decide (z.length ≤ sizeLine) then some (.dat (.int z.length)) else none
  | _ => none
theorem ze_len {cbb : CB} (hm : X.mg "len" = none) (ha : ZB X xc W e cbb) (hg : Gl X "len" := by rfl)
    (he : starEach [e] X.env = (false, eval e X.env) :: starEach [] X.env := by rfl) (hpl : (backTo pos (starEach [] X.env)).any (·.1) = false := by rfl) : ZE X xc W (.Call (.Name "len" p) [e] [] pos) (cB1 gLen cbb) :=
  PE.imp (pe_callB call_len hg hm PySem.boot_len (pa_cons ha pa_nil he) (by decide) (by decide) he hpl) fun σ H Q ⟨Γ, B, ρ, rep, k⟩ => tzb_bd rep k fun x B1 H1 ar ρ1 e1 r1 q1 k1 => by
    cases hres : resolve ρ1 ar with
    | none => rw [hres] at k1; exact k1.elim
    | some d =>
      rw [hres] at k1
      obtain ⟨s, hs, af⟩ := out_lift k1
      have pk := resolve_pk r1 (Ex.refl _) q1 hres
      show ∃ y n, [x] = [y] ∧ LenV X.K y H1 n ∧ Q (.int n) H1
      unfold gLen at hs
      split at hs
      · cases hs
        obtain ⟨c, rfl⟩ := pk.refL
        obtain ⟨xs, h1, h2⟩ := pk.list r1
        refine ⟨.ref c, xs.length, rfl, .inl ⟨xs, h1, rfl⟩, ?_⟩
        rw [dpAll_len h2]
        exact After.now r1 af (.int _)
      · cases hs
        obtain ⟨c, xs, rfl, h1, h2⟩ := dp_tup (pk.dp fun l e => by cases e)
        refine ⟨.ref c, xs.length, rfl, .inr ⟨xs, ex_t r1.bh h1, rfl⟩, ?_⟩
        rw [dpAll_len h2]
        exact After.now r1 af (.int _)
      · rename_i z
        obtain ⟨h1, h2⟩ := bif_some hs
        subst h2
        rw [dp_str (pk.dp fun l e => by cases e)]
        exact ⟨.str z, z.length, rfl, ⟨of_decide_eq_true h1, rfl⟩, After.now r1 af (.int _)⟩
      · cases hs
/-- the truth of a thing read in place -/
theorem zt_truthB {cbb : CB} (ha : ZB X xc W a cbb) (he : ∀ whole, isTrue a X.env whole = (do let v ← whole; standAt a.pos; holding [v] (truthy v))) : ZT X xc W a (cB1 gTru cbb) :=
  PT.imp (pt_truth ha he) fun σ H Q ⟨Γ, B, ρ, rep, k⟩ => by
    refine ⟨Γ, B, ρ, rep, ?_⟩
    unfold cB1 at k
    cases hc : cbb ρ with
    | exc x ρ1 => rw [hc] at k; exact k
    | bad => rw [hc] at k; exact k
    | ok ar ρ1 =>
      rw [hc] at k
      intro x B1 H1 e1 r1 q1
      have k1 : outT X.kf xc W Γ B σ Q (match resolve ρ1 ar with
        | some d => R.lift (gTru d) ρ1
        | none => .bad) := k
      cases hres : resolve ρ1 ar with
      | none => rw [hres] at k1; exact k1.elim
      | some d =>
        rw [hres] at k1
        have pk := resolve_pk r1 (Ex.refl _) q1 hres
        cases d with
        | none =>
          obtain ⟨b, hb, k2⟩ := k1
          have e : false = b := by injection hb
          rw [dp_none (pk.dp fun l e => by cases e)]
          exact ⟨b, by rw [← e]; rfl, k2 B1 H1 e1 r1⟩
        | bool t =>
          obtain ⟨b, hb, k2⟩ := k1
          have e : t = b := by injection hb
          rw [dp_bool (pk.dp fun l e => by cases e)]
          exact ⟨b, by rw [← e]; rfl, k2 B1 H1 e1 r1⟩
        | int t =>
          obtain ⟨b, hb, k2⟩ := k1
          have e : (t != 0) = b := by injection hb
          rw [dp_int (pk.dp fun l e => by cases e)]
          exact ⟨b, by rw [← e]; rfl, k2 B1 H1 e1 r1⟩
        | str t =>
          unfold gTru at k1
          by_cases hz : t.length ≤ sizeLine
          · simp only [if_pos hz] at k1
            obtain ⟨b, hb, k2⟩ := k1
            have e : ((t.length : Int) != 0) = b := by injection hb
            rw [dp_str (pk.dp fun l e => by cases e)]
            exact ⟨b, ⟨hz, by rw [← e]⟩, k2 B1 H1 e1 r1⟩
          · simp only [if_neg hz] at k1
            exact k1.elim
        | list l =>
          obtain ⟨b, hb, k2⟩ := k1
          have e : (!l.isEmpty) = b := by injection hb
          obtain ⟨c, rfl⟩ := pk.refL
          obtain ⟨xs, h1, h2⟩ := pk.list r1
          exact ⟨b, .inl ⟨xs, h1, by rw [← e, isEmpty_len (dpAll_len h2)]⟩, k2 B1 H1 e1 r1⟩
        | tuple l =>
          obtain ⟨b, hb, k2⟩ := k1
          have e : (!l.isEmpty) = b := by injection hb
          obtain ⟨c, xs, rfl, h1, h2⟩ := dp_tup (pk.dp fun l e => by cases e)
          exact ⟨b, .inr (.inl ⟨xs, ex_t r1.bh h1, by rw [← e, isEmpty_len (dpAll_len h2)]⟩), k2 B1 H1 e1 r1⟩
        | dict _ => exact k1.elim
def gAbs : List PyData → Option S
  | [.int i] => some (.dat (.int (if i < 0 then -i else i)))
  | _ => none
def gInt : List PyData → Option S
  | [.int i] => some (.dat (.int i))
  | [.bool b] => some (.dat (.int (if b then 1 else 0)))
  | _ => none
def gMax2 : List PyData → Option S
  | [.int i, .int j] => some (.dat (.int (if j > i then j else i)))
  | _ => none
def gMin2 : List PyData → Option S
  | [.int i, .int j] => some (.dat (.int (if j < i then j else i)))
  | _ => none
def gGcd : List PyData → Option S
  | [.int i, .int j] => some (.dat (.int ((Nat.gcd i.natAbs j.natAbs : Nat) : Int)))
  | _ => none
def gList : List PyData → Option S
  | [.list l] => some (.lst l)
  | [.tuple l] => some (.lst l)
  | _ => none
def gTuple : List PyData → Option S
  | [.list l] => some (.dat (.tuple l))
  | [.tuple l] => some (.dat (.tuple l))
  | _ => none
def boolsOf : List PyData → Option (List Bool)
  | [] => some []
  | .bool b :: ds => (boolsOf ds).map (b :: ·)
  | _ => none
def gAll : List PyData → Option S
  | [.list l] => (boolsOf l).map fun bs => .dat (.bool (bs.all id))
  | _ => none
def gAny : List PyData → Option S
  | [.list l] => (boolsOf l).map fun bs => .dat (.bool (bs.any id))
  | _ => none
theorem boolsOf_map : ∀ {l : List PyData} {bs : List Bool}, boolsOf l = some bs → l = bs.map PyData.bool
  | [], bs, h => by cases h; rfl
  | .bool b :: ds, bs, h => by
    unfold boolsOf at h
    cases e : boolsOf ds with
    | none => rw [e] at h; cases h
    | some r =>
      rw [e] at h
      cases h
      rw [boolsOf_map e]
      rfl
  | .none :: _, _, h => by cases h
  | .int _ :: _, _, h => by cases h
  | .str _ :: _, _, h => by cases h
  | .list _ :: _, _, h => by cases h
  | .tuple _ :: _, _, h => by cases h
  | .dict _ :: _, _, h => by cases h
theorem dpAll_one {K : KF} {B : Hp} {xs : List V} {d : PyData} (h : DpAll K B xs [d]) : ∃ x, xs = [x] ∧ Dp K B x d := by
  cases h with
  | cons h t => cases t; exact ⟨_, rfl, h⟩
theorem dpAll_two {K : KF} {B : Hp} {xs : List V} {d e : PyData} (h : DpAll K B xs [d, e]) : ∃ x y, xs = [x, y] ∧ Dp K B x d ∧ Dp K B y e := by
  cases h with
  | cons h t =>
    cases t with
    | cons h2 t2 => cases t2; exact ⟨_, _, rfl, h, h2⟩
theorem on_abs {K : KF} : OpN K (fun xs H Q => ∃ i, xs = [.int i] ∧ Q (.int (if i < 0 then -i else i)) H) gAbs := by
  intro J Γ B ρ σ H xs ds s Q rep hx hs af
  unfold gAbs at hs
  split at hs
  · rename_i i
    cases hs
    obtain ⟨x, rfl, h1⟩ := dpAll_one hx
    exact ⟨i, by rw [dp_int h1], After.now rep af (.int _)⟩
  · cases hs
theorem on_int {K : KF} : OpN K (fun xs H Q => (∃ i, xs = [.int i] ∧ Q (.int i) H) ∨ ∃ k, xs = [.bl k] ∧ Q (.int (if k then 1 else 0)) H) gInt := by
  intro J Γ B ρ σ H xs ds s Q rep hx hs af
  unfold gInt at hs
  split at hs
  · rename_i i
    cases hs
    obtain ⟨x, rfl, h1⟩ := dpAll_one hx
    exact .inl ⟨i, by rw [dp_int h1], After.now rep af (.int _)⟩
  · rename_i b
    cases hs
    obtain ⟨x, rfl, h1⟩ := dpAll_one hx
    exact .inr ⟨b, by rw [dp_bool h1], After.now rep af (.int _)⟩
  · cases hs
theorem on_max2 {K : KF} : OpN K (fun xs H Q => ∃ i j, xs = [.int i, .int j] ∧ Q (.int (if j > i then j else i)) H) gMax2 := by
  intro J Γ B ρ σ H xs ds s Q rep hx hs af
  unfold gMax2 at hs
  split at hs
  · rename_i i j
    cases hs
    obtain ⟨x, y, rfl, h1, h2⟩ := dpAll_two hx
    exact ⟨i, j, by rw [dp_int h1, dp_int h2], After.now rep af (.int _)⟩
  · cases hs
theorem on_min2 {K : KF} : OpN K (fun xs H Q => ∃ i j, xs = [.int i, .int j] ∧ Q (.int (if j < i then j else i)) H) gMin2 := by
  intro J Γ B ρ σ H xs ds s Q rep hx hs af
  unfold gMin2 at hs
  split at hs
  · rename_i i j
    cases hs
    obtain ⟨x, y, rfl, h1, h2⟩ := dpAll_two hx
    exact ⟨i, j, by rw [dp_int h1, dp_int h2], After.now rep af (.int _)⟩
  · cases hs
theorem on_gcd {K : KF} : OpN K rGcd gGcd := by
  intro J Γ B ρ σ H xs ds s Q rep hx hs af
  unfold gGcd at hs
  split at hs
  · rename_i i j
    cases hs
    obtain ⟨x, y, rfl, h1, h2⟩ := dpAll_two hx
    exact ⟨i, j, by rw [dp_int h1, dp_int h2], After.now rep af (.int _)⟩
  · cases hs
theorem on_list {K : KF} : OpN K (fun xs H Q => ∃ p ys, xs = [.ref p] ∧ (SqL K H p ys ∨ SqT K H p ys) ∧ ∀ l, H l = none → Q (.ref l) (upd H l (.lst ys))) gList := by
  intro J Γ B ρ σ H xs ds s Q rep hx hs af
  unfold gList at hs
  split at hs
  · cases hs
    obtain ⟨x, rfl, h1⟩ := dpAll_one hx
    obtain ⟨a, ys, rfl, k1, k2⟩ := dp_list h1
    exact ⟨a, ys, rfl, .inl (ex_l rep.bh k1), fun p hp => After.lst rep af k2 hp⟩
  · cases hs
    obtain ⟨x, rfl, h1⟩ := dpAll_one hx
    obtain ⟨a, ys, rfl, k1, k2⟩ := dp_tup h1
    exact ⟨a, ys, rfl, .inr (ex_t rep.bh k1), fun p hp => After.lst rep af k2 hp⟩
  · cases hs
theorem on_tuple {K : KF} : OpN K (fun xs H Q => ∃ p ys, xs = [.ref p] ∧ ((SqL K H p ys ∧ ∀ l, H l = none → Q (.ref l) (upd H l (.tup ys))) ∨ (SqT K H p ys ∧ Q (.ref p) H))) gTuple := by
  intro J Γ B ρ σ H xs ds s Q rep hx hs af
  unfold gTuple at hs
  split at hs
  · cases hs
    obtain ⟨x, rfl, h1⟩ := dpAll_one hx
    obtain ⟨a, ys, rfl, k1, k2⟩ := dp_list h1
    exact ⟨a, ys, rfl, .inl ⟨ex_l rep.bh k1, fun p hp => After.tup rep af k2 hp⟩⟩
  · cases hs
    obtain ⟨x, rfl, h1⟩ := dpAll_one hx
    obtain ⟨a, ys, rfl, k1, k2⟩ := dp_tup h1
    exact ⟨a, ys, rfl, .inr ⟨ex_t rep.bh k1, After.now rep af h1⟩⟩
  · cases hs
theorem on_all {K : KF} : OpN K (rAll K.K) gAll := by
  intro J Γ B ρ σ H xs ds s Q rep hx hs af
  unfold gAll at hs
  split at hs
  · rename_i l
    cases hb : boolsOf l with
    | none => rw [hb] at hs; cases hs
    | some bs =>
      rw [hb] at hs
      cases hs
      obtain ⟨x, rfl, h1⟩ := dpAll_one hx
      obtain ⟨a, ys, rfl, k1, k2⟩ := dp_list h1
      rw [boolsOf_map hb] at k2
      exact ⟨a, bs, rfl, by rw [← dpAll_bools k2]; exact ex_l rep.bh k1, After.now rep af (.bl _)⟩
  · cases hs
theorem on_any {K : KF} : OpN K (rAny K.K) gAny := by
  intro J Γ B ρ σ H xs ds s Q rep hx hs af
  unfold gAny at hs
  split at hs
  · rename_i l
    cases hb : boolsOf l with
    | none => rw [hb] at hs; cases hs
    | some bs =>
      rw [hb] at hs
      cases hs
      obtain ⟨x, rfl, h1⟩ := dpAll_one hx
      obtain ⟨a, ys, rfl, k1, k2⟩ := dp_list h1
      rw [boolsOf_map hb] at k2
      exact ⟨a, bs, rfl, by rw [← dpAll_bools k2]; exact ex_l rep.bh k1, After.now rep af (.bl _)⟩
  · cases hs
/-! ### isinstance -/
def tyName : PyData → String
  | .none => "NoneType"
  | .bool _ => "bool"
  | .int _ => "int"
  | .str _ => "str"
  | .list _ => "list"
  | .tuple _ => "tuple"
  | .dict _ => "dict"
def isT (T : String) : PyData → Bool
  | .none => T == "NoneType"
  | .bool _ => T == "bool" || T == "int"
  | .int _ => T == "int"
  | .str _ => T == "str"
  | .list _ => T == "list"
  | .tuple _ => T == "tuple"
  | .dict _ => T == "dict"
theorem tyx_dp {K : KF} {B : Hp} {v : V} {d : PyData} (h : Dp K B v d) (hd : ∀ l, d ≠ .dict l) : TyX K.K B v (.type (tyName d)) := by
  cases h with
  | dic _ _ | dit _ _ | ins _ _ _ => exact absurd rfl (hd _)
  | non => exact .base .non
  | bl b => exact .base (.bl b)
  | int i => exact .base (.int i)
  | str x => exact .base (.str x)
  | lst h1 h2 =>
    rcases h1 with (h1 | ⟨o, h1⟩) | ⟨o, its, n, h1, h3, _⟩
    · exact .base (.lst h1)
    · exact .base (.frz h1)
    · exact .kList h1 h3
  | tup h1 h2 =>
    rcases h1 with (h1 | ⟨o, h1⟩) | ⟨o, its, n, h1, h3, _⟩
    · exact .base (.tup h1)
    · exact .fTuple h1
    · exact .kTuple h1 h3
theorem kit_all : ∀ n ∈ ["NoneType", "bool", "int", "str", "list", "tuple"], ∀ T ∈ ["int", "bool", "str", "list", "tuple", "dict"], kitB n T = some (T == n || (n == "bool" && T == "int")) := by decide +kernel
theorem isT_eq {T : String} (hT : T ∈ ["int", "bool", "str", "list", "tuple", "dict"]) (d : PyData) (hd : ∀ l, d ≠ .dict l) : isT T d = (T == tyName d || (tyName d == "bool" && T == "int")) ∧ tyName d ∈ ["NoneType", "bool", "int", "str", "list", "tuple"] := by
  cases d with
  | none => simp [isT, tyName]
  | bool b => simp [isT, tyName]
  | int i => simp [isT, tyName]
  | str x => simp [isT, tyName]
  | list l => simp [isT, tyName]
  | tuple l => simp [isT, tyName]
  | dict l => exact absurd rfl (hd l)
theorem kit_isT {K : KF} {T : String} (hT : T ∈ ["int", "bool", "str", "list", "tuple", "dict"]) {d : PyData} (hd : ∀ l, d ≠ .dict l) : PySem.W.kitOne K.K (.type (tyName d)) (.type T) = some (isT T d) := by
  obtain ⟨h1, h2⟩ := isT_eq hT d hd
  rw [h1]
  exact kit_ty (kit_all _ h2 _ hT)
def gIsi (T : String) (d : PyData) : Option S := match d with
  | .dict _ => none
  | d => some (.dat (.bool (isT T d)))
theorem ze_isi {T : String} {x : Str} {p3 : Pos} (hT : T ∈ ["int", "bool", "str", "list", "tuple", "dict"]) (hm : X.mg "isinstance" = none) (hmT : X.mg x = none) (hvT : bootBuiltins x = some (.type T)) (ha : ZE X xc W a ca) (hg : Gl X "isinstance" := by rfl) (hgT : Gl X x := by rfl)
    (hn : x ≠ "__name__" := by decide) (hdb : (x == ("__debug__" : Str)) = false := by decide)
    (he : starEach [a, .Name x p3] X.env = (false, eval a X.env) :: starEach [.Name x p3] X.env := by rfl) (he2 : starEach [.Name x p3] X.env = (false, eval (.Name x p3) X.env) :: starEach [] X.env := by rfl) (hpl : (backTo pos (starEach [.Name x p3] X.env)).any (·.1) = false := by rfl) :
    ZE X xc W (.Call (.Name "isinstance" p) [a, .Name x p3] [] pos) (c1 (gIsi T) ca) :=
  PE.imp (pe_callB call_isi hg hm (by decide +kernel) (pa_cons ha (pa_cons (pe_bltn hgT hmT hvT (v := .ty T) rfl hn hdb) pa_nil he2) he) (by decide) (by decide) he hpl) fun σ H Q ⟨Γ, B, ρ, rep, k⟩ => tz_bd rep k fun x B1 H1 d ρ1 e1 r1 q1 k1 => by
    obtain ⟨s, hs, af⟩ := out_lift k1
    unfold gIsi at hs
    split at hs
    · cases hs
    · rename_i d' hd
      cases hs
      exact ⟨x, .ty T, .type (tyName _), .type T, isT T _, rfl, .ty T, tyx_dp (dp_mono r1.bh q1) hd, kit_isT (K := X.kf) hT hd, After.now r1 af (.bl _)⟩
end
end Z
set_option maxHeartbeats 2000000
/-! Z: constants of a module; more of lists. -/
namespace Z
open PySem PySem.Spec PyProof.Rows L2
open Evl (Ex ex_l ex_t ex_rd)
section
variable {X : Cx} {xc : Str → Value} {W : Ww} {o e : Expr} {es : List Expr} {pos p cpos apos : Pos} {ca : CE} {cas : CA} {x : Str}
/-- what a module's name holds, as data that stands in the written part -/
def ConstOf (K : PySem.W.Frag) (mg : Str → Option Value) (x : Str) (d : PyData) : Prop := ∃ v u, mg x = some u ∧ RelV v u ∧ ∀ P w B, Dp ⟨K, P, w⟩ B v d
theorem ze_const {d : PyData} (h : ConstOf X.K X.mg x d) (hg : Gl X x := by rfl) (hd : (x == ("__debug__" : Str)) = false := by decide) : ZE X xc W (.Name x pos) (cK d) := by
  obtain ⟨v, u, h1, h2, h3⟩ := h
  exact ze_of (pe_glob hg h1 h2 hd) (fun _ _ _ q => q) (h3 X.prog X.w)
theorem const_int {K : PySem.W.Frag} {mg : Str → Option Value} {i : Int} {t : Tok} (h : mg x = some (.int i t)) : ConstOf K mg x (.int i) := ⟨.int i, _, h, ⟨t, rfl⟩, fun _ _ _ => .int i⟩
theorem const_str {K : PySem.W.Frag} {mg : Str → Option Value} {i : Str} {t : Tok} (h : mg x = some (.str i t)) : ConstOf K mg x (.str i) := ⟨.str i, _, h, ⟨t, rfl⟩, fun _ _ _ => .str i⟩
theorem const_pair {K : PySem.W.Frag} {mg : Str → Option Value} {a : Addr} {od : Option Addr} {i j : Int} {t u : Tok} {n : Nat} {sl : Array (Option Value)} (h : mg x = some (.ref a)) (l : K.lookup a = some ⟨.type "tuple", od, .seq #[.int i t, .int j u] n, sl⟩) :
    ConstOf K mg x (.tuple [.int i, .int j]) :=
  ⟨.ref a, _, h, rfl, fun P w B => .tup (xs := [.int i, .int j]) (.inr ⟨_, _, n, l, rfl, rfl, (by show 2 ≤ sizeLine; decide), .cons ⟨t, rfl⟩ (.cons ⟨u, rfl⟩ .nil)⟩) (.cons (.int i) (.cons (.int j) .nil))⟩
/-- a, b, c = x, y, z -/
def cPar3 (i j l : Nat) (c : CA) : CS := fun ρ => (c ρ).bs fun ds ρ => match ds with
  | [a, b, d] => .nx (((ρ.set i (some (.dat a))).set j (some (.dat b))).set l (some (.dat d)))
  | _ => .bad
theorem zs_par3 {i j l : Nat} {x y z : Str} {a b c : Expr} {px py pz pt pt2 : Pos} {kt k2 : Nat} (hc : X.calm = true) (hN : X.N.Nodup) (hi : X.N[i]? = some x) (hj : X.N[j]? = some y) (hl : X.N[l]? = some z) (hij : i ≠ j) (hil : i ≠ l) (hjl : j ≠ l)
    (hx : X.env.scope.names.lookup x = some .local) (hy : X.env.scope.names.lookup y = some .local) (hz : X.env.scope.names.lookup z = some .local) (ha : ZA X xc W [a, b, c] cas)
    (hw : swappedStores [.Tuple [.Name x px, .Name y py, .Name z pz] kt pt] (.Tuple [a, b, c] k2 pt2) X.env = pure (some [x, y, z])) (hJi : W.J.contains i = false := by rfl) (hJj : W.J.contains j = false := by rfl) (hJl : W.J.contains l = false := by rfl)
    (hs : swapsWithSole [.Tuple [.Name x px, .Name y py, .Name z pz] kt pt] (.Tuple [a, b, c] k2 pt2) pos.line X.env = pure false := by rfl) :
    ZS X xc W (.Assign [.Tuple [.Name x px, .Name y py, .Name z pz] kt pt] (.Tuple [a, b, c] k2 pt2) pos) (cPar3 i j l cas) :=
  PS.imp (ps_par3 hc hN hi hj hl hij hil hjl hx hy hz ha.run hw hs) fun D σ H ⟨Γ, B, ρ, rep, k⟩ => tza_bs rep k fun vs B1 H1 ds ρ1 e1 r1 q1 k1 => by
    match ds, k1, q1 with
    | [d1, d2, d3], k1, .cons h1 (.cons h2 (.cons h3 .nil)) => exact ⟨_, _, _, rfl, k1 B1 _ H1 (((r1.slot i (notin hJi) (sres_dat h1)).slot j (notin hJj) (sres_dat h2)).slot l (notin hJl) (sres_dat h3))⟩
    | [], k1, _ => exact k1.elim
    | [_], k1, _ => exact k1.elim
    | [_, _], k1, _ => exact k1.elim
    | _ :: _ :: _ :: _ :: _, k1, _ => exact k1.elim
/-! ### name.pop(), name.extend(e) -/
def cPop (i : Nat) : CE := fun ρ => match ρ[i]? with
  | some (some (.lst l)) => match l[l.length - 1]? with
    | some d => .ok (.dat d) (ρ.set i (some (.lst l.dropLast)))
    | none => .bad
  | _ => .bad
theorem dpAll_dropLast {K : KF} {B : Hp} : ∀ {xs : List V} {ds : List PyData}, DpAll K B xs ds → DpAll K B xs.dropLast ds.dropLast
  | _, _, .nil => .nil
  | _, _, .cons h .nil => .nil
  | _, _, .cons h (.cons h2 t) => .cons h (dpAll_dropLast (.cons h2 t))
theorem ze_pop {i : Nat} (ho : PE X o (tVar i)) (hbase : attributeBase o "pop" X.env (eval o X.env) = eval o X.env := by rfl) (hline : (apos.endLine == cpos.line) = true := by rfl) :
    ZE X xc W (.Call (.Attribute o "pop" apos) [] [] cpos) (cPop i) :=
  PE.imp (pe_bm0 PySem.F.plainAttrs_list PySem.F.slot_list_pop PySem.F.type_list_pop mt_pop ho hbase hline) fun σ H Q ⟨Γ, B, ρ, rep, k⟩ => by
    unfold cPop at k
    split at k
    · rename_i l hi
      obtain ⟨a, xs, h1, h2, h3, h4⟩ := rep.own hi
      cases hl : l[l.length - 1]? with
      | none => rw [hl] at k; exact k.elim
      | some d =>
        rw [hl] at k
        obtain ⟨v, g1, g2⟩ := dpAll_get h3 hl
        refine ⟨_, h1, .inl ⟨rfl, xs, .inl (.inl h2)⟩, a, xs, v, rfl, rfl, h2, by rw [dpAll_len h3]; exact g1, ?_⟩
        exact k v B _ (Ex.refl _) (h4 _ _ (dpAll_dropLast h3)) (sres_dat g2)
    · exact k.elim
def cExt (i : Nat) (c : CE) : CS := fun ρ => match ρ[i]? with
  | some (some (.lst _)) => (c ρ).bs fun s ρ => match ρ[i]?, s with
    | some (some (.lst l)), .lst m => bif decide (l.length + m.length ≤ sizeLine) then .nx (ρ.set i (some (.lst (l ++ m)))) else .bad
    | _, _ => .bad
  | _ => .bad
theorem zs_extend {i : Nat} (ho : PE X o (tVar i)) (he : ZE X xc W e ca)
    (hbase : attributeBase o "extend" X.env (eval o X.env) = eval o X.env := by rfl)
    (hfew : ((backTo cpos (starEach [e] X.env)).all (fun x => !x.1) && (backToKw cpos (keywordEach [] X.env)).all (fun x => x.1.isSome)
      && decide ([e].length + ([] : List Keyword).length + (if ([] : List Keyword).isEmpty then 0 else 1) < 30)) = true := by rfl)
    (hline : (apos.endLine == cpos.line) = true := by rfl) (hs : starEach [e] X.env = (false, eval e X.env) :: starEach [] X.env := by rfl) (hplain : (backTo cpos (starEach [] X.env)).any (·.1) = false := by rfl)
    (hsw : swapsWith (.Call (.Attribute o "extend" apos) [e] [] cpos) none pos.line X.env = pure false := by rfl) :
    ZS X xc W (.Expr (.Call (.Attribute o "extend" apos) [e] [] cpos) pos) (cExt i ca) :=
  PS.imp (ps_expr (pe_bm PySem.F.plainAttrs_list PySem.F.slot_list_extend PySem.F.type_list_extend mt_extend ho (pa_cons he pa_nil hs) hbase hfew hline hs hplain) hsw) fun D σ H ⟨Γ, B, ρ, rep, k⟩ => by
    unfold cExt at k
    split at k
    · rename_i l0 hi
      obtain ⟨a, xs, h1, h2, h3, _⟩ := rep.own hi
      refine ⟨_, h1, .inl ⟨rfl, xs, .inl (.inl h2)⟩, ?_⟩
      refine tz_bs rep k fun v B1 H1 s ρ1 e1 r1 q1 k1 => ?_
      split at k1
      · rename_i l m hl
        cases hd : decide (l.length + m.length ≤ sizeLine) with
        | false => rw [hd] at k1; exact k1.elim
        | true =>
          rw [hd] at k1
          obtain ⟨_, _, ⟨c, zs, rfl, _, _, m3, m5⟩, _⟩ := q1
          obtain ⟨b, ys, g1, g2, g3, g4⟩ := r1.own hl
          rw [h1] at g1
          cases g1
          exact ⟨a, c, ys, zs, rfl, rfl, g2, m3, by rw [dpAll_len g3, dpAll_len m5]; exact of_decide_eq_true hd, k1 B1 σ _ (g4 _ _ (dpAll_app g3 m5))⟩
      · exact k1.elim
    · exact k.elim
/-! ### min, max, sum of a list of ints -/
def intsOf : List PyData → Option (List Int)
  | [] => some []
  | .int b :: ds => (intsOf ds).map (b :: ·)
  | _ => none
theorem intsOf_map : ∀ {l : List PyData} {bs : List Int}, intsOf l = some bs → l = bs.map PyData.int
  | [], bs, h => by cases h; rfl
  | .int b :: ds, bs, h => by
    unfold intsOf at h
    cases e : intsOf ds with
    | none => rw [e] at h; cases h
    | some r =>
      rw [e] at h
      cases h
      rw [intsOf_map e]
      rfl
  | .none :: _, _, h => by cases h
  | .bool _ :: _, _, h => by cases h
  | .str _ :: _, _, h => by cases h
  | .list _ :: _, _, h => by cases h
  | .tuple _ :: _, _, h => by cases h
  | .dict _ :: _, _, h => by cases h
def maxOf : List Int → Option Int
  | [] => none
  | a :: as => some (as.foldl max a)
def minOf : List Int → Option Int
  | [] => none
  | a :: as => some (as.foldl min a)
theorem foldl_max : ∀ (as : List Int) (a : Int), (as.foldl max a = a ∨ as.foldl max a ∈ as) ∧ a ≤ as.foldl max a ∧ ∀ y ∈ as, y ≤ as.foldl max a
  | [], a => ⟨.inl rfl, Int.le_refl _, fun y h => by simp at h⟩
  | b :: as, a => by
    obtain ⟨h1, h2, h3⟩ := foldl_max as (max a b)
    have e : (b :: as).foldl max a = as.foldl max (max a b) := rfl
    rw [e]
    refine ⟨?_, by omega, fun y hy => ?_⟩
    · rcases h1 with h1 | h1
      · rcases Int.le_total a b with h | h
        · exact .inr (by rw [h1, Int.max_eq_right h]; exact List.mem_cons_self)
        · exact .inl (by rw [h1, Int.max_eq_left h])
      · exact .inr (List.mem_cons_of_mem _ h1)
    · rcases List.mem_cons.mp hy with rfl | hy
      · omega
      · exact h3 y hy
theorem foldl_min : ∀ (as : List Int) (a : Int), (as.foldl min a = a ∨ as.foldl min a ∈ as) ∧ as.foldl min a ≤ a ∧ ∀ y ∈ as, as.foldl min a ≤ y
  | [], a => ⟨.inl rfl, Int.le_refl _, fun y h => by simp at h⟩
  | b :: as, a => by
    obtain ⟨h1, h2, h3⟩ := foldl_min as (min a b)
    have e : (b :: as).foldl min a = as.foldl min (min a b) := rfl
    rw [e]
    refine ⟨?_, by omega, fun y hy => ?_⟩
    · rcases h1 with h1 | h1
      · rcases Int.le_total a b with h | h
        · exact .inl (by rw [h1, Int.min_eq_left h])
        · exact .inr (by rw [h1, Int.min_eq_right h]; exact List.mem_cons_self)
      · exact .inr (List.mem_cons_of_mem _ h1)
    · rcases List.mem_cons.mp hy with rfl | hy
      · omega
      · exact h3 y hy
theorem maxOf_spec {l : List Int} {m : Int} (h : maxOf l = some m) : m ∈ l ∧ ∀ y ∈ l, y ≤ m := by
  cases l with
  | nil => cases h
  | cons a as =>
    cases h
    obtain ⟨h1, h2, h3⟩ := foldl_max as a
    refine ⟨?_, fun y hy => (List.mem_cons.mp hy).elim (fun e => by rw [e]; exact h2) (h3 y)⟩
    rcases h1 with h1 | h1
    · rw [h1]; exact List.mem_cons_self
    · exact List.mem_cons_of_mem _ h1
theorem minOf_spec {l : List Int} {m : Int} (h : minOf l = some m) : m ∈ l ∧ ∀ y ∈ l, m ≤ y := by
  cases l with
  | nil => cases h
  | cons a as =>
    cases h
    obtain ⟨h1, h2, h3⟩ := foldl_min as a
    refine ⟨?_, fun y hy => (List.mem_cons.mp hy).elim (fun e => by rw [e]; exact h2) (h3 y)⟩
    rcases h1 with h1 | h1
    · rw [h1]; exact List.mem_cons_self
    · exact List.mem_cons_of_mem _ h1
def gMax1 : List PyData → Option S
  | [.list l] => match intsOf l with
    | some ns => (maxOf ns).map fun m => .dat (.int m)
    | none => none
  | _ => none
def gMin1 : List PyData → Option S
  | [.list l] => match intsOf l with
    | some ns => (minOf ns).map fun m => .dat (.int m)
    | none => none
  | _ => none
def gSum1 : List PyData → Option S
  | [.list l] => match intsOf l with
    | some ns => some (.dat (.int ns.sum))
    | none => none
  | _ => none
theorem on_max1 {K : KF} : OpN K (rMax K.K) gMax1 := by
  intro J Γ B ρ σ H xs ds s Q rep hx hs af
  unfold gMax1 at hs
  split at hs
  · rename_i l
    cases hb : intsOf l with
    | none => rw [hb] at hs; cases hs
    | some ns =>
      rw [hb] at hs
      cases hm : maxOf ns with
      | none => simp only [hm] at hs; cases hs
      | some m =>
        simp only [hm] at hs
        cases hs
        obtain ⟨h1, h2⟩ := maxOf_spec hm
        obtain ⟨x, rfl, g1⟩ := dpAll_one hx
        obtain ⟨a, ys, rfl, k1, k2⟩ := dp_list g1
        rw [intsOf_map hb] at k2
        refine ⟨a, ns, rfl, by rw [← dpAll_ints k2]; exact ex_l rep.bh k1, List.length_pos_of_mem h1, fun m' g1 g2 => ?_⟩
        have e : m' = m := Int.le_antisymm (h2 m' g1) (g2 m h1)
        subst e
        exact After.now rep af (.int _)
  · cases hs
theorem on_min1 {K : KF} : OpN K (rMin K.K) gMin1 := by
  intro J Γ B ρ σ H xs ds s Q rep hx hs af
  unfold gMin1 at hs
  split at hs
  · rename_i l
    cases hb : intsOf l with
    | none => rw [hb] at hs; cases hs
    | some ns =>
      rw [hb] at hs
      cases hm : minOf ns with
      | none => simp only [hm] at hs; cases hs
      | some m =>
        simp only [hm] at hs
        cases hs
        obtain ⟨h1, h2⟩ := minOf_spec hm
        obtain ⟨x, rfl, g1⟩ := dpAll_one hx
        obtain ⟨a, ys, rfl, k1, k2⟩ := dp_list g1
        rw [intsOf_map hb] at k2
        refine ⟨a, ns, rfl, by rw [← dpAll_ints k2]; exact ex_l rep.bh k1, List.length_pos_of_mem h1, fun m' g1 g2 => ?_⟩
        have e : m' = m := Int.le_antisymm (g2 m h1) (h2 m' g1)
        subst e
        exact After.now rep af (.int _)
  · cases hs
theorem on_sum1 {K : KF} : OpN K (rSum K.K) gSum1 := by
  intro J Γ B ρ σ H xs ds s Q rep hx hs af
  unfold gSum1 at hs
  split at hs
  · rename_i l
    cases hb : intsOf l with
    | none => rw [hb] at hs; cases hs
    | some ns =>
      rw [hb] at hs
      cases hs
      obtain ⟨x, rfl, g1⟩ := dpAll_one hx
      obtain ⟨a, ys, rfl, k1, k2⟩ := dp_list g1
      rw [intsOf_map hb] at k2
      exact ⟨a, ns, rfl, by rw [← dpAll_ints k2]; exact ex_l rep.bh k1, After.now rep af (.int _)⟩
  · cases hs
/-! ### xs[::-1] -/
def gRev : PyData → Option S
  | .list l => some (.lst l.reverse)
  | _ => none
end
end Z
set_option maxHeartbeats 2000000
/-! Z: the end of a law. -/
namespace Z
open PySem PySem.Spec PyProof.Rows L2
open Evl (Ex ex_l ex_t ex_rd)
def spLaw (K : PySem.W.Frag) : Sp := fun vs H Q _ => ∃ (a : Addr) (ns : List Int), vs = [.ref a] ∧ L2.SqL K H a (ns.map V.int) ∧ ns.length ≤ 63 ∧ (∀ z ∈ ns, Builtin.Int.intBits z ≤ 1048576) ∧ ∀ H', Q (.bl true) H'
/-- what a law is, over its mirror -/
def LawTrue (F : Fn) : Prop := ∀ ns : List Int, ns.length ≤ 63 → (∀ z ∈ ns, Builtin.Int.intBits z ≤ 1048576) → ∃ ss, F [.dat (.list (ns.map PyData.int))] = .ok (.dat (.bool true)) ss
theorem law_imp {K : KF} {xc : Str → Value} {F : Fn} (h : LawTrue F) (vs : List V) (H : Hp) (Q : VK) (E : XK) (p : spLaw K.K vs H Q E) : spZ K xc 1 F vs H Q E := by
  obtain ⟨a, ns, rfl, hS, hl, hb, q⟩ := p
  obtain ⟨ss, e⟩ := h ns hl hb
  refine ⟨rfl, (⟨fun _ => none, H, [], .non⟩ : Fm []), H, [.dat (.list (ns.map PyData.int))], ?_, ?_⟩
  · refine ⟨Ex.refl H, fun a o h => (by cases h), fun a o h => (by cases h), Ex.refl H, rfl, fun i s h => ?_, fun i j s t v u A C ne h h2 h3 h4 g1 g2 a ha => ?_, fun k j v h => by simp at h⟩
    · cases i with
      | zero =>
        simp at h
        subst h
        exact ⟨.ref a, [], rfl, rfl, .lst hS (ints_dpAll ns)⟩
      | succ i => simp at h
    · cases i with
      | zero =>
        simp at h
        subst h
        rw [g1.1] at ha
        exact absurd ha (by simp)
      | succ i => simp at h
  · rw [e]
    intro v B' H' _ _ q'
    rw [dp_bool q'.dp]
    exact q H'
theorem z_walk {l : PySem.W.OpenLaw} {k : Nat} {q : Program} {loose : List Str} {XP : (Str → Option Value) → Heap → Prop} {YP : World → Heap → Prop} {d : DefRec} {K : Params → PySem.W.Frag} {x : Str}
    (hn : l.most = some 63) (hdf : d.params.defaults = []) (hr : Room k callerA)
    (hY : ∀ (w : World) (h : Heap), YP w h → (K w.params).In h)
    (F : ∀ (w : World) (mg : Str → Option Value) (fa : Addr) (h : Heap), (K w.params).In h → h.Ns mainGlobals mg → mg d.name = some (.ref fa) →
      ∃ fd : FuncData, (∀ (s : Shared) (u : Value), BindsTo s fd ⟨[u], []⟩ [(x, u)]) ∧
        ∀ base : Heap, (K w.params).In base → base.Ns mainGlobals mg → FnOk l.prog w (K w.params) mg base (L2.CX l.prog w) k fa fd [x] (spLaw (K w.params))) :
    PySem.W.WalkO q loose XP YP l.row.toRowW d [] (fun f vs => PySem.call f vs) :=
  L2.walk_ofB (n := 63) (k := k) (x := x) (CX := fun w => L2.CX l.prog w) (sp := fun w => spLaw (K w.params)) hn (by decide) hdf hr hY F
    (fun w H a ns hl hb _ hS => ⟨a, ns, rfl, hS, hl, hb, fun _ => rfl⟩) fun w H s e s' h => by
      obtain ⟨_, _, _, _, _, _, _, _, _, _, _, _, z⟩ := h
      exact z
end Z
set_option maxHeartbeats 2000000
/-! Z: reckoning with mirrors. -/
namespace Z
open PySem PySem.Spec PyProof.Rows L2
section
variable {α : Type} {a b c d e f : α} {l : List α}
theorem atI_0 : atI (a :: l) 0 = some a := atI_nat (j := 0) rfl
theorem atI_1 : atI (a :: b :: l) 1 = some b := atI_nat (j := 1) rfl
theorem atI_2 : atI (a :: b :: c :: l) 2 = some c := atI_nat (j := 2) rfl
theorem atI_3 : atI (a :: b :: c :: d :: l) 3 = some d := atI_nat (j := 3) rfl
theorem ixN_0 {n : Nat} : ixN (n + 1) 0 = some 0 := by unfold ixN; rw [if_pos (by decide), if_pos (by omega)]; rfl
theorem ixN_1 {n : Nat} : ixN (n + 2) 1 = some 1 := by unfold ixN; rw [if_pos (by decide), if_pos (by omega)]; rfl
theorem ixN_2 {n : Nat} : ixN (n + 3) 2 = some 2 := by unfold ixN; rw [if_pos (by decide), if_pos (by omega)]; rfl
theorem ixN_3 {n : Nat} : ixN (n + 4) 3 = some 3 := by unfold ixN; rw [if_pos (by decide), if_pos (by omega)]; rfl
theorem ixL_1 : ixN [a, b, c, d].length 1 = some 1 := ixN_1
theorem ixL_2 : ixN [a, b, c, d].length 2 = some 2 := ixN_2
theorem ixL_3 : ixN [a, b, c, d].length 3 = some 3 := ixN_3
theorem atI_lt {xs : List α} {i : Nat} (h : i < xs.length) : atI xs (i : Int) = some xs[i] := atI_nat (List.getElem?_eq_getElem h)
end
theorem gEq_ii {i j : Int} : gEq (.int i) (.int j) = some (.dat (.bool (i == j))) := rfl
theorem gNe_ii {i j : Int} : gNe (.int i) (.int j) = some (.dat (.bool (!(i == j)))) := rfl
theorem bd_ok {s : S} {ρ : En} {k : PyData → En → R} : (R.ok s ρ).bd k = k s.d ρ := rfl
theorem ba_ok {s : S} {ρ : En} {k : PyData → En → RA} : (R.ok s ρ).ba k = k s.d ρ := rfl
theorem bs_ok {s : S} {ρ : En} {k : S → En → O} : (R.ok s ρ).bs k = k s ρ := rfl
theorem bx_ok {s : S} {ρ : En} {k : PyData → En → RX} : (R.ok s ρ).bx k = k s.d ρ := rfl
theorem abd_ok {s : List PyData} {ρ : En} {k : List PyData → En → R} : (RA.ok s ρ).bd k = k s ρ := rfl
theorem aba_ok {s : List PyData} {ρ : En} {k : List PyData → En → RA} : (RA.ok s ρ).ba k = k s ρ := rfl
theorem abs_ok {s : List PyData} {ρ : En} {k : List PyData → En → O} : (RA.ok s ρ).bs k = k s ρ := rfl
theorem xbx_ok {s : List Ar} {ρ : En} {k : List Ar → En → RX} : (RX.ok s ρ).bx k = k s ρ := rfl
theorem bbd_ok {s : Ar} {ρ : En} {k : Ar → En → R} : (RB.ok s ρ).bd k = k s ρ := rfl
theorem lift_some {s : S} {ρ : En} : R.lift (some s) ρ = .ok s ρ := rfl
theorem sq_nx {ρ : En} {c : CS} : (O.nx ρ).sq c = c ρ := rfl
theorem sq_rt {s : S} {ρ : En} {c : CS} : (O.rt s ρ).sq c = .rt s ρ := rfl
theorem S_d {d : PyData} : (S.dat d).d = d := rfl
theorem S_l {l : List PyData} : (S.lst l).d = .list l := rfl
theorem ixN_41 : ixN 4 1 = some 1 := ixN_1 (n := 2)
theorem ixN_42 : ixN 4 2 = some 2 := ixN_2 (n := 1)
theorem ixN_43 : ixN 4 3 = some 3 := ixN_3 (n := 0)
theorem fin_nx {J : List Nat} {ss : List S} {ρ : En} : finish J ss (.nx ρ) = match outs J ρ 0 ss with
    | some r => .ok (.dat .none) r
    | none => .bad := rfl
theorem fin_rt {J : List Nat} {ss : List S} {s : S} {ρ : En} : finish J ss (.rt s ρ) = match outs J ρ 0 ss with
    | some r => .ok s r
    | none => .bad := rfl
theorem fin_exc {J : List Nat} {ss : List S} {x : Str} {ρ : En} : finish J ss (.exc x ρ) = match outs J ρ 0 ss with
    | some r => .exc x r
    | none => .bad := rfl
theorem sq_bad {c : CS} : O.bad.sq c = .bad := rfl
theorem sq_bk {ρ : En} {c : CS} : (O.bk ρ).sq c = .bk ρ := rfl
theorem sq_ct {ρ : En} {c : CS} : (O.ct ρ).sq c = .ct ρ := rfl
theorem sq_exc {x : Str} {ρ : En} {c : CS} : (O.exc x ρ).sq c = .exc x ρ := rfl
theorem dz0 : decide (0 < sizeLine) = true := by decide
theorem dz1 : decide (1 < sizeLine) = true := by decide
theorem dz2 : decide (2 < sizeLine) = true := by decide
theorem dz3 : decide (3 < sizeLine) = true := by decide
theorem dz4 : decide (4 < sizeLine) = true := by decide
theorem dz5 : decide (5 < sizeLine) = true := by decide
theorem dz6 : decide (6 < sizeLine) = true := by decide
theorem dz7 : decide (7 < sizeLine) = true := by decide
theorem dz8 : decide (8 < sizeLine) = true := by decide
theorem dz9 : decide (9 < sizeLine) = true := by decide
theorem dz10 : decide (10 < sizeLine) = true := by decide
theorem dz11 : decide (11 < sizeLine) = true := by decide
theorem dz12 : decide (12 < sizeLine) = true := by decide
theorem dz13 : decide (13 < sizeLine) = true := by decide
theorem dz14 : decide (14 < sizeLine) = true := by decide
theorem dz15 : decide (15 < sizeLine) = true := by decide
theorem dz16 : decide (16 < sizeLine) = true := by decide
theorem ic0 : ((0 : Nat) : Int) = 0 := rfl
theorem ic1 : ((1 : Nat) : Int) = 1 := rfl
theorem ic2 : ((2 : Nat) : Int) = 2 := rfl
theorem ic3 : ((3 : Nat) : Int) = 3 := rfl
theorem ic4 : ((4 : Nat) : Int) = 4 := rfl
theorem isi_int_n  : gIsi "int" .none = some (.dat (.bool false)) := rfl
theorem isi_int_b {x : Bool} : gIsi "int" (.bool x) = some (.dat (.bool true)) := rfl
theorem isi_int_i {x : Int} : gIsi "int" (.int x) = some (.dat (.bool true)) := rfl
theorem isi_int_s {x : Str} : gIsi "int" (.str x) = some (.dat (.bool false)) := rfl
theorem isi_int_l {x : List PyData} : gIsi "int" (.list x) = some (.dat (.bool false)) := rfl
theorem isi_int_t {x : List PyData} : gIsi "int" (.tuple x) = some (.dat (.bool false)) := rfl
theorem isi_bool_n  : gIsi "bool" .none = some (.dat (.bool false)) := rfl
theorem isi_bool_b {x : Bool} : gIsi "bool" (.bool x) = some (.dat (.bool true)) := rfl
theorem isi_bool_i {x : Int} : gIsi "bool" (.int x) = some (.dat (.bool false)) := rfl
theorem isi_bool_s {x : Str} : gIsi "bool" (.str x) = some (.dat (.bool false)) := rfl
theorem isi_bool_l {x : List PyData} : gIsi "bool" (.list x) = some (.dat (.bool false)) := rfl
theorem isi_bool_t {x : List PyData} : gIsi "bool" (.tuple x) = some (.dat (.bool false)) := rfl
theorem isi_str_n  : gIsi "str" .none = some (.dat (.bool false)) := rfl
theorem isi_str_b {x : Bool} : gIsi "str" (.bool x) = some (.dat (.bool false)) := rfl
theorem isi_str_i {x : Int} : gIsi "str" (.int x) = some (.dat (.bool false)) := rfl
theorem isi_str_s {x : Str} : gIsi "str" (.str x) = some (.dat (.bool true)) := rfl
theorem isi_str_l {x : List PyData} : gIsi "str" (.list x) = some (.dat (.bool false)) := rfl
theorem isi_str_t {x : List PyData} : gIsi "str" (.tuple x) = some (.dat (.bool false)) := rfl
theorem isi_list_n  : gIsi "list" .none = some (.dat (.bool false)) := rfl
theorem isi_list_b {x : Bool} : gIsi "list" (.bool x) = some (.dat (.bool false)) := rfl
theorem isi_list_i {x : Int} : gIsi "list" (.int x) = some (.dat (.bool false)) := rfl
theorem isi_list_s {x : Str} : gIsi "list" (.str x) = some (.dat (.bool false)) := rfl
theorem isi_list_l {x : List PyData} : gIsi "list" (.list x) = some (.dat (.bool true)) := rfl
theorem isi_list_t {x : List PyData} : gIsi "list" (.tuple x) = some (.dat (.bool false)) := rfl
theorem isi_tuple_n  : gIsi "tuple" .none = some (.dat (.bool false)) := rfl
theorem isi_tuple_b {x : Bool} : gIsi "tuple" (.bool x) = some (.dat (.bool false)) := rfl
theorem isi_tuple_i {x : Int} : gIsi "tuple" (.int x) = some (.dat (.bool false)) := rfl
theorem isi_tuple_s {x : Str} : gIsi "tuple" (.str x) = some (.dat (.bool false)) := rfl
theorem isi_tuple_l {x : List PyData} : gIsi "tuple" (.list x) = some (.dat (.bool false)) := rfl
theorem isi_tuple_t {x : List PyData} : gIsi "tuple" (.tuple x) = some (.dat (.bool true)) := rfl
theorem isi_dict_n  : gIsi "dict" .none = some (.dat (.bool false)) := rfl
theorem isi_dict_b {x : Bool} : gIsi "dict" (.bool x) = some (.dat (.bool false)) := rfl
theorem isi_dict_i {x : Int} : gIsi "dict" (.int x) = some (.dat (.bool false)) := rfl
theorem isi_dict_s {x : Str} : gIsi "dict" (.str x) = some (.dat (.bool false)) := rfl
theorem isi_dict_l {x : List PyData} : gIsi "dict" (.list x) = some (.dat (.bool false)) := rfl
theorem isi_dict_t {x : List PyData} : gIsi "dict" (.tuple x) = some (.dat (.bool false)) := rfl
/-! ### loops -/
theorem forL_wp {g : CG} {body : CS} (I : List PyData → En → Prop) (P : O → Prop)
    (hs : ∀ d ds ρ, I (d :: ds) ρ → ∃ ρ1, g d ρ = some ρ1 ∧ ((∃ ρ2, body ρ1 = .nx ρ2 ∧ I ds ρ2) ∨ (∃ ρ2, body ρ1 = .ct ρ2 ∧ I ds ρ2) ∨ (∃ ρ2, body ρ1 = .bk ρ2 ∧ P (.nx ρ2)) ∨ (∃ s ρ2, body ρ1 = .rt s ρ2 ∧ P (.rt s ρ2)) ∨ (∃ x ρ2, body ρ1 = .exc x ρ2 ∧ P (.exc x ρ2))))
    (he : ∀ ρ, I [] ρ → P (.nx ρ)) : ∀ (ds : List PyData) (ρ : En), I ds ρ → P (forL g body ds ρ)
  | [], ρ, h => he ρ h
  | d :: ds, ρ, h => by
    obtain ⟨ρ1, h1, h2⟩ := hs d ds ρ h
    unfold forL
    rw [h1]
    simp only
    rcases h2 with ⟨ρ2, e, i⟩ | ⟨ρ2, e, i⟩ | ⟨ρ2, e, i⟩ | ⟨s, ρ2, e, i⟩ | ⟨s, ρ2, e, i⟩
    · rw [e]; exact forL_wp I P hs he ds ρ2 i
    · rw [e]; exact forL_wp I P hs he ds ρ2 i
    · rw [e]; exact i
    · rw [e]; exact i
    · rw [e]; exact i
/-- a loop that runs through -/
theorem forL_nx {g : CG} {body : CS} (I : List PyData → En → Prop) (hs : ∀ d ds ρ, I (d :: ds) ρ → ∃ ρ1 ρ2, g d ρ = some ρ1 ∧ body ρ1 = .nx ρ2 ∧ I ds ρ2) (ds : List PyData) (ρ : En) (h : I ds ρ) : ∃ ρ', forL g body ds ρ = .nx ρ' ∧ I [] ρ' :=
  forL_wp I (fun o => ∃ ρ', o = .nx ρ' ∧ I [] ρ') (fun d ds ρ h => by
    obtain ⟨ρ1, ρ2, h1, h2, h3⟩ := hs d ds ρ h
    exact ⟨ρ1, h1, .inl ⟨ρ2, h2, h3⟩⟩) (fun ρ h => ⟨ρ, rfl, h⟩) ds ρ h
theorem rangeL_length (lo : Int) (n : Nat) : (rangeL lo n).length = n := by simp [rangeL]
/-! ### tests as values -/
section
variable {ρ : En} {b c : Bool} {ca cb : CE} {x y : CS} {d : PyData}
def tAnd (r : R) (cb : CE) : R := r.bd fun d ρ => match d with
  | .bool true => cb ρ
  | .bool false => .ok (.dat (.bool false)) ρ
  | _ => .bad
def tOr (r : R) (cb : CE) : R := r.bd fun d ρ => match d with
  | .bool true => .ok (.dat (.bool true)) ρ
  | .bool false => cb ρ
  | _ => .bad
def tIf (r : R) (ca cb : CE) : R := r.bd fun d ρ => match d with
  | .bool true => ca ρ
  | .bool false => cb ρ
  | _ => .bad
def tIfS (r : R) (a b : CS) : O := r.bs fun s ρ => match s with
  | .dat (.bool true) => a ρ
  | .dat (.bool false) => b ρ
  | _ => .bad
theorem cAnd_t : cAnd ca cb ρ = tAnd (ca ρ) cb := rfl
theorem cOr_t : cOr ca cb ρ = tOr (ca ρ) cb := rfl
theorem cIf_t {cc : CE} : cIf cc ca cb ρ = tIf (cc ρ) ca cb := rfl
theorem cIfS_t : cIfS ca x y ρ = tIfS (ca ρ) x y := rfl
theorem cChain_t {g1 g2 : PyData → PyData → Option S} {cc : CE} : cChain g1 g2 ca cb cc ρ = (ca ρ).bd fun d ρ => (cb ρ).bd fun e ρ => tAnd (R.lift (g1 d e) ρ) (fun ρ => (cc ρ).bd fun f ρ => R.lift (g2 e f) ρ) := rfl
theorem tAnd_ok : tAnd (.ok (.dat (.bool b)) ρ) cb = bif b then cb ρ else .ok (.dat (.bool false)) ρ := by cases b <;> rfl
theorem tOr_ok : tOr (.ok (.dat (.bool b)) ρ) cb = bif b then .ok (.dat (.bool true)) ρ else cb ρ := by cases b <;> rfl
theorem tIf_ok : tIf (.ok (.dat (.bool b)) ρ) ca cb = bif b then ca ρ else cb ρ := by cases b <;> rfl
theorem tIfS_ok : tIfS (.ok (.dat (.bool b)) ρ) x y = bif b then x ρ else y ρ := by cases b <;> rfl
theorem tAnd_exc {z : Str} : tAnd (.exc z ρ) cb = .exc z ρ := rfl
theorem tOr_exc {z : Str} : tOr (.exc z ρ) cb = .exc z ρ := rfl
theorem tIf_exc {z : Str} : tIf (.exc z ρ) ca cb = .exc z ρ := rfl
theorem tIfS_exc {z : Str} : tIfS (.exc z ρ) x y = .exc z ρ := rfl
theorem co_and : (bif b then R.ok (.dat (.bool c)) ρ else R.ok (.dat (.bool false)) ρ) = .ok (.dat (.bool (b && c))) ρ := by cases b <;> rfl
theorem co_or : (bif b then R.ok (.dat (.bool true)) ρ else R.ok (.dat (.bool c)) ρ) = .ok (.dat (.bool (b || c))) ρ := by cases b <;> rfl
theorem tAnd_cond {r1 r2 : R} : tAnd (bif b then r1 else r2) cb = bif b then tAnd r1 cb else tAnd r2 cb := by cases b <;> rfl
theorem tOr_cond {r1 r2 : R} : tOr (bif b then r1 else r2) cb = bif b then tOr r1 cb else tOr r2 cb := by cases b <;> rfl
theorem tIfS_cond {r1 r2 : R} : tIfS (bif b then r1 else r2) x y = bif b then tIfS r1 x y else tIfS r2 x y := by cases b <;> rfl
theorem bd_cond {r1 r2 : R} {k : PyData → En → R} : (bif b then r1 else r2).bd k = bif b then r1.bd k else r2.bd k := by cases b <;> rfl
theorem ba_cond {r1 r2 : R} {k : PyData → En → RA} : (bif b then r1 else r2).ba k = bif b then r1.ba k else r2.ba k := by cases b <;> rfl
theorem bs_cond {r1 r2 : R} {k : S → En → O} : (bif b then r1 else r2).bs k = bif b then r1.bs k else r2.bs k := by cases b <;> rfl
theorem bx_cond {r1 r2 : R} {k : PyData → En → RX} : (bif b then r1 else r2).bx k = bif b then r1.bx k else r2.bx k := by cases b <;> rfl
theorem sq_cond {r1 r2 : O} {k : CS} : (bif b then r1 else r2).sq k = bif b then r1.sq k else r2.sq k := by cases b <;> rfl
theorem fin_cond {J : List Nat} {ss : List S} {r1 r2 : O} : finish J ss (bif b then r1 else r2) = bif b then finish J ss r1 else finish J ss r2 := by cases b <;> rfl
theorem tru_b : gTru (.bool b) = some (.dat (.bool b)) := rfl
theorem gIs_bb : gIs (.bool b) (.bool c) = some (.dat (.bool (decide (b = c)))) := rfl
theorem gIsN_bb : gIsN (.bool b) (.bool c) = some (.dat (.bool (!decide (b = c)))) := rfl
theorem rangeL_2 : rangeL 0 2 = [.int 0, .int 1] := rfl
theorem rangeL_3 : rangeL 0 3 = [.int 0, .int 1, .int 2] := rfl
/-! ### comprehensions -/
theorem lcL_nil {vs : List Nat} {g : CG} {ct ce : CE} {acc : List PyData} : lcL vs g ct ce [] ρ acc = .ok acc ρ := rfl
def oG (o : Option En) (k : En → RA) : RA := match o with
  | none => .bad
  | some ρ => k ρ
def tLc (r : R) (k1 k0 : En → RA) : RA := match r with
  | .ok (.dat (.bool true)) ρ2 => k1 ρ2
  | .ok (.dat (.bool false)) ρ2 => k0 ρ2
  | _ => .bad
def eLc (r : R) (acc : List PyData) (k : List PyData → En → RA) : RA := match r with
  | .ok s ρ3 => bif decide (acc.length < sizeLine) then k (acc ++ [s.d]) ρ3 else .bad
  | _ => .bad
theorem lcL_cons {vs : List Nat} {g : CG} {ct ce : CE} {ds acc : List PyData} : lcL vs g ct ce (d :: ds) ρ acc = oG (g d (wipeE ρ vs)) fun ρ1 => tLc (ct ρ1) (fun ρ2 => eLc (ce ρ2) acc fun a ρ3 => lcL vs g ct ce ds ρ3 a) (fun ρ2 => lcL vs g ct ce ds ρ2 acc) := by
  rw [lcL]
  cases g d (wipeE ρ vs) with
  | none => rfl
  | some ρ1 =>
    simp only [oG]
    cases h : ct ρ1 with
    | bad => rfl
    | exc x ρ => rfl
    | ok s ρ2 =>
      cases s with
      | lst l | dic l | obj c fs | hole => rfl
      | dat d =>
        cases d with
        | bool b =>
          cases b
          · rfl
          · simp only [tLc]
            cases ce ρ2 <;> rfl
        | _ => rfl
theorem oG_some {k : En → RA} : oG (some ρ) k = k ρ := rfl
theorem tLc_t {k1 k0 : En → RA} : tLc (.ok (.dat (.bool true)) ρ) k1 k0 = k1 ρ := rfl
theorem tLc_f {k1 k0 : En → RA} : tLc (.ok (.dat (.bool false)) ρ) k1 k0 = k0 ρ := rfl
theorem tLc_b {k1 k0 : En → RA} : tLc (.ok (.dat (.bool b)) ρ) k1 k0 = bif b then k1 ρ else k0 ρ := by cases b <;> rfl
theorem eLc_ok {s : S} {acc : List PyData} {k : List PyData → En → RA} : eLc (.ok s ρ) acc k = bif decide (acc.length < sizeLine) then k (acc ++ [s.d]) ρ else .bad := rfl
def fLc (r : RA) (k : List PyData → En → R) : R := match r with
  | .ok acc ρ2 => k acc ρ2
  | _ => .bad
def sLc (r : RA) (k : List PyData → En → R) : R := match r with
  | .ok ds ρ1 => k ds ρ1
  | .exc x ρ1 => .exc x ρ1
  | .bad => .bad
theorem cLc_t {vs : List Nat} {src : CA} {g : CG} {ct ce : CE} : cLc vs src g ct ce ρ = sLc (src ρ) fun ds ρ1 => bif noOwn ρ1 vs then fLc (lcL vs g ct ce ds ρ1 []) (fun acc ρ2 => .ok (.lst acc) (restoreE ρ1 ρ2 vs)) else .bad := by
  unfold cLc sLc
  cases src ρ with
  | ok ds ρ1 =>
    simp only
    cases noOwn ρ1 vs
    · rfl
    · simp only [cond_true]
      cases lcL vs g ct ce ds ρ1 [] <;> rfl
  | exc x ρ1 => rfl
  | bad => rfl
theorem sLc_ok {ds : List PyData} {k : List PyData → En → R} : sLc (.ok ds ρ) k = k ds ρ := rfl
theorem fLc_ok {ds : List PyData} {k : List PyData → En → R} : fLc (.ok ds ρ) k = k ds ρ := rfl
theorem bools_nil : boolsOf [] = some [] := rfl
theorem bools_cons {ds : List PyData} : boolsOf (.bool b :: ds) = (boolsOf ds).map (b :: ·) := rfl
end
/-! ### sizes -/
abbrev Bd (k : Nat) (i : Int) : Prop := i.natAbs < 2 ^ k
theorem Bd.mul {a b : Nat} {i j : Int} (h : Bd a i) (g : Bd b j) : Bd (a + b) (i * j) := wide_lt h g
theorem Bd.add {a : Nat} {i j : Int} (h : Bd a i) (g : Bd a j) : Bd (a + 1) (i + j) := by
  have : (2 : Nat) ^ (a + 1) = 2 ^ a + 2 ^ a := by rw [Nat.pow_succ]; omega
  unfold Bd at *
  omega
theorem Bd.sub {a : Nat} {i j : Int} (h : Bd a i) (g : Bd a j) : Bd (a + 1) (i - j) := by
  have : (2 : Nat) ^ (a + 1) = 2 ^ a + 2 ^ a := by rw [Nat.pow_succ]; omega
  unfold Bd at *
  omega
theorem Bd.mono {a b : Nat} {i : Int} (h : Bd a i) (hab : a ≤ b) : Bd b i := Nat.lt_of_lt_of_le h (Nat.pow_le_pow_right (by decide) hab)
theorem Bd.ok {a b : Nat} {i j : Int} (h : Bd a i) (g : Bd b j) (h0 : 0 < a := by decide) (h1 : 0 < b := by decide) (hs : a + b ≤ 1000000 := by decide) : decide (CMulW i j) = true := decide_eq_true (wide_mul h g h0 h1 hs)
theorem Bd.fd {a : Nat} {i j : Int} (g : Bd a j) (hj : j ≠ 0) (h0 : 0 < a := by decide) (hs : a ≤ 9000 := by decide) : decide (CFd i j) = true := decide_eq_true ⟨hj, Nat.lt_of_lt_of_le (PySem.Flt.log2_lt_of h0 g) hs⟩
theorem Bd.neg {a : Nat} {i : Int} (h : Bd a i) : Bd a (-i) := by unfold Bd at *; omega
theorem Bd.add2 {a b : Nat} {i j : Int} (h : Bd a i) (g : Bd b j) : Bd (Nat.max a b + 1) (i + j) := (h.mono (Nat.le_max_left a b)).add (g.mono (Nat.le_max_right a b))
theorem Bd.sub2 {a b : Nat} {i j : Int} (h : Bd a i) (g : Bd b j) : Bd (Nat.max a b + 1) (i - j) := (h.mono (Nat.le_max_left a b)).sub (g.mono (Nat.le_max_right a b))
/-- not too wide -/
def Bdx (i : Int) : Prop := Bd 5000 i
theorem Bdx.of {a : Nat} {i : Int} (h : Bd a i) (g : a ≤ 5000) : Bdx i := h.mono g
theorem Bd.lit {i : Int} (h : decide (i.natAbs < 18446744073709551616) = true) : Bd 64 i := of_decide_eq_true h
theorem cmulW_t {i j : Int} (h : Bdx i) (g : Bdx j) : decide (CMulW i j) = true := Bd.ok (a := 5000) (b := 5000) h g
theorem cfd_t {i j : Int} (h : Bdx j) (g : j ≠ 0) : decide (CFd i j) = true := Bd.fd (a := 5000) h g
theorem mpos_t {j : Int} (g : 0 < j) : decide (0 < j) = true := decide_eq_true g
theorem Bdx.id {i : Int} (h : Bdx i) : Bdx i := h
/-- a small number -/
def Sml (j : Int) : Prop := -1000000 ≤ j ∧ j ≤ 1000000
theorem Sml.id {i : Int} (h : Sml i) : Sml i := h
theorem Sml.lit {i : Int} (h : decide (-1000000 ≤ i ∧ i ≤ 1000000) = true) : Sml i := by unfold Sml; exact of_decide_eq_true h
theorem rng1_t {j : Int} (h : Sml j) : decide (-(2 ^ 62) ≤ j ∧ j < 2 ^ 62) = true := decide_eq_true (by unfold Sml at h; omega)
theorem rng2_t {i j : Int} (g : Sml i) (h : Sml j) : decide (-(2 ^ 62) ≤ i ∧ i < 2 ^ 62 ∧ -(2 ^ 62) ≤ j ∧ j < 2 ^ 62) = true := decide_eq_true (by unfold Sml at h g; omega)
/-- a number as data -/
abbrev Nu (p q : Int) : PyData := .tuple [.int p, .int q]
end Z
set_option maxHeartbeats 2000000
/-! Z: mirrors as a machine: rules without continuations that simp could look into. -/
namespace Z
open PySem PySem.Spec PyProof.Rows L2
section
variable {ρ : En} {b : Bool}
def k1 (r : R) (g : PyData → Option S) : R := r.bd fun d ρ => R.lift (g d) ρ
theorem k1_0 {s : S} {g : PyData → Option S} : k1 (.ok s ρ) g = R.lift (g s.d) ρ := rfl
theorem k1_e {x : Str} {g : PyData → Option S} : k1 (.exc x ρ) g = .exc x ρ := rfl
theorem k1_c {r1 r2 : R} {g : PyData → Option S} : k1 (bif b then r1 else r2) g = bif b then k1 r1 g else k1 r2 g := by cases b <;> rfl
theorem c1_r {g : PyData → Option S} {ca : CE} : c1 g ca ρ = k1 (ca ρ) g := rfl
def k2b (r : R) (g : PyData → PyData → Option S) (d : PyData) : R := r.bd fun e ρ => R.lift (g d e) ρ
theorem k2b_0 {s : S} {g : PyData → PyData → Option S} {d : PyData} : k2b (.ok s ρ) g d = R.lift (g d s.d) ρ := rfl
theorem k2b_e {x : Str} {g : PyData → PyData → Option S} {d : PyData} : k2b (.exc x ρ) g d = .exc x ρ := rfl
theorem k2b_c {r1 r2 : R} {g : PyData → PyData → Option S} {d : PyData} : k2b (bif b then r1 else r2) g d = bif b then k2b r1 g d else k2b r2 g d := by cases b <;> rfl
def k2a (r : R) (g : PyData → PyData → Option S) (cb : CE) : R := r.bd fun d ρ => k2b (cb ρ) g d
theorem k2a_0 {s : S} {g : PyData → PyData → Option S} {cb : CE} : k2a (.ok s ρ) g cb = k2b (cb ρ) g s.d := rfl
theorem k2a_e {x : Str} {g : PyData → PyData → Option S} {cb : CE} : k2a (.exc x ρ) g cb = .exc x ρ := rfl
theorem k2a_c {r1 r2 : R} {g : PyData → PyData → Option S} {cb : CE} : k2a (bif b then r1 else r2) g cb = bif b then k2a r1 g cb else k2a r2 g cb := by cases b <;> rfl
theorem c2_r {g : PyData → PyData → Option S} {ca cb : CE} : c2 g ca cb ρ = k2a (ca ρ) g cb := rfl
def kN (r : RA) (g : List PyData → Option S) : R := r.bd fun ds ρ => R.lift (g ds) ρ
theorem kN_0 {s : List PyData} {g : List PyData → Option S} : kN (.ok s ρ) g = R.lift (g s) ρ := rfl
theorem kN_e {x : Str} {g : List PyData → Option S} : kN (.exc x ρ) g = .exc x ρ := rfl
theorem kN_c {r1 r2 : RA} {g : List PyData → Option S} : kN (bif b then r1 else r2) g = bif b then kN r1 g else kN r2 g := by cases b <;> rfl
theorem cN_r {g : List PyData → Option S} {ca : CA} : cN g ca ρ = kN (ca ρ) g := rfl
def kTup (r : RA)  : R := r.bd fun ds ρ => .ok (.dat (.tuple ds)) ρ
theorem kTup_0 {s : List PyData}  : kTup (.ok s ρ)  = .ok (.dat (.tuple s)) ρ := rfl
theorem kTup_e {x : Str}  : kTup (.exc x ρ)  = .exc x ρ := rfl
theorem kTup_c {r1 r2 : RA}  : kTup (bif b then r1 else r2)  = bif b then kTup r1  else kTup r2  := by cases b <;> rfl
theorem cTup_r {ca : CA} : cTup ca ρ = kTup (ca ρ) := rfl
def kLst (r : RA)  : R := r.bd fun ds ρ => .ok (.lst ds) ρ
theorem kLst_0 {s : List PyData}  : kLst (.ok s ρ)  = .ok (.lst s) ρ := rfl
theorem kLst_e {x : Str}  : kLst (.exc x ρ)  = .exc x ρ := rfl
theorem kLst_c {r1 r2 : RA}  : kLst (bif b then r1 else r2)  = bif b then kLst r1  else kLst r2  := by cases b <;> rfl
theorem cLst_r {ca : CA} : cLst ca ρ = kLst (ca ρ) := rfl
theorem cK_r {d : PyData} : cK d ρ = .ok (.dat d) ρ := rfl
theorem caNil_r  : caNil ρ = .ok [] ρ := rfl
def kcb (r : RA) (d : PyData) : RA := r.ba fun ds ρ => .ok (d :: ds) ρ
theorem kcb_0 {s : List PyData} {d : PyData} : kcb (.ok s ρ) d = .ok (d :: s) ρ := rfl
theorem kcb_e {x : Str} {d : PyData} : kcb (.exc x ρ) d = .exc x ρ := rfl
theorem kcb_c {r1 r2 : RA} {d : PyData} : kcb (bif b then r1 else r2) d = bif b then kcb r1 d else kcb r2 d := by cases b <;> rfl
def kca (r : R) (cs : CA) : RA := r.ba fun d ρ => kcb (cs ρ) d
theorem kca_0 {s : S} {cs : CA} : kca (.ok s ρ) cs = kcb (cs ρ) s.d := rfl
theorem kca_e {x : Str} {cs : CA} : kca (.exc x ρ) cs = .exc x ρ := rfl
theorem kca_c {r1 r2 : R} {cs : CA} : kca (bif b then r1 else r2) cs = bif b then kca r1 cs else kca r2 cs := by cases b <;> rfl
theorem caCons_r {ca : CE} {cs : CA} : caCons ca cs ρ = kca (ca ρ) cs := rfl
theorem cxNil_r  : cxNil ρ = .ok [] ρ := rfl
def kxb (r : RX) (a : Ar) : RX := r.bx fun as ρ => .ok (a :: as) ρ
theorem kxb_0 {s : List Ar} {a : Ar} : kxb (.ok s ρ) a = .ok (a :: s) ρ := rfl
theorem kxb_e {x : Str} {a : Ar} : kxb (.exc x ρ) a = .exc x ρ := rfl
theorem kxb_c {r1 r2 : RX} {a : Ar} : kxb (bif b then r1 else r2) a = bif b then kxb r1 a else kxb r2 a := by cases b <;> rfl
def kxa (r : R) (cs : CX') : RX := r.bx fun d ρ => kxb (cs ρ) (.d d)
theorem kxa_0 {s : S} {cs : CX'} : kxa (.ok s ρ) cs = kxb (cs ρ) (.d s.d) := rfl
theorem kxa_e {x : Str} {cs : CX'} : kxa (.exc x ρ) cs = .exc x ρ := rfl
theorem kxa_c {r1 r2 : R} {cs : CX'} : kxa (bif b then r1 else r2) cs = bif b then kxa r1 cs else kxa r2 cs := by cases b <;> rfl
theorem cxD_r {ca : CE} {cs : CX'} : cxD ca cs ρ = kxa (ca ρ) cs := rfl
def kxs (o : Option (Option S)) (i : Nat) (cs : CX') (ρ : En) : RX := match o with
  | some (some _) => kxb (cs ρ) (.s i [])
  | _ => .bad
theorem cxS_r {i : Nat} {cs : CX'} : cxS i cs ρ = kxs (ρ[i]?) i cs ρ := by
  unfold cxS kxs kxb
  rfl
theorem kxs_0 {s : S} {i : Nat} {cs : CX'} : kxs (some (some s)) i cs ρ = kxb (cs ρ) (.s i []) := rfl
def kc3 (r : FR) (as : List Ar) (ρ : En) : R := match r with
  | .ok s ss' => .ok s (putBack ρ as ss')
  | .exc x ss' => .exc x (putBack ρ as ss')
  | .bad => .bad
def kc2 (o : Option (List S)) (F : Fn) (as : List Ar) (ρ : En) : R := match o with
  | some ss => bif dist (slotsOf as) then kc3 (F ss) as ρ else .bad
  | none => .bad
def kc1 (r : RX) (F : Fn) : R := match r with
  | .ok as ρ => kc2 (ssOf ρ as) F as ρ
  | .exc x ρ => .exc x ρ
  | .bad => .bad
theorem cCall_r {F : Fn} {cx : CX'} : cCall F cx ρ = kc1 (cx ρ) F := by
  unfold cCall kc1 kc2 kc3
  cases cx ρ with
  | ok as ρ1 => cases ssOf ρ1 as <;> rfl
  | exc x ρ1 => rfl
  | bad => rfl
theorem kc1_0 {as : List Ar} {F : Fn} : kc1 (.ok as ρ) F = kc2 (ssOf ρ as) F as ρ := rfl
theorem kc1_e {x : Str} {F : Fn} : kc1 (.exc x ρ) F = .exc x ρ := rfl
theorem kc2_0 {ss : List S} {as : List Ar} {F : Fn} : kc2 (some ss) F as ρ = bif dist (slotsOf as) then kc3 (F ss) as ρ else .bad := rfl
theorem kc3_0 {s : S} {ss : List S} {as : List Ar} : kc3 (.ok s ss) as ρ = .ok s (putBack ρ as ss) := rfl
theorem kc3_e {x : Str} {ss : List S} {as : List Ar} : kc3 (.exc x ss) as ρ = .exc x (putBack ρ as ss) := rfl
theorem kc3_c {r1 r2 : FR} {as : List Ar} : kc3 (bif b then r1 else r2) as ρ = bif b then kc3 r1 as ρ else kc3 r2 as ρ := by cases b <;> rfl
theorem ssOf_n : ssOf ρ [] = some [] := rfl
def ss1 (o : Option (List S)) (s : S) : Option (List S) := match o with
  | some ss => some (s :: ss)
  | none => none
theorem ss1_0 {ss : List S} {s : S} : ss1 (some ss) s = some (s :: ss) := rfl
def ss3 (o : Option S) (ss : List S) : Option (List S) := match o with
  | some t => some (t :: ss)
  | none => none
theorem ss3_0 {ss : List S} {s : S} : ss3 (some s) ss = some (s :: ss) := rfl
def ss2 (o : Option (Option S)) (p : List Str) (q : Option (List S)) : Option (List S) := match o, q with
  | some (some s), some ss => ss3 (S.at p s) ss
  | _, _ => none
theorem ss2_0 {p : List Str} {ss : List S} {s : S} : ss2 (some (some s)) p (some ss) = ss3 (S.at p s) ss := rfl
theorem sat_n {s : S} : S.at [] s = some s := rfl
def sat (o : Option S) (p : List Str) : Option S := match o with
  | some s => S.at p s
  | none => none
theorem sat_0 {p : List Str} {s : S} : sat (some s) p = S.at p s := rfl
theorem sat_c {f : Str} {p : List Str} {c : Option Str} {fs : Fs} : S.at (f :: p) (.obj c fs) = sat (fs.get f) p := by
  conv => lhs; unfold S.at
  unfold sat
  cases fs.get f <;> rfl
theorem sup_n {s t : S} : S.up [] s t = t := rfl
def supc (o : Option S) (f : Str) (p : List Str) (c : Option Str) (fs : Fs) (t : S) : S := match o with
  | some s => .obj c (fs.set f (S.up p s t))
  | none => .obj c fs
theorem supc_0 {f : Str} {p : List Str} {c : Option Str} {fs : Fs} {s t : S} : supc (some s) f p c fs t = .obj c (fs.set f (S.up p s t)) := rfl
theorem sup_c {f : Str} {p : List Str} {c : Option Str} {fs : Fs} {t : S} : S.up (f :: p) (.obj c fs) t = supc (fs.get f) f p c fs t := by
  conv => lhs; unfold S.up
  unfold supc
  cases fs.get f <;> rfl
theorem fsg_c {f g : Str} {s : S} {fs : Fs} : Fs.get (.cons f s fs) g = bif f == g then some s else fs.get g := rfl
theorem fsg_n {g : Str} : Fs.get .nil g = none := rfl
theorem fss_c {f g : Str} {s t : S} {fs : Fs} : Fs.set (.cons f s fs) g t = bif f == g then .cons f t fs else .cons f s (fs.set g t) := rfl
theorem fss_n {g : Str} {t : S} : Fs.set .nil g t = .cons g t .nil := rfl
theorem ssOf_d {d : PyData} {as : List Ar} : ssOf ρ (.d d :: as) = ss1 (ssOf ρ as) (.dat d) := rfl
theorem ssOf_s {i : Nat} {p : List Str} {as : List Ar} : ssOf ρ (.s i p :: as) = ss2 (ρ[i]?) p (ssOf ρ as) := by
  conv => lhs; unfold ssOf
  unfold ss2 ss3
  rfl
theorem ssOf_t {s : S} {as : List Ar} : ssOf ρ (.t s :: as) = ss1 (ssOf ρ as) s := rfl
theorem pb_n {ss : List S} : putBack ρ [] ss = ρ := by cases ss <;> rfl
theorem pb_d {d : PyData} {as : List Ar} {s : S} {ss : List S} : putBack ρ (.d d :: as) (s :: ss) = putBack ρ as ss := rfl
def pbs (o : Option (Option S)) (i : Nat) (p : List Str) (s : S) (ρ : En) : En := match o with
  | some (some s0) => ρ.set i (some (S.up p s0 s))
  | _ => ρ
theorem pbs_0 {i : Nat} {p : List Str} {s0 s : S} : pbs (some (some s0)) i p s ρ = ρ.set i (some (S.up p s0 s)) := rfl
theorem pb_s {i : Nat} {p : List Str} {as : List Ar} {s : S} {ss : List S} : putBack ρ (.s i p :: as) (s :: ss) = pbs (ρ[i]?) i p s (putBack ρ as ss) := by
  conv => lhs; unfold putBack
  unfold pbs
  rfl
theorem pb_t {t s : S} {as : List Ar} {ss : List S} : putBack ρ (.t t :: as) (s :: ss) = putBack ρ as ss := rfl
theorem so_t {t : S} {as : List Ar} : slotsOf (.t t :: as) = slotsOf as := rfl
theorem so_n : slotsOf [] = [] := rfl
theorem so_d {d : PyData} {as : List Ar} : slotsOf (.d d :: as) = slotsOf as := rfl
theorem so_s {i : Nat} {p : List Str} {as : List Ar} : slotsOf (.s i p :: as) = i :: slotsOf as := rfl
theorem di_n : dist [] = true := rfl
theorem di_1 {i : Nat} : dist [i] = true := rfl
theorem di_c {i j : Nat} {is : List Nat} : dist (i :: j :: is) = (!(j :: is).contains i && dist (j :: is)) := rfl
theorem cSeq_r {x y : CS} : cSeq x y ρ = (x ρ).sq y := rfl
theorem cNext_r  : cNext ρ = .nx ρ := rfl
theorem cRetN_r  : cRetN ρ = .rt (.dat .none) ρ := rfl
theorem cBrk_r  : cBrk ρ = .bk ρ := rfl
theorem cCnt_r  : cCnt ρ = .ct ρ := rfl
def kRet (r : R)  : O := r.bs fun s ρ => .rt s ρ
theorem kRet_0 {s : S}  : kRet (.ok s ρ)  = .rt s ρ := rfl
theorem kRet_e {x : Str}  : kRet (.exc x ρ)  = .exc x ρ := rfl
theorem kRet_c {r1 r2 : R}  : kRet (bif b then r1 else r2)  = bif b then kRet r1  else kRet r2  := by cases b <;> rfl
theorem cRet_r {c : CE} : cRet c ρ = kRet (c ρ) := rfl
def kDrop (r : R)  : O := r.bs fun _ ρ => .nx ρ
theorem kDrop_0 {s : S}  : kDrop (.ok s ρ)  = .nx ρ := rfl
theorem kDrop_e {x : Str}  : kDrop (.exc x ρ)  = .exc x ρ := rfl
theorem kDrop_c {r1 r2 : R}  : kDrop (bif b then r1 else r2)  = bif b then kDrop r1  else kDrop r2  := by cases b <;> rfl
theorem cDrop_r {c : CE} : cDrop c ρ = kDrop (c ρ) := rfl
def kSet (r : R) (i : Nat) : O := r.bs fun s ρ => .nx (ρ.set i (some s))
theorem kSet_0 {s : S} {i : Nat} : kSet (.ok s ρ) i = .nx (ρ.set i (some s)) := rfl
theorem kSet_e {x : Str} {i : Nat} : kSet (.exc x ρ) i = .exc x ρ := rfl
theorem kSet_c {r1 r2 : R} {i : Nat} : kSet (bif b then r1 else r2) i = bif b then kSet r1 i else kSet r2 i := by cases b <;> rfl
theorem cSet_r {i : Nat} {c : CE} : cSet i c ρ = kSet (c ρ) i := rfl
def kAs (o : Option En) : O := match o with
  | some ρ' => .nx ρ'
  | none => .bad
theorem kAs_0 : kAs (some ρ) = .nx ρ := rfl
def kAsg (r : R) (g : CG) : O := r.bs fun s ρ => kAs (g s.d ρ)
theorem kAsg_0 {s : S} {g : CG} : kAsg (.ok s ρ) g = kAs (g s.d ρ) := rfl
theorem kAsg_e {x : Str} {g : CG} : kAsg (.exc x ρ) g = .exc x ρ := rfl
theorem kAsg_c {r1 r2 : R} {g : CG} : kAsg (bif b then r1 else r2) g = bif b then kAsg r1 g else kAsg r2 g := by cases b <;> rfl
theorem cAsg_r {g : CG} {c : CE} : cAsg g c ρ = kAsg (c ρ) g := rfl
theorem cgName_r {i : Nat} {d : PyData} : cgName i d ρ = some (ρ.set i (some (.dat d))) := rfl
theorem cgNil_r  : cgNil [] ρ = some ρ := rfl
def kgc (o : Option En) (b : List PyData → En → Option En) (ds : List PyData) : Option En := match o with
  | some ρ => b ds ρ
  | none => none
theorem kgc_0 {b : List PyData → En → Option En} {ds : List PyData} : kgc (some ρ) b ds = b ds ρ := rfl
theorem cgCons_r {a : CG} {b : List PyData → En → Option En} {d : PyData} {ds : List PyData} : cgCons a b (d :: ds) ρ = kgc (a d ρ) b ds := rfl
theorem cgTup_r {n : Nat} {b : List PyData → En → Option En} {ds : List PyData} : cgTup n b (.tuple ds) ρ = bif ds.length == n then b ds ρ else none := rfl
theorem cgLst_r {n : Nat} {b : List PyData → En → Option En} {ds : List PyData} : cgLst n b (.list ds) ρ = bif ds.length == n then b ds ρ else none := rfl
def kPar (r : RA) (i : Nat) (j : Nat) : O := r.bs fun ds ρ => match ds with
  | [a, b] => .nx ((ρ.set i (some (.dat a))).set j (some (.dat b)))
  | _ => .bad
theorem kPar_0 {x y : PyData} {i : Nat} {j : Nat} : kPar (.ok [x, y] ρ) i j = .nx ((ρ.set i (some (.dat x))).set j (some (.dat y))) := rfl
theorem kPar_e {x : Str} {i : Nat} {j : Nat} : kPar (.exc x ρ) i j = .exc x ρ := rfl
theorem kPar_c {r1 r2 : RA} {i : Nat} {j : Nat} : kPar (bif b then r1 else r2) i j = bif b then kPar r1 i j else kPar r2 i j := by cases b <;> rfl
theorem cPar_r {i j : Nat} {c : CA} : cPar i j c ρ = kPar (c ρ) i j := rfl
def kPar3 (r : RA) (i : Nat) (j : Nat) (l : Nat) : O := r.bs fun ds ρ => match ds with
  | [a, b, d] => .nx (((ρ.set i (some (.dat a))).set j (some (.dat b))).set l (some (.dat d)))
  | _ => .bad
theorem kPar3_0 {x y z : PyData} {i : Nat} {j : Nat} {l : Nat} : kPar3 (.ok [x, y, z] ρ) i j l = .nx (((ρ.set i (some (.dat x))).set j (some (.dat y))).set l (some (.dat z))) := rfl
theorem kPar3_e {x : Str} {i : Nat} {j : Nat} {l : Nat} : kPar3 (.exc x ρ) i j l = .exc x ρ := rfl
theorem kPar3_c {r1 r2 : RA} {i : Nat} {j : Nat} {l : Nat} : kPar3 (bif b then r1 else r2) i j l = bif b then kPar3 r1 i j l else kPar3 r2 i j l := by cases b <;> rfl
theorem cPar3_r {i j l : Nat} {c : CA} : cPar3 i j l c ρ = kPar3 (c ρ) i j l := rfl
def kap3 (o : Option (Option S)) (i : Nat) (d : PyData) (ρ : En) : O := match o with
  | some (some (.lst l)) => bif decide (l.length < sizeLine) then .nx (ρ.set i (some (.lst (l ++ [d])))) else .bad
  | _ => .bad
theorem kap3_0 {l : List PyData} {i : Nat} {d : PyData} : kap3 (some (some (.lst l))) i d ρ = bif decide (l.length < sizeLine) then .nx (ρ.set i (some (.lst (l ++ [d])))) else .bad := rfl
def kap2 (r : R) (i : Nat) : O := r.bs fun s ρ => kap3 (ρ[i]?) i s.d ρ
theorem kap2_0 {s : S} {i : Nat} : kap2 (.ok s ρ) i = kap3 (ρ[i]?) i s.d ρ := rfl
theorem kap2_e {x : Str} {i : Nat} : kap2 (.exc x ρ) i = .exc x ρ := rfl
theorem kap2_c {r1 r2 : R} {i : Nat} : kap2 (bif b then r1 else r2) i = bif b then kap2 r1 i else kap2 r2 i := by cases b <;> rfl
def kap1 (o : Option (Option S)) (i : Nat) (c : CE) (ρ : En) : O := match o with
  | some (some (.lst _)) => kap2 (c ρ) i
  | _ => .bad
theorem kap1_0 {l : List PyData} {i : Nat} {c : CE} : kap1 (some (some (.lst l))) i c ρ = kap2 (c ρ) i := rfl
theorem cApp_r {i : Nat} {c : CE} : cApp i c ρ = kap1 (ρ[i]?) i c ρ := by
  unfold cApp kap1 kap2 kap3
  rfl
def ksi3 (o : Option (Option S)) (d : PyData) (i : Nat) (v : PyData) (ρ : En) : O := match o, d with
  | some (some (.lst l)), .int k => match ixN l.length k with
    | some j => .nx (ρ.set i (some (.lst (l.set j v))))
    | none => .bad
  | _, _ => .bad
def ksi4 (o : Option Nat) (l : List PyData) (i : Nat) (v : PyData) (ρ : En) : O := match o with
  | some j => .nx (ρ.set i (some (.lst (l.set j v))))
  | none => .bad
theorem ksi3_0 {l : List PyData} {k : Int} {i : Nat} {v : PyData} : ksi3 (some (some (.lst l))) (.int k) i v ρ = ksi4 (ixN l.length k) l i v ρ := by
  unfold ksi3 ksi4
  rfl
theorem ksi4_0 {j : Nat} {l : List PyData} {i : Nat} {v : PyData} : ksi4 (some j) l i v ρ = .nx (ρ.set i (some (.lst (l.set j v)))) := rfl
def ksi2 (r : R) (i : Nat) (v : PyData) : O := r.bs fun t ρ => ksi3 (ρ[i]?) t.d i v ρ
theorem ksi2_0 {s : S} {i : Nat} {v : PyData} : ksi2 (.ok s ρ) i v = ksi3 (ρ[i]?) s.d i v ρ := rfl
theorem ksi2_e {x : Str} {i : Nat} {v : PyData} : ksi2 (.exc x ρ) i v = .exc x ρ := rfl
theorem ksi2_c {r1 r2 : R} {i : Nat} {v : PyData} : ksi2 (bif b then r1 else r2) i v = bif b then ksi2 r1 i v else ksi2 r2 i v := by cases b <;> rfl
def ksi1 (o : Option (Option S)) (i : Nat) (ci : CE) (v : PyData) (ρ : En) : O := match o with
  | some (some (.lst _)) => ksi2 (ci ρ) i v
  | _ => .bad
theorem ksi1_0 {l : List PyData} {i : Nat} {ci : CE} {v : PyData} : ksi1 (some (some (.lst l))) i ci v ρ = ksi2 (ci ρ) i v := rfl
def ksi0 (r : R) (i : Nat) (ci : CE) : O := r.bs fun s ρ => ksi1 (ρ[i]?) i ci s.d ρ
theorem ksi0_0 {s : S} {i : Nat} {ci : CE} : ksi0 (.ok s ρ) i ci = ksi1 (ρ[i]?) i ci s.d ρ := rfl
theorem ksi0_e {x : Str} {i : Nat} {ci : CE} : ksi0 (.exc x ρ) i ci = .exc x ρ := rfl
theorem ksi0_c {r1 r2 : R} {i : Nat} {ci : CE} : ksi0 (bif b then r1 else r2) i ci = bif b then ksi0 r1 i ci else ksi0 r2 i ci := by cases b <;> rfl
theorem cSetIx_r {i : Nat} {ci c : CE} : cSetIx i ci c ρ = ksi0 (c ρ) i ci := by
  unfold cSetIx ksi0 ksi1 ksi2 ksi3
  rfl
def kix (d : PyData) (ρ : En) : RA := match d with
  | .list l => .ok l ρ
  | .tuple l => .ok l ρ
  | .str z => .ok (strL z) ρ
  | _ => .bad
theorem kix_l {l : List PyData} : kix (.list l) ρ = .ok l ρ := rfl
theorem kix_t {l : List PyData} : kix (.tuple l) ρ = .ok l ρ := rfl
theorem kix_s {l : Str} : kix (.str l) ρ = .ok (strL l) ρ := rfl
def kSq (r : R)  : RA := r.ba fun d ρ => kix d ρ
theorem kSq_0 {s : S}  : kSq (.ok s ρ)  = kix s.d ρ := rfl
theorem kSq_e {x : Str}  : kSq (.exc x ρ)  = .exc x ρ := rfl
theorem kSq_c {r1 r2 : R}  : kSq (bif b then r1 else r2)  = bif b then kSq r1  else kSq r2  := by cases b <;> rfl
theorem ciSeq_r {c : CE} : ciSeq c ρ = kSq (c ρ) := rfl
def kr1 (r : RA)  : RA := r.ba fun ds ρ => match ds with
  | [.int j] => bif decide (-(2 ^ 62) ≤ j ∧ j < 2 ^ 62) then .ok (rangeL 0 j.toNat) ρ else .bad
  | _ => .bad
theorem kr1_0 {j : Int}  : kr1 (.ok [.int j] ρ)  = bif decide (-(2 ^ 62) ≤ j ∧ j < 2 ^ 62) then .ok (rangeL 0 j.toNat) ρ else .bad := rfl
theorem kr1_e {x : Str}  : kr1 (.exc x ρ)  = .exc x ρ := rfl
theorem kr1_c {r1 r2 : RA}  : kr1 (bif b then r1 else r2)  = bif b then kr1 r1  else kr1 r2  := by cases b <;> rfl
theorem ciRange1_r {c : CA} : ciRange1 c ρ = kr1 (c ρ) := rfl
def kr2 (r : RA)  : RA := r.ba fun ds ρ => match ds with
  | [.int i, .int j] => bif decide (-(2 ^ 62) ≤ i ∧ i < 2 ^ 62 ∧ -(2 ^ 62) ≤ j ∧ j < 2 ^ 62) then .ok (rangeL i (j - i).toNat) ρ else .bad
  | _ => .bad
theorem kr2_0 {i j : Int}  : kr2 (.ok [.int i, .int j] ρ)  = bif decide (-(2 ^ 62) ≤ i ∧ i < 2 ^ 62 ∧ -(2 ^ 62) ≤ j ∧ j < 2 ^ 62) then .ok (rangeL i (j - i).toNat) ρ else .bad := rfl
theorem kr2_e {x : Str}  : kr2 (.exc x ρ)  = .exc x ρ := rfl
theorem kr2_c {r1 r2 : RA}  : kr2 (bif b then r1 else r2)  = bif b then kr2 r1  else kr2 r2  := by cases b <;> rfl
theorem ciRange2_r {c : CA} : ciRange2 c ρ = kr2 (c ρ) := rfl
def kFor (r : RA) (g : CG) (body : CS) : O := r.bs fun ds ρ => forL g body ds ρ
theorem kFor_0 {s : List PyData} {g : CG} {body : CS} : kFor (.ok s ρ) g body = forL g body s ρ := rfl
theorem kFor_e {x : Str} {g : CG} {body : CS} : kFor (.exc x ρ) g body = .exc x ρ := rfl
theorem kFor_c {r1 r2 : RA} {g : CG} {body : CS} : kFor (bif b then r1 else r2) g body = bif b then kFor r1 g body else kFor r2 g body := by cases b <;> rfl
theorem cFor_r {c : CA} {g : CG} {body : CS} : cFor c g body ρ = kFor (c ρ) g body := rfl
def kf2 (o : O) (g : CG) (body : CS) (ds : List PyData) : O := match o with
  | .nx ρ2 => forL g body ds ρ2
  | .ct ρ2 => forL g body ds ρ2
  | .bk ρ2 => .nx ρ2
  | o => o
def kf1 (o : Option En) (g : CG) (body : CS) (ds : List PyData) : O := match o with
  | some ρ1 => kf2 (body ρ1) g body ds
  | none => .bad
theorem forL_c {g : CG} {body : CS} {d : PyData} {ds : List PyData} : forL g body (d :: ds) ρ = kf1 (g d ρ) g body ds := by
  rw [forL]
  cases g d ρ with
  | none => rfl
  | some ρ1 =>
    simp only [kf1, kf2]
    cases body ρ1 <;> rfl
theorem forL_n {g : CG} {body : CS} : forL g body [] ρ = .nx ρ := rfl
theorem kf1_0 {g : CG} {body : CS} {ds : List PyData} : kf1 (some ρ) g body ds = kf2 (body ρ) g body ds := rfl
theorem kf2_nx {g : CG} {body : CS} {ds : List PyData} : kf2 (.nx ρ) g body ds = forL g body ds ρ := rfl
theorem kf2_ct {g : CG} {body : CS} {ds : List PyData} : kf2 (.ct ρ) g body ds = forL g body ds ρ := rfl
theorem kf2_bk {g : CG} {body : CS} {ds : List PyData} : kf2 (.bk ρ) g body ds = .nx ρ := rfl
theorem kf2_rt {s : S} {g : CG} {body : CS} {ds : List PyData} : kf2 (.rt s ρ) g body ds = .rt s ρ := rfl
theorem kf2_exc {x : Str} {g : CG} {body : CS} {ds : List PyData} : kf2 (.exc x ρ) g body ds = .exc x ρ := rfl
theorem kf2_cond {o1 o2 : O} {g : CG} {body : CS} {ds : List PyData} : kf2 (bif b then o1 else o2) g body ds = bif b then kf2 o1 g body ds else kf2 o2 g body ds := by cases b <;> rfl
def kb (o : Option PyData) (g : PyData → Option S) (ρ : En) : R := match o with
  | some d => R.lift (g d) ρ
  | none => .bad
theorem kb_0 {d : PyData} {g : PyData → Option S} : kb (some d) g ρ = R.lift (g d) ρ := rfl
def kbb (o : Option PyData) (g : PyData → PyData → Option S) (e : PyData) (ρ : En) : R := match o with
  | some d => R.lift (g d e) ρ
  | none => .bad
theorem kbb_0 {d e : PyData} {g : PyData → PyData → Option S} : kbb (some d) g e ρ = R.lift (g d e) ρ := rfl
def kb1 (r : RB) (g : PyData → Option S) : R := r.bd fun ar ρ => kb (resolve ρ ar) g ρ
theorem kb1_0 {a : Ar} {g : PyData → Option S} : kb1 (.ok a ρ) g = kb (resolve ρ a) g ρ := rfl
theorem kb1_c {r1 r2 : RB} {g : PyData → Option S} : kb1 (bif b then r1 else r2) g = bif b then kb1 r1 g else kb1 r2 g := by cases b <;> rfl
theorem kb1_e {x : Str} {g : PyData → Option S} : kb1 (.exc x ρ) g = .exc x ρ := rfl
theorem cB1_r {g : PyData → Option S} {cb : CB} : cB1 g cb ρ = kb1 (cb ρ) g := by
  unfold cB1 kb1 kb
  rfl
def kb3 (r : R) (a : Ar) (g : PyData → PyData → Option S) : R := r.bd fun e ρ => kbb (resolve ρ a) g e ρ
theorem kb3_0 {s : S} {a : Ar} {g : PyData → PyData → Option S} : kb3 (.ok s ρ) a g = kbb (resolve ρ a) g s.d ρ := rfl
theorem kb3_e {x : Str} {a : Ar} {g : PyData → PyData → Option S} : kb3 (.exc x ρ) a g = .exc x ρ := rfl
theorem kb3_c {r1 r2 : R} {a : Ar} {g : PyData → PyData → Option S} : kb3 (bif b then r1 else r2) a g = bif b then kb3 r1 a g else kb3 r2 a g := by cases b <;> rfl
def kb2 (r : RB) (g : PyData → PyData → Option S) (ci : CE) : R := r.bd fun ar ρ => kb3 (ci ρ) ar g
theorem kb2_0 {a : Ar} {g : PyData → PyData → Option S} {ci : CE} : kb2 (.ok a ρ) g ci = kb3 (ci ρ) a g := rfl
theorem kb2_c {r1 r2 : RB} {g : PyData → PyData → Option S} {ci : CE} : kb2 (bif b then r1 else r2) g ci = bif b then kb2 r1 g ci else kb2 r2 g ci := by cases b <;> rfl
theorem kb2_e {x : Str} {g : PyData → PyData → Option S} {ci : CE} : kb2 (.exc x ρ) g ci = .exc x ρ := rfl
theorem cB2_r {g : PyData → PyData → Option S} {cb : CB} {ci : CE} : cB2 g cb ci ρ = kb2 (cb ρ) g ci := by
  unfold cB2 kb2 kb3 kbb
  rfl
def kres (o : Option (Option S)) : Option PyData := match o with
  | some (some s) => bif s.nh then some s.d else none
  | _ => none
theorem kres_0 {s : S} : kres (some (some s)) = bif s.nh then some s.d else none := rfl
theorem res_d {d : PyData} : resolve ρ (.d d) = some d := rfl
theorem res_s {i : Nat} {p : List Str} : resolve ρ (.s i p) = kres (ρ[i]?) := rfl
def kbn (o : Option (Option S)) (i : Nat) (ρ : En) : RB := match o with
  | some (some _) => .ok (.s i []) ρ
  | _ => .bad
theorem kbn_0 {s : S} {i : Nat} : kbn (some (some s)) i ρ = .ok (.s i []) ρ := rfl
theorem cbN_r {i : Nat} : cbN i ρ = kbn (ρ[i]?) i ρ := rfl
def kbD (r : R) : RB := match r with
  | .ok s ρ => .ok (.d s.d) ρ
  | .exc x ρ => .exc x ρ
  | .bad => .bad
theorem kbD_0 {s : S} : kbD (.ok s ρ) = .ok (.d s.d) ρ := rfl
theorem kbD_e {x : Str} : kbD (.exc x ρ) = .exc x ρ := rfl
theorem kbD_c {r1 r2 : R} : kbD (bif b then r1 else r2) = bif b then kbD r1 else kbD r2 := by cases b <;> rfl
theorem cbD_r {c : CE} : cbD c ρ = kbD (c ρ) := rfl
def kv (o : Option (Option S)) (i : Nat) (ρ : En) : R := match o with
  | some (some s) => bif s.nh then .ok (.dat s.d) (ρ.set i (some (.dat s.d))) else .bad
  | _ => .bad
theorem kv_0 {s : S} {i : Nat} : kv (some (some s)) i ρ = bif s.nh then .ok (.dat s.d) (ρ.set i (some (.dat s.d))) else .bad := rfl
theorem nh_d {d : PyData} : (S.dat d).nh = true := rfl
theorem nh_l {d : List PyData} : (S.lst d).nh = true := rfl
theorem nh_k {d : List (PyData × PyData)} : (S.dic d).nh = true := rfl
theorem nh_o {c : Option Str} {fs : Fs} : (S.obj c fs).nh = fs.nh := rfl
theorem nh_fn : Fs.nil.nh = true := rfl
theorem nh_fc {f : Str} {s : S} {fs : Fs} : (Fs.cons f s fs).nh = (s.nh && fs.nh) := rfl
theorem cV_r {i : Nat} : cV i ρ = kv (ρ[i]?) i ρ := rfl
def kvm (o : Option (Option S)) (i : Nat) (ρ : En) : R := match o with
  | some (some s) => bif s.nh then .ok s (ρ.set i none) else .bad
  | _ => .bad
theorem kvm_0 {s : S} {i : Nat} : kvm (some (some s)) i ρ = bif s.nh then .ok s (ρ.set i none) else .bad := rfl
theorem cVm_r {i : Nat} : cVm i ρ = kvm (ρ[i]?) i ρ := rfl
theorem cV_0 {d : PyData} : cV 0 (some (.dat d) :: ρ) = .ok (.dat d) (some (.dat d) :: ρ) := rfl
theorem st_0 {y z : Option S} : List.set (y :: ρ) 0 z = z :: ρ := rfl
theorem gt_0 {y : Option S} : (y :: ρ : En)[0]? = some y := rfl
theorem cV_1 {x0 : Option S} {d : PyData} : cV 1 (x0 :: some (.dat d) :: ρ) = .ok (.dat d) (x0 :: some (.dat d) :: ρ) := rfl
theorem st_1 {x0 : Option S} {y z : Option S} : List.set (x0 :: y :: ρ) 1 z = x0 :: z :: ρ := rfl
theorem gt_1 {x0 : Option S} {y : Option S} : (x0 :: y :: ρ : En)[1]? = some y := rfl
theorem cV_2 {x0 x1 : Option S} {d : PyData} : cV 2 (x0 :: x1 :: some (.dat d) :: ρ) = .ok (.dat d) (x0 :: x1 :: some (.dat d) :: ρ) := rfl
theorem st_2 {x0 x1 : Option S} {y z : Option S} : List.set (x0 :: x1 :: y :: ρ) 2 z = x0 :: x1 :: z :: ρ := rfl
theorem gt_2 {x0 x1 : Option S} {y : Option S} : (x0 :: x1 :: y :: ρ : En)[2]? = some y := rfl
theorem cV_3 {x0 x1 x2 : Option S} {d : PyData} : cV 3 (x0 :: x1 :: x2 :: some (.dat d) :: ρ) = .ok (.dat d) (x0 :: x1 :: x2 :: some (.dat d) :: ρ) := rfl
theorem st_3 {x0 x1 x2 : Option S} {y z : Option S} : List.set (x0 :: x1 :: x2 :: y :: ρ) 3 z = x0 :: x1 :: x2 :: z :: ρ := rfl
theorem gt_3 {x0 x1 x2 : Option S} {y : Option S} : (x0 :: x1 :: x2 :: y :: ρ : En)[3]? = some y := rfl
theorem cV_4 {x0 x1 x2 x3 : Option S} {d : PyData} : cV 4 (x0 :: x1 :: x2 :: x3 :: some (.dat d) :: ρ) = .ok (.dat d) (x0 :: x1 :: x2 :: x3 :: some (.dat d) :: ρ) := rfl
theorem st_4 {x0 x1 x2 x3 : Option S} {y z : Option S} : List.set (x0 :: x1 :: x2 :: x3 :: y :: ρ) 4 z = x0 :: x1 :: x2 :: x3 :: z :: ρ := rfl
theorem gt_4 {x0 x1 x2 x3 : Option S} {y : Option S} : (x0 :: x1 :: x2 :: x3 :: y :: ρ : En)[4]? = some y := rfl
theorem cV_5 {x0 x1 x2 x3 x4 : Option S} {d : PyData} : cV 5 (x0 :: x1 :: x2 :: x3 :: x4 :: some (.dat d) :: ρ) = .ok (.dat d) (x0 :: x1 :: x2 :: x3 :: x4 :: some (.dat d) :: ρ) := rfl
theorem st_5 {x0 x1 x2 x3 x4 : Option S} {y z : Option S} : List.set (x0 :: x1 :: x2 :: x3 :: x4 :: y :: ρ) 5 z = x0 :: x1 :: x2 :: x3 :: x4 :: z :: ρ := rfl
theorem gt_5 {x0 x1 x2 x3 x4 : Option S} {y : Option S} : (x0 :: x1 :: x2 :: x3 :: x4 :: y :: ρ : En)[5]? = some y := rfl
theorem cV_6 {x0 x1 x2 x3 x4 x5 : Option S} {d : PyData} : cV 6 (x0 :: x1 :: x2 :: x3 :: x4 :: x5 :: some (.dat d) :: ρ) = .ok (.dat d) (x0 :: x1 :: x2 :: x3 :: x4 :: x5 :: some (.dat d) :: ρ) := rfl
theorem st_6 {x0 x1 x2 x3 x4 x5 : Option S} {y z : Option S} : List.set (x0 :: x1 :: x2 :: x3 :: x4 :: x5 :: y :: ρ) 6 z = x0 :: x1 :: x2 :: x3 :: x4 :: x5 :: z :: ρ := rfl
theorem gt_6 {x0 x1 x2 x3 x4 x5 : Option S} {y : Option S} : (x0 :: x1 :: x2 :: x3 :: x4 :: x5 :: y :: ρ : En)[6]? = some y := rfl
theorem cV_7 {x0 x1 x2 x3 x4 x5 x6 : Option S} {d : PyData} : cV 7 (x0 :: x1 :: x2 :: x3 :: x4 :: x5 :: x6 :: some (.dat d) :: ρ) = .ok (.dat d) (x0 :: x1 :: x2 :: x3 :: x4 :: x5 :: x6 :: some (.dat d) :: ρ) := rfl
theorem st_7 {x0 x1 x2 x3 x4 x5 x6 : Option S} {y z : Option S} : List.set (x0 :: x1 :: x2 :: x3 :: x4 :: x5 :: x6 :: y :: ρ) 7 z = x0 :: x1 :: x2 :: x3 :: x4 :: x5 :: x6 :: z :: ρ := rfl
theorem gt_7 {x0 x1 x2 x3 x4 x5 x6 : Option S} {y : Option S} : (x0 :: x1 :: x2 :: x3 :: x4 :: x5 :: x6 :: y :: ρ : En)[7]? = some y := rfl
theorem cV_8 {x0 x1 x2 x3 x4 x5 x6 x7 : Option S} {d : PyData} : cV 8 (x0 :: x1 :: x2 :: x3 :: x4 :: x5 :: x6 :: x7 :: some (.dat d) :: ρ) = .ok (.dat d) (x0 :: x1 :: x2 :: x3 :: x4 :: x5 :: x6 :: x7 :: some (.dat d) :: ρ) := rfl
theorem st_8 {x0 x1 x2 x3 x4 x5 x6 x7 : Option S} {y z : Option S} : List.set (x0 :: x1 :: x2 :: x3 :: x4 :: x5 :: x6 :: x7 :: y :: ρ) 8 z = x0 :: x1 :: x2 :: x3 :: x4 :: x5 :: x6 :: x7 :: z :: ρ := rfl
theorem gt_8 {x0 x1 x2 x3 x4 x5 x6 x7 : Option S} {y : Option S} : (x0 :: x1 :: x2 :: x3 :: x4 :: x5 :: x6 :: x7 :: y :: ρ : En)[8]? = some y := rfl
theorem cV_9 {x0 x1 x2 x3 x4 x5 x6 x7 x8 : Option S} {d : PyData} : cV 9 (x0 :: x1 :: x2 :: x3 :: x4 :: x5 :: x6 :: x7 :: x8 :: some (.dat d) :: ρ) = .ok (.dat d) (x0 :: x1 :: x2 :: x3 :: x4 :: x5 :: x6 :: x7 :: x8 :: some (.dat d) :: ρ) := rfl
theorem st_9 {x0 x1 x2 x3 x4 x5 x6 x7 x8 : Option S} {y z : Option S} : List.set (x0 :: x1 :: x2 :: x3 :: x4 :: x5 :: x6 :: x7 :: x8 :: y :: ρ) 9 z = x0 :: x1 :: x2 :: x3 :: x4 :: x5 :: x6 :: x7 :: x8 :: z :: ρ := rfl
theorem gt_9 {x0 x1 x2 x3 x4 x5 x6 x7 x8 : Option S} {y : Option S} : (x0 :: x1 :: x2 :: x3 :: x4 :: x5 :: x6 :: x7 :: x8 :: y :: ρ : En)[9]? = some y := rfl
theorem cV_10 {x0 x1 x2 x3 x4 x5 x6 x7 x8 x9 : Option S} {d : PyData} : cV 10 (x0 :: x1 :: x2 :: x3 :: x4 :: x5 :: x6 :: x7 :: x8 :: x9 :: some (.dat d) :: ρ) = .ok (.dat d) (x0 :: x1 :: x2 :: x3 :: x4 :: x5 :: x6 :: x7 :: x8 :: x9 :: some (.dat d) :: ρ) := rfl
theorem st_10 {x0 x1 x2 x3 x4 x5 x6 x7 x8 x9 : Option S} {y z : Option S} : List.set (x0 :: x1 :: x2 :: x3 :: x4 :: x5 :: x6 :: x7 :: x8 :: x9 :: y :: ρ) 10 z = x0 :: x1 :: x2 :: x3 :: x4 :: x5 :: x6 :: x7 :: x8 :: x9 :: z :: ρ := rfl
theorem gt_10 {x0 x1 x2 x3 x4 x5 x6 x7 x8 x9 : Option S} {y : Option S} : (x0 :: x1 :: x2 :: x3 :: x4 :: x5 :: x6 :: x7 :: x8 :: x9 :: y :: ρ : En)[10]? = some y := rfl
theorem cV_11 {x0 x1 x2 x3 x4 x5 x6 x7 x8 x9 x10 : Option S} {d : PyData} : cV 11 (x0 :: x1 :: x2 :: x3 :: x4 :: x5 :: x6 :: x7 :: x8 :: x9 :: x10 :: some (.dat d) :: ρ) = .ok (.dat d) (x0 :: x1 :: x2 :: x3 :: x4 :: x5 :: x6 :: x7 :: x8 :: x9 :: x10 :: some (.dat d) :: ρ) := rfl
theorem st_11 {x0 x1 x2 x3 x4 x5 x6 x7 x8 x9 x10 : Option S} {y z : Option S} : List.set (x0 :: x1 :: x2 :: x3 :: x4 :: x5 :: x6 :: x7 :: x8 :: x9 :: x10 :: y :: ρ) 11 z = x0 :: x1 :: x2 :: x3 :: x4 :: x5 :: x6 :: x7 :: x8 :: x9 :: x10 :: z :: ρ := rfl
theorem gt_11 {x0 x1 x2 x3 x4 x5 x6 x7 x8 x9 x10 : Option S} {y : Option S} : (x0 :: x1 :: x2 :: x3 :: x4 :: x5 :: x6 :: x7 :: x8 :: x9 :: x10 :: y :: ρ : En)[11]? = some y := rfl
theorem cV_12 {x0 x1 x2 x3 x4 x5 x6 x7 x8 x9 x10 x11 : Option S} {d : PyData} : cV 12 (x0 :: x1 :: x2 :: x3 :: x4 :: x5 :: x6 :: x7 :: x8 :: x9 :: x10 :: x11 :: some (.dat d) :: ρ) = .ok (.dat d) (x0 :: x1 :: x2 :: x3 :: x4 :: x5 :: x6 :: x7 :: x8 :: x9 :: x10 :: x11 :: some (.dat d) :: ρ) := rfl
theorem st_12 {x0 x1 x2 x3 x4 x5 x6 x7 x8 x9 x10 x11 : Option S} {y z : Option S} : List.set (x0 :: x1 :: x2 :: x3 :: x4 :: x5 :: x6 :: x7 :: x8 :: x9 :: x10 :: x11 :: y :: ρ) 12 z = x0 :: x1 :: x2 :: x3 :: x4 :: x5 :: x6 :: x7 :: x8 :: x9 :: x10 :: x11 :: z :: ρ := rfl
theorem gt_12 {x0 x1 x2 x3 x4 x5 x6 x7 x8 x9 x10 x11 : Option S} {y : Option S} : (x0 :: x1 :: x2 :: x3 :: x4 :: x5 :: x6 :: x7 :: x8 :: x9 :: x10 :: x11 :: y :: ρ : En)[12]? = some y := rfl
theorem cV_13 {x0 x1 x2 x3 x4 x5 x6 x7 x8 x9 x10 x11 x12 : Option S} {d : PyData} : cV 13 (x0 :: x1 :: x2 :: x3 :: x4 :: x5 :: x6 :: x7 :: x8 :: x9 :: x10 :: x11 :: x12 :: some (.dat d) :: ρ) = .ok (.dat d) (x0 :: x1 :: x2 :: x3 :: x4 :: x5 :: x6 :: x7 :: x8 :: x9 :: x10 :: x11 :: x12 :: some (.dat d) :: ρ) := rfl
theorem st_13 {x0 x1 x2 x3 x4 x5 x6 x7 x8 x9 x10 x11 x12 : Option S} {y z : Option S} : List.set (x0 :: x1 :: x2 :: x3 :: x4 :: x5 :: x6 :: x7 :: x8 :: x9 :: x10 :: x11 :: x12 :: y :: ρ) 13 z = x0 :: x1 :: x2 :: x3 :: x4 :: x5 :: x6 :: x7 :: x8 :: x9 :: x10 :: x11 :: x12 :: z :: ρ := rfl
theorem gt_13 {x0 x1 x2 x3 x4 x5 x6 x7 x8 x9 x10 x11 x12 : Option S} {y : Option S} : (x0 :: x1 :: x2 :: x3 :: x4 :: x5 :: x6 :: x7 :: x8 :: x9 :: x10 :: x11 :: x12 :: y :: ρ : En)[13]? = some y := rfl
theorem cV_14 {x0 x1 x2 x3 x4 x5 x6 x7 x8 x9 x10 x11 x12 x13 : Option S} {d : PyData} : cV 14 (x0 :: x1 :: x2 :: x3 :: x4 :: x5 :: x6 :: x7 :: x8 :: x9 :: x10 :: x11 :: x12 :: x13 :: some (.dat d) :: ρ) = .ok (.dat d) (x0 :: x1 :: x2 :: x3 :: x4 :: x5 :: x6 :: x7 :: x8 :: x9 :: x10 :: x11 :: x12 :: x13 :: some (.dat d) :: ρ) := rfl
theorem st_14 {x0 x1 x2 x3 x4 x5 x6 x7 x8 x9 x10 x11 x12 x13 : Option S} {y z : Option S} : List.set (x0 :: x1 :: x2 :: x3 :: x4 :: x5 :: x6 :: x7 :: x8 :: x9 :: x10 :: x11 :: x12 :: x13 :: y :: ρ) 14 z = x0 :: x1 :: x2 :: x3 :: x4 :: x5 :: x6 :: x7 :: x8 :: x9 :: x10 :: x11 :: x12 :: x13 :: z :: ρ := rfl
theorem gt_14 {x0 x1 x2 x3 x4 x5 x6 x7 x8 x9 x10 x11 x12 x13 : Option S} {y : Option S} : (x0 :: x1 :: x2 :: x3 :: x4 :: x5 :: x6 :: x7 :: x8 :: x9 :: x10 :: x11 :: x12 :: x13 :: y :: ρ : En)[14]? = some y := rfl
theorem cV_15 {x0 x1 x2 x3 x4 x5 x6 x7 x8 x9 x10 x11 x12 x13 x14 : Option S} {d : PyData} : cV 15 (x0 :: x1 :: x2 :: x3 :: x4 :: x5 :: x6 :: x7 :: x8 :: x9 :: x10 :: x11 :: x12 :: x13 :: x14 :: some (.dat d) :: ρ) = .ok (.dat d) (x0 :: x1 :: x2 :: x3 :: x4 :: x5 :: x6 :: x7 :: x8 :: x9 :: x10 :: x11 :: x12 :: x13 :: x14 :: some (.dat d) :: ρ) := rfl
theorem st_15 {x0 x1 x2 x3 x4 x5 x6 x7 x8 x9 x10 x11 x12 x13 x14 : Option S} {y z : Option S} : List.set (x0 :: x1 :: x2 :: x3 :: x4 :: x5 :: x6 :: x7 :: x8 :: x9 :: x10 :: x11 :: x12 :: x13 :: x14 :: y :: ρ) 15 z = x0 :: x1 :: x2 :: x3 :: x4 :: x5 :: x6 :: x7 :: x8 :: x9 :: x10 :: x11 :: x12 :: x13 :: x14 :: z :: ρ := rfl
theorem gt_15 {x0 x1 x2 x3 x4 x5 x6 x7 x8 x9 x10 x11 x12 x13 x14 : Option S} {y : Option S} : (x0 :: x1 :: x2 :: x3 :: x4 :: x5 :: x6 :: x7 :: x8 :: x9 :: x10 :: x11 :: x12 :: x13 :: x14 :: y :: ρ : En)[15]? = some y := rfl
theorem cV_16 {x0 x1 x2 x3 x4 x5 x6 x7 x8 x9 x10 x11 x12 x13 x14 x15 : Option S} {d : PyData} : cV 16 (x0 :: x1 :: x2 :: x3 :: x4 :: x5 :: x6 :: x7 :: x8 :: x9 :: x10 :: x11 :: x12 :: x13 :: x14 :: x15 :: some (.dat d) :: ρ) = .ok (.dat d) (x0 :: x1 :: x2 :: x3 :: x4 :: x5 :: x6 :: x7 :: x8 :: x9 :: x10 :: x11 :: x12 :: x13 :: x14 :: x15 :: some (.dat d) :: ρ) := rfl
theorem st_16 {x0 x1 x2 x3 x4 x5 x6 x7 x8 x9 x10 x11 x12 x13 x14 x15 : Option S} {y z : Option S} : List.set (x0 :: x1 :: x2 :: x3 :: x4 :: x5 :: x6 :: x7 :: x8 :: x9 :: x10 :: x11 :: x12 :: x13 :: x14 :: x15 :: y :: ρ) 16 z = x0 :: x1 :: x2 :: x3 :: x4 :: x5 :: x6 :: x7 :: x8 :: x9 :: x10 :: x11 :: x12 :: x13 :: x14 :: x15 :: z :: ρ := rfl
theorem gt_16 {x0 x1 x2 x3 x4 x5 x6 x7 x8 x9 x10 x11 x12 x13 x14 x15 : Option S} {y : Option S} : (x0 :: x1 :: x2 :: x3 :: x4 :: x5 :: x6 :: x7 :: x8 :: x9 :: x10 :: x11 :: x12 :: x13 :: x14 :: x15 :: y :: ρ : En)[16]? = some y := rfl
theorem cV_17 {x0 x1 x2 x3 x4 x5 x6 x7 x8 x9 x10 x11 x12 x13 x14 x15 x16 : Option S} {d : PyData} : cV 17 (x0 :: x1 :: x2 :: x3 :: x4 :: x5 :: x6 :: x7 :: x8 :: x9 :: x10 :: x11 :: x12 :: x13 :: x14 :: x15 :: x16 :: some (.dat d) :: ρ) = .ok (.dat d) (x0 :: x1 :: x2 :: x3 :: x4 :: x5 :: x6 :: x7 :: x8 :: x9 :: x10 :: x11 :: x12 :: x13 :: x14 :: x15 :: x16 :: some (.dat d) :: ρ) := rfl
theorem st_17 {x0 x1 x2 x3 x4 x5 x6 x7 x8 x9 x10 x11 x12 x13 x14 x15 x16 : Option S} {y z : Option S} : List.set (x0 :: x1 :: x2 :: x3 :: x4 :: x5 :: x6 :: x7 :: x8 :: x9 :: x10 :: x11 :: x12 :: x13 :: x14 :: x15 :: x16 :: y :: ρ) 17 z = x0 :: x1 :: x2 :: x3 :: x4 :: x5 :: x6 :: x7 :: x8 :: x9 :: x10 :: x11 :: x12 :: x13 :: x14 :: x15 :: x16 :: z :: ρ := rfl
theorem gt_17 {x0 x1 x2 x3 x4 x5 x6 x7 x8 x9 x10 x11 x12 x13 x14 x15 x16 : Option S} {y : Option S} : (x0 :: x1 :: x2 :: x3 :: x4 :: x5 :: x6 :: x7 :: x8 :: x9 :: x10 :: x11 :: x12 :: x13 :: x14 :: x15 :: x16 :: y :: ρ : En)[17]? = some y := rfl
theorem cV_18 {x0 x1 x2 x3 x4 x5 x6 x7 x8 x9 x10 x11 x12 x13 x14 x15 x16 x17 : Option S} {d : PyData} : cV 18 (x0 :: x1 :: x2 :: x3 :: x4 :: x5 :: x6 :: x7 :: x8 :: x9 :: x10 :: x11 :: x12 :: x13 :: x14 :: x15 :: x16 :: x17 :: some (.dat d) :: ρ) = .ok (.dat d) (x0 :: x1 :: x2 :: x3 :: x4 :: x5 :: x6 :: x7 :: x8 :: x9 :: x10 :: x11 :: x12 :: x13 :: x14 :: x15 :: x16 :: x17 :: some (.dat d) :: ρ) := rfl
theorem st_18 {x0 x1 x2 x3 x4 x5 x6 x7 x8 x9 x10 x11 x12 x13 x14 x15 x16 x17 : Option S} {y z : Option S} : List.set (x0 :: x1 :: x2 :: x3 :: x4 :: x5 :: x6 :: x7 :: x8 :: x9 :: x10 :: x11 :: x12 :: x13 :: x14 :: x15 :: x16 :: x17 :: y :: ρ) 18 z = x0 :: x1 :: x2 :: x3 :: x4 :: x5 :: x6 :: x7 :: x8 :: x9 :: x10 :: x11 :: x12 :: x13 :: x14 :: x15 :: x16 :: x17 :: z :: ρ := rfl
theorem gt_18 {x0 x1 x2 x3 x4 x5 x6 x7 x8 x9 x10 x11 x12 x13 x14 x15 x16 x17 : Option S} {y : Option S} : (x0 :: x1 :: x2 :: x3 :: x4 :: x5 :: x6 :: x7 :: x8 :: x9 :: x10 :: x11 :: x12 :: x13 :: x14 :: x15 :: x16 :: x17 :: y :: ρ : En)[18]? = some y := rfl
theorem cV_19 {x0 x1 x2 x3 x4 x5 x6 x7 x8 x9 x10 x11 x12 x13 x14 x15 x16 x17 x18 : Option S} {d : PyData} : cV 19 (x0 :: x1 :: x2 :: x3 :: x4 :: x5 :: x6 :: x7 :: x8 :: x9 :: x10 :: x11 :: x12 :: x13 :: x14 :: x15 :: x16 :: x17 :: x18 :: some (.dat d) :: ρ) = .ok (.dat d) (x0 :: x1 :: x2 :: x3 :: x4 :: x5 :: x6 :: x7 :: x8 :: x9 :: x10 :: x11 :: x12 :: x13 :: x14 :: x15 :: x16 :: x17 :: x18 :: some (.dat d) :: ρ) := rfl
theorem st_19 {x0 x1 x2 x3 x4 x5 x6 x7 x8 x9 x10 x11 x12 x13 x14 x15 x16 x17 x18 : Option S} {y z : Option S} : List.set (x0 :: x1 :: x2 :: x3 :: x4 :: x5 :: x6 :: x7 :: x8 :: x9 :: x10 :: x11 :: x12 :: x13 :: x14 :: x15 :: x16 :: x17 :: x18 :: y :: ρ) 19 z = x0 :: x1 :: x2 :: x3 :: x4 :: x5 :: x6 :: x7 :: x8 :: x9 :: x10 :: x11 :: x12 :: x13 :: x14 :: x15 :: x16 :: x17 :: x18 :: z :: ρ := rfl
theorem gt_19 {x0 x1 x2 x3 x4 x5 x6 x7 x8 x9 x10 x11 x12 x13 x14 x15 x16 x17 x18 : Option S} {y : Option S} : (x0 :: x1 :: x2 :: x3 :: x4 :: x5 :: x6 :: x7 :: x8 :: x9 :: x10 :: x11 :: x12 :: x13 :: x14 :: x15 :: x16 :: x17 :: x18 :: y :: ρ : En)[19]? = some y := rfl
theorem cV_20 {x0 x1 x2 x3 x4 x5 x6 x7 x8 x9 x10 x11 x12 x13 x14 x15 x16 x17 x18 x19 : Option S} {d : PyData} : cV 20 (x0 :: x1 :: x2 :: x3 :: x4 :: x5 :: x6 :: x7 :: x8 :: x9 :: x10 :: x11 :: x12 :: x13 :: x14 :: x15 :: x16 :: x17 :: x18 :: x19 :: some (.dat d) :: ρ) = .ok (.dat d) (x0 :: x1 :: x2 :: x3 :: x4 :: x5 :: x6 :: x7 :: x8 :: x9 :: x10 :: x11 :: x12 :: x13 :: x14 :: x15 :: x16 :: x17 :: x18 :: x19 :: some (.dat d) :: ρ) := rfl
theorem st_20 {x0 x1 x2 x3 x4 x5 x6 x7 x8 x9 x10 x11 x12 x13 x14 x15 x16 x17 x18 x19 : Option S} {y z : Option S} : List.set (x0 :: x1 :: x2 :: x3 :: x4 :: x5 :: x6 :: x7 :: x8 :: x9 :: x10 :: x11 :: x12 :: x13 :: x14 :: x15 :: x16 :: x17 :: x18 :: x19 :: y :: ρ) 20 z = x0 :: x1 :: x2 :: x3 :: x4 :: x5 :: x6 :: x7 :: x8 :: x9 :: x10 :: x11 :: x12 :: x13 :: x14 :: x15 :: x16 :: x17 :: x18 :: x19 :: z :: ρ := rfl
theorem gt_20 {x0 x1 x2 x3 x4 x5 x6 x7 x8 x9 x10 x11 x12 x13 x14 x15 x16 x17 x18 x19 : Option S} {y : Option S} : (x0 :: x1 :: x2 :: x3 :: x4 :: x5 :: x6 :: x7 :: x8 :: x9 :: x10 :: x11 :: x12 :: x13 :: x14 :: x15 :: x16 :: x17 :: x18 :: x19 :: y :: ρ : En)[20]? = some y := rfl
theorem cV_21 {x0 x1 x2 x3 x4 x5 x6 x7 x8 x9 x10 x11 x12 x13 x14 x15 x16 x17 x18 x19 x20 : Option S} {d : PyData} : cV 21 (x0 :: x1 :: x2 :: x3 :: x4 :: x5 :: x6 :: x7 :: x8 :: x9 :: x10 :: x11 :: x12 :: x13 :: x14 :: x15 :: x16 :: x17 :: x18 :: x19 :: x20 :: some (.dat d) :: ρ) = .ok (.dat d) (x0 :: x1 :: x2 :: x3 :: x4 :: x5 :: x6 :: x7 :: x8 :: x9 :: x10 :: x11 :: x12 :: x13 :: x14 :: x15 :: x16 :: x17 :: x18 :: x19 :: x20 :: some (.dat d) :: ρ) := rfl
theorem st_21 {x0 x1 x2 x3 x4 x5 x6 x7 x8 x9 x10 x11 x12 x13 x14 x15 x16 x17 x18 x19 x20 : Option S} {y z : Option S} : List.set (x0 :: x1 :: x2 :: x3 :: x4 :: x5 :: x6 :: x7 :: x8 :: x9 :: x10 :: x11 :: x12 :: x13 :: x14 :: x15 :: x16 :: x17 :: x18 :: x19 :: x20 :: y :: ρ) 21 z = x0 :: x1 :: x2 :: x3 :: x4 :: x5 :: x6 :: x7 :: x8 :: x9 :: x10 :: x11 :: x12 :: x13 :: x14 :: x15 :: x16 :: x17 :: x18 :: x19 :: x20 :: z :: ρ := rfl
theorem gt_21 {x0 x1 x2 x3 x4 x5 x6 x7 x8 x9 x10 x11 x12 x13 x14 x15 x16 x17 x18 x19 x20 : Option S} {y : Option S} : (x0 :: x1 :: x2 :: x3 :: x4 :: x5 :: x6 :: x7 :: x8 :: x9 :: x10 :: x11 :: x12 :: x13 :: x14 :: x15 :: x16 :: x17 :: x18 :: x19 :: x20 :: y :: ρ : En)[21]? = some y := rfl
theorem cV_22 {x0 x1 x2 x3 x4 x5 x6 x7 x8 x9 x10 x11 x12 x13 x14 x15 x16 x17 x18 x19 x20 x21 : Option S} {d : PyData} : cV 22 (x0 :: x1 :: x2 :: x3 :: x4 :: x5 :: x6 :: x7 :: x8 :: x9 :: x10 :: x11 :: x12 :: x13 :: x14 :: x15 :: x16 :: x17 :: x18 :: x19 :: x20 :: x21 :: some (.dat d) :: ρ) = .ok (.dat d) (x0 :: x1 :: x2 :: x3 :: x4 :: x5 :: x6 :: x7 :: x8 :: x9 :: x10 :: x11 :: x12 :: x13 :: x14 :: x15 :: x16 :: x17 :: x18 :: x19 :: x20 :: x21 :: some (.dat d) :: ρ) := rfl
theorem st_22 {x0 x1 x2 x3 x4 x5 x6 x7 x8 x9 x10 x11 x12 x13 x14 x15 x16 x17 x18 x19 x20 x21 : Option S} {y z : Option S} : List.set (x0 :: x1 :: x2 :: x3 :: x4 :: x5 :: x6 :: x7 :: x8 :: x9 :: x10 :: x11 :: x12 :: x13 :: x14 :: x15 :: x16 :: x17 :: x18 :: x19 :: x20 :: x21 :: y :: ρ) 22 z = x0 :: x1 :: x2 :: x3 :: x4 :: x5 :: x6 :: x7 :: x8 :: x9 :: x10 :: x11 :: x12 :: x13 :: x14 :: x15 :: x16 :: x17 :: x18 :: x19 :: x20 :: x21 :: z :: ρ := rfl
theorem gt_22 {x0 x1 x2 x3 x4 x5 x6 x7 x8 x9 x10 x11 x12 x13 x14 x15 x16 x17 x18 x19 x20 x21 : Option S} {y : Option S} : (x0 :: x1 :: x2 :: x3 :: x4 :: x5 :: x6 :: x7 :: x8 :: x9 :: x10 :: x11 :: x12 :: x13 :: x14 :: x15 :: x16 :: x17 :: x18 :: x19 :: x20 :: x21 :: y :: ρ : En)[22]? = some y := rfl
theorem cV_23 {x0 x1 x2 x3 x4 x5 x6 x7 x8 x9 x10 x11 x12 x13 x14 x15 x16 x17 x18 x19 x20 x21 x22 : Option S} {d : PyData} : cV 23 (x0 :: x1 :: x2 :: x3 :: x4 :: x5 :: x6 :: x7 :: x8 :: x9 :: x10 :: x11 :: x12 :: x13 :: x14 :: x15 :: x16 :: x17 :: x18 :: x19 :: x20 :: x21 :: x22 :: some (.dat d) :: ρ) = .ok (.dat d) (x0 :: x1 :: x2 :: x3 :: x4 :: x5 :: x6 :: x7 :: x8 :: x9 :: x10 :: x11 :: x12 :: x13 :: x14 :: x15 :: x16 :: x17 :: x18 :: x19 :: x20 :: x21 :: x22 :: some (.dat d) :: ρ) := rfl
theorem st_23 {x0 x1 x2 x3 x4 x5 x6 x7 x8 x9 x10 x11 x12 x13 x14 x15 x16 x17 x18 x19 x20 x21 x22 : Option S} {y z : Option S} : List.set (x0 :: x1 :: x2 :: x3 :: x4 :: x5 :: x6 :: x7 :: x8 :: x9 :: x10 :: x11 :: x12 :: x13 :: x14 :: x15 :: x16 :: x17 :: x18 :: x19 :: x20 :: x21 :: x22 :: y :: ρ) 23 z = x0 :: x1 :: x2 :: x3 :: x4 :: x5 :: x6 :: x7 :: x8 :: x9 :: x10 :: x11 :: x12 :: x13 :: x14 :: x15 :: x16 :: x17 :: x18 :: x19 :: x20 :: x21 :: x22 :: z :: ρ := rfl
theorem gt_23 {x0 x1 x2 x3 x4 x5 x6 x7 x8 x9 x10 x11 x12 x13 x14 x15 x16 x17 x18 x19 x20 x21 x22 : Option S} {y : Option S} : (x0 :: x1 :: x2 :: x3 :: x4 :: x5 :: x6 :: x7 :: x8 :: x9 :: x10 :: x11 :: x12 :: x13 :: x14 :: x15 :: x16 :: x17 :: x18 :: x19 :: x20 :: x21 :: x22 :: y :: ρ : En)[23]? = some y := rfl
theorem tAnd_b {cb : CE} : tAnd (.ok (.dat (.bool b)) ρ) cb = bif b then cb ρ else .ok (.dat (.bool false)) ρ := by cases b <;> rfl
def tCh2 (r : R) (g : PyData → PyData → Option S) (e : PyData) : R := r.bd fun f ρ => R.lift (g e f) ρ
theorem tCh2_0 {s : S} {g : PyData → PyData → Option S} {e : PyData} : tCh2 (.ok s ρ) g e = R.lift (g e s.d) ρ := rfl
theorem tCh2_e {x : Str} {g : PyData → PyData → Option S} {e : PyData} : tCh2 (.exc x ρ) g e = .exc x ρ := rfl
def tCh1 (r : R) (g : PyData → PyData → Option S) (e : PyData) (cc : CE) : R := r.bd fun t ρ => match t with
  | .bool true => tCh2 (cc ρ) g e
  | .bool false => .ok (.dat (.bool false)) ρ
  | _ => .bad
theorem tCh1_0 {g : PyData → PyData → Option S} {e : PyData} {cc : CE} : tCh1 (.ok (.dat (.bool b)) ρ) g e cc = bif b then tCh2 (cc ρ) g e else .ok (.dat (.bool false)) ρ := by cases b <;> rfl
def tCh0b (r : R) (g1 g2 : PyData → PyData → Option S) (d : PyData) (cc : CE) : R := r.bd fun e ρ => tCh1 (R.lift (g1 d e) ρ) g2 e cc
theorem tCh0b_0 {s : S} {g1 g2 : PyData → PyData → Option S} {d : PyData} {cc : CE} : tCh0b (.ok s ρ) g1 g2 d cc = tCh1 (R.lift (g1 d s.d) ρ) g2 s.d cc := rfl
theorem tCh0b_e {x : Str} {g1 g2 : PyData → PyData → Option S} {d : PyData} {cc : CE} : tCh0b (.exc x ρ) g1 g2 d cc = .exc x ρ := rfl
def tCh0a (r : R) (g1 g2 : PyData → PyData → Option S) (cb cc : CE) : R := r.bd fun d ρ => tCh0b (cb ρ) g1 g2 d cc
theorem tCh0a_0 {s : S} {g1 g2 : PyData → PyData → Option S} {cb cc : CE} : tCh0a (.ok s ρ) g1 g2 cb cc = tCh0b (cb ρ) g1 g2 s.d cc := rfl
theorem tCh0a_e {x : Str} {g1 g2 : PyData → PyData → Option S} {cb cc : CE} : tCh0a (.exc x ρ) g1 g2 cb cc = .exc x ρ := rfl
theorem cChain_r {g1 g2 : PyData → PyData → Option S} {ca cb cc : CE} : cChain g1 g2 ca cb cc ρ = tCh0a (ca ρ) g1 g2 cb cc := rfl
def ml3 (r : R) (vs : List Nat) (g : CG) (ct ce : CE) (ds acc : List PyData) : RA := match r with
  | .ok s ρ => bif decide (acc.length < sizeLine) then lcL vs g ct ce ds ρ (acc ++ [s.d]) else .bad
  | _ => .bad
def ml2 (r : R) (vs : List Nat) (g : CG) (ct ce : CE) (ds acc : List PyData) : RA := match r with
  | .ok (.dat (.bool true)) ρ => ml3 (ce ρ) vs g ct ce ds acc
  | .ok (.dat (.bool false)) ρ => lcL vs g ct ce ds ρ acc
  | _ => .bad
def ml1 (o : Option En) (vs : List Nat) (g : CG) (ct ce : CE) (ds acc : List PyData) : RA := match o with
  | some ρ => ml2 (ct ρ) vs g ct ce ds acc
  | none => .bad
section
variable {vs : List Nat} {g : CG} {ct ce : CE} {ds acc : List PyData}
theorem lcL_c {d : PyData} : lcL vs g ct ce (d :: ds) ρ acc = ml1 (g d (wipeE ρ vs)) vs g ct ce ds acc := by
  rw [lcL]
  cases g d (wipeE ρ vs) with
  | none => rfl
  | some ρ1 =>
    simp only [ml1, ml2, ml3]
    all_goals
      cases h : ct ρ1 with
      | bad => rfl
      | exc x ρ => rfl
      | ok s ρ2 =>
        cases s with
        | lst l | dic l | obj c fs | hole => rfl
        | dat d =>
          cases d with
          | bool b =>
            cases b
            · rfl
            · simp only
              all_goals (cases ce ρ2 <;> rfl)
          | _ => rfl
theorem ml1_0 : ml1 (some ρ) vs g ct ce ds acc = ml2 (ct ρ) vs g ct ce ds acc := rfl
theorem ml2_t : ml2 (.ok (.dat (.bool true)) ρ) vs g ct ce ds acc = ml3 (ce ρ) vs g ct ce ds acc := rfl
theorem ml2_f : ml2 (.ok (.dat (.bool false)) ρ) vs g ct ce ds acc = lcL vs g ct ce ds ρ acc := rfl
theorem ml2_b : ml2 (.ok (.dat (.bool b)) ρ) vs g ct ce ds acc = bif b then ml3 (ce ρ) vs g ct ce ds acc else lcL vs g ct ce ds ρ acc := by cases b <;> rfl
theorem ml3_0 {s : S} : ml3 (.ok s ρ) vs g ct ce ds acc = bif decide (acc.length < sizeLine) then lcL vs g ct ce ds ρ (acc ++ [s.d]) else .bad := rfl
def ml5 (r : RA) (ρ1 : En) (vs : List Nat) : R := match r with
  | .ok acc ρ2 => .ok (.lst acc) (restoreE ρ1 ρ2 vs)
  | _ => .bad
theorem ml5_0 {ρ1 : En} : ml5 (.ok acc ρ) ρ1 vs = .ok (.lst acc) (restoreE ρ1 ρ vs) := rfl
def ml4 (r : RA) (vs : List Nat) (g : CG) (ct ce : CE) : R := match r with
  | .ok ds ρ1 => bif noOwn ρ1 vs then ml5 (lcL vs g ct ce ds ρ1 []) ρ1 vs else .bad
  | .exc x ρ1 => .exc x ρ1
  | .bad => .bad
theorem ml4_0 : ml4 (.ok ds ρ) vs g ct ce = bif noOwn ρ vs then ml5 (lcL vs g ct ce ds ρ []) ρ vs else .bad := rfl
theorem ml4_e {x : Str} : ml4 (.exc x ρ) vs g ct ce = .exc x ρ := rfl
theorem ml4_c {r1 r2 : RA} : ml4 (bif b then r1 else r2) vs g ct ce = bif b then ml4 r1 vs g ct ce else ml4 r2 vs g ct ce := by cases b <;> rfl
theorem cLc_r {src : CA} : cLc vs src g ct ce ρ = ml4 (src ρ) vs g ct ce := by
  unfold cLc ml4 ml5
  cases src ρ with
  | ok ds ρ1 =>
    try simp only
    all_goals (cases noOwn ρ1 vs <;> first | rfl | (simp only [cond_true]; done) | (simp only [cond_true]; cases lcL vs g ct ce ds ρ1 [] <;> rfl) | (cases lcL vs g ct ce ds ρ1 [] <;> rfl))
  | exc x ρ1 => rfl
  | bad => rfl
end
def nOw (o : Option (Option S)) : Bool := match o with
  | some (some (.dat _)) => true
  | some (some _) => false
  | _ => true
theorem nO_d {d : PyData} : nOw (some (some (.dat d))) = true := rfl
theorem nO_n : nOw (some none) = true := rfl
theorem nO_l {l : List PyData} : nOw (some (some (.lst l))) = false := rfl
theorem noOwn_n : noOwn ρ [] = true := rfl
theorem noOwn_c {v : Nat} {vs : List Nat} : noOwn ρ (v :: vs) = (nOw (ρ[v]?) && noOwn ρ vs) := rfl
theorem wipe_n : wipeE ρ [] = ρ := rfl
theorem wipe_c {v : Nat} {vs : List Nat} : wipeE ρ (v :: vs) = (wipeE ρ vs).set v none := rfl
def rsE (o : Option (Option S)) (ρ : En) (v : Nat) : En := match o with
  | some o => ρ.set v o
  | none => ρ
theorem rsE_0 {o : Option S} {v : Nat} : rsE (some o) ρ v = ρ.set v o := rfl
theorem rest_n {ρ0 : En} : restoreE ρ0 ρ [] = ρ := rfl
theorem rest_c {ρ0 : En} {v : Nat} {vs : List Nat} : restoreE ρ0 ρ (v :: vs) = rsE (ρ0[v]?) (restoreE ρ0 ρ vs) v := rfl
/-! ### a def -/
theorem mkF_r {n m : Nat} {J : List Nat} {c : CS} {ss : List S} : mkF n m J c ss = bif ss.length == n then finish J ss (c (ss.map some ++ List.replicate (m - n) none)) else .bad := rfl
def fo (o : Option (List S)) (s : S) : FR := match o with
  | some r => .ok s r
  | none => .bad
theorem fo_0 {r : List S} {s : S} : fo (some r) s = .ok s r := rfl
def fx (o : Option (List S)) (x : Str) : FR := match o with
  | some r => .exc x r
  | none => .bad
theorem fx_0 {r : List S} {x : Str} : fx (some r) x = .exc x r := rfl
theorem fin_nx' {J : List Nat} {ss : List S} : finish J ss (.nx ρ) = fo (outs J ρ 0 ss) (.dat .none) := rfl
theorem fin_rt' {J : List Nat} {ss : List S} {s : S} : finish J ss (.rt s ρ) = fo (outs J ρ 0 ss) s := rfl
theorem fin_exc' {J : List Nat} {ss : List S} {x : Str} : finish J ss (.exc x ρ) = fx (outs J ρ 0 ss) x := rfl
def ob (o : Option S) (p : Option (List S)) : Option (List S) := match o, p with
  | some s, some ss => some (s :: ss)
  | _, _ => none
def og (o : Option (Option S)) : Option S := match o with
  | some (some s) => some s
  | _ => none
def od (s : S) : Option S := match s with
  | .dat d => some (.dat d)
  | _ => none
theorem ob_0 {s : S} {ss : List S} : ob (some s) (some ss) = some (s :: ss) := rfl
theorem og_0 {s : S} : og (some (some s)) = some s := rfl
theorem od_0 {d : PyData} : od (.dat d) = some (.dat d) := rfl
theorem outs_n {J : List Nat} {k : Nat} : outs J ρ k [] = some [] := rfl
theorem outs_c {J : List Nat} {k : Nat} {s : S} {ss : List S} : outs J ρ k (s :: ss) = ob (bif J.contains k then og (ρ[k]?) else od s) (outs J ρ (k + 1) ss) := by
  conv => lhs; rw [outs.eq_def]
  simp only
  generalize outs J ρ (k + 1) ss = p
  cases h : J.contains k
  · cases s with
    | dat d => cases p <;> rfl
    | lst l | dic l | obj c fs | hole => cases p <;> rfl
  · simp only [cond_true]
    cases h2 : ρ[k]? with
    | none => cases p <;> rfl
    | some o => cases o with
      | none => cases p <;> rfl
      | some s => cases p <;> rfl
end
end Z
set_option maxHeartbeats 2000000
/-! Z: dicts. -/
namespace Z
open PySem PySem.Spec PyProof.Rows L2
open Evl (Ex ex_l ex_t ex_rd)
/-! ### keys -/
def keyOf : PyData → Option Key
  | .int i => some (.inl i)
  | .str x => some (.inr x)
  | _ => none
mutual
def nkOf : PyData → Option NestedKey
  | .none => some .none
  | .int i => some (.num i)
  | .str x => some (.text x)
  | .tuple l => match nksOf l with
    | some ks => some (.tup ks)
    | none => none
  | .bool _ => none
  | .list _ => none
  | .dict _ => none
def nksOf : List PyData → Option (List NestedKey)
  | [] => some []
  | d :: ds => match nkOf d, nksOf ds with
    | some k, some ks => some (k :: ks)
    | _, _ => none
end
mutual
theorem nk_data : ∀ {d : PyData} {k : NestedKey}, nkOf d = some k → d = k.data
  | .none, k, h => by cases h; rfl
  | .int i, k, h => by cases h; rfl
  | .str i, k, h => by cases h; rfl
  | .tuple l, k, h => by
    unfold nkOf at h
    split at h
    · rename_i ks e
      cases h
      rw [nks_data e]
      rfl
    · cases h
  | .bool _, k, h => by cases h
  | .list _, k, h => by cases h
  | .dict _, k, h => by cases h
theorem nks_data : ∀ {d : List PyData} {k : List NestedKey}, nksOf d = some k → d = NestedKey.datas k
  | [], k, h => by cases h; rfl
  | d :: ds, k, h => by
    unfold nksOf at h
    split at h
    · rename_i x xs e1 e2
      cases h
      rw [nk_data e1, nks_data e2]
      rfl
    · cases h
end
mutual
theorem data_nk : ∀ (k : NestedKey), nkOf k.data = some k
  | .none => rfl
  | .num i => rfl
  | .text x => rfl
  | .tup ks => by
    show nkOf (.tuple (NestedKey.datas ks)) = _
    unfold nkOf
    rw [datas_nk ks]
theorem datas_nk : ∀ (k : List NestedKey), nksOf (NestedKey.datas k) = some k
  | [] => rfl
  | k :: ks => by
    show nksOf (k.data :: NestedKey.datas ks) = _
    unfold nksOf
    rw [data_nk k, datas_nk ks]
end
/-- two keys are one -/
def kEq (d e : PyData) : Bool := decide (nkOf d = nkOf e)
theorem kEq_kD {a b : Key} : kEq (kD a) (kD b) = decide (a = b) := by
  unfold kEq
  cases a <;> cases b <;> simp [kD, nkOf]
theorem kEq_tup {a b : List NestedKey} : kEq (.tuple (NestedKey.datas a)) (.tuple (NestedKey.datas b)) = decide (NestedKey.tup a = NestedKey.tup b) := by
  have e : ∀ k, nkOf (.tuple (NestedKey.datas k)) = some (.tup k) := fun k => data_nk (.tup k)
  unfold kEq
  rw [e, e]
  simp
def dGet (l : List (PyData × PyData)) (k : PyData) : Option PyData := match l with
  | [] => none
  | p :: l => bif kEq p.1 k then some p.2 else dGet l k
def dRep (l : List (PyData × PyData)) (k v : PyData) : List (PyData × PyData) := match l with
  | [] => []
  | p :: l => (bif kEq p.1 k then (p.1, v) else p) :: dRep l k v
def dPut (l : List (PyData × PyData)) (k v : PyData) : List (PyData × PyData) := match dGet l k with
  | some _ => dRep l k v
  | none => l ++ [(k, v)]
def dDel (l : List (PyData × PyData)) (k : PyData) : List (PyData × PyData) := l.filter fun p => !kEq p.1 k
/-- a key that goes with the dict's keys -/
def isK (d : PyData) : Bool := (keyOf d).isSome
def isN (d : PyData) : Bool := match nkOf d with
  | some (.tup ks) => decide ((NestedKey.tup ks).depth ≤ 8)
  | _ => false
def kOk (l : List (PyData × PyData)) (k : PyData) : Bool := bif isK k then l.all fun p => isK p.1 else isN k && l.all fun p => isN p.1
theorem isK_of {d : PyData} (h : isK d = true) : ∃ k, keyOf d = some k ∧ d = kD k := by
  cases d with
  | int i => exact ⟨_, rfl, rfl⟩
  | str i => exact ⟨_, rfl, rfl⟩
  | none | bool _ | list _ | tuple _ | dict _ => cases h
theorem isN_of {d : PyData} (h : isN d = true) : ∃ ks, d = .tuple (NestedKey.datas ks) ∧ (NestedKey.tup ks).depth ≤ 8 := by
  unfold isN at h
  split at h
  · rename_i ks e
    exact ⟨ks, nk_data e, of_decide_eq_true h⟩
  · cases h
theorem isK_kD (k : Key) : isK (kD k) = true := by cases k <;> rfl
theorem isK_tup (l : List PyData) : isK (.tuple l) = false := rfl
theorem isN_kD (k : Key) : isN (kD k) = false := by cases k <;> rfl
section
variable {K : KF} {B H : Hp}
theorem dpKV_len : ∀ {kvs : List (Key × V)} {l : List (PyData × PyData)}, DpKV K B kvs l → kvs.length = l.length
  | _, _, .nil => rfl
  | _, _, .cons _ t => congrArg (· + 1) (dpKV_len t)
theorem dpKN_len : ∀ {kvs : NL} {l : List (PyData × PyData)}, DpKN K B kvs l → kvs.length = l.length
  | _, _, .nil => rfl
  | _, _, .cons _ _ _ t => congrArg (· + 1) (dpKN_len t)
theorem dpKV_nK : ∀ {kvs : List (Key × V)} {l : List (PyData × PyData)}, DpKV K B kvs l → (l.all fun p => isN p.1) = true → kvs = [] ∧ l = []
  | _, _, .nil, _ => ⟨rfl, rfl⟩
  | _, _, .cons (k := k) _ t, h => by
    have this : isN (kD k) = true := (Bool.and_eq_true_iff.mp h).1
    rw [isN_kD] at this
    cases this
theorem dpKN_nN : ∀ {kvs : NL} {l : List (PyData × PyData)}, DpKN K B kvs l → (l.all fun p => isK p.1) = true → kvs = [] ∧ l = []
  | _, _, .nil, _ => ⟨rfl, rfl⟩
  | _, _, .cons _ _ _ t, h => by
    have := (Bool.and_eq_true_iff.mp h).1
    cases this
theorem dGet_k : ∀ {kvs : List (Key × V)} {l : List (PyData × PyData)}, DpKV K B kvs l → ∀ {k : Key}, (∀ e, dGet l (kD k) = some e → ∃ v, valV kvs k = some v ∧ Dp K B v e) ∧ (dGet l (kD k) = none → valV kvs k = none)
  | _, _, .nil, k => ⟨fun e h => by (cases h), fun _ => rfl⟩
  | _, _, .cons (k := j) (v := v) (vs := kvs) (d := d) (ds := l) h t, k => by
    unfold dGet
    rw [kEq_kD]
    by_cases e : j = k
    · subst e
      simp only [decide_true, cond_true]
      refine ⟨fun e h' => ?_, fun h' => by cases h'⟩
      cases h'
      exact ⟨_, valV_pos rfl, h⟩
    · simp only [decide_eq_false e, cond_false]
      rw [valV_neg (p := (j, v)) e]
      exact dGet_k t
theorem dPut_k : ∀ {kvs : List (Key × V)} {l : List (PyData × PyData)}, DpKV K B kvs l → ∀ {k : Key} {v : V} {e : PyData}, Dp K B v e → DpKV K B (putK kvs k v) (dPut l (kD k) e) := by
  intro kvs l h k v e hv
  have rp : ∀ {kvs : List (Key × V)} {l : List (PyData × PyData)}, DpKV K B kvs l → DpKV K B (kvs.map fun kv => if kv.1 = k then (kv.1, v) else kv) (dRep l (kD k) e) := fun {kvs l} h => by
    induction kvs generalizing l with
    | nil => cases h; exact .nil
    | cons p kvs ih =>
      cases h with
      | @cons j u _ d ds h1 t =>
        rw [List.map_cons]
        unfold dRep
        rw [kEq_kD]
        by_cases q : j = k
        · subst q
          simp only [decide_true, cond_true, if_true]
          exact .cons hv (ih t)
        · simp only [decide_eq_false q, cond_false, if_neg q]
          exact .cons h1 (ih t)
  have ap : ∀ {kvs : List (Key × V)} {l : List (PyData × PyData)}, DpKV K B kvs l → DpKV K B (kvs ++ [(k, v)]) (l ++ [(kD k, e)]) := fun {kvs l} h => by
    induction kvs generalizing l with
    | nil => cases h; exact .cons hv .nil
    | cons p kvs ih =>
      cases h with
      | cons h1 t => exact .cons h1 (ih t)
  obtain ⟨g1, g2⟩ := dGet_k h (k := k)
  unfold dPut
  cases hg : dGet l (kD k) with
  | none =>
    rw [putK_new v (g2 hg)]
    exact ap h
  | some x =>
    obtain ⟨u, hu, _⟩ := g1 x hg
    have e1 : (kvs.any fun kv => decide (kv.1 = k)) = true := by rw [valV_any, hu]; rfl
    unfold putK
    rw [if_pos e1]
    exact rp h
theorem dDel_k : ∀ {kvs : List (Key × V)} {l : List (PyData × PyData)}, DpKV K B kvs l → ∀ {k : Key}, DpKV K B (dropK kvs k) (dDel l (kD k))
  | _, _, .nil, k => .nil
  | _, _, .cons (k := j) (v := v) (vs := kvs) (d := d) (ds := l) h t, k => by
    unfold dropK dDel
    by_cases e : j = k
    · rw [List.filter_cons_of_neg (by simpa using e), List.filter_cons_of_neg (by rw [kEq_kD]; simpa using e)]
      exact dDel_k t
    · rw [List.filter_cons_of_pos (by simpa using e), List.filter_cons_of_pos (by rw [kEq_kD]; simpa using e)]
      exact .cons h (dDel_k t)
/-! tuples -/
def atN (L : NL) (k : NestedKey) : Option V := (L.find? fun x => decide (x.1 = k)).map (·.2.2)
def putN (L : NL) (k : NestedKey) (b : Addr) (v : V) : NL := if (atN L k).isSome then L.map fun x => if x.1 = k then (x.1, x.2.1, v) else x else L ++ [(k, b, v)]
def dropN (L : NL) (k : NestedKey) : NL := L.filter fun x => decide (x.1 ≠ k)
theorem NX.at_ : ∀ {L : NL} {xs : List (NestedKey × Addr × Value)}, NX L xs → ∀ {k : NestedKey}, RelO (atN L k) ((atKey xs k).map (·.2))
  | _, _, .nil, k => True.intro
  | _, _, .cons (a := x) (b := y) (l₁ := L) (l₂ := xs) h t, k => by
    unfold atN atKey
    obtain ⟨h1, h2, h3⟩ := h
    by_cases e : x.1 = k
    · rw [List.find?_cons_of_pos (by simpa using e), List.find?_cons_of_pos (by rw [← h1]; simpa using e)]
      exact h3
    · rw [List.find?_cons_of_neg (by simpa using e), List.find?_cons_of_neg (by rw [← h1]; simpa using e)]
      exact NX.at_ t
theorem NX.keys : ∀ {L : NL} {xs : List (NestedKey × Addr × Value)}, NX L xs → L.map (·.1) = xs.map (·.1)
  | _, _, .nil => rfl
  | _, _, .cons h t => by rw [List.map_cons, List.map_cons, h.1, NX.keys t]
theorem NX.put {L : NL} {xs : List (NestedKey × Addr × Value)} (h : NX L xs) {k : NestedKey} {b : Addr} {v : V} {u : Value} (r : RelV v u) : NX (putN L k b v) (storedH xs k b u) := by
  have rp : ∀ {L : NL} {xs : List (NestedKey × Addr × Value)}, NX L xs → NX (L.map fun x => if x.1 = k then (x.1, x.2.1, v) else x) (xs.map (putAt k u)) := fun {L xs} h => by
    induction L generalizing xs with
    | nil => cases h; exact .nil
    | cons x L ih =>
      cases h with
      | @cons _ y _ xs h1 t =>
        rw [List.map_cons, List.map_cons]
        refine .cons ?_ (ih t)
        unfold putAt
        by_cases q : x.1 = k
        · rw [if_pos q, if_pos (h1.1 ▸ q)]
          exact ⟨h1.1, h1.2.1, r⟩
        · rw [if_neg q, if_neg (h1.1 ▸ q)]
          exact h1
  have ap : ∀ {L : NL} {xs : List (NestedKey × Addr × Value)}, NX L xs → NX (L ++ [(k, b, v)]) (xs ++ [(k, b, u)]) := fun {L xs} h => by
    induction L generalizing xs with
    | nil => cases h; exact .cons ⟨rfl, rfl, r⟩ .nil
    | cons p L ih =>
      cases h with
      | cons h1 t => exact .cons h1 (ih t)
  have e := RelO.isSome_eq (h.at_ (k := k))
  rw [Option.isSome_map] at e
  unfold putN storedH
  rw [e]
  split
  · exact rp h
  · exact ap h
theorem NX.drop : ∀ {L : NL} {xs : List (NestedKey × Addr × Value)}, NX L xs → ∀ {k : NestedKey}, NX (dropN L k) (withoutH xs k)
  | _, _, .nil, k => .nil
  | _, _, .cons (a := x) (b := y) (l₁ := L) (l₂ := xs) h t, k => by
    unfold dropN withoutH
    by_cases e : x.1 = k
    · rw [List.filter_cons_of_neg (by simpa using e), List.filter_cons_of_neg (by rw [← h.1]; simpa using e)]
      exact NX.drop t
    · rw [List.filter_cons_of_pos (by simpa using e), List.filter_cons_of_pos (by rw [← h.1]; simpa using e)]
      exact .cons h (NX.drop t)
theorem dGet_n : ∀ {L : NL} {l : List (PyData × PyData)}, DpKN K B L l → ∀ {ks : List NestedKey}, (∀ e, dGet l (.tuple (NestedKey.datas ks)) = some e → ∃ v, atN L (.tup ks) = some v ∧ Dp K B v e) ∧ (dGet l (.tuple (NestedKey.datas ks)) = none → atN L (.tup ks) = none)
  | _, _, .nil, k => ⟨fun e h => by (cases h), fun _ => rfl⟩
  | _, _, .cons (ks := j) (b := b) (v := v) (vs := L) (d := d) (ds := l) h0 hz h t, k => by
    unfold dGet
    rw [kEq_tup]
    by_cases e : NestedKey.tup j = .tup k
    · simp only [decide_eq_true e, cond_true]
      refine ⟨fun e' h' => ?_, fun h' => by cases h'⟩
      cases h'
      unfold atN
      rw [List.find?_cons_of_pos (by simpa using e)]
      exact ⟨_, rfl, h⟩
    · simp only [decide_eq_false e, cond_false]
      unfold atN
      rw [List.find?_cons_of_neg (by simpa using e)]
      exact dGet_n t
theorem dPut_n {L : NL} {l : List (PyData × PyData)} (h : DpKN K B L l) {ks : List NestedKey} {b : Addr} {v : V} {e : PyData} (hb : Dp K B (.ref b) (.tuple (NestedKey.datas ks))) (hz : (NestedKey.tup ks).depth ≤ 8) (hv : Dp K B v e) : DpKN K B (putN L (.tup ks) b v) (dPut l (.tuple (NestedKey.datas ks)) e) := by
  have rp : ∀ {kvs : NL} {l : List (PyData × PyData)}, DpKN K B kvs l → DpKN K B (kvs.map fun x => if x.1 = .tup ks then (x.1, x.2.1, v) else x) (dRep l (.tuple (NestedKey.datas ks)) e) := fun {kvs l} h => by
    induction kvs generalizing l with
    | nil => cases h; exact .nil
    | cons p kvs ih =>
      cases h with
      | @cons j c u _ d ds h0 h3 h1 t =>
        rw [List.map_cons]
        unfold dRep
        rw [kEq_tup]
        by_cases q : NestedKey.tup j = .tup ks
        · simp only [decide_eq_true q, cond_true, if_pos q]
          exact .cons h0 h3 hv (ih t)
        · simp only [decide_eq_false q, cond_false, if_neg q]
          exact .cons h0 h3 h1 (ih t)
  have ap : ∀ {kvs : NL} {l : List (PyData × PyData)}, DpKN K B kvs l → DpKN K B (kvs ++ [(.tup ks, b, v)]) (l ++ [(.tuple (NestedKey.datas ks), e)]) := fun {kvs l} h => by
    induction kvs generalizing l with
    | nil => cases h; exact .cons hb hz hv .nil
    | cons p kvs ih =>
      cases h with
      | cons h0 h3 h1 t => exact .cons h0 h3 h1 (ih t)
  obtain ⟨g1, g2⟩ := dGet_n h (ks := ks)
  unfold dPut putN
  cases hg : dGet l (.tuple (NestedKey.datas ks)) with
  | none =>
    rw [g2 hg]
    exact ap h
  | some x =>
    obtain ⟨u, hu, _⟩ := g1 x hg
    rw [hu]
    exact rp h
theorem dDel_n : ∀ {L : NL} {l : List (PyData × PyData)}, DpKN K B L l → ∀ {ks : List NestedKey}, DpKN K B (dropN L (.tup ks)) (dDel l (.tuple (NestedKey.datas ks)))
  | _, _, .nil, k => .nil
  | _, _, .cons (ks := j) (b := b) (v := v) (vs := L) (d := d) (ds := l) h0 hz h t, k => by
    unfold dropN dDel
    by_cases e : NestedKey.tup j = .tup k
    · rw [List.filter_cons_of_neg (by simpa using e), List.filter_cons_of_neg (by rw [kEq_tup]; simpa using e)]
      exact dDel_n t
    · rw [List.filter_cons_of_pos (by simpa using e), List.filter_cons_of_pos (by rw [kEq_tup]; simpa using e)]
      exact .cons h0 hz h (dDel_n t)
theorem putN_len {L : NL} {k : NestedKey} {b : Addr} {v : V} : (putN L k b v).length ≤ L.length + 1 := by
  unfold putN
  split
  · rw [List.length_map]; omega
  · simp
end
/-! ### at a heap -/
section
variable {X : Cx} {pins : List (Addr × Obj)} {σ : L2.St} {H B : Hp} {s : Shared} {a : Addr} {l : List (PyData × PyData)}
mutual
theorem nested_is (I : Inv X pins σ H s) : ∀ (k : NestedKey) (v : V) (u : Value), Dp X.kf H v k.data → RelV v u → NestedIs s.heap k u
  | .none, v, u, h, r => by
    rw [dp_none h] at r
    cases r
    exact .none
  | .num i, v, u, h, r => by
    rw [dp_int h] at r
    obtain ⟨t, rfl⟩ := r
    exact .int _ _
  | .text i, v, u, h, r => by
    rw [dp_str h] at r
    obtain ⟨t, rfl⟩ := r
    exact .text _ _
  | .tup ks, v, u, h, r => by
    obtain ⟨b, xs, rfl, h1, h2⟩ := dp_tup h
    obtain rfl : u = Value.ref b := r
    obtain ⟨its, rv, ⟨o, ho, hc, n, hd⟩, hz⟩ := I.tuple h1
    exact .tup ho hc hd (by simpa using nested_all I ks xs its h2 rv)
theorem nested_all (I : Inv X pins σ H s) : ∀ (k : List NestedKey) (v : List V) (u : List Value), DpAll X.kf H v (NestedKey.datas k) → Vals v u → NestedAll s.heap k u
  | [], v, u, h, r => by
    cases h
    cases r
    exact .nil
  | k :: ks, v, u, h, r => by
    cases h with
    | cons h1 h2 =>
      cases r with
      | cons r1 r2 => exact .cons (nested_is I k _ _ h1 r1) (nested_all I ks _ _ h2 r2)
end
theorem key_is (I : Inv X pins σ H s) {ks : List NestedKey} {b : Addr} (h : Dp X.kf H (.ref b) (.tuple (NestedKey.datas ks))) (hz : (NestedKey.tup ks).depth ≤ 8) : (nestedKind X.prog X.w).is s.heap (.tup ks) b :=
  ⟨nested_is I (.tup ks) (.ref b) (.ref b) h rfl, hz⟩
theorem keys_is (I : Inv X pins σ H s) : ∀ {L : NL} {l : List (PyData × PyData)} {xs : List (NestedKey × Addr × Value)}, DpKN X.kf H L l → NX L xs → ∀ x ∈ xs, (nestedKind X.prog X.w).is s.heap x.1 x.2.1
  | _, _, _, .nil, .nil => fun x hx => absurd hx (by simp)
  | _, _, _, .cons h0 hz h t, .cons (b := y) r t' => fun x hx => by
    rcases List.mem_cons.mp hx with rfl | hx
    · rw [← r.1, ← r.2.1]
      exact key_is I h0 hz
    · exact keys_is I t t' x hx
theorem nOk_obj {K : KF} {L : NL} {h : Heap} (x : NOk K a L h) : ObjOk K.P K.w H h a (nO K a L) := by
  refine ⟨x, ?_, ?_⟩
  · obtain ⟨xs, o, es, ep, _, e, _⟩ := x.obj
    exact ⟨o, e⟩
  · rintro h1 h2 y k
    obtain ⟨xs, o, es, ep, e1, e2, e3⟩ := y.obj
    exact ⟨y.low, y.len, y.nd, xs, o, es, ep, e1, k o e2, e3⟩
theorem nOk_of {L : NL} (I : Inv X pins σ H s) (e : H a = some (nO X.kf a L)) : NOk X.kf a L s.heap := (I.hok a _ e).1
/-- keys that are ints and texts -/
theorem dic_k (I : Inv X pins σ H s) (h : DicR X.kf B H a l) (hk : (l.all fun p => isK p.1) = true) : (a == sysModules) = false ∧ l.length ≤ sizeLine ∧ ∃ kvs vs, KV kvs vs ∧ s.heap.DictOf (mixKind X.prog X.w) a vs ∧ DpKV X.kf B kvs l := by
  rcases h with ⟨kvs, h1, h2⟩ | ⟨L, h1, h2, h0⟩
  · obtain ⟨z, hd, vs, rel, dd⟩ := dk_rd I.hok h1
    exact ⟨hd, by rw [← dpKV_len h2]; exact z, kvs, vs, rel, dd, h2⟩
  · obtain ⟨rfl, rfl⟩ := dpKN_nN h2 hk
    obtain ⟨hd, z, nd, xs, o, es, ep, e1, e2, e3, e4, e5⟩ := nOk_of I h1
    cases e1
    have e6 : es = #[] := by simpa using e5
    subst e6
    exact ⟨hd, z, [], [], .nil, ⟨o, #[], ep, e2, e3, e4, fun x hx => by simp at hx, .nil, List.nodup_nil⟩, .nil⟩
/-- keys that are tuples -/
theorem dic_n (I : Inv X pins σ H s) (eB : Ex B H) (h : DicR X.kf B H a l) (hk : (l.all fun p => isN p.1) = true) : (a == sysModules) = false ∧ l.length ≤ sizeLine ∧ ∃ L xs, NX L xs ∧ s.heap.DictOfH (nestedKind X.prog X.w) a xs ∧ DpKN X.kf B L l ∧ (L.map (·.1)).Nodup := by
  rcases h with ⟨kvs, h1, h2⟩ | ⟨L, h1, h2, h0⟩
  · obtain ⟨rfl, rfl⟩ := dpKV_nK h2 hk
    obtain ⟨z, hd, vs, rel, dd⟩ := dk_rd I.hok h1
    cases rel
    obtain ⟨o, es, ep, e2, e3, e4, e5, e6, e7⟩ := dd
    generalize he : es.toList = el at e6
    cases e6
    exact ⟨hd, z, [], [], .nil, ⟨o, es, ep, e2, e3, e4, he, fun x hx => by simp at hx, List.nodup_nil⟩, .nil, List.nodup_nil⟩
  · obtain ⟨hd, z, nd, xs, o, es, ep, e1, e2, e3, e4, e5⟩ := nOk_of I h1
    exact ⟨hd, by rw [← dpKN_len h2]; exact z, L, xs, e1, ⟨o, es, ep, e2, e3, e4, e5, keys_is I (dpKN_mono eB h2) e1, by rw [← NX.keys e1]; exact nd⟩, h2, nd⟩
end
end Z
set_option maxHeartbeats 2000000
/-! Z: dicts by values. -/
namespace Z
open PySem PySem.Spec PyProof.Rows L2
open Evl (Ex ex_l ex_t ex_rd)
section
variable {X : Cx}
theorem nroom {A : Around} (hu : A.units + 64 < cLine) : (nestedKind X.prog X.w).room A := show A.units + 8 < cLine by omega
theorem nroom1 {A : Around} (hu : A.units + 64 < cLine) : (nestedKind X.prog X.w).room A.in1 := show A.units + 1 + 8 < cLine by omega
/-- d[k] -/
def rDG (K : KF) : R2 := fun x y H Q => ∃ B a l d e, x = .ref a ∧ Ex B H ∧ DicR K B H a l ∧ Dp K B y d ∧ kOk l d = true ∧ dGet l d = some e ∧ ∀ v, Dp K B v e → Q v H
theorem dic_get {pins : List (Addr × Obj)} {σ : L2.St} {H B : Hp} {s : Shared} {a : Addr} {l : List (PyData × PyData)} {y : V} {u : Value} {d e : PyData} {Q : Value → Shared → Prop} {A : Around} {E : Value → Shared → Prop} (hu : A.units + 64 < cLine) (I : Inv X pins σ H s) (eB : Ex B H) (h : DicR X.kf B H a l) (hy : Dp X.kf B y d) (ry : RelV y u) (hk : kOk l d = true) (hg : dGet l d = some e)
    (hQ : ∀ v w s', Inv X pins σ H s' → RelV v w → Dp X.kf B v e → Q w s') : s.TypeIs (.ref a) "dict" ∧ wpAny (model X.prog X.w) A (getItem (.ref a) u) Q E s := by
  unfold kOk at hk
  cases hd : isK d with
  | true =>
    rw [hd, cond_true] at hk
    obtain ⟨k, _, rfl⟩ := isK_of hd
    obtain ⟨lo, z, kvs, vs, rel, dd, dp⟩ := dic_k I h hk
    obtain ⟨v, hv, hve⟩ := (dGet_k dp).1 e hg
    obtain ⟨w', hw, rw'⟩ := RelO.some_of (v := v) (o := valueAt vs k) (by rw [← hv]; exact rel.val k)
    have ey : y = kV k := by
      cases k with
      | inl i => exact dp_int hy
      | inr i => exact dp_str hy
    subst ey
    exact ⟨dd.typeIs, wpAny_getItem_of (kV_is ry) dd.mapOf hw (hQ v w' _ (I.tok _) rw' hve)⟩
  | false =>
    rw [hd, cond_false] at hk
    have hk := Bool.and_eq_true_iff.mp hk
    obtain ⟨ks, rfl, hz⟩ := isN_of hk.1
    obtain ⟨lo, z, L, xs, nx, dd, dp, nd⟩ := dic_n I eB h hk.2
    obtain ⟨v, hv, hve⟩ := (dGet_n dp).1 e hg
    obtain ⟨b, ys, rfl, h1, h2⟩ := dp_tup hy
    obtain rfl : u = Value.ref b := ry
    obtain ⟨w', hw, rw'⟩ := RelO.some_of (v := v) (o := (atKey xs (.tup ks)).map (·.2)) (by rw [← hv]; exact nx.at_)
    obtain ⟨p, hp, hp2⟩ := Option.map_eq_some_iff.mp hw
    refine ⟨dd.typeIs, wpAny_getItem_heap (nroom1 hu) (key_is I (dp_mono eB hy) hz) dd hp ?_⟩
    rw [hp2]
    exact hQ v w' _ (I.tok _) rw' hve
theorem dic_no {pins : List (Addr × Obj)} {σ : L2.St} {H B : Hp} {s : Shared} {a : Addr} {l : List (PyData × PyData)} (I : Inv X pins σ H s) (h : DicR X.kf B H a l) : s.TypeIs (.ref a) "dict" ∧ (∀ b, Value.ref a = .ref b → ∃ ob, s.heap.get? b = some ob ∧ ob.dict = none) ∧ (a == sysModules) = false := by
  rcases h with ⟨kvs, h1, h2⟩ | ⟨L, h1, h2, h0⟩
  · exact isD_at I (.inl ⟨kvs, h1⟩)
  · obtain ⟨hd, z, nd, xs, o, es, ep, e1, e2, e3, e4, e5⟩ := nOk_of I h1
    refine ⟨⟨o, e2, e3.1⟩, fun b q => ?_, hd⟩
    cases q
    exact ⟨o, e2, e3.2.1⟩
theorem ix_dic (hu : X.A.units + 64 < cLine) : IxR X (rDG X.kf) := by
  intro value slice pins s σ H x y v u Q I rx ry h hs
  obtain ⟨B, a, l, d, e, rfl, eB, hd, hy, hk, hg, q⟩ := h
  obtain rfl : v = Value.ref a := rx
  obtain ⟨t1, t2⟩ := dic_get (Q := EP X pins σ Q) (E := X.xe) hu I eB hd hy ry hk hg fun v w s' I' r' dv => ⟨v, H, I', r', q v dv⟩
  exact tail_any t1 PySem.F.slot_dict_getitem.lookup t2 hs
/-- k in d -/
def rDI (neg : Bool) (K : KF) : R2 := fun x y H Q => ∃ B a l d, y = .ref a ∧ Ex B H ∧ DicR K B H a l ∧ Dp K B x d ∧ kOk l d = true ∧ Q (.bl (neg != (dGet l d).isSome)) H
theorem isSome_of_k {K : KF} {B : Hp} {kvs : List (Key × V)} {l : List (PyData × PyData)} (dp : DpKV K B kvs l) {k : Key} : (dGet l (kD k)).isSome = (valV kvs k).isSome := by
  obtain ⟨h1, h2⟩ := dGet_k dp (k := k)
  cases e : dGet l (kD k) with
  | none => rw [h2 e]; rfl
  | some x =>
    obtain ⟨v, hv, _⟩ := h1 x e
    rw [hv]
    rfl
theorem isSome_of_n {K : KF} {B : Hp} {L : NL} {l : List (PyData × PyData)} (dp : DpKN K B L l) {ks : List NestedKey} : (dGet l (.tuple (NestedKey.datas ks))).isSome = (atN L (.tup ks)).isSome := by
  obtain ⟨h1, h2⟩ := dGet_n dp (ks := ks)
  cases e : dGet l (.tuple (NestedKey.datas ks)) with
  | none => rw [h2 e]; rfl
  | some x =>
    obtain ⟨v, hv, _⟩ := h1 x e
    rw [hv]
    rfl
theorem op_inDic (hu : X.A.units + 64 < cLine) : OpR X (compareOp .In) (rDI false X.kf) := by
  intro pins s σ H x y v u Q I rx ry h
  obtain ⟨B, a, l, d, rfl, eB, hd, hy, hk, q⟩ := h
  obtain rfl : u = Value.ref a := ry
  unfold kOk at hk
  cases hd2 : isK d with
  | true =>
    rw [hd2, cond_true] at hk
    obtain ⟨k, _, rfl⟩ := isK_of hd2
    obtain ⟨lo, z, kvs, vs, rel, dd, dp⟩ := dic_k I hd hk
    have ey : x = kV k := by
      cases k with
      | inl i => exact dp_int hy
      | inr i => exact dp_str hy
    subst ey
    refine wpAny_in_of (kV_is rx) lo dd.mapOf ?_
    rw [← (rel.val k).isSome_eq, ← isSome_of_k dp]
    exact ⟨.bl _, H, I.tok _, rfl, by simpa using q⟩
  | false =>
    rw [hd2, cond_false] at hk
    have hk := Bool.and_eq_true_iff.mp hk
    obtain ⟨ks, rfl, hz⟩ := isN_of hk.1
    obtain ⟨lo, z, L, xs, nx, dd, dp, nd⟩ := dic_n I eB hd hk.2
    obtain ⟨b, ys, rfl, h1, h2⟩ := dp_tup hy
    obtain rfl : v = Value.ref b := rx
    refine wpAny_in_heap (nroom1 hu) (key_is I (dp_mono eB hy) hz) lo dd ?_
    have e := RelO.isSome_eq (nx.at_ (k := .tup ks))
    rw [Option.isSome_map] at e
    rw [← e, ← isSome_of_n dp]
    exact ⟨.bl _, H, I.tok _, rfl, by simpa using q⟩
theorem op_notInDic (hu : X.A.units + 64 < cLine) : OpR X (compareOp .NotIn) (rDI true X.kf) := by
  intro pins s σ H x y v u Q I rx ry h
  obtain ⟨B, a, l, d, rfl, eB, hd, hy, hk, q⟩ := h
  obtain rfl : u = Value.ref a := ry
  unfold kOk at hk
  cases hd2 : isK d with
  | true =>
    rw [hd2, cond_true] at hk
    obtain ⟨k, _, rfl⟩ := isK_of hd2
    obtain ⟨lo, z, kvs, vs, rel, dd, dp⟩ := dic_k I hd hk
    have ey : x = kV k := by
      cases k with
      | inl i => exact dp_int hy
      | inr i => exact dp_str hy
    subst ey
    refine wpAny_notIn_of (kV_is rx) lo dd.mapOf ?_
    rw [← (rel.val k).isSome_eq, ← isSome_of_k dp]
    exact ⟨.bl _, H, I.tok _, rfl, by simpa using q⟩
  | false =>
    rw [hd2, cond_false] at hk
    have hk := Bool.and_eq_true_iff.mp hk
    obtain ⟨ks, rfl, hz⟩ := isN_of hk.1
    obtain ⟨lo, z, L, xs, nx, dd, dp, nd⟩ := dic_n I eB hd hk.2
    obtain ⟨b, ys, rfl, h1, h2⟩ := dp_tup hy
    obtain rfl : v = Value.ref b := rx
    refine wpAny_notIn_heap (nroom1 hu) (key_is I (dp_mono eB hy) hz) lo dd ?_
    have e := RelO.isSome_eq (nx.at_ (k := .tup ks))
    rw [Option.isSome_map] at e
    rw [← e, ← isSome_of_n dp]
    exact ⟨.bl _, H, I.tok _, rfl, by simpa using q⟩
theorem dPut_ne {l : List (PyData × PyData)} {k v : PyData} : dPut l k v ≠ [] := by
  unfold dPut
  cases h : dGet l k with
  | none => simp
  | some x =>
    cases l with
    | nil => cases h
    | cons p l =>
      simp only
      unfold dRep
      simp
/-- d[k] = v: what holds behind it -/
def PutQ (K : KF) (B H : Hp) (a : Addr) (l : List (PyData × PyData)) (Q : Hp → Prop) : Prop := ∀ ob, DicAt K B (upd H a ob) a l → Q (upd H a ob)
theorem mut_dic {K : KF} {H B : Hp} {a : Addr} {l : List (PyData × PyData)} (h : DicAt K B H a l) : Mut (H a) := by
  rcases h with ⟨kvs, h1, _⟩ | ⟨L, h1, _⟩
  · rw [h1]; exact True.intro
  · rw [h1]; exact True.intro
theorem nd_keys {K : Type} [DecidableEq K] {xs : List (K × Addr × Value)} {k : K} {b : Addr} {u : Value} (h : (xs.map (·.1)).Nodup) : ((storedH xs k b u).map (·.1)).Nodup := by
  have pk : ∀ xs : List (K × Addr × Value), (xs.map (putAt k u)).map (·.1) = xs.map (·.1) := fun xs => by
    induction xs with
    | nil => rfl
    | cons x xs ih =>
      rw [List.map_cons, List.map_cons, List.map_cons, ih]
      congr 1
      unfold putAt
      split <;> rfl
  unfold storedH
  split
  · rw [pk]; exact h
  · rename_i z
    have hn : k ∉ xs.map (·.1) := fun m => by
      obtain ⟨x, hx, e⟩ := List.mem_map.mp m
      refine z ?_
      unfold atKey
      rw [Option.isSome_map]
      exact List.find?_isSome.mpr ⟨x, hx, decide_eq_true e⟩
    rw [List.map_append, List.nodup_append]
    refine ⟨h, by simp, fun x hx y hy => ?_⟩
    have : y = k := by simpa using hy
    subst this
    exact fun e => hn (e ▸ hx)
theorem dic_put {pins : List (Addr × Obj)} {σ : L2.St} {H B : Hp} {s : Shared} {a : Addr} {l : List (PyData × PyData)} {y v : V} {u w : Value} {d e : PyData} {Q : Hp → Prop} {A : Around} {E : Value → Shared → Prop} (hu : A.units + 64 < cLine) (I : Inv X pins σ H s) (eB : Ex B H) (h : DicAt X.kf B H a l) (hy : Dp X.kf B y d) (ry : RelV y u) (hv : Dp X.kf B v e) (rv : RelV v w)
    (hk : kOk l d = true) (hl : l.length < sizeLine) (hQ : PutQ X.kf B H a (dPut l d e) Q) :
    wpAny (model X.prog X.w) A (setItem (.ref a) u w) (fun _ s' => ∃ H', Inv X pins σ H' s' ∧ Q H') E s ∧ wpAny (model X.prog X.w) A (dictSet a u w) (fun _ s' => ∃ H', Inv X pins σ H' s' ∧ Q H') E s := by
  unfold kOk at hk
  cases hd : isK d with
  | true =>
    rw [hd, cond_true] at hk
    obtain ⟨k, _, rfl⟩ := isK_of hd
    obtain ⟨lo, z, kvs, vs, rel, dd, dp⟩ := dic_k I h.r hk
    have ey : y = kV k := by
      cases k with
      | inl i => exact dp_int hy
      | inr i => exact dp_str hy
    subst ey
    have hz : vs.length ≤ sizeLine := by rw [← rel.length, dpKV_len dp]; exact z
    have hl2 : (putK kvs k v).length ≤ sizeLine := by
      have := length_putK kvs k v
      have := dpKV_len dp
      omega
    have fin : ∀ (h' : Heap) (t : Nat), h'.DictOf (mixKind X.prog X.w) a (stored vs k w) → Heap.SameBut a s.heap h' → ∃ H', Inv X pins σ H' { s with heap := h', toks := t } ∧ Q H' := fun h' t dd' hs => by
      have he : ∃ q, h'.get? a = some q := let ⟨q, _, _, hq, _⟩ := dd'; ⟨q, hq⟩
      exact ⟨_, d_write (t' := t) I (mut_dic h) hs he (dk_new hl2 lo (rel.put k rv) dd'), hQ _ (.inl ⟨_, upd_same, dPut_k dp hv⟩)⟩
    exact ⟨wpAny_setItem_pairs (hsz := hz) (kV_is ry) dd fun h' dd' hs => fin h' _ dd' hs, wpAny_dictSet_pairs (hsz := hz) (kV_is ry) dd fun h' dd' hs => fin h' _ dd' hs⟩
  | false =>
    rw [hd, cond_false] at hk
    have hk := Bool.and_eq_true_iff.mp hk
    obtain ⟨ks, rfl, hz⟩ := isN_of hk.1
    obtain ⟨lo, z, L, xs, nx, dd, dp, nd⟩ := dic_n I eB h.r hk.2
    obtain ⟨b, ys, rfl, h1, h2⟩ := dp_tup hy
    obtain rfl : u = Value.ref b := ry
    have hl1 : L.length = xs.length := Paired.length nx
    have hl2 := dpKN_len dp
    have fin : ∀ (h' : Heap) (t : Nat), h'.DictOfH (nestedKind X.prog X.w) a (storedH xs (.tup ks) b w) → Heap.SameBut a s.heap h' → ∃ H', Inv X pins σ H' { s with heap := h', toks := t } ∧ Q H' := fun h' t dd' hs => by
      obtain ⟨o, es, ep, g1, g2, g3, g4, g5, g6⟩ := dd'
      have nx' := nx.put (k := .tup ks) (b := b) rv
      have ok : NOk X.kf a (putN L (.tup ks) b v) h' := ⟨lo, by have := putN_len (L := L) (k := .tup ks) (b := b) (v := v); omega, by rw [NX.keys nx']; exact g6, _, o, es, ep, nx', g1, g2, g3, g4⟩
      refine ⟨_, d_write (t' := t) I (mut_dic h) hs ⟨o, g1⟩ (nOk_obj ok), hQ _ (.inr ⟨_, upd_same, dPut_n dp hy hz hv, dPut_ne⟩)⟩
    exact ⟨wpAny_setItem_heap (hsz := by omega) (nroom1 hu) (key_is I (dp_mono eB hy) hz) dd fun h' dd' hs => fin h' _ dd' hs, wpAny_dictSet_heap (hu := nroom hu) (hsz := by omega) (key_is I (dp_mono eB hy) hz) dd fun h' dd' hs => fin h' _ dd' hs⟩
/-- d[k] = v -/
def sDP (K : KF) : TSet := fun o i v H Q => ∃ B a l d e, o = .ref a ∧ Ex B H ∧ DicAt K B H a l ∧ Dp K B i d ∧ Dp K B v e ∧ kOk l d = true ∧ l.length < sizeLine ∧ PutQ K B H a (dPut l d e) Q
theorem set_dic (hu : X.A.units + 64 < cLine) : PSet X (sDP X.kf) := by
  intro pins s σ H o i v ov iv u Q I ro ri rv h
  obtain ⟨B, a, l, d, e, rfl, eB, hd, hi, hv, hk, hl, q⟩ := h
  obtain rfl : ov = Value.ref a := ro
  exact (dic_put hu I eB hd hi ri hv rv hk hl q).1
end
end Z
set_option maxHeartbeats 2000000
/-! Z: dict comprehensions. -/
namespace Z
open PySem PySem.Spec PyProof.Rows L2
open Evl (Ex ex_l ex_t ex_rd)
section
variable {X : Cx}
/-- {k: v for target in iter if ..}: D the new dict -/
def tDz (K : KF) (wi : TI) (g : TG) (tt : TT) (tk tv : TE) (vs : List Nat) : TE := fun σ H Q => wi σ H fun It H1 => ∀ D, H1 D = none → ∃ W : Nat → Nat → Hp → Prop, (∃ m, W 0 m (upd H1 D (.dK []))) ∧ ∀ i m G, W i m G →
  (It.stop i G ∧ Q (.ref D) G) ∨ (It.go i G ∧ ∃ Nx : Hp → Prop, (∀ G', Nx G' → ∃ m', m' < m ∧ W (i + 1) m' G') ∧ ∀ x G', It.yld i G x G' → g x (wipe σ vs) G' fun σ2 G2 => wipe σ2 vs = wipe σ vs ∧ tt σ2 G2 fun b G3 =>
    if b = true then tk σ2 G3 fun y G4 => tv σ2 G4 fun z G5 => sDP K (.ref D) y z G5 Nx else Nx G3)
theorem dz_core {pins : List (Addr × Obj)} {s0 : Shared} {σ : L2.St} {H : Hp} {Q : VK} {ke ve te it : Expr} {cs : List Expr} {blk : Scope} {own : List (Str × Nat)} {pos pos' : Pos} {wi : TI} {g : TG} {tt : TT} {tk tv : TE} {use : Option (Value → Sem Unit)} {Qf : Value → Shared → Prop}
    (hu : X.A.units + 64 < cLine) (calm : X.calm = true) (nd : X.N.Nodup) (I0 : Inv X pins σ H s0) (pi : PI X te it wi) (bo : BlkOk X.N X.env.scope blk own)
    (rg : ∀ (s : Shared) (H : Hp) (C : Addr) (cl : List (Str × Addr)) (fp : List Addr), PG (X.blk s H blk (compEnvC blk cl C X.env) fp) te g) (rt : ∀ (s : Shared) (H : Hp) (C : Addr) (cl : List (Str × Addr)) (fp : List Addr), PTs (X.blk s H blk (compEnvC blk cl C X.env) fp) cs tt)
    (rk : ∀ (s : Shared) (H : Hp) (C : Addr) (cl : List (Str × Addr)) (fp : List Addr), PE (X.blk s H blk (compEnvC blk cl C X.env) fp) ke tk) (rv : ∀ (s : Shared) (H : Hp) (C : Addr) (cl : List (Str × Addr)) (fp : List Addr), PE (X.blk s H blk (compEnvC blk cl C X.env) fp) ve tv)
    (fold : ∀ x, foldedSetIterable it X.env x = pure x) (w0 : tDz X.kf wi g tt tk tv (own.map (·.2)) σ H Q)
    (back : ∀ D C s' m H', Inv X pins σ H' s' → Q (.ref D) H' → s'.heap.Ns C m → FpOk X pins H' C → compPost (model X.prog X.w) X.A X.xe use Qf (.ref D) C (.ok .next) s') :
    wpAny (model X.prog X.w) X.A (comprehension (.DictComp ke ve [⟨te, it, cs, 0⟩] blk pos) blk X.env pos' newDict false (eval it X.env) use) Qf X.xe s0 := by
  have fr : ∀ y ∈ blk.names, y.2 = .free → ∃ c, X.env.cells.lookup y.1 = some c := fun y hy e => (bo.free y hy e).elim (fun k => I0.ok.has _ (.inl k)) fun k => I0.ok.has _ (.inr k)
  refine wpAny_comprehension_free (use := use) rfl fold (closure_ok fr) bo.kind (fun y hy e => by rw [bo.uniq y hy, e]) (thn (pi.run pins s0 σ H _ I0 w0) fun _ _ y0 => thn y0 fun itv t2 z2 => ?_)
  obtain ⟨ix, fp, tn, It, G2, e2, J2, Tn, st2, f2, q2⟩ := z2
  subst e2
  refine wpAny_newObj_type (newEnv_comp ?_)
  generalize eD : t2.heap.objs.size = D
  have freshD : G2 D = none := J2.hok.fresh (Nat.le_of_eq eD)
  obtain ⟨W, ⟨m0, w1⟩, walk⟩ := q2 D freshD
  generalize e3 : ({ t2 with heap := t2.heap.push { cls := .type "dict", data := .dict #[] } } : Shared) = t3
  have J3 : Inv X pins σ (upd G2 D (.dK [])) t3 := by
    subst e3 eD
    exact J2.laid (t' := t2.toks) (fun _ _ => Heap.get?_push_of_some _) (Nat.le_refl _) (dk_empty t2.heap J2.big)
  have h3 : t3.heap = t2.heap.push { cls := .type "dict", data := .dict #[] } := by subst e3; rfl
  have f3 : ∀ b ∈ fp, FpOk X pins (upd G2 D (.dK [])) b ∧ b < t3.heap.objs.size := fun b hb => by
    obtain ⟨o, eo, _⟩ := Tn.obj _ _ st2 b hb
    have lt2 : b < t2.heap.objs.size := Heap.lt_size eo
    exact ⟨⟨by rw [upd_ne (by subst eD; exact Nat.ne_of_lt lt2)]; exact (f2 b hb).1, (f2 b hb).2⟩, by rw [h3, Heap.size_push]; exact Nat.lt_succ_of_lt lt2⟩
  have st3 : tn 0 t3.heap := Tn.keep _ _ _ st2 fun b _ o eo => by rw [h3]; exact Heap.get?_push_of_some _ eo
  have J4 := block_start J3 bo nd f3
  have pg := rg t3 (upd G2 D (.dK [])) t3.heap.objs.size (cellsFrom (t3.heap.objs.size + 1) blk.names (cloFrom X.env.cells blk.names [])) fp
  have pt := rt t3 (upd G2 D (.dK [])) t3.heap.objs.size (cellsFrom (t3.heap.objs.size + 1) blk.names (cloFrom X.env.cells blk.names [])) fp
  have pk := rk t3 (upd G2 D (.dK [])) t3.heap.objs.size (cellsFrom (t3.heap.objs.size + 1) blk.names (cloFrom X.env.cells blk.names [])) fp
  have pv := rv t3 (upd G2 D (.dK [])) t3.heap.objs.size (cellsFrom (t3.heap.objs.size + 1) blk.names (cloFrom X.env.cells blk.names [])) fp
  show codeAny _ _ (.compStart (.DictComp ke ve [⟨te, it, cs, 0⟩] blk pos) 0 (.ref ix) (.ref D) (compEnvC blk (cellsFrom (t3.heap.objs.size + 1) blk.names (cloFrom X.env.cells blk.names [])) t3.heap.objs.size X.env)) (compPost (model X.prog X.w) X.A X.xe use Qf (.ref D) t3.heap.objs.size) { t3 with heap := pushCells (t3.heap.push { cls := .type "dict", data := .dict #[] }) blk.names }
  have free3 : ∀ b ∈ fp, (upd G2 D (.dK [])) b = none := fun b hb => (f3 b hb).1.1
  generalize eenv : compEnvC blk (cellsFrom (t3.heap.objs.size + 1) blk.names (cloFrom X.env.cells blk.names [])) t3.heap.objs.size X.env = en at J4 pg pt pk pv ⊢
  have locs : en.locals = t3.heap.objs.size := by subst eenv; rfl
  generalize eG3 : upd G2 D (.dK []) = G3 at J3 J4 pg pt pk pv w1 free3 f3
  generalize e4 : ({ t3 with heap := pushCells (t3.heap.push { cls := .type "dict", data := .dict #[] }) blk.names } : Shared) = t4 at J4 ⊢
  have st4 : tn 0 t4.heap := Tn.keep _ _ _ st3 fun b _ o eo => by subst e4; exact pushCells_keeps _ _ _ _ (Heap.get?_push_of_some _ eo)
  have quiet : ∀ {σ' : L2.St} {G' : Hp} {t' : Shared}, Inv (X.blk t3 G3 blk en fp) [] σ' G' t' → (∀ b ∈ fp, G' b = none) → ∀ b ∈ fp, FpOk (X.blk t3 G3 blk en fp) [] G' b := fun {σ' G' t'} J n b hb =>
    ⟨n b hb, (J.ok.exf b hb).1, J.ok.exfs b hb, .inl hb, fun x c e => (J.ok.exf b hb).2 x c e, fun p hp => absurd (show p ∈ ([] : List (Addr × Obj)) ++ [] from hp) (by simp)⟩
  have loop : codeAny (model X.prog X.w) X.A (.compLoop (.DictComp ke ve [⟨te, it, cs, 0⟩] blk pos) 0 (.ref ix) (.ref D) en) (compPost (model X.prog X.w) X.A X.xe use Qf (.ref D) t3.heap.objs.size) t4 := by
    refine compLoop_anyD (fun n t' => ∃ i G', Inv (X.blk t3 G3 blk en fp) [] (wipe σ (own.map (·.2))) G' t' ∧ tn i t'.heap ∧ (∀ b ∈ fp, G' b = none) ∧ W i n G') ?_ m0 ⟨0, G3, J4, st4, free3, w1⟩
    rintro n t5 ⟨i, G5, J5, st5, n5, w5⟩
    rcases walk i n G5 w5 with ⟨stop, fin⟩ | ⟨go, Nx, next, step⟩
    · refine thnF (Tn.done (X.blk t3 G3 blk en fp) rfl rfl rfl calm i [] t5 _ G5 (fun _ _ => False) J5 (quiet J5 n5) st5 stop) fun _ t6 ⟨er, J6⟩ => ?_
      subst er
      have J7 : Inv X pins σ G5 t6 := J3.call' (ch := fp) J6.os J6.base J6.hok J6.bare fun b hb => ⟨(f3 b hb).1.2.2.2.1, (f3 b hb).1.2.1, (f3 b hb).1.2.2.2.2.1, (f3 b hb).1.2.2.2.2.2⟩
      have noC : G5 t3.heap.objs.size = none := by rw [← locs]; exact J6.free
      obtain ⟨m, ns, _⟩ := J6.loc
      have ns' : t6.heap.Ns t3.heap.objs.size m := by rw [← locs]; exact ns
      exact back D t3.heap.objs.size t6 m G5 J7 fin ns' (J3.fpOk (Nat.le_refl _) noC)
    · refine thnF (Tn.item (X.blk t3 G3 blk en fp) rfl rfl rfl calm i [] t5 _ G5 (fun _ _ => False) J5 (quiet J5 n5) st5 go) fun _ t6 ⟨u, er, z6⟩ => ?_
      subst er
      refine thnF z6 fun _ t7 ⟨x, G7, J7, r7, y7, st7, n7⟩ => ?_
      have J7' := J7.pinned (quiet J7 n7) (Tn.obj _ _ st7)
      refine thnF (pg.run _ t7 _ G7 x u _ J7' r7 (step x G7 y7)) fun _ t8 ⟨σ8, G8, J8, w8, q8⟩ => ?_
      refine thnF (pt.run _ t8 σ8 G8 _ J8 q8) fun b t9 ⟨G9, J9, q9⟩ => ?_
      have turn : ∀ {t' : Shared} {G' : Hp}, Inv (X.blk t3 G3 blk en fp) ([] ++ pinsAt fp t7.heap) σ8 G' t' → Nx G' → ∃ m, m < n ∧ ∃ i G', Inv (X.blk t3 G3 blk en fp) [] (wipe σ (own.map (·.2))) G' t' ∧ tn i t'.heap ∧ (∀ b ∈ fp, G' b = none) ∧ W i m G' := fun {t' G'} J nx => by
        obtain ⟨m', lm, w'⟩ := next G' nx
        have held : ∀ b ∈ fp, ∀ o, t7.heap.get? b = some o → t'.heap.get? b = some o ∧ G' b = none := fun b hb o eo =>
          have z := J.pin (b, o) (List.mem_append_right _ (List.mem_append_right _ (mem_pinsAt hb eo)))
          ⟨z.1, z.2.1⟩
        have len : (wipe σ (own.map (·.2))).length = σ8.length := by rw [← w8, wipe_length]
        refine ⟨m', lm, i + 1, G', (J.unpinned (pins := [])).weak len (fun j v e => by rw [← w8] at e; exact (wipe_some e).1), Tn.keep _ _ _ st7 fun b hb o eo => (held b hb o eo).1, fun b hb => ?_, w'⟩
        obtain ⟨o, eo, _⟩ := Tn.obj _ _ st7 b hb
        exact (held b hb o eo).2
      cases b with
      | false =>
        simp only [Bool.false_eq_true, if_false] at q9 ⊢
        exact turn J9 q9
      | true =>
        simp only [if_true] at q9 ⊢
        refine thnF (pk.run _ t9 σ8 G9 _ J9 q9) fun kk t10 ⟨yk, G10, J10, r10, q10⟩ => thnF (pv.run _ t10 σ8 G10 _ J10 q10) fun vv t11 ⟨yv, G11, J11, r11, q11⟩ => ?_
        obtain ⟨B, a, l, d, e, ea, eB, hd, hi, hv, hk, hl, q⟩ := q11
        cases ea
        exact thnF (dic_put (X := X.blk t3 G3 blk en fp) (E := fun _ _ => False) hu J11 eB hd hi r10 hv r11 hk hl q).2 fun _ t12 ⟨G12, J12, q12⟩ => turn J12 q12
  exact codeAny_compStart_dict loop (Tn.self X.A 0 _ _ _ st4 loop)
theorem pe_dz {ke ve te it : Expr} {cs : List Expr} {blk : Scope} {own : List (Str × Nat)} {pos : Pos} {wi : TI} {g : TG} {tt : TT} {tk tv : TE} (hu : X.A.units + 64 < cLine) (calm : X.calm = true) (nd : X.N.Nodup) (pi : PI X te it wi) (bo : BlkOk X.N X.env.scope blk own)
    (rg : ∀ (s : Shared) (H : Hp) (C : Addr) (cl : List (Str × Addr)) (fp : List Addr), PG (X.blk s H blk (compEnvC blk cl C X.env) fp) te g) (rt : ∀ (s : Shared) (H : Hp) (C : Addr) (cl : List (Str × Addr)) (fp : List Addr), PTs (X.blk s H blk (compEnvC blk cl C X.env) fp) cs tt)
    (rk : ∀ (s : Shared) (H : Hp) (C : Addr) (cl : List (Str × Addr)) (fp : List Addr), PE (X.blk s H blk (compEnvC blk cl C X.env) fp) ke tk) (rv : ∀ (s : Shared) (H : Hp) (C : Addr) (cl : List (Str × Addr)) (fp : List Addr), PE (X.blk s H blk (compEnvC blk cl C X.env) fp) ve tv)
    (fold : ∀ x, foldedSetIterable it X.env x = pure x := by intro _; rfl) : PE X (.DictComp ke ve [⟨te, it, cs, 0⟩] blk pos) (tDz X.kf wi g tt tk tv (own.map (·.2))) := by
  refine ⟨fun pins s σ H Q I w0 => ?_⟩
  rw [arm_eval_DictComp]
  refine dz_core hu calm nd I pi bo rg rt rk rv fold w0 fun D C t m G J q ns f => ⟨m, ns, fun h'' sb => ?_⟩
  obtain ⟨f0, f1, f2, f3, f4, f5⟩ := f
  exact ⟨.ref D, G, J.turned (t' := t.toks) (fun b o hb eo => (sb.2 b hb).trans eo) f0 f1 f3 f4 f5, rfl, q⟩
end
/-! ### the mirror -/
def dcL (vs : List Nat) (g : CG) (ct ck cv : CE) : List PyData → En → List (PyData × PyData) → Option (List (PyData × PyData) × En)
  | [], ρ, acc => some (acc, ρ)
  | d :: ds, ρ, acc => match g d (wipeE ρ vs) with
    | none => none
    | some ρ1 => match ct ρ1 with
      | .ok (.dat (.bool true)) ρ2 => match ck ρ2 with
        | .ok k ρ3 => match cv ρ3 with
          | .ok v ρ4 => bif kOk acc k.d && decide (acc.length < sizeLine) then dcL vs g ct ck cv ds ρ4 (dPut acc k.d v.d) else none
          | _ => none
        | _ => none
      | .ok (.dat (.bool false)) ρ2 => dcL vs g ct ck cv ds ρ2 acc
      | _ => none
def cDc (vs : List Nat) (src : CA) (g : CG) (ct ck cv : CE) : CE := fun ρ => match src ρ with
  | .ok ds ρ1 => bif noOwn ρ1 vs then (match dcL vs g ct ck cv ds ρ1 [] with
    | some (acc, ρ2) => .ok (.dic acc) (restoreE ρ1 ρ2 vs)
    | none => .bad) else .bad
  | .exc x ρ1 => .exc x ρ1
  | .bad => .bad
theorem DicAt.mono {K : KF} {B B' H : Hp} {a : Addr} {l : List (PyData × PyData)} (e : Ex B B') (h : DicAt K B H a l) : DicAt K B' H a l := by
  rcases h with ⟨kvs, h1, h2⟩ | ⟨L, h1, h2, h0⟩
  · exact .inl ⟨kvs, h1, dpKV_mono e h2⟩
  · exact .inr ⟨L, h1, dpKN_mono e h2, h0⟩
theorem DicAt.at {K : KF} {B H H' : Hp} {a : Addr} {l : List (PyData × PyData)} (e : H' a = H a) (h : DicAt K B H a l) : DicAt K B H' a l := by
  rcases h with ⟨kvs, h1, h2⟩ | ⟨L, h1, h2, h0⟩
  · exact .inl ⟨kvs, by rw [e]; exact h1, h2⟩
  · exact .inr ⟨L, by rw [e]; exact h1, h2, h0⟩
section
variable {X : Cx} {xc : Str → Value} {W : Ww} {ke ve tg iter : Expr} {ifs : List Expr} {scope : Scope} {own : List (Str × Nat)} {pos spos : Pos} {cas : CA} {g : CG} {gs : List Nat} {ct ck cv : CE}
def dzC (K : KF) (g : TG) (tt : TT) (tk tv : TE) (vs : List Nat) (σ : L2.St) (Q : VK) : L2.It → Hp → Prop := fun It H1 => ∀ D, H1 D = none → ∃ W : Nat → Nat → Hp → Prop, (∃ m, W 0 m (upd H1 D (.dK []))) ∧ ∀ i m G, W i m G →
  (It.stop i G ∧ Q (.ref D) G) ∨ (It.go i G ∧ ∃ Nx : Hp → Prop, (∀ G', Nx G' → ∃ m', m' < m ∧ W (i + 1) m' G') ∧ ∀ x G', It.yld i G x G' → g x (wipe σ vs) G' fun σ2 G2 => wipe σ2 vs = wipe σ vs ∧ tt σ2 G2 fun b G3 =>
    if b = true then tk σ2 G3 fun y G4 => tv σ2 G4 fun z G5 => sDP K (.ref D) y z G5 Nx else Nx G3)
theorem dc_out {K : KF} {Γ : Fm W.J} {B : Hp} {ρ : En} {σ : L2.St} {H : Hp} {Q : VK} {vs : List Nat} (hvs : ∀ i ∈ gs, i ∈ vs) (hJ : ∀ j ∈ W.J, j ∉ vs) (rep : Rep K Γ B ρ σ H) (k : outZ K xc W Γ B σ Q (cDc vs cas g ct ck cv ρ)) :
    outI K xc W Γ B σ (dzC K (gZ K W.J gs g) (tZT K xc (W0 W) ct) (tZ K xc (W0 W) ck) (tZ K xc (W0 W) cv) vs σ Q) (cas ρ) := by
  unfold cDc at k
  cases hcs : cas ρ with
  | exc x ρ1 => rw [hcs] at k; exact k
  | bad => rw [hcs] at k; exact k
  | ok ds ρ1 =>
    rw [hcs] at k
    intro It B1 H1 e1 r1 hit D hD
    simp only at k
    cases no : noOwn ρ1 vs with
    | false => rw [no] at k; exact k.elim
    | true =>
      rw [no, cond_true] at k
      cases hl : dcL vs g ct ck cv ds ρ1 [] with
      | none => rw [hl] at k; exact k.elim
      | some z =>
        obtain ⟨accF, ρF⟩ := z
        rw [hl] at k
        refine ⟨fun i m H => m = ds.length - i ∧ i ≤ ds.length ∧ ∃ (B : Hp) (ρ : En) (acc : List (PyData × PyData)) (o : HO), Rep K (Γ.plus D o) B (wipeE ρ vs) (wipe σ vs) H ∧ Ex B1 B ∧ DicAt K B H D acc ∧ dcL vs g ct ck cv (ds.drop i) ρ acc = some (accF, ρF),
          ⟨ds.length, by simp, Nat.zero_le _, B1, ρ1, [], _, (r1.wiped hJ).plus hD, Ex.refl _, .inl ⟨[], upd_same, .nil⟩, hl⟩, ?_⟩
        rintro i m H ⟨rfl, hi, B2, ρ2, acc, o2, r2, e2, ha, k2⟩
        obtain ⟨h1, h2⟩ := hit r2 e2
        have frame : ∀ {B' : Hp} {ρ' : En} {σ' : L2.St} {H' : Hp}, Rep K (Γ.plus D o2) B' ρ' σ' H' → Ex B2 B' → DicAt K B' H' D acc := fun {B' ρ' σ' H'} r e =>
          (ha.mono e).at ((r.fh D o2 upd_same).trans (r2.fh D o2 upd_same).symm)
        by_cases hlt : i < ds.length
        · obtain ⟨go, yl⟩ := h1 i ds[i] (List.getElem?_eq_getElem hlt)
          rw [List.drop_eq_getElem_cons hlt] at k2
          refine .inr ⟨go, fun H' => ∃ (B : Hp) (ρ : En) (acc : List (PyData × PyData)) (o : HO), Rep K (Γ.plus D o) B (wipeE ρ vs) (wipe σ vs) H' ∧ Ex B1 B ∧ DicAt K B H' D acc ∧ dcL vs g ct ck cv (ds.drop (i + 1)) ρ acc = some (accF, ρF), fun H' hN => ⟨ds.length - (i + 1), by omega, rfl, hlt, hN⟩, fun x H' hy => ?_⟩
          obtain ⟨B3, e3, r3, q3, _⟩ := yl x H' hy
          unfold dcL at k2
          cases hg' : g ds[i] (wipeE ρ2 vs) with
          | none => rw [hg'] at k2; cases k2
          | some ρ3 =>
            rw [hg'] at k2
            simp only at k2
            refine ⟨Γ.plus D o2, B3, wipeE ρ2 vs, ρ3, _, r3, q3, hg', fun σ4 r4 d4 => ?_⟩
            have ew : wipe σ4 vs = wipe σ vs := wipe_diff hvs d4
            refine ⟨ew, Γ.plus D o2, B3, ρ3, r4, ?_⟩
            cases hct : ct ρ3 with
            | exc x ρ5 => rw [hct] at k2; cases k2
            | bad => rw [hct] at k2; cases k2
            | ok s ρ5 =>
              rw [hct] at k2
              cases s with
              | lst l | dic l | obj c fs | hole => cases k2
              | dat d =>
                cases d with
                | none | int _ | str _ | list _ | tuple _ | dict _ => cases k2
                | bool b =>
                  refine ⟨b, rfl, fun B6 H6 e6 r6 => ?_⟩
                  cases b with
                  | false =>
                    refine iteF ⟨B6, ρ5, acc, o2, ?_, (e2.trans e3).trans e6, frame r6 (e3.trans e6), k2⟩
                    have := r6.wiped hJ
                    rw [ew] at this
                    exact this
                  | true =>
                    refine iteT ⟨Γ.plus D o2, B6, ρ5, r6, ?_⟩
                    simp only at k2
                    cases hck : ck ρ5 with
                    | exc x ρ7 => rw [hck] at k2; cases k2
                    | bad => rw [hck] at k2; cases k2
                    | ok s7 ρ7 =>
                      rw [hck] at k2
                      simp only at k2
                      intro y B8 H8 e8 r8 q8
                      obtain ⟨B9, e9, r9, q9⟩ := SRes.data r8 q8
                      refine ⟨Γ.plus D o2, B9, ρ7, r9, ?_⟩
                      cases hcv : cv ρ7 with
                      | exc x ρ10 => rw [hcv] at k2; cases k2
                      | bad => rw [hcv] at k2; cases k2
                      | ok s10 ρ10 =>
                        rw [hcv] at k2
                        simp only at k2
                        intro z B11 H11 e11 r11 q11
                        obtain ⟨B12, e12, r12, q12⟩ := SRes.data r11 q11
                        have eB : Ex B2 B12 := e3.trans (e6.trans (e8.trans (e9.trans (e11.trans e12))))
                        cases hz : (kOk acc s7.d && decide (acc.length < sizeLine)) with
                        | false => rw [hz] at k2; cases k2
                        | true =>
                          rw [hz, cond_true] at k2
                          have hz2 := Bool.and_eq_true_iff.mp hz
                          refine ⟨B12, D, acc, s7.d, s10.d, rfl, r12.bh, frame r12 eB, dp_mono (e11.trans e12) q9, q12, hz2.1, of_decide_eq_true hz2.2, fun ob hob => ⟨B12, ρ10, _, ob, ?_, e2.trans eB, hob, k2⟩⟩
                          have := (r12.wiped hJ).bump (o' := ob)
                          rw [ew] at this
                          exact this
        · have e : i = ds.length := by omega
          subst e
          rw [List.drop_length] at k2
          have k3 : some (acc, ρ2) = some (accF, ρF) := k2
          cases k3
          obtain ⟨r3, o3, hh, q⟩ := r2.minus (Evl.fresh_back r1.fh hD)
          obtain ⟨r4, q4⟩ := Rep.unwipe r1 no e2 r3
          exact .inl ⟨h2, k (.ref D) B2 H (e1.trans e2) r4 (q4 (q (.dic accF) rfl ⟨D, rfl, rfl, o3, ha⟩))⟩
theorem dc_read {K : KF} {σ : L2.St} {H : Hp} {Q : VK} {vs : List Nat} (hvs : ∀ i ∈ gs, i ∈ vs) (hJ : ∀ j ∈ W.J, j ∉ vs) (h : tZ K xc W (cDc vs cas g ct ck cv) σ H Q) :
    tDz K (iZ K xc W cas) (gZ K W.J gs g) (tZT K xc (W0 W) ct) (tZ K xc (W0 W) ck) (tZ K xc (W0 W) cv) vs σ H Q := by
  obtain ⟨Γ, B, ρ, rep, k⟩ := h
  exact ⟨Γ, B, ρ, rep, dc_out hvs hJ rep k⟩
theorem ze_dc (hu : X.A.units + 64 < cLine) (hc : X.calm = true) (hN : X.N.Nodup) (hi : ZI X xc W tg iter cas) (ok : BlkOk X.N X.env.scope scope own) (hvs : (gs.all fun i => (own.map (·.2)).contains i) = true) (hJ : (W.J.all fun j => !(own.map (·.2)).contains j) = true)
    (hg : ∀ (s : Shared) (H : Hp) (C : Addr) (cl : List (Str × Addr)) (fp : List Addr), PG (X.blk s H scope (compEnvC scope cl C X.env) fp) tg (gZ X.kf W.J gs g))
    (ht : ∀ (s : Shared) (H : Hp) (C : Addr) (cl : List (Str × Addr)) (fp : List Addr), PTs (X.blk s H scope (compEnvC scope cl C X.env) fp) ifs (tZT X.kf xc (W0 W) ct))
    (hk : ∀ (s : Shared) (H : Hp) (C : Addr) (cl : List (Str × Addr)) (fp : List Addr), PE (X.blk s H scope (compEnvC scope cl C X.env) fp) ke (tZ X.kf xc (W0 W) ck))
    (he : ∀ (s : Shared) (H : Hp) (C : Addr) (cl : List (Str × Addr)) (fp : List Addr), PE (X.blk s H scope (compEnvC scope cl C X.env) fp) ve (tZ X.kf xc (W0 W) cv)) (hs : ∀ x, foldedSetIterable iter X.env x = pure x := by intro _; rfl) :
    ZE X xc W (.DictComp ke ve [⟨tg, iter, ifs, 0⟩] scope pos) (cDc (own.map (·.2)) cas g ct ck cv) := PE.imp (pe_dz hu hc hN hi ok hg ht hk he hs) fun σ H Q h => dc_read (all_in hvs) (all_out hJ) h
end
end Z
set_option maxHeartbeats 2000000
/-! Z: sorted. -/
namespace Z
open PySem PySem.Spec PyProof.Rows L2
open Evl (Ex ex_l ex_t ex_rd)
/-! ### pairs of ints in their order -/
abbrev Cn := Int × Int
def pD (c : Cn) : PyData := .tuple [.int c.1, .int c.2]
def insP (c : Cn) : List Cn → List Cn
  | [] => [c]
  | d :: t => if SrtO.lexB d c = true then d :: insP c t else c :: d :: t
def srtP : List Cn → List Cn
  | [] => []
  | c :: cs => insP c (srtP cs)
theorem insP_perm {c : Cn} : ∀ {l : List Cn}, (insP c l).Perm (c :: l)
  | [] => List.Perm.refl _
  | d :: t => by
    unfold insP
    split
    · exact ((insP_perm (l := t)).cons d).trans (List.Perm.swap c d t)
    · exact List.Perm.refl _
theorem srtP_perm : ∀ {l : List Cn}, (srtP l).Perm l
  | [] => List.Perm.refl _
  | c :: cs => insP_perm.trans (srtP_perm.cons c)
/-- not above -/
abbrev LeP (p q : Cn) : Prop := SrtO.lexB q p = false
theorem leP_iff {p q : Cn} : LeP p q ↔ p.1 < q.1 ∨ (p.1 = q.1 ∧ p.2 ≤ q.2) := by
  unfold LeP
  rw [SrtO.lexB_no]
  omega
theorem insP_srt {c : Cn} : ∀ {l : List Cn}, l.Pairwise LeP → (insP c l).Pairwise LeP
  | [], _ => List.pairwise_singleton _ _
  | d :: t, h => by
    have h1 := List.pairwise_cons.mp h
    unfold insP
    split
    · rename_i e
      have e' := SrtO.lexB_iff.mp e
      refine List.pairwise_cons.mpr ⟨fun x hx => ?_, insP_srt h1.2⟩
      rcases List.mem_cons.mp (insP_perm.mem_iff.mp hx) with rfl | hx
      · rw [leP_iff]; omega
      · exact h1.1 x hx
    · rename_i e
      have e' : LeP c d := by
        unfold LeP
        cases q : SrtO.lexB d c with
        | true => exact absurd q e
        | false => rfl
      refine List.pairwise_cons.mpr ⟨fun x hx => ?_, h⟩
      rcases List.mem_cons.mp hx with rfl | hx
      · exact e'
      · have := h1.1 x hx
        rw [leP_iff] at *
        omega
theorem srtP_srt : ∀ {l : List Cn}, (srtP l).Pairwise LeP
  | [] => List.Pairwise.nil
  | c :: cs => insP_srt srtP_srt
theorem srt_uniq : ∀ {l m : List Cn}, l.Pairwise LeP → m.Pairwise LeP → l.Perm m → l = m
  | [], m, _, _, h => (List.Perm.eq_nil h.symm).symm
  | x :: l, [], _, _, h => absurd h.length_eq (by simp)
  | x :: l, y :: m, hl, hm, h => by
    have h1 := List.pairwise_cons.mp hl
    have h2 := List.pairwise_cons.mp hm
    have a : LeP x y := by
      rcases List.mem_cons.mp (h.symm.mem_iff.mp (List.mem_cons_self (a := y) (l := m))) with e | e
      · subst e; rw [leP_iff]; omega
      · exact h1.1 y e
    have b : LeP y x := by
      rcases List.mem_cons.mp (h.mem_iff.mp (List.mem_cons_self (a := x) (l := l))) with e | e
      · subst e; rw [leP_iff]; omega
      · exact h2.1 x e
    have e : x = y := by
      rw [leP_iff] at a b
      exact Prod.ext (by omega) (by omega)
    subst e
    rw [srt_uniq h1.2 h2.2 h.cons_inv]
def pairsOf : List PyData → Option (List Cn)
  | [] => some []
  | .tuple [.int a, .int b] :: ds => (pairsOf ds).map ((a, b) :: ·)
  | _ => none
theorem pairsOf_map : ∀ {l : List PyData} {ps : List Cn}, pairsOf l = some ps → l = ps.map pD
  | [], ps, h => by cases h; rfl
  | d :: ds, ps, h => by
    unfold pairsOf at h
    split at h
    · rename_i e; cases e
    · rename_i a b es e
      cases e
      cases e2 : pairsOf ds with
      | none => rw [e2] at h; cases h
      | some r =>
        rw [e2] at h
        cases h
        rw [pairsOf_map e2]
        rfl
    · cases h
theorem pairsOf_pD : ∀ {ps : List Cn}, pairsOf (ps.map pD) = some ps
  | [] => rfl
  | p :: ps => by
    show (pairsOf (ps.map pD)).map (p :: ·) = _
    rw [pairsOf_pD]
    rfl
/-! ### sorting data -/
def dLe (a b : PyData) : Bool := !PySem.W.dataLt b a
/-- data that sorted takes -/
def sortOk (l : List PyData) : Bool := (l.all fun d => l.all fun e => PySem.W.alike d e) && ((l.all fun d => match d with
    | .tuple (_ :: _) => true
    | _ => false) || (l.all fun d => match d with
    | .none => false
    | .tuple _ => false
    | _ => true)) && (l.all fun d => decide (d.depth ≤ 60)) && plains l
theorem sortOk_of {l : List PyData} (h : sortOk l = true) : PySem.W.AllAlike l ∧ PySem.W.Sortable l ∧ (∀ d ∈ l, d.depth ≤ 60) ∧ plains l = true := by
  unfold sortOk at h
  have h1 := Bool.and_eq_true_iff.mp h
  have h2 := Bool.and_eq_true_iff.mp h1.1
  have h3 := Bool.and_eq_true_iff.mp h2.1
  refine ⟨fun d hd e he => List.all_eq_true.mp (List.all_eq_true.mp h3.1 d hd) e he, ?_, fun d hd => of_decide_eq_true (List.all_eq_true.mp h2.2 d hd), h1.2⟩
  rcases Bool.or_eq_true_iff.mp h3.2 with h4 | h4
  · refine .inl fun d hd => ?_
    have := List.all_eq_true.mp h4 d hd
    split at this
    · exact ⟨_, _, rfl⟩
    · cases this
  · refine .inr fun d hd => ?_
    have := List.all_eq_true.mp h4 d hd
    split at this
    · cases this
    · cases this
    · rename_i n1 n2
      exact ⟨fun e => n1 e, fun xs e => n2 xs e⟩
theorem plains_dp {K : KF} {H : Hp} : ∀ {vs : List V} {ds : List PyData}, DpAll K H vs ds → plains ds = true → L2.DpAll K.K H vs ds
  | _, _, .nil, _ => .nil
  | _, _, .cons h t, p => by
    have q := Bool.and_eq_true_iff.mp p
    exact .cons (plain_dp h q.1) (plains_dp t q.2)
section
variable {X : Cx} {pins : List (Addr × Obj)} {σ : L2.St} {H B : Hp} {s : Shared}
abbrev Both (K : KF) (B : Hp) : Value → V × PyData → Prop := fun u b => RelV b.1 u ∧ Dp K B b.1 b.2
theorem both_of : ∀ {K : KF} {xs : List V} {us : List Value} {ds : List PyData}, DpAll K B xs ds → Vals xs us → PySem.W.EachIs (Both K B) us (xs.zip ds)
  | _, _, _, _, .nil, .nil => .nil
  | _, _, _, _, .cons h t, .cons r rt => .cons ⟨r, h⟩ (both_of t rt)
theorem both_to : ∀ {K : KF} {us : List Value} {bs : List (V × PyData)}, PySem.W.EachIs (Both K B) us bs → Vals (bs.map (·.1)) us ∧ DpAll K B (bs.map (·.1)) (bs.map (·.2))
  | _, _, _, .nil => ⟨.nil, .nil⟩
  | _, _, _, .cons h t => ⟨.cons h.1 (both_to t).1, .cons h.2 (both_to t).2⟩
theorem reads_of (I : Inv X pins σ H s) (eB : Ex B H) : ∀ {us : List Value} {bs : List (V × PyData)}, PySem.W.EachIs (Both X.kf B) us bs → plains (bs.map (·.2)) = true → PySem.W.EachIs (fun v b => ∃ as, Reads s.heap v b.2 as) us bs
  | _, _, .nil, _ => .nil
  | _, _, .cons h t, p => by
    have q := Bool.and_eq_true_iff.mp p
    exact .cons (L2.Dp.reads I _ _ _ (plain_dp (dp_mono eB h.2) q.1) h.1) (reads_of I eB t q.2)
theorem zip_snd : ∀ {K : KF} {xs : List V} {ds : List PyData}, DpAll K B xs ds → (xs.zip ds).map (·.2) = ds ∧ (xs.zip ds).map (·.1) = xs
  | _, _, _, .nil => ⟨rfl, rfl⟩
  | _, _, _, .cons h t => by
    obtain ⟨h1, h2⟩ := zip_snd t
    exact ⟨by rw [List.zip_cons_cons, List.map_cons, h1], by rw [List.zip_cons_cons, List.map_cons, h2]⟩
theorem sort_snd (bs : List (V × PyData)) : (bs.mergeSort (PySem.W.dataLe false Prod.snd)).map (·.2) = (bs.map (·.2)).mergeSort dLe := by
  refine List.map_mergeSort fun a _ b _ => ?_
  rw [PySem.W.dataLe_eq]
  rfl
/-- sorted(xs), a list -/
def rSL (K : KF) : List V → Hp → VK → Prop := fun vs H Q => ∃ B a xs ds, vs = [V.ref a] ∧ Ex B H ∧ SqL K H a xs ∧ DpAll K B xs ds ∧ sortOk ds = true ∧ ∀ p ys, H p = none → DpAll K B ys (ds.mergeSort dLe) → Q (.ref p) (upd H p (.lst ys))
theorem cr_sortL (hu : X.A.units + 64 < cLine) : CallR X (.builtin "sorted") (rSL X.kf) := by
  intro pins s σ H vs us Q I r h
  obtain ⟨B, a, xs, ds, rfl, eB, hs, hx, ok, q⟩ := h
  obtain ⟨its, rv, hl, hz⟩ := I.list hs
  obtain ⟨u, rfl, ru⟩ := vals1 r
  obtain rfl : u = Value.ref a := ru
  obtain ⟨o1, o2, o3, o4⟩ := sortOk_of ok
  have bo := both_of hx rv
  obtain ⟨z1, z2⟩ := zip_snd hx
  have hlen : (xs.zip ds).length = its.length := bo.length.symm
  refine PySem.W.sorted_data (enc := Prod.snd) hl.isList bo (reads_of I eB bo (by rw [z1]; exact o4)) (by rw [z1]; exact o1) (by rw [z1]; exact o2) (by rw [hlen, ← rv.length]; exact hz) (fun b hb => ?_) fun out ho eo => ?_
  · have : b.2 ∈ ds := by rw [← z1]; exact List.mem_map.mpr ⟨b, hb, rfl⟩
    have := o3 _ this
    omega
  · obtain ⟨e1, e2⟩ := both_to eo
    rw [sort_snd, z1] at e2
    obtain ⟨n, hn⟩ := PyProof.Rows.sortedAll_at s.heap its out.toArray
    exact ⟨.ref _, upd H (s.heap.objs.size + 1) (.lst _), I.laid (t' := s.toks) (fun _ _ e => PyProof.Rows.sortedAll_old e) (Nat.le_succ _) ⟨by rw [e1.length, ho, hlen, ← rv.length]; exact hz, out, n, e1, hn⟩, rfl, q _ _ (I.hok.fresh (Nat.le_succ _)) e2⟩
theorem keys_dataN {K : KF} {B : Hp} : ∀ {L : NL} {l : List (PyData × PyData)}, DpKN K B L l → DpAll K B (L.map fun x => .ref x.2.1) (l.map (·.1))
  | _, _, .nil => .nil
  | _, _, .cons h0 hz h t => .cons h0 (keys_dataN t)
theorem keys_dataK {K : KF} {B : Hp} : ∀ {L : List (Key × V)} {l : List (PyData × PyData)}, DpKV K B L l → DpAll K B (L.map fun x => kV x.1) (l.map (·.1))
  | _, _, .nil => .nil
  | _, _, .cons (k := k) h t => .cons (by cases k with | inl i => exact .int i | inr i => exact .str i) (keys_dataK t)
/-- what a walk over a dict's keys collects -/
theorem dic_keys (hc : X.A.handled = none) (I : Inv X pins σ H s) (eB : Ex B H) {a : Addr} {l : List (PyData × PyData)} (h : DicR X.kf B H a l) {E : Value → Shared → Prop} {R : List Value → Shared → Prop}
    (hR : ∀ h' tk us ks, (∀ b o, s.heap.get? b = some o → h'.get? b = some o) → Vals ks us → DpAll X.kf B ks (l.map (·.1)) → us.length = l.length → us.length ≤ sizeLine → R us { s with heap := h', toks := tk }) : wpAny (model X.prog X.w) X.A.in1 (collect (.ref a)) R E s := by
  rcases h with ⟨kvs, h1, h2⟩ | ⟨L, h1, h2, h0⟩
  · obtain ⟨z, lo, vs, rel, dd⟩ := dk_rd I.hok h1
    obtain ⟨ep, hat⟩ := dd.dictAt
    have hl : vs.length = l.length := by rw [← rel.length, dpKV_len h2]
    refine PySem.W.kdu_collect (A := X.A.in1) (PySem.W.kdl_dict (knd := mixKind X.prog X.w) (kvs := vs) (ep := ep) lo) hc hat (by rw [← rel.length]; exact z) fun h' tk acc hk hacc => ?_
    have hs : acc.toList.length = vs.length := by rw [Array.length_toList, hacc.1]
    refine hR h' tk acc.toList (kvs.map fun x => kV x.1) hk ?_ (keys_dataK h2) (by rw [hs, hl]) (by rw [hs, ← rel.length]; exact z)
    have go : ∀ (M : List (Key × V)) (ys : List (Key × Value)), KV M ys → ∀ us : List Value, us.length = ys.length → (∀ (i : Nat) u, us[i]? = some u → ∃ k x, ys[i]? = some (k, x) ∧ (mixKind X.prog X.w).is k u = true) → Vals (M.map fun x => kV x.1) us := fun M => by
      induction M with
      | nil => intro ys n us hl _; cases n; cases us with | nil => exact .nil | cons _ _ => simp at hl
      | cons x M ih =>
        intro ys n us hl h
        cases n with
        | @cons _ y _ ys n1 n2 =>
          cases us with
          | nil => simp at hl
          | cons u us =>
            obtain ⟨k, x', e1, e2⟩ := h 0 u rfl
            simp at e1
            subst e1
            refine .cons ?_ (ih ys n2 us (by simpa using hl) fun i w hw => by simpa using h (i + 1) w (by simpa using hw))
            have n3 : x.1 = k := n1.1
            show RelV (kV x.1) u
            rw [n3]
            rcases keyIs_shape (show keyIs k u = true from e2) with ⟨i, t, ek, ev⟩ | ⟨z, t, ek, ev⟩
            · subst ek ev; exact ⟨t, rfl⟩
            · subst ek ev; exact ⟨t, rfl⟩
    exact go kvs vs rel acc.toList hs fun i u hu => hacc.2 i u (by rw [← Array.getElem?_toList]; exact hu)
  · obtain ⟨lo, z, nd, xs, o, es, ep, nx, g1, g2, g3, g4⟩ := nOk_of I h1
    have hr : s.heap.DictRaw a es ep := ⟨o, g1, g2, g3⟩
    have hs : es.size = xs.length := size_of_entries g4
    have hl : es.size = l.length := by rw [hs, ← Paired.length nx, dpKN_len h2]
    refine PySem.W.kdu_collect (A := X.A.in1) (KdlSrc.rawDict lo) hc hr (by rw [hs, ← Paired.length nx]; exact z) fun h' tk acc hkp hacc => ?_
    have ha : acc.toList.length = xs.length := by rw [Array.length_toList, hacc.1, hs]
    refine hR h' tk acc.toList (L.map fun x => V.ref x.2.1) hkp ?_ (keys_dataN h2) (by rw [ha, ← hs, hl]) (by rw [ha, ← Paired.length nx]; exact z)
    have go : ∀ (M : NL) (ys : List (NestedKey × Addr × Value)), NX M ys → ∀ us : List Value, us.length = ys.length → (∀ (i : Nat) u, us[i]? = some u → ∃ y, ys[i]? = some y ∧ u = .ref y.2.1) → Vals (M.map fun x => V.ref x.2.1) us := fun M => by
      induction M with
      | nil => intro ys n us hl _; cases n; cases us with | nil => exact .nil | cons _ _ => simp at hl
      | cons x M ih =>
        intro ys n us hl h
        cases n with
        | @cons _ y _ ys n1 n2 =>
          cases us with
          | nil => simp at hl
          | cons u us =>
            obtain ⟨y', e1, e2⟩ := h 0 u rfl
            cases e1
            subst e2
            exact .cons (show V.ref x.2.1 |> fun v => RelV v (Value.ref y.2.1) by rw [n1.2.1]; rfl) (ih ys n2 us (by simpa using hl) fun i w hw => by simpa using h (i + 1) w (by simpa using hw))
    refine go L xs nx acc.toList ha fun i u hu => ?_
    obtain ⟨hi, e⟩ := hacc.2 i u (by rw [← Array.getElem?_toList]; exact hu)
    have hx : i < xs.length := hs ▸ hi
    have e' := entry_at g4 i
    rw [Array.getElem?_eq_getElem hi, List.getElem?_eq_getElem hx, Option.map_some] at e'
    exact ⟨xs[i], List.getElem?_eq_getElem hx, by rw [e, Option.some.inj e']; rfl⟩
/-- sorted(d), a dict: its keys -/
def rSD (K : KF) : List V → Hp → VK → Prop := fun vs H Q => ∃ B a l, vs = [V.ref a] ∧ Ex B H ∧ DicR K B H a l ∧ sortOk (l.map (·.1)) = true ∧ ∀ p ys, H p = none → DpAll K B ys ((l.map (·.1)).mergeSort dLe) → Q (.ref p) (upd H p (.lst ys))
theorem cr_sortD (hc : X.calm = true) (hu : X.A.units + 65 < cLine) : CallR X (.builtin "sorted") (rSD X.kf) := by
  intro pins s σ H vs us Q I r h
  obtain ⟨B, a, l, rfl, eB, hd, ok, q⟩ := h
  obtain ⟨u, rfl, ru⟩ := vals1 r
  obtain rfl : u = Value.ref a := ru
  obtain ⟨o1, o2, o3, o4⟩ := sortOk_of ok
  refine Calls.call_function_entry PyProof.Rows.kind_sorted PyProof.Rows.plain_sorted PyProof.Rows.entry_sorted (PyProof.Rows.args_sorted1 _) ?_
  unfold Builtin.«sorted»
  refine wpAny_bind (m := checkCount "sorted" 1 1 _) (wpAny_pure ?_)
  refine wpAny_bind (dic_keys (I.ok.hd hc) I eB hd fun h' tk acc ks hkp hva kd hlen hz => ?_)
  have J : Inv X pins σ H { s with heap := h', toks := tk } := I.kept hkp
  have bo := both_of kd hva
  obtain ⟨z1, z2⟩ := zip_snd kd
  have hle : (ks.zip (l.map (·.1))).length = acc.length := bo.length.symm
  refine wpAny_bind (wpAny_newList ?_ hz)
  have hoL : (h'.push (seqObj "list" acc.toArray 0)).get? h'.objs.size = some (seqObj "list" acc.toArray 0) := Heap.get?_push_size _ rfl
  show wpAny _ _ _ _ _ { s with heap := h'.push (seqObj "list" acc.toArray 0), toks := tk }
  have rd := reads_of J eB bo (by rw [z1]; exact o4)
  refine wpAny_bind (wpAny_holding (PySem.W.list_sort_data (enc := Prod.snd) (s := { s with heap := h'.push (seqObj "list" acc.toArray 0), toks := tk }) hoL bo ?_ (by rw [z1]; exact o1) (by rw [z1]; exact o2) (by rw [hle]; exact hz) (fun b hb => ?_) fun out ho eo => ?_))
  · refine rd.mono fun v b ⟨as, ra⟩ => ⟨as, PyProof.Rows.Reads.keeps (fun _ _ e => Heap.get?_push_of_some _ e) ra, fun hm => ?_⟩
    obtain ⟨o, e⟩ := PyProof.On.reads_mem_get ra _ hm
    exact absurd (Heap.lt_size e) (Nat.lt_irrefl _)
  · have : b.2 ∈ l.map (·.1) := by rw [← z1]; exact List.mem_map.mpr ⟨b, hb, rfl⟩
    have h60 := o3 _ this
    show X.A.units + 1 + 1 + b.2.depth < cLine
    omega
  · obtain ⟨e1, e2⟩ := both_to eo
    rw [sort_snd, z1] at e2
    obtain ⟨n, hn⟩ := PyProof.Rows.sortedHeap_at (vs := acc) (out := out.toArray) hoL
    refine wpAny_pure ⟨_, rfl, .ref h'.objs.size, upd H h'.objs.size (.lst _), J.laid (t' := tk) (fun b u e => ?_) (Nat.le_refl _) (show ObjOk X.prog X.w _ _ _ (.lst _) from ⟨by rw [e1.length, ho, hle]; exact hz, out, n, e1, hn⟩), rfl, q _ _ (J.hok.fresh (Nat.le_refl _)) e2⟩
    have hb : b < h'.objs.size := Heap.lt_size e
    rw [PyProof.Rows.sortedHeap_old (Nat.ne_of_lt hb) (by rw [size_push']; exact Nat.lt_succ_of_lt hb)]
    exact Heap.get?_push_of_some _ e
end
end Z
set_option maxHeartbeats 2000000
/-! Z: list(reversed(x)); x[::-1]; min, max of data; dict(..); len of a dict. -/
namespace Z
open PySem PySem.Spec PyProof.Rows L2
open Evl (Ex ex_l ex_t ex_rd)
section
variable {prog : Program} {w : World} {A : Around} {E : Value → Shared → Prop} {s : Shared}
theorem list_of_rev {R : Result → Shared → Prop} {it l S : Addr} {items : Array Value} (hh : A.handled = none) (hit : s.heap.IsRevIter it l ((items.size : Int) - 1)) (hl : s.heap.IsList l items) (hne : l ≠ it) (hSi : S ≠ it) (hSl : S ≠ l) (hn : items.size ≤ sizeLine)
    (hS : s.heap.get? S = some { cls := .type "list", data := .seq #[] })
    (hR : ∀ s' acc' c', Moved (S :: [it]) (fun a b => b = a) s s' → s'.heap.get? S = some { cls := .type "list", dict := none, data := .seq acc' c', slots := #[] } → ItemsOf (fun i v => items[items.size - 1 - i]? = some v) acc' items.size → R (.ok (.ret .none)) s') :
    wpAny (model prog w) A.in1 (Builtin.«list.__init__» ⟨[.ref S, .ref it], []⟩) (fun fin s' => match fin with | .done f => R (.ok f) s' | .again c' => c'.quiet = true ∧ codeAny (model prog w) A c' R s') (fun e s' => R (.error e) s') s := by
  have W := (Walks.listRev (prog := prog) (w := w) (A := A.in1) hh it l hne items).toS
  have hSf : S ∉ [it, l] := by simp only [List.mem_cons, List.not_mem_nil, or_false, not_or]; exact ⟨hSi, hSl⟩
  show wpAny _ A.in1 (do let old ← Builtin.List.listItems (.ref S); Builtin.List.listUpdate (.ref S) (fun _ => #[]); letGo old.toList.reverse; Builtin.List.listExtendWith (.ref S) (.ref it) .none) _ _ s
  refine wpAny_bind ?_
  unfold Builtin.List.listItems
  refine wpAny_bind (wpAny_seqItems hS rfl (wpAny_pure ?_))
  show wpAny _ A.in1 (updateSeq S (fun _ => #[]) >>= fun _ => letGo (#[] : Array Value).toList.reverse >>= fun _ => Builtin.List.listExtendWith (.ref S) (.ref it) .none) _ _ s
  refine wpAny_bind (wpAny_updateSeq hS rfl ?_)
  have hS2 := Heap.get?_update_self (Obj.mapSeq (fun _ => (#[] : Array Value))) hS rfl
  have oth : ∀ b o, b ≠ S → s.heap.get? b = some o → (s.heap.update S (Obj.mapSeq (fun _ => (#[] : Array Value)))).get? b = some o := fun b o hb e => (Heap.get?_update_other _ _ (Ne.symm hb)).trans e
  refine wpAny_bind (wpAny_letGo ?_)
  have hit2 : (s.heap.update S (Obj.mapSeq (fun _ => (#[] : Array Value)))).IsRevIter it l ((items.size : Int) - 1) := hit.at fun o e => oth _ _ (Ne.symm hSi) e
  have hl2 : (s.heap.update S (Obj.mapSeq (fun _ => (#[] : Array Value)))).IsList l items := by
    obtain ⟨o, e, r⟩ := hl
    exact ⟨o, oth _ _ (Ne.symm hSl) e, r⟩
  have hT : ({ s with heap := s.heap.update S (Obj.mapSeq (fun _ => (#[] : Array Value))) } : Shared).TypeIs (.ref it) "list_reverseiterator" := Heap.IsRevIter.typeIs (s := { s with heap := s.heap.update S (Obj.mapSeq (fun _ => (#[] : Array Value))) }) hit2
  have h1 : Builtin.List.listSameRef (.ref S) (.ref it) = false := by simp [Builtin.List.listSameRef, hSi]
  unfold Builtin.List.listExtendWith
  refine wpAny_bind (wpAny_typeOf hT ?_)
  rw [if_neg (by rw [h1]; decide)]
  refine wpAny_bind (wpAny_pyIter_revIter (s := { s with heap := s.heap.update S (Obj.mapSeq (fun _ => (#[] : Array Value))) }) hit2 ?_)
  refine wpAny_bind (wpAny_holding ?_)
  unfold Builtin.List.listLengthHint
  refine wpAny_bind (wpAny_specialOf hT RT.nolen_lri ?_)
  show wpAny _ A.in1 (specialOf (Value.ref it) (Str.ofString "__length_hint__") >>= _) _ _ _
  refine wpAny_bind (wpAny_specialOf hT RT.hint_lri ?_)
  generalize hid : ("list_reverseiterator.__length_hint__" : String) = id0
  wp_delta
  rw [show splitId id0 = some ("list_reverseiterator", "__length_hint__") from by subst hid; decide +kernel]
  subst hid
  refine wpAny_bind (wpAny_isInstance (b := true) hT (by rw [isSubtype_type]; kernel_rfl) ?_)
  refine wpAny_pure ?_
  rw [if_neg (by decide)]
  have e0 : ((items.size : Nat) : Int) - 1 - ((0 : Nat) : Int) = (items.size : Int) - 1 := by omega
  refine wpAny_pure ⟨plainId_quiet F.plain_extend_loop _, codeAny_extend_loopS W hn _ hSf _ items.size 0 _ _ _ rfl (Nat.zero_le _) ⟨Nat.zero_le _, by rw [e0]; exact hit2, hl2⟩ hS2 (ItemsOf.nil _) fun s' acc' c' hm hS' hacc => ?_⟩
  refine hR s' acc' c' (Moved.trans (fun a b c e1 e2 => e2.trans e1) ((Moved.refl (G := fun a b => b = a) (fun _ => rfl)).then_heap (Nat.le_refl _) fun b o hb e => oth b o (fun h => hb ?_) e) hm) hS' hacc
  rw [h]
  exact List.mem_cons_self
theorem call_list_rev {it l : Addr} {items : Array Value} {Q : Value → Shared → Prop} (hh : A.handled = none) (hit : s.heap.IsRevIter it l ((items.size : Int) - 1)) (hl : s.heap.IsList l items) (hne : l ≠ it) (hn : items.size ≤ sizeLine)
    (hQ : ∀ s' acc' c', Moved (s.heap.objs.size :: [it]) (fun a b => b = a) { s with heap := s.heap.push { cls := .type "list", data := .seq #[] } } s' →
      s'.heap.get? s.heap.objs.size = some { cls := .type "list", dict := none, data := .seq acc' c', slots := #[] } → ItemsOf (fun i v => items[items.size - 1 - i]? = some v) acc' items.size → Q (.ref s.heap.objs.size) s') :
    wpAny (model prog w) A (call (.type "list") [.ref it]) Q E s := by
  obtain ⟨oi, hoi, _⟩ := id hit
  obtain ⟨ol, hol, _⟩ := id hl
  refine callType_codes (Q₁ := fun obj s₁ => obj = .ref s.heap.objs.size ∧ s₁ = { s with heap := s.heap.push { cls := .type "list", data := .seq #[] } }) F.called_list (F.typeCall_list_1 _) F.entry_list_init
    (code_list_new _ ⟨rfl, rfl⟩) fun obj s₁ h₁ => ?_
  obtain ⟨rfl, rfl⟩ := h₁
  have hS : (s.heap.push { cls := .type "list", data := .seq #[] }).get? s.heap.objs.size = some { cls := .type "list", data := .seq #[] } := Heap.get?_push_size _ rfl
  exact ⟨⟨_, hS, rfl⟩, F.args_list_init_2 _ _, list_of_rev (A := A.in1) hh (hit.at fun o e => Heap.get?_push_of_some _ e) (hl.push _) hne (Nat.ne_of_gt (Heap.lt_size hoi)) (Nat.ne_of_gt (Heap.lt_size hol)) hn hS fun s' acc' c' hm hS' hacc => ⟨rfl, hQ s' acc' c' hm hS' hacc⟩⟩
end
section
variable {X : Cx} {xc : Str → Value} {W : Ww} {a e : Expr} {es : List Expr} {pos p : Pos} {ca : CE} {cas : CA}
/-- list(reversed(x)), x a list: a new list -/
def tLstRev (K : PySem.W.Frag) (te : TE) : TE := fun σ H Q => te σ H fun v H1 => ∃ (a : Addr) (xs : List V), v = .ref a ∧ L2.SqL K H1 a xs ∧ ∀ q, H1 q = none → Q (.ref q) (upd H1 q (.lst xs.reverse))
theorem pe_lstRev {te : TE} {p2 pos2 : Pos} (hc : X.calm = true) (hg : Gl X "list") (hm : X.mg "list" = none) (hg2 : Gl X "reversed") (hm2 : X.mg "reversed" = none) (he : PE X e te)
    (hs : starEach [e] X.env = (false, eval e X.env) :: starEach [] X.env := by rfl)
    (hs2 : starEach [.Call (.Name "reversed" p2) [e] [] pos2] X.env = (false, eval (.Call (.Name "reversed" p2) [e] [] pos2) X.env) :: starEach [] X.env := by rfl) :
    PE X (.Call (.Name "list" p) [.Call (.Name "reversed" p2) [e] [] pos2] [] pos) (tLstRev X.K te) := by
  refine ⟨fun pins s σ H Q I h => ?_⟩
  refine Call_ (ld_blt I hg hm PyProof.Rows.boot_list (PyProof.Rows.callWith_type1 (args_cons (Call_ (ld_blt I hg2 hm2 PyProof.Rows.boot_reversed (PyProof.Rows.callWith_type1 (args_cons (thn (he.run pins s σ H _ I h) fun u s1 ⟨v, H1, I1, r1, q1⟩ => args_nil ?_) hs) hs rfl))) hs2) hs2 rfl))
  obtain ⟨a, xs, ev, hq, q⟩ := q1
  subst ev
  obtain rfl : u = Value.ref a := r1
  obtain ⟨its, rv, p', hz⟩ := I1.list hq
  refine call_reversed_list p'.isList (args_nil ?_)
  have k0 : ∀ b o, s1.heap.get? b = some o → (s1.heap.push (revObj a ((its.toArray.size : Int) - 1))).get? b = some o := fun b o e => Heap.get?_push_of_some _ e
  have I2 : Inv X pins σ H1 { s1 with heap := s1.heap.push (revObj a ((its.toArray.size : Int) - 1)) } := I1.kept (t' := s1.toks) k0
  obtain ⟨f0, f1, f2, f3, f4, f5⟩ := I1.fpOk (H' := H1) (b := s1.heap.objs.size) (Nat.le_refl _) (I1.hok.fresh (Nat.le_refl _))
  have hl := p'.isList
  obtain ⟨ol, hol, _⟩ := id hl
  have hne : a ≠ s1.heap.objs.size := Nat.ne_of_lt (Heap.lt_size hol)
  have hn : its.toArray.size ≤ sizeLine := by rw [List.size_toArray, ← rv.length]; exact hz
  refine call_list_rev (s := { s1 with heap := s1.heap.push (revObj a ((its.toArray.size : Int) - 1)) }) (I1.ok.hd hc) ⟨_, Heap.get?_push_size _ rfl, rfl, rfl⟩ (hl.push _) hne hn fun s' acc c m hS hi => ?_
  have sz : (s1.heap.push (revObj a ((its.toArray.size : Int) - 1))).objs.size = s1.heap.objs.size + 1 := Heap.size_push _ _
  have es : s' = { s1 with heap := s'.heap, toks := s'.toks } := Moved.eq_with (s := { s1 with heap := (s1.heap.push (revObj a ((its.toArray.size : Int) - 1))).push { cls := .type "list", data := .seq #[] } }) m
  rw [es]
  simp only [sz] at hS ⊢
  refine ⟨.ref _, upd H1 (s1.heap.objs.size + 1) (.lst xs.reverse), ?_, rfl, q _ (I1.hok.fresh (Nat.le_succ _))⟩
  refine Inv.turnedNew (s := { s1 with heap := s1.heap.push (revObj a ((its.toArray.size : Int) - 1)) }) (t' := s'.toks) (ch := [s1.heap.objs.size]) (T := s1.heap.objs.size + 1) I2 (fun b o hb e => ?_) (fun b hb => ?_) (by rw [sz]; exact Nat.le_refl _) ⟨by rw [List.length_reverse]; exact hz, acc.toList, c, RT.vals_rev rv hi, by rw [Array.toArray_toList]; exact hS⟩
  · refine m.heap b o (fun hm => ?_) (Heap.get?_push_of_some _ e)
    rcases List.mem_cons.mp hm with e' | hm
    · exact absurd (Heap.lt_size e) (by rw [e']; exact Nat.lt_irrefl _)
    · exact hb (by simpa using hm)
  · have e : b = s1.heap.objs.size := by simpa using hb
    subst e
    exact ⟨f0, f1, f2, f3, f4, f5⟩
end
end Z
set_option maxHeartbeats 2000000
/-! Z: x[::-1]; sorted; min of data; dict(pairs). -/
namespace Z
open PySem PySem.Spec PyProof.Rows L2
open Evl (Ex ex_l ex_t ex_rd)
/-! ### t[::-1] -/
section
open HT
variable {prog : Program} {w : World} {A : Around} {E : Value → Shared → Prop} {s : Shared}
theorem sliceApplied_rev {sl : Addr} {t : Tok} {n : Nat} {Q : Int × Int × Nat → Shared → Prop} (hs : s.heap.IsSliceOf sl .none .none (.int (-1) t))
    (h : Q ((n : Int) - 1, -1, n) s) : wpAny (model prog w) A (Builtin.Slice.sliceApplied (.ref sl) (pure (n : Int))) Q E s := by
  obtain ⟨os, hos, hcs, hds⟩ := id hs
  unfold Builtin.Slice.sliceApplied Builtin.Slice.sliceFields
  refine wpAny_bind (wpAny_bind (wpAny_field hos hds (x := .none) rfl (wpAny_bind (wpAny_field hos hds (x := .none) rfl (wpAny_bind (wpAny_field hos hds (x := .int (-1) t) rfl (wpAny_pure ?_)))))))
  refine wpAny_bind (slicePart_int ?_)
  show wpAny _ _ (if ((-1 : Int) == 0) = true then _ else _) _ _ s
  rw [if_neg (by decide)]
  refine wpAny_bind (slicePart_none (wpAny_bind (slicePart_none (wpAny_bind (wpAny_pure ?_)))))
  have e : Builtin.Slice.slicePlaces ((n : Int) - 1) (-1) (-1) = n := by
    unfold Builtin.Slice.slicePlaces
    rw [if_neg (by decide)]
    have e1 : (n : Int) - 1 - -1 - 1 = n - 1 := by omega
    have e2 : (n - 1 : Int) / - -1 = n - 1 := by rw [Int.neg_neg, Int.ediv_one]
    rw [e1, e2]
    split <;> omega
  show wpAny _ _ (pure ((n : Int) - 1, (-1 : Int), Builtin.Slice.slicePlaces ((n : Int) - 1) (-1) (-1))) _ _ s
  rw [e]
  exact wpAny_pure h
theorem pick_back (xs : Array Value) : ((List.range xs.size).filterMap fun (m : Nat) => xs[(((xs.size : Int) - 1) + (m : Int) * (-1)).toNat]?).toArray = xs.toList.reverse.toArray := by
  congr 1
  refine List.ext_getElem? fun i => ?_
  have e : (List.range xs.size).filterMap (fun (m : Nat) => xs[(((xs.size : Int) - 1) + (m : Int) * (-1)).toNat]?) = (List.range xs.size).map (fun (m : Nat) => xs[(((xs.size : Int) - 1) + (m : Int) * (-1)).toNat]?.getD .none) := by
    have go : ∀ l : List Nat, (∀ m ∈ l, m < xs.size) → l.filterMap (fun (m : Nat) => xs[(((xs.size : Int) - 1) + (m : Int) * (-1)).toNat]?) = l.map (fun (m : Nat) => xs[(((xs.size : Int) - 1) + (m : Int) * (-1)).toNat]?.getD .none) := fun l => by
      induction l with
      | nil => intro _; rfl
      | cons m l ih =>
        intro hm
        have h0 := hm m List.mem_cons_self
        have : (((xs.size : Int) - 1) + (m : Int) * (-1)).toNat < xs.size := by omega
        rw [List.filterMap_cons, Array.getElem?_eq_getElem this, List.map_cons, ih fun x hx => hm x (List.mem_cons_of_mem _ hx), Array.getElem?_eq_getElem this]
        rfl
    exact go _ fun m hm => List.mem_range.mp hm
  rw [e, List.getElem?_map]
  by_cases hi : i < xs.size
  · have h2 : (((xs.size : Int) - 1) + (i : Int) * (-1)).toNat = xs.size - 1 - i := by omega
    rw [List.getElem?_range hi, Option.map_some, h2, List.getElem?_reverse (by simpa using hi), Array.getElem?_eq_getElem (by omega)]
    simp
  · rw [List.getElem?_eq_none (by simpa using hi), List.getElem?_eq_none (by simpa using hi)]
    rfl
theorem getItem_tuple_back {t sl : Addr} {items : Array Value} {k : Tok} {Q : Value → Shared → Prop} (ht : IsTup s.heap t items) (hs : s.heap.IsSliceOf sl .none .none (.int (-1) k))
    (h : Q (.ref s.heap.objs.size) { s with heap := s.heap.push { cls := .type "tuple", data := .seq items.toList.reverse.toArray } })
    (hsz : items.size ≤ sizeLine) : wpAny (model prog w) A (getItem (.ref t) (.ref sl)) Q E s := by
  have htake : sizeOk (.seq items.toList.reverse.toArray) := by
    show items.toList.reverse.toArray.size ≤ sizeLine
    rw [List.size_toArray, List.length_reverse, Array.length_toList]
    exact hsz
  obtain ⟨os, hos, hcs, hds⟩ := id hs
  have hTs : s.TypeIs (.ref sl) "slice" := ⟨os, hos, hcs⟩
  unfold getItem
  try with_reducible refine wpAny_holding ?_
  first | refine wpAny_bind (wpAny_pure ?_) | skip
  refine wpAny_bind (wpAny_sequenceKey ht.typeIs (by decide) ?_)
  refine wpAny_bind (wpAny_callSpecial?_slot (name := Str.ofString "__getitem__") ht.typeIs PyProof.Rows.slot_tuple_getitem
    (wpAny_call_entry PyProof.Rows.slot_tuple_getitem ht.typeIs entry_tuple_getitem ?_ (args_tuple_getitem _ _)))
  show wpAny _ _ (Builtin.Tuple.tupleItemsOf (.ref t) >>= _) _ _ s
  refine wpAny_bind (tupleItemsOf_ ht ?_)
  refine wpAny_bind (wpAny_typeOf hTs ?_)
  rw [if_pos (by decide)]
  refine wpAny_bind (sliceApplied_rev hs ?_)
  have hno : ¬ (((((items.size : Int) - 1) == 0) && (-1 : Int) == 1 && items.size == items.size) = true) := by
    intro q
    rw [Bool.and_eq_true, Bool.and_eq_true] at q
    exact absurd q.1.2 (by decide)
  show wpAny _ _ (if ((((items.size : Int) - 1) == 0) && (-1 : Int) == 1 && items.size == items.size) = true then _ else _) _ _ s
  rw [if_neg hno, pick_back]
  first
    | exact wpAny_bind (m := Builtin.Tuple.tupleExact _) (wpAny_newObj_type (wpAny_pure ⟨_, rfl, wpAny_pure h⟩) htake)
    | exact wpAny_bind (m := Builtin.Tuple.tupleExact _) (wpAny_newObj_type (wpAny_bind (wpAny_pure (wpAny_pure ⟨_, rfl, wpAny_pure h⟩))) htake)
    | exact wpAny_bind (wpAny_bind (m := Builtin.Tuple.tupleExact _) (wpAny_newObj_type (wpAny_pure (wpAny_pure ⟨_, rfl, wpAny_pure h⟩)) htake))
    | exact wpAny_bind (wpAny_bind (m := Builtin.Tuple.tupleExact _) (wpAny_newObj_type (wpAny_pure ⟨_, rfl, wpAny_pure h⟩) htake))
end
section
variable {X : Cx} {xc : Str → Value} {W : Ww} {e : Expr} {ca : CE}
def rBack (K : KF) (a : V) (H : Hp) (Q : VK) : Prop := ∃ p xs, a = .ref p ∧ ((SqL K H p xs ∧ ∀ q, H q = none → Q (.ref q) (upd H q (.lst xs.reverse))) ∨ (SqT K H p xs ∧ ∀ q, H q = none → Q (.ref q) (upd H q (.tup xs.reverse))))
def tBack (K : KF) (te : TE) : TE := fun σ H Q => te σ H fun x H1 => rBack K x H1 Q
theorem pe_back {te : TE} {k : Nat} {p1 p2 p3 pos : Pos} (he : PE X e te) : PE X (.Subscript e (.Slice none none (some (.UnaryOp .USub (.Constant (.int 1) k p1) p2)) p3) pos) (tBack X.kf te) := by
  refine ⟨fun pins s σ H Q I h => ?_⟩
  refine Subscript_ (thn (he.run pins s σ H _ I h) fun v s1 ⟨x, H1, I1, r1, q1⟩ => ?_)
  obtain ⟨a, xs, ex, hq⟩ := q1
  subst ex
  cases r1
  have hst : PO X (some (.UnaryOp .USub (.Constant (.int 1) k p1) p2)) (tPart (tUn (rU fun i => .int (-i)) (tC (.int 1)))) := po_some (pe_un un_neg pe_int)
  refine wpAny_Slice (thn (po_none.run pins s1 σ H1 (fun o H2 => o = none ∧ H2 = H1) I1 ⟨rfl, rfl⟩) fun vl s2 ⟨l, H2, I2, pl, el, e2⟩ => ?_)
  subst el e2
  refine thn (po_none.run pins s2 σ H2 (fun o H3 => o = none ∧ H3 = H2) I2 ⟨rfl, rfl⟩) fun vu s3 ⟨u, H3, I3, pu, eu, e3⟩ => ?_
  subst eu e3
  refine thn (hst.run pins s3 σ H3 (fun o H4 => o = some (-1) ∧ H4 = H3) I3 ⟨1, rfl, -1, rfl, rfl, rfl⟩) fun vs s4 ⟨o, H4, I4, ps, eo, e4⟩ => ?_
  subst eo e4
  have I5 : Inv X pins σ H4 { s4 with heap := s4.heap.push { cls := .type "slice", data := .fields #[vl, vu, vs] } } := I4.kept (t' := s4.toks) fun b ob q => Heap.get?_push_of_some _ q
  show wpAny (model X.prog X.w) X.A (subscriptTail e (.Slice none none (some (.UnaryOp .USub (.Constant (.int 1) k p1) p2)) p3) (.ref a) (.ref s4.heap.objs.size)) (EP X pins σ Q) X.xe { s4 with heap := s4.heap.push { cls := .type "slice", data := .fields #[vl, vu, vs] } }
  rcases hq with ⟨hx, q⟩ | ⟨hx, q⟩
  · obtain ⟨its, r, ht, hz⟩ := I5.list hx
    have hlen := r.length
    refine tail_any (ops := [.ref a, .ref s4.heap.objs.size]) ht.isList.typeIs (PySem.slot_list_getitem.lookup) ?_ (by with_unfolding_all rfl)
    refine wpAny_getItem_list_slice ht.isList (Heap.IsSliceOf.new _ vl vu vs) pl pu ps (by decide) ?_ (by rw [List.size_toArray]; omega)
    rw [PySem.W.krv_pick]
    refine ⟨.ref _, _, I5.laid (t' := s4.toks) (o := .lst xs.reverse) (fun b ob q => Heap.get?_push_of_some _ q) (Nat.le_refl _) ?_, rfl, q _ (I5.hok.fresh (Nat.le_refl _))⟩
    exact ⟨by rw [List.length_reverse]; exact hz, _, 0, r.reverse, Heap.get?_push_size _ rfl⟩
  · obtain ⟨its, r, ht, hz⟩ := I5.tuple hx
    have hlen := r.length
    cases pl
    cases pu
    cases ps
    refine tail_any (ops := [.ref a, .ref s4.heap.objs.size]) ht.typeIs (PyProof.Rows.slot_tuple_getitem.lookup) ?_ (by with_unfolding_all rfl)
    refine getItem_tuple_back ht (Heap.IsSliceOf.new _ _ _ _) ?_ (by rw [List.size_toArray]; omega)
    refine ⟨.ref _, _, I5.laid (t' := s4.toks) (o := .tup xs.reverse) (fun b ob q => Heap.get?_push_of_some _ q) (Nat.le_refl _) ?_, rfl, q _ (I5.hok.fresh (Nat.le_refl _))⟩
    exact ⟨by rw [List.length_reverse]; exact hz, its.reverse, r.reverse, IsTup.new _ _⟩
def gBack : PyData → Option S
  | .list l => some (.lst l.reverse)
  | .tuple l => some (.dat (.tuple l.reverse))
  | _ => none
theorem o_back {K : KF} : Op1 K (rBack K) gBack := by
  intro J Γ B ρ σ H x d s Q rep hx hs af
  unfold gBack at hs
  split at hs
  · cases hs
    obtain ⟨a, ys, rfl, k1, k2⟩ := dp_list hx
    exact ⟨a, ys, rfl, .inl ⟨ex_l rep.bh k1, fun p hp => After.lst rep af (dpAll_rev k2) hp⟩⟩
  · cases hs
    obtain ⟨a, ys, rfl, k1, k2⟩ := dp_tup hx
    exact ⟨a, ys, rfl, .inr ⟨ex_t rep.bh k1, fun p hp => After.tup rep af (dpAll_rev k2) hp⟩⟩
  · cases hs
theorem ze_back {k : Nat} {p1 p2 p3 pos : Pos} (he : ZE X xc W e ca) : ZE X xc W (.Subscript e (.Slice none none (some (.UnaryOp .USub (.Constant (.int 1) k p1) p2)) p3) pos) (c1 gBack ca) :=
  PE.imp (pe_back he) fun σ H Q ⟨Γ, B, ρ, rep, k⟩ => tz_bd rep k fun x B1 H1 d ρ1 e1 r1 q1 k1 => by
    obtain ⟨s, hs, af⟩ := out_lift k1
    exact o_back _ _ _ _ _ _ _ _ _ _ r1 q1 hs af
/-! ### list(reversed(x)) -/
def gLrev : PyData → Option S
  | .list l => some (.lst l.reverse)
  | _ => none
theorem ze_lrev {p pos p2 pos2 : Pos} (hm : X.mg "list" = none) (hm2 : X.mg "reversed" = none) (he : ZE X xc W e ca) (hc : X.calm = true := by rfl) (hg : Gl X "list" := by rfl) (hg2 : Gl X "reversed" := by rfl)
    (hs : starEach [e] X.env = (false, eval e X.env) :: starEach [] X.env := by rfl)
    (hs2 : starEach [.Call (.Name "reversed" p2) [e] [] pos2] X.env = (false, eval (.Call (.Name "reversed" p2) [e] [] pos2) X.env) :: starEach [] X.env := by rfl) :
    ZE X xc W (.Call (.Name "list" p) [.Call (.Name "reversed" p2) [e] [] pos2] [] pos) (c1 gLrev ca) :=
  PE.imp (pe_lstRev hc hg hm hg2 hm2 he hs hs2) fun σ H Q ⟨Γ, B, ρ, rep, k⟩ => tz_bd rep k fun x B1 H1 d ρ1 e1 r1 q1 k1 => by
    obtain ⟨s, hs, af⟩ := out_lift k1
    unfold gLrev at hs
    split at hs
    · cases hs
      obtain ⟨a, ys, rfl, k1, k2⟩ := dp_list q1
      exact ⟨a, ys, rfl, ex_l r1.bh k1, fun p hp => After.lst r1 af (dpAll_rev k2) hp⟩
    · cases hs
end
/-! ### sorted -/
def gSorted : List PyData → Option S
  | [.list l] => bif sortOk l then some (.lst (l.mergeSort dLe)) else none
  | [.dict l] => bif sortOk (l.map (·.1)) then some (.lst ((l.map (·.1)).mergeSort dLe)) else none
  | _ => none
theorem on_sorted {K : KF} : OpN K (fun xs H Q => rSL K xs H Q ∨ rSD K xs H Q) gSorted := by
  intro J Γ B ρ σ H xs ds s Q rep hx hs af
  unfold gSorted at hs
  split at hs
  · rename_i l
    obtain ⟨h1, h2⟩ := bif_some hs
    subst h2
    obtain ⟨x, rfl, g1⟩ := dpAll_one hx
    obtain ⟨a, ys, rfl, k1, k2⟩ := dp_list g1
    exact .inl ⟨B, a, ys, l, rfl, rep.bh, ex_l rep.bh k1, k2, h1, fun p zs hp hz => After.lst rep af hz hp⟩
  · rename_i l
    obtain ⟨h1, h2⟩ := bif_some hs
    subst h2
    obtain ⟨x, rfl, g1⟩ := dpAll_one hx
    obtain ⟨a, rfl, g2⟩ := dp_dict g1
    have no : (∃ kvs, Rd B a (.dK kvs) ∧ DpKV K B kvs l) ∨ (∃ L, B a = some (nO K a L) ∧ DpKN K B L l ∧ l ≠ []) := by
      rcases g2 with g2 | g2 | ⟨C, dx, c, vs, es, rfl, _⟩
      · exact .inl g2
      · exact .inr g2
      · obtain ⟨_, h2, _, _⟩ := sortOk_of h1
        rcases h2 with h2 | h2
        · obtain ⟨_, _, e⟩ := h2 .none (by simp)
          cases e
        · exact absurd rfl (h2 .none (by simp)).1
    refine .inr ⟨B, a, l, rfl, rep.bh, ?_, h1, fun p zs hp hz => After.lst rep af hz hp⟩
    rcases no with ⟨kvs, e1, e2⟩ | ⟨L, e1, e2, e0⟩
    · exact .inl ⟨kvs, rd_ex rep.bh e1, e2⟩
    · exact .inr ⟨L, rep.bh _ _ e1, e2, e0⟩
  · cases hs
/-! ### min of data -/
def alikeOk (l : List PyData) : Bool := (l.all fun d => l.all fun e => PySem.W.alike d e) && (l.all fun d => match d with
    | .none => false
    | _ => true) && decide (PyData.depthAll l ≤ 60) && plains l
def gMinD : List PyData → Option S
  | [.list (d :: ds)] => bif alikeOk (d :: ds) then some (.dat (PySem.W.minD d ds)) else none
  | _ => none
def rMinD (K : KF) : List V → Hp → VK → Prop := fun vs H Q => ∃ B a xs d ds, vs = [V.ref a] ∧ Ex B H ∧ SqL K H a xs ∧ DpAll K B xs (d :: ds) ∧ alikeOk (d :: ds) = true ∧ ∀ y, Dp K B y (PySem.W.minD d ds) → Q y H
section
variable {X : Cx}
theorem plains_mem {d : PyData} : ∀ {l : List PyData}, plains l = true → d ∈ l → plain d = true
  | [], _, h => by cases h
  | e :: l, p, h => by
    have q := Bool.and_eq_true_iff.mp p
    rcases List.mem_cons.mp h with rfl | h
    · exact q.1
    · exact plains_mem q.2 h
theorem readsAll_of {pins : List (Addr × Obj)} {σ : L2.St} {H : Hp} {s : Shared} (I : Inv X pins σ H s) : ∀ {xs : List V} {us : List Value} {ds : List PyData}, L2.DpAll X.K H xs ds → Vals xs us → ∃ as, ReadsAll s.heap us ds as
  | _, _, _, .nil, .nil => ⟨_, .nil⟩
  | _, _, _, .cons h t, .cons r rt => by
    obtain ⟨as, h1⟩ := L2.Dp.reads I _ _ _ h r
    obtain ⟨bs, h2⟩ := readsAll_of I t rt
    exact ⟨_, .cons h1 h2⟩
theorem cr_minD (hc : X.calm = true) (hu : X.A.units + 64 < cLine) : CallR X (.builtin "min") (rMinD X.kf) := by
  intro pins s σ H vs us Q I r h
  obtain ⟨B, a, xs, d, ds, rfl, eB, hs, hx, ok, q⟩ := h
  obtain ⟨its, rv, hl, hz⟩ := I.list hs
  obtain ⟨u, rfl, ru⟩ := vals1 r
  obtain rfl : u = Value.ref a := ru
  unfold alikeOk at ok
  have o1 := Bool.and_eq_true_iff.mp ok
  have o2 := Bool.and_eq_true_iff.mp o1.1
  have o3 := Bool.and_eq_true_iff.mp o2.1
  have hp := plains_dp (dpAll_mono eB hx) o1.2
  obtain ⟨as, hr⟩ := readsAll_of I hp rv
  refine PySem.W.min_list_data (I.ok.hd hc) hl.isList (by simpa using hr) ⟨fun x hx y hy => List.all_eq_true.mp (List.all_eq_true.mp o3.1 x hx) y hy, fun x hx e => ?_⟩ ?_ fun i v h' tk bs hi rd hk => ?_
  · have := List.all_eq_true.mp o3.2 x hx
    rw [e] at this
    cases this
  · have := of_decide_eq_true o2.2
    omega
  · have J : Inv X pins σ H { s with heap := h', toks := tk } := I.kept hk
    have hi' : its[i]? = some v := by simpa using hi
    have hlt : i < xs.length := by rw [rv.length]; exact (List.getElem?_eq_some_iff.mp hi').1
    have hx1 := List.getElem?_eq_getElem hlt
    generalize xs[i] = x at hx1
    obtain ⟨v', hv', hx2⟩ := Vals.get rv hx1
    have ev : v' = v := Option.some.inj (hv'.symm.trans hi')
    subst ev
    obtain ⟨e, he1, he2⟩ := dpAll_get' hx hx1
    have pe : plain e = true := plains_mem o1.2 (List.mem_of_getElem? he1)
    obtain ⟨cs, r2⟩ := L2.Dp.reads J _ _ _ (plain_dp (dp_mono eB he2) pe) hx2
    obtain ⟨e3, _⟩ := PySem.Reads.unique rd _ _ r2
    rw [← e3] at he2
    exact ⟨x, H, J, hx2, q x he2⟩
theorem on_minD {K : KF} : OpN K (fun xs H Q => rMin K.K xs H Q ∨ rMinD K xs H Q) (fun ds => gMin1 ds <|> gMinD ds) := by
  intro J Γ B ρ σ H xs ds s Q rep hx hs af
  cases h1 : gMin1 ds with
  | some r =>
    simp only [h1] at hs
    cases hs
    exact .inl (on_min1 _ _ _ _ _ _ _ _ _ _ rep hx h1 af)
  | none =>
    simp only [h1] at hs
    have hs : gMinD ds = some s := hs
    unfold gMinD at hs
    split at hs
    · rename_i d l _
      obtain ⟨g1, g2⟩ := bif_some hs
      subst g2
      obtain ⟨x, rfl, k1⟩ := dpAll_one hx
      obtain ⟨a, ys, rfl, k2, k3⟩ := dp_list k1
      exact .inr ⟨B, a, ys, d, l, rfl, rep.bh, ex_l rep.bh k2, k3, g1, fun y hy => After.now rep af hy⟩
    · cases hs
end
/-! ### dict(pairs) -/
def prsOf : List PyData → Option (List (PyData × PyData))
  | [] => some []
  | .tuple [k, v] :: ds => (prsOf ds).map ((k, v) :: ·)
  | _ => none
def dAll (acc ps : List (PyData × PyData)) : List (PyData × PyData) := ps.foldl (fun a p => dPut a p.1 p.2) acc
theorem dAll_ne : ∀ {ps acc : List (PyData × PyData)}, ps ≠ [] → dAll acc ps ≠ []
  | [p], acc, _ => dPut_ne
  | p :: q :: ps, acc, _ => dAll_ne (ps := q :: ps) (acc := dPut acc p.1 p.2) (by simp)
def gDict : List PyData → Option S
  | [.list l] => match prsOf l with
    | some ps => bif (ps.all fun p => isK p.1) || (ps.all fun p => isN p.1) then some (.dic (dAll [] ps)) else none
    | none => none
  | _ => none
theorem prsOf_map : ∀ {l : List PyData} {ps : List (PyData × PyData)}, prsOf l = some ps → l = ps.map fun p => PyData.tuple [p.1, p.2]
  | [], ps, h => by cases h; rfl
  | d :: ds, ps, h => by
    unfold prsOf at h
    split at h
    · rename_i e
      cases e
    · rename_i k v ds' e
      cases e
      cases h1 : prsOf ds with
      | none => rw [h1] at h; cases h
      | some r =>
        rw [h1] at h
        cases h
        rw [prsOf_map h1]
        rfl
    · cases h
def rDict (K : KF) : List V → Hp → VK → Prop := fun vs H Q => ∃ B a xs ps, vs = [V.ref a] ∧ Ex B H ∧ SqL K H a xs ∧ DpAll K B xs (ps.map fun p => PyData.tuple [p.1, p.2]) ∧ ((ps.all fun p => isK p.1) || (ps.all fun p => isN p.1)) = true ∧
  ∀ p ob, H p = none → DicAt K B (upd H p ob) p (dAll [] ps) → Q (.ref p) (upd H p ob)
section
variable {X : Cx}
theorem pairs_k {K : KF} {B : Hp} : ∀ {xs : List V} {ps : List (PyData × PyData)}, DpAll K B xs (ps.map fun p => PyData.tuple [p.1, p.2]) → (ps.all fun p => isK p.1) = true →
    ∃ (as : List Addr) (kvs : List (Key × V)), xs = as.map V.ref ∧ Paired (fun p kv => SqT K B p [kV kv.1, kv.2]) as kvs ∧ DpKV K B kvs ps
  | _, [], .nil, _ => ⟨[], [], rfl, .nil, .nil⟩
  | _, p :: ps, .cons h t, hk => by
    rw [List.all_cons] at hk
    have hk := Bool.and_eq_true_iff.mp hk
    obtain ⟨as, kvs, rfl, h1, h2⟩ := pairs_k t hk.2
    obtain ⟨a, ys, rfl, g1, g2⟩ := dp_tup h
    obtain ⟨x, y, rfl, g3, g4⟩ := dpAll_two g2
    obtain ⟨k, _, ek⟩ := isK_of hk.1
    obtain ⟨p1, p2⟩ := p
    simp only at ek g3 g4
    subst ek
    have ex : x = kV k := by
      cases k with
      | inl i => exact dp_int g3
      | inr i => exact dp_str g3
    subst ex
    exact ⟨a :: as, (k, y) :: kvs, rfl, .cons g1 h1, .cons g4 h2⟩
theorem merge_dp {K : KF} {B : Hp} : ∀ {kvs acc : List (Key × V)} {ps l : List (PyData × PyData)}, DpKV K B kvs ps → DpKV K B acc l → DpKV K B (mergeK acc kvs) (dAll l ps)
  | [], _, _, _, h, ha => by cases h; exact ha
  | _ :: kvs, acc, _ :: ps, l, h, ha => by
    cases h with
    | cons h t => exact merge_dp (kvs := kvs) (ps := ps) t (dPut_k ha h)
/-- the pairs, keys that are tuples -/
structure PN (K : KF) (B : Hp) (h : Heap) (xs : List V) (us : List Value) (ps : List (PyData × PyData)) (Ts : Nat → Addr) (L : NL) (M : List (NestedKey × Addr × Value)) : Prop where
  nx : NX L M
  dp : DpKN K B L ps
  len : us.length = M.length
  at_ : ∀ j k b v, M[j]? = some (k, b, v) → us[j]? = some (.ref (Ts j)) ∧ PySem.PairAt h (Ts j) (.ref b) v
theorem pairs_n {pins : List (Addr × Obj)} {σ : L2.St} {H B : Hp} {s : Shared} (I : Inv X pins σ H s) (eB : Ex B H) : ∀ {xs : List V} {us : List Value} {ps : List (PyData × PyData)}, DpAll X.kf B xs (ps.map fun p => PyData.tuple [p.1, p.2]) → Vals xs us → (ps.all fun p => isN p.1) = true →
    ∃ Ts L M, PN X.kf B s.heap xs us ps Ts L M
  | _, _, [], .nil, .nil, _ => ⟨fun _ => 0, [], [], .nil, .nil, rfl, fun j k b v h => by simp at h⟩
  | _, _, p :: ps, .cons h t, .cons (b := u) r rt, hk => by
    rw [List.all_cons] at hk
    have hk := Bool.and_eq_true_iff.mp hk
    obtain ⟨Ts, L, M, q⟩ := pairs_n I eB t rt hk.2
    obtain ⟨a, ys, rfl, g1, g2⟩ := dp_tup h
    obtain ⟨x, y, rfl, g3, g4⟩ := dpAll_two g2
    obtain ⟨ks, ek, hz⟩ := isN_of hk.1
    obtain ⟨p1, p2⟩ := p
    simp only at ek g3 g4
    subst ek
    obtain ⟨c, zs, rfl, _, _⟩ := dp_tup g3
    obtain ⟨its, rv, ht, _⟩ := I.tuple (ex_t eB g1)
    obtain ⟨w1, w2, rfl, rw1, rw2⟩ := vals2 rv
    obtain rfl : w1 = Value.ref c := rw1
    obtain rfl : u = Value.ref a := r
    refine ⟨fun j => match j with | 0 => a | j + 1 => Ts j, (.tup ks, c, y) :: L, (.tup ks, c, w2) :: M, .cons ⟨rfl, rfl, rw2⟩ q.nx, .cons g3 hz g4 q.dp, by simp [q.len], fun j k b v e => ?_⟩
    cases j with
    | zero =>
      cases e
      obtain ⟨o, ho, hc, n, hd⟩ := ht
      exact ⟨rfl, .inl ⟨o, ho, hc, n, by simpa using hd⟩⟩
    | succ j => exact ⟨by simpa using (q.at_ j k b v (by simpa using e)).1, (q.at_ j k b v (by simpa using e)).2⟩
theorem merge_n {K : KF} {B : Hp} : ∀ {L acc : NL} {M xs : List (NestedKey × Addr × Value)} {ps l : List (PyData × PyData)}, DpKN K B L ps → NX L M → DpKN K B acc l → NX acc xs → ∃ R : NL, DpKN K B R (dAll l ps) ∧ NX R (storedAllH xs M)
  | [], acc, _, _, _, _, h, hn, ha, hx => by cases h; cases hn; exact ⟨acc, ha, hx⟩
  | _ :: L, acc, _ :: M, _, _ :: ps, _, h, hn, ha, hx => by
    cases hn with
    | cons r hn =>
      cases h with
      | cons h0 hz h t =>
        obtain ⟨r1, r2, r3⟩ := r
        simp only at r1 r2 r3
        exact merge_n (M := M) (ps := ps) t hn (dPut_n ha h0 hz h) (by show NX _ (storedH _ _ _ _); rw [← r1, ← r2]; exact hx.put r3)
theorem cr_dict (hc : X.calm = true) (hu : X.A.units + 64 < cLine) : CallR X (.type "dict") (rDict X.kf) := by
  intro pins s σ H vs us Q I r h
  obtain ⟨B, a, xs, ps, rfl, eB, hs, hx, ok, q⟩ := h
  cases hk : (ps.all fun p => isK p.1) with
  | true =>
    obtain ⟨as, kvs, rfl, h1, h2⟩ := pairs_k hx hk
    have h1' : Paired (fun p kv => L2.SqT X.K H p [kV kv.1, kv.2]) as kvs := by
      clear h2 hs hx
      induction h1 with
      | nil => exact .nil
      | cons h t ih => exact .cons (ex_t eB h) ih
    exact call_dictP hc pins s σ H [V.ref a] us Q I r ⟨a, as, kvs, rfl, hs, h1', fun p hp => q p _ hp (.inl ⟨_, upd_same, merge_dp h2 .nil⟩)⟩
  | false =>
    rw [hk, Bool.false_or] at ok
    obtain ⟨its, rv, hl, hz⟩ := I.list hs
    obtain ⟨u, rfl, ru⟩ := vals1 r
    obtain rfl : u = Value.ref a := ru
    obtain ⟨Ts, L, M, pn⟩ := pairs_n I eB hx rv ok
    have hlen : its.length = M.length := pn.len
    let prs : List (Value × Value) := M.map fun m => (.ref m.2.1, m.2.2)
    have hpr : prs.length = M.length := by simp [prs]
    obtain ⟨o, n, ho, hcl, hdi, hdat⟩ := hl
    have hkeys := keys_is I (dpKN_mono eB pn.dp) pn.nx
    refine PySem.call_dict_pairsH (knd := nestedKind X.prog X.w) (ps := M) (PySem.PairArg.list a its.toArray Ts prs) (I.ok.hd hc) (show X.A.units + 1 + 1 + 8 < cLine by omega) ⟨⟨o, n, ho, hcl, hdi, hdat⟩, by rw [List.size_toArray, hpr, hlen], fun j k v e => ?_⟩ ⟨hpr.symm, fun i k v e => ?_⟩ (fun h' hk' x hx' => ?_) (by rw [hpr, ← hlen, ← rv.length]; exact hz) fun h' tk hd' hk' => ?_
    · simp only [prs, List.getElem?_map] at e
      cases em : M[j]? with
      | none => rw [em] at e; cases e
      | some m =>
        rw [em] at e
        cases e
        have := pn.at_ j m.1 m.2.1 m.2.2 em
        exact ⟨by simpa using this.1, this.2⟩
    · have e : prs[i]? = some (k, v) := e
      simp only [prs, List.getElem?_map] at e
      cases em : M[i]? with
      | none => rw [em] at e; cases e
      | some m =>
        rw [em] at e
        cases e
        exact ⟨m.1, m.2.1, rfl, rfl⟩
    · have J : Inv X pins σ H { s with heap := h', toks := s.toks } := I.kept fun b o e => hk' b o (Nat.ne_of_lt (Heap.lt_size e)) (by simp) e
      exact keys_is J (dpKN_mono eB pn.dp) pn.nx x hx'
    · obtain ⟨R, m1, m2⟩ := merge_n pn.dp pn.nx .nil (xs := []) .nil
      obtain ⟨o', es, ep, g1, g2, g3, g4, g5, g6⟩ := hd'
      have hm : (s.heap.objs.size == sysModules) = false := beq_eq_false_iff_ne.mpr (Nat.ne_of_gt I.big)
      have hle : R.length ≤ sizeLine := by
        have e1 : R.length = (storedAllH [] M).length := Paired.length m2
        have e2 := storedAllH_length M []
        rw [e1]
        simp only [List.length_nil, Nat.zero_add] at e2
        refine Nat.le_trans e2 ?_
        rw [← hlen, ← rv.length]
        exact hz
      exact ⟨.ref s.heap.objs.size, upd H s.heap.objs.size (nO X.kf s.heap.objs.size R), I.laid (t' := tk) (fun b o e => hk' b o (by simp) e) (Nat.le_refl _) (nOk_obj (K := X.kf) ⟨hm, hle, by rw [NX.keys m2]; exact g6, _, o', es, ep, m2, g1, g2, g3, g4⟩), rfl, q _ _ (I.hok.fresh (Nat.le_refl _)) (.inr ⟨R, upd_same, m1, dAll_ne (fun e => by rw [e] at hk; cases hk)⟩)⟩
theorem on_dict {K : KF} : OpN K (rDict K) gDict := by
  intro J Γ B ρ σ H xs ds s Q rep hx hs af
  unfold gDict at hs
  split at hs
  · rename_i l
    cases hb : prsOf l with
    | none => rw [hb] at hs; cases hs
    | some ps =>
      rw [hb] at hs
      obtain ⟨g1, g2⟩ := bif_some hs
      subst g2
      obtain ⟨x, rfl, h1⟩ := dpAll_one hx
      obtain ⟨a, ys, rfl, k1, k2⟩ := dp_list h1
      rw [prsOf_map hb] at k2
      refine ⟨B, a, ys, ps, rfl, rep.bh, ex_l rep.bh k1, k2, g1, fun p ob hp hd => ?_⟩
      obtain ⟨r2, o, h⟩ := rep.newX (o := ob) hp
      exact af _ _ _ (Ex.refl B) r2 (h _ rfl ⟨p, rfl, rfl, o, hd⟩)
  · cases hs
end
section
variable {X : Cx} {xc : Str → Value} {W : Ww}
def gMinX (ds : List PyData) : Option S := gMin1 ds <|> gMinD ds
theorem on_minX {K : KF} : OpN K (fun xs H Q => rMin K.K xs H Q ∨ rMinD K xs H Q) gMinX := on_minD
theorem cr_minX (hu : X.A.units + 64 < cLine) (hc : X.calm = true := by rfl) : CallR X (.builtin "min") (fun xs H Q => rMin X.K xs H Q ∨ rMinD X.kf xs H Q) := fun pins s σ H vs us Q I r h =>
  h.elim (fun h => cr_min hc pins s σ H vs us Q I r h) fun h => cr_minD hc hu pins s σ H vs us Q I r h
theorem cr_sorted (hu : X.A.units + 65 < cLine) (hc : X.calm = true := by rfl) : CallR X (.builtin "sorted") (fun xs H Q => rSL X.kf xs H Q ∨ rSD X.kf xs H Q) := fun pins s σ H vs us Q I r h =>
  h.elim (fun h => cr_sortL (Nat.lt_of_succ_lt hu) pins s σ H vs us Q I r h) fun h => cr_sortD hc hu pins s σ H vs us Q I r h
theorem zs_bad {st : Stmt} : ZS X xc W st (fun _ => .bad) := ⟨fun _ _ _ _ _ _ h => by
  obtain ⟨Γ, B, ρ, rep, k⟩ := h
  exact k.elim⟩
end
end Z
set_option maxHeartbeats 2000000
/-! Z: reckoning with lists. -/
namespace Z
open PySem PySem.Spec PyProof.Rows L2
/-! ### comprehensions -/
theorem wipe_len (ρ : En) : ∀ vs : List Nat, (wipeE ρ vs).length = ρ.length
  | [] => rfl
  | v :: vs => by rw [wipe_c, List.length_set, wipe_len ρ vs]
theorem wipe_get (ρ : En) : ∀ (vs : List Nat) (i : Nat), (wipeE ρ vs)[i]? = if i ∈ vs ∧ i < ρ.length then some none else ρ[i]?
  | [], i => by simp [wipeE]
  | v :: vs, i => by
    rw [wipe_c, List.getElem?_set, wipe_len, wipe_get ρ vs i]
    by_cases e : v = i
    · subst e
      by_cases h : v < ρ.length
      · simp [h]
      · simp [h]
    · have e' : ¬ i = v := fun h => e h.symm
      simp [e, e']
theorem restore_len (ρ0 ρ : En) : ∀ vs : List Nat, (restoreE ρ0 ρ vs).length = ρ.length
  | [] => rfl
  | v :: vs => by
    rw [rest_c]
    cases h : ρ0[v]? with
    | none => exact restore_len ρ0 ρ vs
    | some o => rw [rsE_0, List.length_set]; exact restore_len ρ0 ρ vs
theorem restore_get (ρ0 ρ : En) (hl : ρ.length = ρ0.length) : ∀ (vs : List Nat) (i : Nat), (restoreE ρ0 ρ vs)[i]? = if i ∈ vs then ρ0[i]? else ρ[i]?
  | [], i => by simp [restoreE]
  | v :: vs, i => by
    rw [rest_c]
    have ih := restore_get ρ0 ρ hl vs i
    cases h : ρ0[v]? with
    | none =>
      show (restoreE ρ0 ρ vs)[i]? = _
      rw [ih]
      by_cases e : i = v
      · subst e
        have h' : ρ[i]? = none := by rw [List.getElem?_eq_none_iff] at h ⊢; omega
        simp [h, h']
      · simp [e]
    | some o =>
      rw [rsE_0, List.getElem?_set, restore_len]
      by_cases e : v = i
      · subst e
        have hv : v < ρ0.length := (List.getElem?_eq_some_iff.mp h).1
        rw [← h]
        simp [hl, hv]
      · have e' : ¬ i = v := fun h => e h.symm
        rw [if_neg e, ih]
        simp [e']
theorem restore_eq {ρ0 ρ : En} {vs : List Nat} (h : wipeE ρ vs = wipeE ρ0 vs) : restoreE ρ0 ρ vs = ρ0 := by
  have hl : ρ.length = ρ0.length := by rw [← wipe_len ρ vs, h, wipe_len]
  refine List.ext_getElem? fun i => ?_
  rw [restore_get ρ0 ρ hl]
  split
  · rfl
  · rename_i hi
    have := congrArg (fun l => l[i]?) h
    simp only [wipe_get] at this
    simpa [hi] using this
/-- what a comprehension asks of one thing -/
def LcOne (ρ : En) (vs : List Nat) (g : CG) (ct ce : CE) (d e : PyData) : Prop := ∃ ρa ρb ρc s, g d (wipeE ρ vs) = some ρa ∧ ct ρa = .ok (.dat (.bool true)) ρb ∧ ce ρb = .ok s ρc ∧ s.d = e ∧ wipeE ρc vs = wipeE ρ vs
theorem lcL_map {ρ0 : En} {vs : List Nat} {g : CG} {ct ce : CE} {f : PyData → PyData} : ∀ {ds acc : List PyData} {ρ : En}, wipeE ρ vs = wipeE ρ0 vs → (∀ d ∈ ds, LcOne ρ0 vs g ct ce d (f d)) → acc.length + ds.length ≤ sizeLine →
    ∃ ρ', lcL vs g ct ce ds ρ acc = .ok (acc ++ ds.map f) ρ' ∧ wipeE ρ' vs = wipeE ρ0 vs
  | [], acc, ρ, h, _, _ => ⟨ρ, by rw [lcL_nil]; simp, h⟩
  | d :: ds, acc, ρ, h, hd, hl => by
    obtain ⟨ρa, ρb, ρc, s, h1, h2, h3, h4, h5⟩ := hd d (by simp)
    have hz : decide (acc.length < sizeLine) = true := decide_eq_true (by simp only [List.length_cons] at hl; omega)
    obtain ⟨ρ', e, w⟩ := lcL_map (ds := ds) (acc := acc ++ [f d]) h5 (fun x hx => hd x (by simp [hx])) (by simp only [List.length_append, List.length_cons, List.length_nil] at *; omega)
    refine ⟨ρ', ?_, w⟩
    rw [lcL_c, h, h1, ml1_0, h2, ml2_t, h3, ml3_0, hz, cond_true, h4, e]
    simp
theorem cLc_map {ρ ρ1 : En} {vs : List Nat} {src : CA} {g : CG} {ct ce : CE} {ds : List PyData} (f : PyData → PyData) (hs : src ρ = .ok ds ρ1) (no : noOwn ρ1 vs = true) (hl : ds.length ≤ sizeLine) (hd : ∀ d ∈ ds, LcOne ρ1 vs g ct ce d (f d)) :
    cLc vs src g ct ce ρ = .ok (.lst (ds.map f)) ρ1 := by
  obtain ⟨ρ', e, w⟩ := lcL_map (ρ0 := ρ1) (ρ := ρ1) (acc := []) rfl hd (by simpa using hl)
  rw [cLc_r, hs, ml4_0, no, cond_true, e, ml5_0, restore_eq w]
  rfl
/-- the same where the first thing freezes what is read -/
def LcTo (ρ ρ' : En) (vs : List Nat) (g : CG) (ct ce : CE) (d e : PyData) : Prop := ∃ ρa ρb ρc s, g d (wipeE ρ vs) = some ρa ∧ ct ρa = .ok (.dat (.bool true)) ρb ∧ ce ρb = .ok s ρc ∧ s.d = e ∧ wipeE ρc vs = wipeE ρ' vs
theorem cLc_map2 {ρ ρ1 ρ2 : En} {vs : List Nat} {src : CA} {g : CG} {ct ce : CE} {ds : List PyData} (f : PyData → PyData) (hs : src ρ = .ok ds ρ1) (no : noOwn ρ1 vs = true) (hl : ds.length ≤ sizeLine) (hn : ds ≠ []) (h1 : ∀ d ∈ ds, LcTo ρ1 ρ2 vs g ct ce d (f d)) (h2 : ∀ d ∈ ds, LcTo ρ2 ρ2 vs g ct ce d (f d))
    (hlen : ρ2.length = ρ1.length) (hv : restoreE ρ1 ρ2 vs = ρ2) : cLc vs src g ct ce ρ = .ok (.lst (ds.map f)) ρ2 := by
  match ds, hn with
  | d :: ds, _ =>
    obtain ⟨ρa, ρb, ρc, s, e1, e2, e3, e4, e5⟩ := h1 d (by simp)
    obtain ⟨ρ', e, w⟩ := lcL_map (ρ0 := ρ2) (ρ := ρc) (ds := ds) (acc := [f d]) e5 (fun x hx => h2 x (by simp [hx])) (by simp only [List.length_cons, List.length_nil] at *; omega)
    have hz : decide (([] : List PyData).length < sizeLine) = true := by decide
    rw [cLc_r, hs, ml4_0, no, cond_true, lcL_c, e1, ml1_0, e2, ml2_t, e3, ml3_0, hz, cond_true, e4, List.nil_append, e, ml5_0]
    have hw : ρ'.length = ρ2.length := by rw [← wipe_len ρ' vs, w, wipe_len]
    have : restoreE ρ1 ρ' vs = ρ2 := by
      rw [← hv]
      refine List.ext_getElem? fun i => ?_
      rw [restore_get ρ1 ρ' (hw.trans hlen), restore_get ρ1 ρ2 hlen]
      split
      · rfl
      · rename_i hi
        have := congrArg (fun l => l[i]?) w
        simp only [wipe_get] at this
        simpa [hi] using this
    rw [this]
    rfl
/-! ### a dict's keys, in order -/
theorem nkOf_pD (c : Cn) : nkOf (pD c) = some (.tup [.num c.1, .num c.2]) := rfl
theorem isN_pD (c : Cn) : isN (pD c) = true := rfl
theorem isK_pD (c : Cn) : isK (pD c) = false := rfl
theorem kEq_pD {a b : Cn} : kEq (pD a) (pD b) = decide (a = b) := by
  unfold kEq
  rw [nkOf_pD, nkOf_pD]
  by_cases e : a = b
  · subst e; simp
  · rw [decide_eq_false e, decide_eq_false]
    intro h
    simp at h
    exact e (Prod.ext h.1 h.2)
def pT (c : Cn) : PyData × PyData := (pD c, .bool true)
theorem dGet_pT {k : Cn} : ∀ {ks : List Cn}, dGet (ks.map pT) (pD k) = if k ∈ ks then some (.bool true) else none
  | [] => rfl
  | c :: ks => by
    show (bif kEq (pD c) (pD k) then some (PyData.bool true) else dGet (ks.map pT) (pD k)) = _
    rw [kEq_pD, dGet_pT]
    by_cases e : c = k
    · subst e; simp
    · have e' : ¬ k = c := fun h => e h.symm
      simp [e, e']
theorem dRep_pT {k : Cn} : ∀ {ks : List Cn}, dRep (ks.map pT) (pD k) (.bool true) = ks.map pT
  | [] => rfl
  | c :: ks => by
    rw [List.map_cons, dRep, dRep_pT]
    have : (bif kEq (pT c).1 (pD k) then ((pT c).1, PyData.bool true) else pT c) = pT c := by cases kEq (pT c).1 (pD k) <;> rfl
    rw [this]
def addC (ks : List Cn) (k : Cn) : List Cn := if k ∈ ks then ks else ks ++ [k]
theorem dPut_pT {k : Cn} {ks : List Cn} : dPut (ks.map pT) (pD k) (.bool true) = (addC ks k).map pT := by
  unfold dPut addC
  rw [dGet_pT]
  by_cases e : k ∈ ks
  · rw [if_pos e, if_pos e]; exact dRep_pT
  · rw [if_neg e, if_neg e, List.map_append]; rfl
theorem addC_nd {ks : List Cn} {k : Cn} (h : ks.Nodup) : (addC ks k).Nodup := by
  unfold addC
  split
  · exact h
  · rename_i e
    exact List.nodup_append.mpr ⟨h, by simp, fun x hx y hy => by rw [List.mem_singleton.mp hy]; exact fun q => e (q ▸ hx)⟩
theorem addC_mem {ks : List Cn} {k c : Cn} : c ∈ addC ks k ↔ c ∈ ks ∨ c = k := by
  unfold addC
  split
  · rename_i h
    constructor
    · exact .inl
    · rintro (h' | rfl)
      · exact h'
      · exact h
  · simp
theorem addC_len {ks : List Cn} {k : Cn} : (addC ks k).length ≤ ks.length + 1 := by
  unfold addC
  split <;> simp
theorem kOk_pT {ks : List Cn} {k : Cn} : kOk (ks.map pT) (pD k) = true := by
  unfold kOk
  rw [isK_pD, cond_false, isN_pD, Bool.true_and, List.all_map]
  exact List.all_eq_true.mpr fun x _ => isN_pD x
/-- the keys of {c: True for c in cs} -/
def keysC (cs : List Cn) : List Cn := cs.foldl addC []
theorem keys_go : ∀ {cs ks : List Cn}, ks.Nodup → (cs.foldl addC ks).Nodup ∧ (∀ c, c ∈ cs.foldl addC ks ↔ c ∈ ks ∨ c ∈ cs) ∧ (cs.foldl addC ks).length ≤ ks.length + cs.length
  | [], ks, h => ⟨h, fun c => by simp, by simp⟩
  | k :: cs, ks, h => by
    obtain ⟨h1, h2, h3⟩ := keys_go (cs := cs) (addC_nd (k := k) h)
    refine ⟨h1, fun c => ?_, ?_⟩
    · rw [List.foldl_cons, h2, addC_mem, List.mem_cons]
      grind
    · rw [List.foldl_cons, List.length_cons]
      have := addC_len (ks := ks) (k := k)
      omega
theorem keysC_ok (cs : List Cn) : (keysC cs).Nodup ∧ (∀ c, c ∈ keysC cs ↔ c ∈ cs) ∧ (keysC cs).length ≤ cs.length := by
  obtain ⟨h1, h2, h3⟩ := keys_go (cs := cs) (ks := []) (by simp)
  exact ⟨h1, fun c => (h2 c).trans (by simp), by unfold keysC; simpa using h3⟩
theorem dAll_pT {cs : List Cn} : ∀ {ks : List Cn}, dAll (ks.map pT) (cs.map pT) = (cs.foldl addC ks).map pT := by
  induction cs with
  | nil => intro ks; rfl
  | cons c cs ih =>
    intro ks
    show dAll (dPut (ks.map pT) (pD c) (.bool true)) (cs.map pT) = _
    rw [dPut_pT, ih]
    rfl
/-- the order of corners in sorted -/
def ordC (cs : List Cn) : List Cn := (keysC cs).mergeSort fun a b => !SrtO.lexB b a
theorem dataLt_pD {a b : Cn} : PySem.W.dataLt (pD a) (pD b) = SrtO.lexB a b := by
  show PyProof.Rows.lexLt PyProof.Rows.itemOrd [.inl 1, .inl a.1, .inl 1, .inl a.2, .inl 0] [.inl 1, .inl b.1, .inl 1, .inl b.2, .inl 0] = _
  unfold SrtO.lexB
  by_cases e : a.1 = b.1
  · rw [if_pos e]
    simp [PyProof.Rows.lexLt, PyProof.Rows.itemLt, e]
  · rw [if_neg e]
    simp only [PyProof.Rows.lexLt, PyProof.Rows.itemLt]
    rcases Int.lt_or_gt_of_ne e with h | h
    · simp [h]
    · have h' : ¬ a.1 < b.1 := by omega
      simp [h, h']
theorem sort_pD (ks : List Cn) : (ks.map pD).mergeSort dLe = (ks.mergeSort fun a b => !SrtO.lexB b a).map pD := by
  symm
  refine List.map_mergeSort fun a _ b _ => ?_
  unfold dLe
  rw [dataLt_pD]
theorem sortOk_pD {ks : List Cn} : sortOk (ks.map pD) = true := by
  unfold sortOk
  have h1 : ((ks.map pD).all fun d => (ks.map pD).all fun e => PySem.W.alike d e) = true := by
    refine List.all_eq_true.mpr fun d hd => List.all_eq_true.mpr fun e he => ?_
    obtain ⟨a, _, rfl⟩ := List.mem_map.mp hd
    obtain ⟨b, _, rfl⟩ := List.mem_map.mp he
    rfl
  have h2 : plains (ks.map pD) = true := by
    induction ks with
    | nil => rfl
    | cons c cs ih => exact ih (by
        refine List.all_eq_true.mpr fun d hd => List.all_eq_true.mpr fun e he => ?_
        obtain ⟨a, _, rfl⟩ := List.mem_map.mp hd
        obtain ⟨b, _, rfl⟩ := List.mem_map.mp he
        rfl)
  rw [h1, h2]
  simp only [List.all_map, Bool.true_and, Bool.and_true]
  rw [Bool.and_eq_true]
  refine ⟨?_, List.all_eq_true.mpr fun c _ => ?_⟩
  · rw [Bool.or_eq_true]
    exact .inl (List.all_eq_true.mpr fun c _ => rfl)
  · rfl
theorem ordC_ok (cs : List Cn) : (ordC cs).Pairwise (fun a b => a.1 < b.1 ∨ (a.1 = b.1 ∧ a.2 < b.2)) ∧ (∀ c, c ∈ ordC cs ↔ c ∈ cs) ∧ (ordC cs).length ≤ cs.length := by
  obtain ⟨h1, h2, h3⟩ := keysC_ok cs
  have p := List.mergeSort_perm (keysC cs) fun a b => !SrtO.lexB b a
  have tr : ∀ a b c : Cn, (!SrtO.lexB b a) = true → (!SrtO.lexB c b) = true → (!SrtO.lexB c a) = true := fun a b c h g => by
    simp only [Bool.not_eq_true', ] at *
    rw [SrtO.lexB_no] at *
    omega
  have to : ∀ a b : Cn, ((!SrtO.lexB b a) || (!SrtO.lexB a b)) = true := fun a b => by
    cases h : SrtO.lexB b a with
    | false => rfl
    | true =>
      cases g : SrtO.lexB a b with
      | false => rfl
      | true =>
        rw [SrtO.lexB_iff] at *
        omega
  have s := List.pairwise_mergeSort tr to (keysC cs)
  refine ⟨?_, fun c => (p.mem_iff).trans (h2 c), by unfold ordC; rw [p.length_eq]; exact h3⟩
  have nd : (ordC cs).Nodup := p.nodup_iff.mpr h1
  refine (s.and nd).imp fun {a b} h => ?_
  obtain ⟨h, n⟩ := h
  simp only [Bool.not_eq_true'] at h
  rw [SrtO.lexB_no] at h
  have : ¬ (a.1 = b.1 ∧ a.2 = b.2) := fun e => n (Prod.ext e.1 e.2)
  omega
/-! ### equality of corners and of lists of them -/
theorem eqv_pD {a b : Cn} : PyData.eqv (pD a) (pD b) = decide (a = b) := by
  show ((a.1 == b.1) && ((a.2 == b.2) && true)) = _
  by_cases e : a = b
  · subst e; simp
  · rw [decide_eq_false e]
    cases h : ((a.1 == b.1) && ((a.2 == b.2) && true)) with
    | false => rfl
    | true =>
      simp at h
      exact absurd (Prod.ext h.1 h.2) e
theorem eqvAll_pD : ∀ {P Q : List Cn}, PyData.eqvAll (P.map pD) (Q.map pD) = decide (P = Q)
  | [], [] => rfl
  | [], _ :: _ => rfl
  | _ :: _, [] => rfl
  | a :: P, b :: Q => by
    show (PyData.eqv (pD a) (pD b) && PyData.eqvAll (P.map pD) (Q.map pD)) = _
    rw [eqv_pD, eqvAll_pD]
    by_cases e : a = b <;> by_cases f : P = Q <;> simp [e, f]
theorem plains_pD : ∀ {P : List Cn}, plains (P.map pD) = true
  | [] => rfl
  | _ :: P => plains_pD (P := P)
theorem lay_pD : ∀ {P : List Cn}, PyData.canLayAll0 (P.map pD) = true
  | [] => rfl
  | _ :: P => lay_pD (P := P)
theorem dep_pD : ∀ {P : List Cn}, PyData.depthAll (P.map pD) ≤ 1
  | [] => by decide
  | _ :: P => Nat.max_le.mpr ⟨Nat.le_refl 1, dep_pD (P := P)⟩
theorem shp_pD {c : Cn} : shp (pD c) = true := rfl
theorem shp_tup {P : List Cn} : shp (.tuple (P.map pD)) = true := by
  unfold shp
  rw [show plain (.tuple (P.map pD)) = true from plains_pD, Bool.true_and]
  unfold SeqAt.shaped
  rw [show (PyData.tuple (P.map pD)).canLay0 = true from lay_pD, Bool.true_and]
  exact decide_eq_true (show PyData.depthAll (P.map pD) + 1 ≤ 64 by have := dep_pD (P := P); omega)
theorem shp_lst {P : List Cn} : shp (.list (P.map pD)) = true := by
  unfold shp
  rw [show plain (.list (P.map pD)) = true from plains_pD, Bool.true_and]
  unfold SeqAt.shaped
  rw [show (PyData.list (P.map pD)).canLay0 = true from lay_pD, Bool.true_and]
  exact decide_eq_true (show PyData.depthAll (P.map pD) + 1 ≤ 64 by have := dep_pD (P := P); omega)
theorem gEq_pD {a b : Cn} : gEq (pD a) (pD b) = some (.dat (.bool (decide (a = b)))) := by
  unfold gEq; rw [shp_pD, shp_pD, eqv_pD]; rfl
theorem gNe_pD {a b : Cn} : gNe (pD a) (pD b) = some (.dat (.bool (!decide (a = b)))) := by
  unfold gNe; rw [shp_pD, shp_pD, eqv_pD]; rfl
theorem gEq_tup {P Q : List Cn} : gEq (.tuple (P.map pD)) (.tuple (Q.map pD)) = some (.dat (.bool (decide (P = Q)))) := by
  unfold gEq; rw [shp_tup, shp_tup, show PyData.eqv (.tuple (P.map pD)) (.tuple (Q.map pD)) = decide (P = Q) from eqvAll_pD]; rfl
theorem gNe_tup {P Q : List Cn} : gNe (.tuple (P.map pD)) (.tuple (Q.map pD)) = some (.dat (.bool (!decide (P = Q)))) := by
  unfold gNe; rw [shp_tup, shp_tup, show PyData.eqv (.tuple (P.map pD)) (.tuple (Q.map pD)) = decide (P = Q) from eqvAll_pD]; rfl
theorem gNe_lst {P Q : List Cn} : gNe (.list (P.map pD)) (.list (Q.map pD)) = some (.dat (.bool (!decide (P = Q)))) := by
  unfold gNe; rw [shp_lst, shp_lst, show PyData.eqv (.list (P.map pD)) (.list (Q.map pD)) = decide (P = Q) from eqvAll_pD]; rfl
theorem gIn_pD {c : Cn} {P : List Cn} : gIn (pD c) (.list (P.map pD)) = some (.dat (.bool (decide (c ∈ P)))) := by
  show (bif shp (pD c) && shp (.list (P.map pD)) then some (S.dat (.bool ((P.map pD).any fun z => PyData.eqv z (pD c)))) else none) = _
  rw [shp_pD, shp_lst, Bool.and_true, cond_true]
  congr 3
  rw [List.any_map]
  by_cases h : c ∈ P
  · rw [decide_eq_true h]
    exact List.any_eq_true.mpr ⟨c, h, by simp [eqv_pD]⟩
  · rw [decide_eq_false h]
    exact List.any_eq_false.mpr fun x hx => by
      simp only [Function.comp, eqv_pD, decide_eq_true_eq]
      exact fun e => h (e ▸ hx)
/-! ### places in a list -/
theorem atI_map {α β : Type} {f : α → β} {l : List α} {k : Int} : atI (l.map f) k = (atI l k).map f := by
  unfold atI
  rw [List.length_map]
  cases ixN l.length k with
  | none => rfl
  | some j => simp
theorem atI_pos {α : Type} {l : List α} {k : Int} {j : Nat} {x : α} (e : k = (j : Int)) (h : l[j]? = some x) : atI l k = some x := by
  subst e
  exact atI_nat h
theorem atI_neg {α : Type} {l : List α} {k : Int} {j : Nat} {x : α} (h0 : 0 < j) (e : k = -(j : Int)) (hj : j ≤ l.length) (h : l[l.length - j]? = some x) : atI l k = some x := by
  subst e
  unfold atI ixN
  rw [if_neg (by omega), if_pos (by omega)]
  have : (-(j : Int) + (l.length : Int)).toNat = l.length - j := by omega
  rw [this]
  exact h
theorem gIx_l {l : List PyData} {k : Int} : gIx (.list l) (.int k) = (atI l k).map .dat := rfl
theorem gIx_t {l : List PyData} {k : Int} : gIx (.tuple l) (.int k) = (atI l k).map .dat := rfl
theorem S_k {l : List (PyData × PyData)} : (S.dic l).d = .dict l := rfl
theorem kr1_s {j : Int} {ρ : En} (h : Sml j) : kr1 (.ok [.int j] ρ) = .ok (rangeL 0 j.toNat) ρ := by
  rw [kr1_0, rng1_t h, cond_true]
theorem kr2_s {i j : Int} {ρ : En} (g : Sml i) (h : Sml j) : kr2 (.ok [.int i, .int j] ρ) = .ok (rangeL i (j - i).toNat) ρ := by
  rw [kr2_0, rng2_t g h, cond_true]
/-! ### while -/
theorem while_f {t : CE} {b : CS} {n : Nat} {ρ ρ1 : En} (h : t ρ = .ok (.dat (.bool false)) ρ1) : whileL t b (n + 1) ρ = .nx ρ1 := by
  rw [whileL, h]; rfl
theorem while_t {t : CE} {b : CS} {n : Nat} {ρ ρ1 ρ2 : En} (h : t ρ = .ok (.dat (.bool true)) ρ1) (h2 : b ρ1 = .nx ρ2) : whileL t b (n + 1) ρ = whileL t b n ρ2 := by
  rw [whileL, h]
  show (match b ρ1 with
      | .nx ρ2 => whileL t b n ρ2
      | .ct ρ2 => whileL t b n ρ2
      | .bk ρ2 => .nx ρ2
      | .rt s ρ2 => .rt s ρ2
      | .exc x ρ2 => .exc x ρ2
      | .bad => .bad) = _
  rw [h2]
end Z
set_option maxHeartbeats 2000000
/-! Z: comprehensions with two generators. -/
namespace Z
open PySem PySem.Spec PyProof.Rows L2
open Evl (Ex ex_l ex_t ex_rd)
def lcL2 (vs vs1 : List Nat) (g : CG) (ct : CE) (src1 : CA) (g1 : CG) (ct1 ce : CE) : List PyData → En → List PyData → RA
  | [], ρ, acc => .ok acc ρ
  | d :: ds, ρ, acc => match g d (wipeE ρ vs) with
    | none => .bad
    | some ρ1 => match ct ρ1 with
      | .ok (.dat (.bool true)) ρ2 => match src1 ρ2 with
        | .ok ds1 ρ3 => match lcL vs1 g1 ct1 ce ds1 ρ3 acc with
          | .ok acc' ρ4 => lcL2 vs vs1 g ct src1 g1 ct1 ce ds ρ4 acc'
          | _ => .bad
        | _ => .bad
      | .ok (.dat (.bool false)) ρ2 => lcL2 vs vs1 g ct src1 g1 ct1 ce ds ρ2 acc
      | _ => .bad
def cLc2 (vs vs1 : List Nat) (src : CA) (g : CG) (ct : CE) (src1 : CA) (g1 : CG) (ct1 ce : CE) : CE := fun ρ => match src ρ with
  | .ok ds ρ1 => bif noOwn ρ1 vs then (match lcL2 vs vs1 g ct src1 g1 ct1 ce ds ρ1 [] with
    | .ok acc ρ2 => .ok (.lst acc) (restoreE ρ1 ρ2 vs)
    | _ => .bad) else .bad
  | .exc x ρ1 => .exc x ρ1
  | .bad => .bad
theorem wipeE_in {ρ : En} {i : Nat} : ∀ {vs : List Nat}, i ∈ vs → i < ρ.length → (wipeE ρ vs)[i]? = some none
  | v :: vs, h, hl => by
    show ((wipeE ρ vs).set v none)[i]? = _
    by_cases e : v = i
    · subst e
      rw [List.getElem?_set_self (by rw [wipeE_len]; exact hl)]
    · rw [List.getElem?_set_ne e]
      exact wipeE_in ((List.mem_cons.mp h).resolve_left fun z => e z.symm) hl
theorem wipeE_sub {ρ : En} {vs vs1 : List Nat} (h : ∀ i ∈ vs1, i ∈ vs) : wipeE (wipeE ρ vs1) vs = wipeE ρ vs := by
  apply List.ext_getElem?
  intro i
  by_cases hi : i ∈ vs
  · by_cases hl : i < ρ.length
    · rw [wipeE_in hi (by rw [wipeE_len]; exact hl), wipeE_in hi hl]
    · rw [List.getElem?_eq_none (by rw [wipeE_len, wipeE_len]; omega), List.getElem?_eq_none (by rw [wipeE_len]; omega)]
  · rw [wipeE_out hi, wipeE_out hi, wipeE_out fun z => hi (h i z)]
theorem wipe_sub {σ : L2.St} {vs vs1 : List Nat} (h : ∀ i ∈ vs1, i ∈ vs) : wipe (wipe σ vs1) vs = wipe σ vs := by
  apply List.ext_getElem?
  intro i
  by_cases hi : i ∈ vs
  · by_cases hl : i < σ.length
    · rw [wipe_in hi (by rw [wipe_length]; exact hl), wipe_in hi hl]
    · rw [List.getElem?_eq_none (by rw [wipe_length, wipe_length]; omega), List.getElem?_eq_none (by rw [wipe_length]; omega)]
  · rw [wipe_out hi, wipe_out hi, wipe_out fun z => hi (h i z)]
section
variable {X : Cx} {xc : Str → Value} {W : Ww} {elt tg iter tg1 iter1 : Expr} {ifs ifs1 : List Expr} {scope : Scope} {own : List (Str × Nat)} {pos spos : Pos} {cas cas1 : CA} {g g1 : CG} {gs gs1 : List Nat} {ct ct1 ce : CE}
theorem lc2_read {K : KF} {σ : L2.St} {H : Hp} {Q : VK} {vs vs1 : List Nat} {wi : TI} (hvs : ∀ i ∈ gs, i ∈ vs) (hvs1 : ∀ i ∈ gs1, i ∈ vs1) (hv1 : ∀ i ∈ vs1, i ∈ vs) (hJ : ∀ j ∈ W.J, j ∉ vs) (hwi : wi = iZ K xc W cas) (h : tZ K xc W (cLc2 vs vs1 cas g ct cas1 g1 ct1 ce) σ H Q) :
    tLc2 wi (gZ K W.J gs g) (tZT K xc (W0 W) ct) (iZ K xc (W0 W) cas1) (gZ K W.J gs1 g1) (tZT K xc (W0 W) ct1) (tZ K xc (W0 W) ce) vs vs1 σ H Q := by
  subst hwi
  have hJ1 : ∀ j ∈ W.J, j ∉ vs1 := fun j hj hm => hJ j hj (hv1 j hm)
  obtain ⟨Γ, B, ρ, rep, k⟩ := h
  refine ⟨Γ, B, ρ, rep, ?_⟩
  unfold cLc2 at k
  cases hcs : cas ρ with
  | exc x ρ1 => rw [hcs] at k; exact k
  | bad => rw [hcs] at k; exact k
  | ok ds ρ1 =>
    rw [hcs] at k
    intro It B1 H1 e1 r1 hit D hD
    simp only at k
    cases no : noOwn ρ1 vs with
    | false => rw [no] at k; exact k.elim
    | true =>
      rw [no, cond_true] at k
      cases hl : lcL2 vs vs1 g ct cas1 g1 ct1 ce ds ρ1 [] with
      | exc x ρF => rw [hl] at k; exact k.elim
      | bad => rw [hl] at k; exact k.elim
      | ok accF ρF =>
        rw [hl] at k
        refine ⟨fun i m H => m = ds.length - i ∧ i ≤ ds.length ∧ ∃ (B : Hp) (ρ : En) (acc : List PyData) (accV : List V), Rep K (Γ.plus D (.lst accV)) B (wipeE ρ vs) (wipe σ vs) H ∧ Ex B1 B ∧ DpAll K B accV acc ∧ lcL2 vs vs1 g ct cas1 g1 ct1 ce (ds.drop i) ρ acc = .ok accF ρF,
          ⟨ds.length, by simp, Nat.zero_le _, B1, ρ1, [], [], (r1.wiped hJ).plus hD, Ex.refl _, .nil, hl⟩, ?_⟩
        rintro i m H ⟨rfl, hi, B2, ρ2, acc, accV, r2, e2, ha, k2⟩
        obtain ⟨h1, h2⟩ := hit r2 e2
        by_cases hlt : i < ds.length
        · obtain ⟨go, yl⟩ := h1 i ds[i] (List.getElem?_eq_getElem hlt)
          rw [List.drop_eq_getElem_cons hlt] at k2
          refine .inr ⟨go, fun H' => ∃ (B : Hp) (ρ : En) (acc : List PyData) (accV : List V), Rep K (Γ.plus D (.lst accV)) B (wipeE ρ vs) (wipe σ vs) H' ∧ Ex B1 B ∧ DpAll K B accV acc ∧ lcL2 vs vs1 g ct cas1 g1 ct1 ce (ds.drop (i + 1)) ρ acc = .ok accF ρF, fun H' hN => ⟨ds.length - (i + 1), by omega, rfl, hlt, hN⟩, fun x H' hy => ?_⟩
          obtain ⟨B3, e3, r3, q3, _⟩ := yl x H' hy
          unfold lcL2 at k2
          cases hg' : g ds[i] (wipeE ρ2 vs) with
          | none => rw [hg'] at k2; cases k2
          | some ρ3 =>
            rw [hg'] at k2
            simp only at k2
            refine ⟨Γ.plus D (.lst accV), B3, wipeE ρ2 vs, ρ3, _, r3, q3, hg', fun σ4 r4 d4 => ?_⟩
            have ew : wipe σ4 vs = wipe σ vs := wipe_diff hvs d4
            refine ⟨ew, Γ.plus D (.lst accV), B3, ρ3, r4, ?_⟩
            cases hct : ct ρ3 with
            | exc x ρ5 => rw [hct] at k2; cases k2
            | bad => rw [hct] at k2; cases k2
            | ok s ρ5 =>
              rw [hct] at k2
              cases s with
              | lst l | dic l | obj c fs | hole => cases k2
              | dat d =>
                cases d with
                | none | int _ | str _ | list _ | tuple _ | dict _ => cases k2
                | bool b =>
                  refine ⟨b, rfl, fun B6 H6 e6 r6 => ?_⟩
                  cases b with
                  | false =>
                    refine iteF ⟨B6, ρ5, acc, accV, ?_, (e2.trans e3).trans e6, dpAll_mono (e3.trans e6) ha, k2⟩
                    have := r6.wiped hJ
                    rw [ew] at this
                    exact this
                  | true =>
                    simp only at k2
                    cases hc1 : cas1 ρ5 with
                    | exc x ρ7 => rw [hc1] at k2; cases k2
                    | bad => rw [hc1] at k2; cases k2
                    | ok ds1 ρ7 =>
                      rw [hc1] at k2
                      simp only at k2
                      refine iteT ⟨Γ.plus D (.lst accV), B6, ρ5, r6, ?_⟩
                      rw [hc1]
                      intro It1 B7 H7 e7 r7 hit1
                      refine ⟨fun j k H => k = ds1.length - j ∧ j ≤ ds1.length ∧ ∃ (B : Hp) (ρ : En) (acc : List PyData) (accV : List V), Rep K (Γ.plus D (.lst accV)) B (wipeE ρ vs1) (wipe σ4 vs1) H ∧ Ex B7 B ∧ DpAll K B accV acc ∧
                        (match lcL vs1 g1 ct1 ce (ds1.drop j) ρ acc with
                        | .ok acc' ρ4 => lcL2 vs vs1 g ct cas1 g1 ct1 ce (ds.drop (i + 1)) ρ4 acc'
                        | _ => .bad) = .ok accF ρF,
                        ⟨ds1.length, by simp, Nat.zero_le _, B7, ρ7, acc, accV, r7.wiped hJ1, Ex.refl _, dpAll_mono ((e3.trans e6).trans e7) ha, k2⟩, ?_⟩
                      rintro j kk H ⟨rfl, hj, B8, ρ8, acc8, accV8, r8, e8, ha8, k8⟩
                      obtain ⟨i1, i2⟩ := hit1 r8 e8
                      by_cases hlj : j < ds1.length
                      · obtain ⟨go1, yl1⟩ := i1 j ds1[j] (List.getElem?_eq_getElem hlj)
                        rw [List.drop_eq_getElem_cons hlj] at k8
                        refine .inr ⟨go1, fun H' => ∃ (B : Hp) (ρ : En) (acc : List PyData) (accV : List V), Rep K (Γ.plus D (.lst accV)) B (wipeE ρ vs1) (wipe σ4 vs1) H' ∧ Ex B7 B ∧ DpAll K B accV acc ∧
                          (match lcL vs1 g1 ct1 ce (ds1.drop (j + 1)) ρ acc with
                          | .ok acc' ρ4 => lcL2 vs vs1 g ct cas1 g1 ct1 ce (ds.drop (i + 1)) ρ4 acc'
                          | _ => .bad) = .ok accF ρF, fun H' hN => ⟨ds1.length - (j + 1), by omega, rfl, hlj, hN⟩, fun x H' hy => ?_⟩
                        obtain ⟨B9, e9, r9, q9, _⟩ := yl1 x H' hy
                        unfold lcL at k8
                        cases hg1 : g1 ds1[j] (wipeE ρ8 vs1) with
                        | none => rw [hg1] at k8; cases k8
                        | some ρ9 =>
                          rw [hg1] at k8
                          simp only at k8
                          refine ⟨Γ.plus D (.lst accV8), B9, wipeE ρ8 vs1, ρ9, _, r9, q9, hg1, fun σ10 r10 d10 => ?_⟩
                          have ew1 : wipe σ10 vs1 = wipe σ4 vs1 := wipe_diff hvs1 d10
                          refine ⟨ew1, Γ.plus D (.lst accV8), B9, ρ9, r10, ?_⟩
                          cases hct1 : ct1 ρ9 with
                          | exc x ρ5 => rw [hct1] at k8; cases k8
                          | bad => rw [hct1] at k8; cases k8
                          | ok s ρ11 =>
                            rw [hct1] at k8
                            cases s with
                            | lst l | dic l | obj c fs | hole => cases k8
                            | dat d =>
                              cases d with
                              | none | int _ | str _ | list _ | tuple _ | dict _ => cases k8
                              | bool b =>
                                refine ⟨b, rfl, fun B12 H12 e12 r12 => ?_⟩
                                cases b with
                                | false =>
                                  refine iteF ⟨B12, ρ11, acc8, accV8, ?_, (e8.trans e9).trans e12, dpAll_mono (e9.trans e12) ha8, k8⟩
                                  have := r12.wiped hJ1
                                  rw [ew1] at this
                                  exact this
                                | true =>
                                  refine iteT ⟨Γ.plus D (.lst accV8), B12, ρ11, r12, ?_⟩
                                  simp only at k8
                                  cases hce : ce ρ11 with
                                  | exc x ρ7 => rw [hce] at k8; cases k8
                                  | bad => rw [hce] at k8; cases k8
                                  | ok s7 ρ13 =>
                                    rw [hce] at k8
                                    simp only at k8
                                    intro y B14 H14 e14 r14 q14
                                    obtain ⟨B15, e15, r15, q15⟩ := SRes.data r14 q14
                                    have haz := dpAll_mono (e9.trans (e12.trans (e14.trans e15))) ha8
                                    cases hz : decide (acc8.length < sizeLine) with
                                    | false => rw [hz] at k8; cases k8
                                    | true =>
                                      rw [hz, cond_true] at k8
                                      refine ⟨accV8, r15.fh D _ upd_same, by rw [dpAll_len haz]; exact of_decide_eq_true hz, B15, ρ13, acc8 ++ [s7.d], accV8 ++ [y], ?_, (e8.trans e9).trans (e12.trans (e14.trans e15)), dpAll_app haz (.cons q15 .nil), k8⟩
                                      have := (r15.wiped hJ1).bump (o' := .lst (accV8 ++ [y]))
                                      rw [ew1] at this
                                      exact this
                      · have e : j = ds1.length := by omega
                        subst e
                        rw [List.drop_length] at k8
                        have k9 : lcL2 vs vs1 g ct cas1 g1 ct1 ce (ds.drop (i + 1)) ρ8 acc8 = .ok accF ρF := k8
                        refine .inl ⟨i2, B8, ρ8, acc8, accV8, ?_, ((e2.trans e3).trans e6).trans (e7.trans e8), ha8, k9⟩
                        have := r8.wiped hJ
                        rw [wipeE_sub hv1, wipe_sub hv1, ew] at this
                        exact this
        · have e : i = ds.length := by omega
          subst e
          rw [List.drop_length] at k2
          have k3 : RA.ok acc ρ2 = .ok accF ρF := k2
          cases k3
          obtain ⟨r9, q9⟩ := Rep.done r1 hD no e2 r2 ha
          exact .inl ⟨h2, k (.ref D) B2 H (e1.trans e2) r9 q9⟩
theorem ze_lc2 {vs1 : List Nat} (hc : X.calm = true) (hN : X.N.Nodup) (hi : ZI X xc W tg iter cas) (ok : BlkOk X.N X.env.scope scope own) (hvs : (gs.all fun i => (own.map (·.2)).contains i) = true) (hvs1 : (gs1.all fun i => vs1.contains i) = true) (hv1 : (vs1.all fun i => (own.map (·.2)).contains i) = true)
    (hJ : (W.J.all fun j => !(own.map (·.2)).contains j) = true)
    (hg : ∀ (s : Shared) (H : Hp) (C : Addr) (cl : List (Str × Addr)) (fp : List Addr), PG (X.blk s H scope (compEnvC scope cl C X.env) fp) tg (gZ X.kf W.J gs g))
    (ht : ∀ (s : Shared) (H : Hp) (C : Addr) (cl : List (Str × Addr)) (fp : List Addr), PTs (X.blk s H scope (compEnvC scope cl C X.env) fp) ifs (tZT X.kf xc (W0 W) ct))
    (hi1 : ∀ (s : Shared) (H : Hp) (C : Addr) (cl : List (Str × Addr)) (fp : List Addr), PI (X.blk s H scope (compEnvC scope cl C X.env) fp) tg1 iter1 (iZ X.kf xc (W0 W) cas1))
    (hg1 : ∀ (s : Shared) (H : Hp) (C : Addr) (cl : List (Str × Addr)) (fp : List Addr), PG (X.blk s H scope (compEnvC scope cl C X.env) fp) tg1 (gZ X.kf W.J gs1 g1))
    (ht1 : ∀ (s : Shared) (H : Hp) (C : Addr) (cl : List (Str × Addr)) (fp : List Addr), PTs (X.blk s H scope (compEnvC scope cl C X.env) fp) ifs1 (tZT X.kf xc (W0 W) ct1))
    (he : ∀ (s : Shared) (H : Hp) (C : Addr) (cl : List (Str × Addr)) (fp : List Addr), PE (X.blk s H scope (compEnvC scope cl C X.env) fp) elt (tZ X.kf xc (W0 W) ce)) (hs : ∀ x, foldedSetIterable iter X.env x = pure x := by intro _; rfl) (hs1 : ∀ env x, foldedSetIterable iter1 env x = pure x := by intro _ _; rfl) :
    ZE X xc W (.ListComp elt [⟨tg, iter, ifs, 0⟩, ⟨tg1, iter1, ifs1, 0⟩] scope pos) (cLc2 (own.map (·.2)) vs1 cas g ct cas1 g1 ct1 ce) :=
  PE.imp (pe_lc2 hc hN hi ok (all_in hv1) hg ht hi1 hg1 ht1 he hs hs1) fun σ H Q h => lc2_read (all_in hvs) (all_in hvs1) (all_in hv1) (all_out hJ) rfl h
theorem zs_setLc2 {i : Nat} {y : Str} {py : Pos} {vs1 : List Nat} (hc : X.calm = true) (hN : X.N.Nodup) (hy : X.N[i]? = some y) (hyl : X.env.scope.names.lookup y = some .local)
    (hsw : swapsWith (.ListComp elt [⟨tg, iter, ifs, 0⟩, ⟨tg1, iter1, ifs1, 0⟩] scope pos) (some (.Name y py)) spos.line X.env = pure true) (hi : ZI X xc W tg iter cas) (ok : BlkOk X.N X.env.scope scope own) (hvs : (gs.all fun i => (own.map (·.2)).contains i) = true) (hvs1 : (gs1.all fun i => vs1.contains i) = true) (hv1 : (vs1.all fun i => (own.map (·.2)).contains i) = true)
    (hJ : (W.J.all fun j => !(own.map (·.2)).contains j) = true)
    (hg : ∀ (s : Shared) (H : Hp) (C : Addr) (cl : List (Str × Addr)) (fp : List Addr), PG (X.blk s H scope (compEnvC scope cl C X.env) fp) tg (gZ X.kf W.J gs g))
    (ht : ∀ (s : Shared) (H : Hp) (C : Addr) (cl : List (Str × Addr)) (fp : List Addr), PTs (X.blk s H scope (compEnvC scope cl C X.env) fp) ifs (tZT X.kf xc (W0 W) ct))
    (hi1 : ∀ (s : Shared) (H : Hp) (C : Addr) (cl : List (Str × Addr)) (fp : List Addr), PI (X.blk s H scope (compEnvC scope cl C X.env) fp) tg1 iter1 (iZ X.kf xc (W0 W) cas1))
    (hg1 : ∀ (s : Shared) (H : Hp) (C : Addr) (cl : List (Str × Addr)) (fp : List Addr), PG (X.blk s H scope (compEnvC scope cl C X.env) fp) tg1 (gZ X.kf W.J gs1 g1))
    (ht1 : ∀ (s : Shared) (H : Hp) (C : Addr) (cl : List (Str × Addr)) (fp : List Addr), PTs (X.blk s H scope (compEnvC scope cl C X.env) fp) ifs1 (tZT X.kf xc (W0 W) ct1))
    (he : ∀ (s : Shared) (H : Hp) (C : Addr) (cl : List (Str × Addr)) (fp : List Addr), PE (X.blk s H scope (compEnvC scope cl C X.env) fp) elt (tZ X.kf xc (W0 W) ce)) (hJi : W.J.contains i = false := by rfl) (hs : ∀ x, foldedSetIterable iter X.env x = pure x := by intro _; rfl) (hs1 : ∀ env x, foldedSetIterable iter1 env x = pure x := by intro _ _; rfl) :
    ZS X xc W (.Assign [.Name y py] (.ListComp elt [⟨tg, iter, ifs, 0⟩, ⟨tg1, iter1, ifs1, 0⟩] scope pos) spos) (cSet i (cLc2 (own.map (·.2)) vs1 cas g ct cas1 g1 ct1 ce)) :=
  PS.imp (ps_setLc2 hc hN hy hyl hsw hi ok (all_in hv1) hg ht hi1 hg1 ht1 he hs hs1) fun D σ H ⟨Γ, B, ρ, rep, k⟩ => by
    have h : tZ X.kf xc W (cLc2 (own.map (·.2)) vs1 cas g ct cas1 g1 ct1 ce) σ H fun x H1 => gName i x σ H1 D.nx := tz_bs rep k fun v B' H' s ρ' e1 r1 q1 k1 => k1 B' _ H' (r1.slot i (notin hJi) (q1.drop i))
    exact lc2_read (all_in hvs) (all_in hvs1) (all_in hv1) (all_out hJ) rfl h
end
/-- what a comprehension with two generators asks of one thing of the first -/
def LcTwo (ρ : En) (vs vs1 : List Nat) (g : CG) (ct : CE) (src1 : CA) (g1 : CG) (ct1 ce : CE) (d : PyData) (es : List PyData) (f : PyData → PyData) : Prop :=
  ∃ ρa ρb ρc, g d (wipeE ρ vs) = some ρa ∧ ct ρa = .ok (.dat (.bool true)) ρb ∧ src1 ρb = .ok es ρc ∧ (∀ e ∈ es, LcOne ρc vs1 g1 ct1 ce e (f e)) ∧ wipeE ρc vs = wipeE ρ vs
theorem lcL2_map {ρ0 : En} {vs vs1 : List Nat} {g g1 : CG} {ct ct1 ce : CE} {src1 : CA} {h : PyData → List PyData} {f : PyData → PyData → PyData} (hv : ∀ i ∈ vs1, i ∈ vs) : ∀ {ds acc : List PyData} {ρ : En}, wipeE ρ vs = wipeE ρ0 vs →
    (∀ d ∈ ds, LcTwo ρ0 vs vs1 g ct src1 g1 ct1 ce d (h d) (f d)) → acc.length + (ds.flatMap fun d => (h d).map (f d)).length ≤ sizeLine →
    ∃ ρ', lcL2 vs vs1 g ct src1 g1 ct1 ce ds ρ acc = .ok (acc ++ ds.flatMap fun d => (h d).map (f d)) ρ' ∧ wipeE ρ' vs = wipeE ρ0 vs
  | [], acc, ρ, w, _, _ => ⟨ρ, by rw [lcL2]; simp, w⟩
  | d :: ds, acc, ρ, w, hd, hl => by
    obtain ⟨ρa, ρb, ρc, h1, h2, h3, h4, h5⟩ := hd d (by simp)
    rw [List.flatMap_cons, List.length_append, List.length_map] at hl
    obtain ⟨ρ1, e1, w1⟩ := lcL_map (ρ0 := ρc) (ρ := ρc) (vs := vs1) (g := g1) (ct := ct1) (ce := ce) (f := f d) (ds := h d) (acc := acc) rfl h4 (by omega)
    have w2 : wipeE ρ1 vs = wipeE ρ0 vs := by rw [← wipeE_sub hv, w1, wipeE_sub hv, h5]
    obtain ⟨ρ2, e2, w3⟩ := lcL2_map hv (ds := ds) (acc := acc ++ (h d).map (f d)) w2 (fun x hx => hd x (by simp [hx])) (by rw [List.length_append, List.length_map]; omega)
    refine ⟨ρ2, ?_, w3⟩
    rw [lcL2, w, h1]
    simp only [h2, h3, e1, e2]
    rw [List.flatMap_cons, List.append_assoc]
theorem cLc2_map {ρ ρ1 : En} {vs vs1 : List Nat} {src src1 : CA} {g g1 : CG} {ct ct1 ce : CE} {ds : List PyData} (h : PyData → List PyData) (f : PyData → PyData → PyData) (hv : (vs1.all fun i => vs.contains i) = true) (hs : src ρ = .ok ds ρ1) (no : noOwn ρ1 vs = true)
    (hl : (ds.flatMap fun d => (h d).map (f d)).length ≤ sizeLine) (hd : ∀ d ∈ ds, LcTwo ρ1 vs vs1 g ct src1 g1 ct1 ce d (h d) (f d)) : cLc2 vs vs1 src g ct src1 g1 ct1 ce ρ = .ok (.lst (ds.flatMap fun d => (h d).map (f d))) ρ1 := by
  obtain ⟨ρ', e, w⟩ := lcL2_map (ρ0 := ρ1) (ρ := ρ1) (acc := []) (all_in hv) rfl hd (by simpa using hl)
  unfold cLc2
  rw [hs]
  simp only [no, cond_true, e]
  rw [restore_eq w]
  rfl
end Z
set_option maxHeartbeats 2000000
/-! Z: what is evaluated beside things of one's own; places. -/
namespace Z
open PySem PySem.Spec PyProof.Rows L2
open Evl (Ex ex_l ex_t ex_rd)
/-! ### evaluated beside what is one's own -/
def dO1 : Option S → Option S
  | some (.dat d) => some (.dat d)
  | _ => none
def dO (ρ : En) : En := ρ.map dO1
theorem dO_at {ρ : En} {i : Nat} {s : S} (h : (dO ρ)[i]? = some (some s)) : ∃ d, s = .dat d ∧ ρ[i]? = some (some (.dat d)) := by
  unfold dO at h
  rw [List.getElem?_map] at h
  cases e : ρ[i]? with
  | none => rw [e] at h; cases h
  | some o =>
    rw [e] at h
    cases o with
    | none => cases h
    | some t =>
      cases t with
      | dat d =>
        have h' : some (some (S.dat d)) = some (some s) := h
        injection h' with h'
        injection h' with h'
        exact ⟨d, h'.symm, rfl⟩
      | lst l | dic l | obj c fs | hole => cases h
section
variable {K : KF} {J : List Nat} {Γ : Fm J} {B B' : Hp} {ρ ρ' : En} {σ : L2.St} {H H' : Hp} {s t : S} {v : V}
/-- the frame with all that is not data in it -/
abbrev Fm.all {J : List Nat} (Γ : Fm J) (B H : Hp) : Fm J := ⟨fun a => match B a with
  | none => H a
  | some _ => none, Γ.B0, Γ.io, Γ.hv⟩
theorem Fm.all_none {a : Addr} (h : B a = none) : (Γ.all B H).F a = H a := by
  show (match B a with
    | none => H a
    | some _ => none) = _
  rw [h]
theorem Rep.beside (r : Rep K Γ B ρ σ H) : Rep K (Γ.all B H) B (dO ρ) σ H := by
  refine ⟨r.bh, fun a o h => ?_, fun a o h => ?_, r.b0, by unfold dO; rw [List.length_map]; exact r.len, fun i s h => ?_, fun i j s t v u A C ne hi hj ei ej g1 g2 a ha => ?_, r.iot⟩
  · cases e : B a with
    | none => rwa [Fm.all_none e] at h
    | some o' =>
      have h' : (match B a with
        | none => H a
        | some _ => none) = some o := h
      rw [e] at h'
      cases h'
  · cases e : B a with
    | none => rfl
    | some o' =>
      have h' : (match B a with
        | none => H a
        | some _ => none) = some o := h
      rw [e] at h'
      cases h'
  · obtain ⟨d, rfl, h2⟩ := dO_at h
    obtain ⟨v, A, g1, g2⟩ := r.at_ i _ h2
    exact ⟨v, [], g1, rfl, g2.2⟩
  · obtain ⟨d, rfl, _⟩ := dO_at hi
    rw [g1.1] at ha
    exact absurd ha (by simp)
theorem Rep.aside (r : Rep K Γ B ρ σ H) (eB : Ex B B') (q : Rep K (Γ.all B H) B' ρ' σ H') : Ex H H' ∧ Rep K Γ B' ρ σ H' := by
  have own : ∀ {a : Addr} {o : HO}, B a = none → H a = some o → B' a = none ∧ H' a = some o := fun {a o} h1 h2 => by
    have f : (Γ.all B H).F a = some o := by rw [Fm.all_none h1]; exact h2
    exact ⟨q.fb a o f, q.fh a o f⟩
  have eH : Ex H H' := fun a o h => by
    cases e : B a with
    | none => exact (own e h).2
    | some o' =>
      have := r.bh a o' e
      rw [h] at this
      cases this
      exact q.bh a _ (eB a _ e)
  refine ⟨eH, (r.frame eB q.bh (r.fh.trans eH) (fun a o h => ?_) fun i s v A _ _ h3 a ha => ?_).1⟩
  · exact (own (r.fb a o h) (r.fh a o h)).1
  · obtain ⟨h1, _, o, h2⟩ := SA.own h3 a ha
    obtain ⟨k1, k2⟩ := own h1 h2
    exact ⟨k1, by rw [k2, h2]⟩
theorem RawAt.ex {a : Addr} {vs : List (Str × V)} (e : Ex H H') (h : RawAt H a vs) : RawAt H' a vs := by
  rcases h with ⟨C, dx, h⟩ | h
  · exact .inl ⟨C, dx, e _ _ h⟩
  · exact .inr (e _ _ h)
theorem VAt.ex (e : Ex H H') : ∀ {p : List Str} {v u : V}, VAt H p v u → VAt H' p v u
  | [], _, _, h => h
  | _ :: _, _, _, ⟨a, vs, w, h1, h2, h3, h4⟩ => ⟨a, vs, w, h1, h2.ex e, h3, VAt.ex e h4⟩
theorem VAt.snoc : ∀ {p : List Str} {v u w : V} {a : Addr} {vs : List (Str × V)} {f : Str}, VAt H p v u → u = .ref a → RawAt H a vs → vs.lookup f = some w → VAt H (p ++ [f]) v w
  | [], v, u, w, a, vs, f, h, e, h2, h3 => by
    have h' : u = v := h
    subst h'
    exact ⟨a, vs, w, e, h2, h3, rfl⟩
  | g :: p, v, u, w, a, vs, f, ⟨b, us, x, h1, h2, h3, h4⟩, e, g2, g3 => ⟨b, us, x, h1, h2, h3, VAt.snoc h4 e g2 g3⟩
/-- v stands at a place of slot i -/
def PlAt (σ : L2.St) (H : Hp) (i : Nat) (p : List Str) (v : V) : Prop := ∃ u, σ[i]? = some (some u) ∧ VAt H p u v
theorem PlAt.ex {i : Nat} {p : List Str} (e : Ex H H') (h : PlAt σ H i p v) : PlAt σ H' i p v := by
  obtain ⟨u, h1, h2⟩ := h
  exact ⟨u, h1, h2.ex e⟩
/-- the thing at a place -/
def plc (ρ : En) (i : Nat) (p : List Str) : Option S := match ρ[i]? with
  | some (some s) => S.at p s
  | _ => none
/-- another thing at a place -/
def pup (ρ : En) (i : Nat) (p : List Str) (t : S) : En := match ρ[i]? with
  | some (some s) => ρ.set i (some (S.up p s t))
  | _ => ρ
theorem plc_at {i : Nat} {p : List Str} (h : plc ρ i p = some t) : ∃ s, ρ[i]? = some (some s) ∧ S.at p s = some t ∧ ∀ t', pup ρ i p t' = ρ.set i (some (S.up p s t')) := by
  unfold plc at h
  split at h
  · rename_i s e
    refine ⟨s, e, h, fun t' => ?_⟩
    unfold pup
    rw [e]
  · cases h
theorem Rep.place (r : Rep K Γ B ρ σ H) {i : Nat} {p : List Str} (h : plc ρ i p = some t) (pl : PlAt σ H i p v) : ∃ A1, SA K Γ.X B H t v A1 ∧
    ∀ (B' H' : Hp) (t' : S) (A1' : List Addr), Ex B B' → Ex B' H' → Ex Γ.F H' → (∀ a o, Γ.F a = some o → B' a = none) → (∀ a o, a ∉ A1 → B a = none → H a = some o → B' a = none ∧ H' a = some o) →
      SA K Γ.X B' H' t' v A1' → (∀ a ∈ A1', a ∈ A1 ∨ H a = none) → Rep K Γ B' (pup ρ i p t') σ H' := by
  obtain ⟨s0, hi, hp, hu⟩ := plc_at h
  obtain ⟨v0, h1, r1, A, q1, q2⟩ := r.take hi
  obtain ⟨u, A1, A0, k1, k2, k3, k4, k5⟩ := SA.path q1 hp
  obtain ⟨w, g1, g2⟩ := pl
  rw [h1] at g1
  cases g1
  have e := VAt.inj g2 k1
  subst e
  refine ⟨A1, k2, fun B' H' t' A1' eB bh fh fb kp hn hs => ?_⟩
  rw [hu]
  have in1 : ∀ a ∈ A1, a ∈ A := fun a ha => (k3 a).mpr (.inr ha)
  obtain ⟨r2, old⟩ := r1.frame (B' := B') (H' := H') eB bh fh fb fun j t u C e1 e2 e3 a ha => by
    obtain ⟨z1, _, o, z2⟩ := SA.own e3 a ha
    obtain ⟨y1, y2⟩ := kp a o (fun m => q2 j t u C e1 e2 e3 a (in1 a m) ha) z1 z2
    exact ⟨y1, by rw [y2, z2]⟩
  obtain ⟨_, A', n1, n2⟩ := k5 Γ.X B' H' t' A1' eB rfl (fun a ha => by
    obtain ⟨z1, z3, o, z2⟩ := SA.own q1 a ((k3 a).mpr (.inl ha))
    obtain ⟨y1, y2⟩ := kp a o (k4 a ha) z1 z2
    exact ⟨y1, z3, by rw [y2, z2]⟩) (fun a ha hc => by
    rcases hs a hc with m | m
    · exact k4 a ha m
    · obtain ⟨_, _, o, z2⟩ := SA.own q1 a ((k3 a).mpr (.inl ha))
      rw [z2] at m
      cases m) hn
  have h3 : Rep K Γ B' ((ρ.set i none).set i (some (S.up p s0 t'))) σ H' := by
    refine r2.put h1 ?_
    rw [List.set_set]
    refine ⟨A', n1, fun j t u C e1 e2 e3 a ha hc => ?_⟩
    have e4 := old j t u C e1 e2 e3
    rcases (n2 a).mp ha with m | m
    · exact q2 j t u C e1 e2 e4 a ((k3 a).mpr (.inl m)) hc
    · rcases hs a m with m | m
      · exact q2 j t u C e1 e2 e4 a (in1 a m) hc
      · obtain ⟨_, _, o, z⟩ := SA.own e4 a hc
        rw [m] at z
        cases z
  rw [List.set_set] at h3
  exact h3
/-- a thing at a place changes -/
theorem Rep.mutP (r : Rep K Γ B ρ σ H) {i : Nat} {p : List Str} (h : plc ρ i p = some t) (pl : PlAt σ H i p v) : ∃ A1, SA K Γ.X B H t v A1 ∧
    ∀ (H' : Hp) (t' : S) (A1' : List Addr), (∀ a, a ∉ A1 → ∀ o, H a = some o → H' a = some o) → SA K Γ.X B H' t' v A1' → (∀ a ∈ A1', a ∈ A1 ∨ H a = none) → Rep K Γ B (pup ρ i p t') σ H' := by
  obtain ⟨A1, h1, h2⟩ := r.place h pl
  refine ⟨A1, h1, fun H' t' A1' k hn hs => ?_⟩
  have own := SA.own h1
  refine h2 B H' t' A1' (Ex.refl B) (fun a o e => k a (fun m => ?_) o (r.bh a o e)) (fun a o e => k a (fun m => ?_) o (r.fh a o e)) r.fb (fun a o m e1 e2 => ⟨e1, k a m o e2⟩) hn hs
  · rw [(own a m).1] at e; cases e
  · rw [show Γ.F a = none from (own a m).2.1] at e; cases e
/-- a thing at a place turns data -/
theorem Rep.frzP (r : Rep K Γ B ρ σ H) {i : Nat} {p : List Str} (h : plc ρ i p = some t) (pl : PlAt σ H i p v) (nh : t.nh = true) : ∃ B', Ex B B' ∧ Rep K Γ B' (pup ρ i p (.dat t.d)) σ H ∧ Dp K B' v t.d := by
  classical
  obtain ⟨A, h1, h2⟩ := r.place h pl
  have own := SA.own h1
  have eb : Ex B (fun b => if b ∈ A then H b else B b) := fun b o hb => by
    have n : b ∉ A := fun m => by rw [(own b m).1] at hb; cases hb
    simp only [if_neg n]
    exact hb
  have hd : Dp K (fun b => if b ∈ A then H b else B b) v t.d := SA.froz eb nh (fun a ha => by simp only [if_pos ha]) h1
  refine ⟨fun b => if b ∈ A then H b else B b, eb, h2 _ H _ [] eb ?_ r.fh ?_ ?_ ⟨rfl, hd⟩ (fun a ha => absurd ha (by simp)), hd⟩
  · intro b o hb
    by_cases m : b ∈ A
    · simp only [if_pos m] at hb
      exact hb
    · simp only [if_neg m] at hb
      exact r.bh b o hb
  · intro b o hb
    have n : b ∉ A := fun m => by rw [show Γ.F b = none from (own b m).2.1] at hb; cases hb
    simp only [if_neg n]
    exact r.fb b o hb
  · intro a o m e1 e2
    simp only [if_neg m]
    exact ⟨e1, e2⟩
end
/-! ### a value, evaluated beside -/
inductive RP where
  | ok (d : PyData)
  | exc (x : Str)
  | bad
def cPu (c : CE) (ρ : En) : RP := match c (dO ρ) with
  | .ok s _ => .ok s.d
  | .exc x _ => .exc x
  | .bad => .bad
section
variable (K : KF) (xc : Str → Value) (W : Ww)
def outP (Γ : Fm W.J) (B : Hp) (ρ : En) (σ : L2.St) (H : Hp) (Q : VK) : RP → Prop
  | .ok d => ∀ v B' H', Ex B B' → Ex H H' → Rep K Γ B' ρ σ H' → Dp K B' v d → Q v H'
  | .exc x => ∀ B' H', Ex B B' → Ex H H' → Rep K Γ B' ρ σ H' → W.W (xc x) none σ H'
  | .bad => False
end
section
variable {X : Cx} {xc : Str → Value} {W : Ww} {a b e : Expr} {es : List Expr} {pos : Pos} {ca cb cc : CE}
theorem tz_pu {K : KF} {Γ : Fm W.J} {B : Hp} {ρ : En} {σ : L2.St} {H : Hp} {Q : VK} (rep : Rep K Γ B ρ σ H) (h : outP K xc W Γ B ρ σ H Q (cPu ca ρ)) : tZ K xc W ca σ H Q := by
  refine ⟨Γ.all B H, B, dO ρ, rep.beside, ?_⟩
  unfold cPu at h
  cases hc : ca (dO ρ) with
  | ok s ρ1 =>
    rw [hc] at h
    intro v B1 H1 e1 r1 q1
    obtain ⟨B2, e2, r2, q2⟩ := SRes.data r1 q1
    obtain ⟨z1, z2⟩ := rep.aside (e1.trans e2) r2
    exact h v B2 H1 (e1.trans e2) z1 z2 q2
  | exc x ρ1 =>
    rw [hc] at h
    intro B1 H1 e1 r1
    obtain ⟨z1, z2⟩ := rep.aside e1 r1
    exact h B1 H1 e1 z1 z2
  | bad =>
    rw [hc] at h
    exact h
inductive RPs where
  | ok (d : List PyData)
  | exc (x : Str)
  | bad
def cPus (c : CA) (ρ : En) : RPs := match c (dO ρ) with
  | .ok ds _ => .ok ds
  | .exc x _ => .exc x
  | .bad => .bad
def outPs (K : KF) (xc : Str → Value) (W : Ww) (Γ : Fm W.J) (B : Hp) (ρ : En) (σ : L2.St) (H : Hp) (Q : List V → Hp → Prop) : RPs → Prop
  | .ok ds => ∀ vs B' H', Ex B B' → Ex H H' → Rep K Γ B' ρ σ H' → DpAll K B' vs ds → Q vs H'
  | .exc x => ∀ B' H', Ex B B' → Ex H H' → Rep K Γ B' ρ σ H' → W.W (xc x) none σ H'
  | .bad => False
theorem tza_pus {K : KF} {Γ : Fm W.J} {B : Hp} {ρ : En} {σ : L2.St} {H : Hp} {Q : List V → Hp → Prop} {cas : CA} (rep : Rep K Γ B ρ σ H) (h : outPs K xc W Γ B ρ σ H Q (cPus cas ρ)) : tZA K xc W cas σ H Q := by
  refine ⟨Γ.all B H, B, dO ρ, rep.beside, ?_⟩
  unfold cPus at h
  cases hc : cas (dO ρ) with
  | ok s ρ1 =>
    rw [hc] at h
    intro v B1 H1 e1 r1 q1
    obtain ⟨z1, z2⟩ := rep.aside e1 r1
    exact h v B1 H1 e1 z1 z2 q1
  | exc x ρ1 =>
    rw [hc] at h
    intro B1 H1 e1 r1
    obtain ⟨z1, z2⟩ := rep.aside e1 r1
    exact h B1 H1 e1 z1 z2
  | bad =>
    rw [hc] at h
    exact h
end
/-! ### expressions that are places -/
inductive RQ where
  | at (i : Nat) (p : List Str) (ρ : En)
  | dat (d : PyData) (ρ : En)
  | exc (x : Str) (ρ : En)
  | bad
abbrev CQ := En → RQ
section
variable (K : KF) (xc : Str → Value) (W : Ww)
def outQ (Γ : Fm W.J) (B : Hp) (σ : L2.St) (Q : VK) : RQ → Prop
  | .at i p ρ' => ∀ v B' H', Ex B B' → Rep K Γ B' ρ' σ H' → PlAt σ H' i p v → Q v H'
  | .dat d ρ' => ∀ v B' H', Ex B B' → Rep K Γ B' ρ' σ H' → Dp K B' v d → Q v H'
  | .exc x ρ' => ∀ B' H', Ex B B' → Rep K Γ B' ρ' σ H' → W.W (xc x) none σ H'
  | .bad => False
def tZQ (c : CQ) : TE := fun σ H Q => ∃ (Γ : Fm W.J) (B : Hp) (ρ : En), Rep K Γ B ρ σ H ∧ outQ K xc W Γ B σ Q (c ρ)
end
abbrev ZQ (X : Cx) (xc : Str → Value) (W : Ww) (e : Expr) (c : CQ) : Prop := PE X e (tZQ X.kf xc W c)
/-- what is at hand: a place's thing, data -/
inductive Th where
  | at (i : Nat) (p : List Str)
  | dat (d : PyData)
def ThAt (K : KF) (B : Hp) (σ : L2.St) (H : Hp) (v : V) : Th → Prop
  | .at i p => PlAt σ H i p v
  | .dat d => Dp K B v d
def RQ.bd : RQ → (Th → En → R) → R
  | .at i p ρ, k => k (.at i p) ρ
  | .dat d ρ, k => k (.dat d) ρ
  | .exc x ρ, _ => .exc x ρ
  | .bad, _ => .bad
def RQ.bs : RQ → (Th → En → O) → O
  | .at i p ρ, k => k (.at i p) ρ
  | .dat d ρ, k => k (.dat d) ρ
  | .exc x ρ, _ => .exc x ρ
  | .bad, _ => .bad
def RQ.ba : RQ → (Th → En → RA) → RA
  | .at i p ρ, k => k (.at i p) ρ
  | .dat d ρ, k => k (.dat d) ρ
  | .exc x ρ, _ => .exc x ρ
  | .bad, _ => .bad
theorem ThAt.ex {K : KF} {B B' : Hp} {σ : L2.St} {H H' : Hp} {v : V} {t : Th} (eB : Ex B B') (eH : Ex H H') (h : ThAt K B σ H v t) : ThAt K B' σ H' v t := by
  cases t with
  | «at» i p => exact PlAt.ex eH h
  | dat d => exact dp_mono eB h
section
variable {X : Cx} {xc : Str → Value} {W : Ww} {a b e : Expr} {es : List Expr} {pos : Pos} {ca cb cc : CE} {cq : CQ}
theorem tzq_bd {K : KF} {Γ : Fm W.J} {B : Hp} {ρ : En} {σ : L2.St} {H : Hp} {k : Th → En → R} {Q Q' : VK} (rep : Rep K Γ B ρ σ H) (h : outZ K xc W Γ B σ Q ((cq ρ).bd k))
    (next : ∀ v B' H' t ρ', Ex B B' → Rep K Γ B' ρ' σ H' → ThAt K B' σ H' v t → outZ K xc W Γ B' σ Q (k t ρ') → Q' v H') : tZQ K xc W cq σ H Q' := by
  refine ⟨Γ, B, ρ, rep, ?_⟩
  cases hc : cq ρ with
  | «at» i p ρ1 =>
    rw [hc] at h
    exact fun v B1 H1 e1 r1 q1 => next v B1 H1 (.at i p) ρ1 e1 r1 q1 (outZ_mono e1 h)
  | dat d ρ1 =>
    rw [hc] at h
    exact fun v B1 H1 e1 r1 q1 => next v B1 H1 (.dat d) ρ1 e1 r1 q1 (outZ_mono e1 h)
  | exc x ρ1 => rw [hc] at h; exact h
  | bad => rw [hc] at h; exact h
theorem tzq_bs {K : KF} {Γ : Fm W.J} {B : Hp} {ρ : En} {σ : L2.St} {H : Hp} {k : Th → En → O} {D : Ends} {Q' : VK} (rep : Rep K Γ B ρ σ H) (h : outS K xc W Γ D ((cq ρ).bs k))
    (next : ∀ v B' H' t ρ', Ex B B' → Rep K Γ B' ρ' σ H' → ThAt K B' σ H' v t → outS K xc W Γ D (k t ρ') → Q' v H') : tZQ K xc W cq σ H Q' := by
  refine ⟨Γ, B, ρ, rep, ?_⟩
  cases hc : cq ρ with
  | «at» i p ρ1 =>
    rw [hc] at h
    exact fun v B1 H1 e1 r1 q1 => next v B1 H1 (.at i p) ρ1 e1 r1 q1 h
  | dat d ρ1 =>
    rw [hc] at h
    exact fun v B1 H1 e1 r1 q1 => next v B1 H1 (.dat d) ρ1 e1 r1 q1 h
  | exc x ρ1 =>
    rw [hc] at h
    exact fun B' H' e r => h B' σ H' r
  | bad => rw [hc] at h; exact h
/-- a name: its thing, or its data -/
def cqN (i : Nat) : CQ := fun ρ => match ρ[i]? with
  | some (some (.dat d)) => .dat d ρ
  | some (some _) => .at i [] ρ
  | _ => .bad
theorem zq_n {i : Nat} (h : PE X e (tVar i)) : ZQ X xc W e (cqN i) := PE.imp h fun σ H Q ⟨Γ, B, ρ, rep, k⟩ => by
  unfold cqN at k
  cases hi : ρ[i]? with
  | none => rw [hi] at k; exact k.elim
  | some o =>
    cases o with
    | none => rw [hi] at k; exact k.elim
    | some s =>
      rw [hi] at k
      obtain ⟨v, A, h1, h2⟩ := rep.at_ i _ hi
      refine ⟨v, h1, ?_⟩
      cases s with
      | dat d => exact k v B H (Ex.refl _) rep h2.2
      | lst l | dic l | obj c fs | hole => exact k v B H (Ex.refl _) rep ⟨v, h1, rfl⟩
/-- any value -/
def cqD (c : CE) : CQ := fun ρ => match c ρ with
  | .ok s ρ' => .dat s.d ρ'
  | .exc x ρ' => .exc x ρ'
  | .bad => .bad
theorem zq_d (h : ZE X xc W e ca) : ZQ X xc W e (cqD ca) := PE.imp h fun σ H Q ⟨Γ, B, ρ, rep, k⟩ => by
  refine ⟨Γ, B, ρ, rep, ?_⟩
  unfold cqD at k
  cases hc : ca ρ with
  | ok s ρ1 =>
    rw [hc] at k
    intro v B1 H1 e1 r1 q1
    obtain ⟨B2, e2, r2, q2⟩ := SRes.data r1 q1
    exact k v B2 H1 (e1.trans e2) r2 q2
  | exc x ρ1 => rw [hc] at k; exact k
  | bad => rw [hc] at k; exact k
/-- a place's value: it turns data there -/
def qv (t : Th) (ρ : En) : R := match t with
  | .dat d => .ok (.dat d) ρ
  | .at i p => match plc ρ i p with
    | some s => bif s.nh then .ok (.dat s.d) (pup ρ i p (.dat s.d)) else .bad
    | none => .bad
def cQV (cq : CQ) : CE := fun ρ => (cq ρ).bd qv
theorem ze_q (h : ZQ X xc W e cq) : ZE X xc W e (cQV cq) := PE.imp h fun σ H Q ⟨Γ, B, ρ, rep, k⟩ => tzq_bd rep k fun v B1 H1 t ρ1 e1 r1 q1 k1 => by
  cases t with
  | dat d => exact k1 v B1 H1 (Ex.refl _) r1 (sres_dat q1)
  | «at» i p =>
    unfold qv at k1
    cases hp : plc ρ1 i p with
    | none => simp only [hp] at k1; exact k1.elim
    | some s =>
      simp only [hp] at k1
      cases hn : s.nh with
      | false => rw [hn] at k1; exact k1.elim
      | true =>
        rw [hn, cond_true] at k1
        obtain ⟨B2, e2, r2, q2⟩ := r1.frzP hp q1 hn
        exact k1 v B2 H1 e2 r2 (sres_dat q2)
end
/-! ### fields -/
/-- the class of that name has plain attributes, and none of that name -/
def FldOk (K : KF) (c f : Str) : Prop := ∀ C, ClsAt K c C → Cls K.K C ∧ NoAttr K.K C f
theorem FldOk.mk {K : KF} {c f : Str} {C : Addr} (h : PySem.W.nsIn K.K mainGlobals c = some (some (.ref C))) (h1 : Cls K.K C) (h2 : NoAttr K.K C f) : FldOk K c f := fun D hD => by
  have e := ClsAt.inj hD h
  subst e
  exact ⟨h1, h2⟩
def fGet : List (PyData × PyData) → Str → Option PyData
  | (.str g, d) :: ds, f => bif g == f then some d else fGet ds f
  | _, _ => none
theorem fGet_of {K : KF} {B : Hp} : ∀ {vs : List (Str × V)} {ds : List (PyData × PyData)} {f : Str}, DpF K B vs ds → (∀ d, fGet ds f = some d → ∃ v, vs.lookup f = some v ∧ Dp K B v d) ∧ (fGet ds f = none → vs.lookup f = none)
  | _, _, f, .nil => ⟨fun d h => (nomatch (show (none : Option PyData) = some d from h)), fun _ => rfl⟩
  | _, _, f, @DpF.cons _ _ g v vs d ds h t => by
    obtain ⟨h1, h2⟩ := fGet_of (f := f) t
    cases e : (g == f) with
    | true =>
      have e' := eq_of_beq e
      subst e'
      refine ⟨fun x hx => ?_, fun hx => ?_⟩
      · have hx' : (bif g == g then some d else fGet ds g) = some x := hx
        rw [e, cond_true] at hx'
        cases hx'
        exact ⟨v, by simp [List.lookup], h⟩
      · have hx' : (bif g == g then some d else fGet ds g) = none := hx
        rw [e, cond_true] at hx'
        cases hx'
    | false =>
      have ne : (f == g) = false := beq_eq_false_iff_ne.mpr fun z => by rw [z] at e; simp at e
      refine ⟨fun x hx => ?_, fun hx => ?_⟩
      · have hx' : (bif g == f then some d else fGet ds f) = some x := hx
        rw [e, cond_false] at hx'
        obtain ⟨u, k1, k2⟩ := h1 x hx'
        exact ⟨u, by simp [List.lookup, ne, k1], k2⟩
      · have hx' : (bif g == f then some d else fGet ds f) = none := hx
        rw [e, cond_false] at hx'
        simp [List.lookup, ne, h2 hx']
theorem SF.lookup_none {K : KF} {F : Fx} {B H : Hp} : ∀ {fs : Fs} {vs : List (Str × V)} {A : List Addr} {f : Str}, SF K F B H fs vs A → fs.get f = none → vs.lookup f = none
  | .nil, vs, A, f, h, _ => by rw [h.1]; rfl
  | .cons g s fs, vs, A, f, h, e => by
    obtain ⟨v, vs', A1, A2, rfl, rfl, dj, h1, h2⟩ := h
    unfold Fs.get at e
    cases eb : (g == f) with
    | true => rw [eb] at e; cases e
    | false =>
      rw [eb, cond_false] at e
      have ne : (f == g) = false := beq_eq_false_iff_ne.mpr fun z => by rw [z] at eb; simp at eb
      simp [List.lookup, ne, SF.lookup_none h2 e]
theorem SF.len {K : KF} {F : Fx} {B H : Hp} : ∀ {fs : Fs} {vs : List (Str × V)} {A : List Addr}, SF K F B H fs vs A → vs.length = fs.d.length
  | .nil, vs, A, h => by rw [h.1]; rfl
  | .cons g s fs, vs, A, h => by
    obtain ⟨v, vs', A1, A2, rfl, rfl, dj, h1, h2⟩ := h
    show vs'.length + 1 = fs.d.length + 1
    rw [SF.len h2]
/-- what stands in a field: data, or a place -/
def qsub (o : Option S) (i : Nat) (p : List Str) (f : Str) (ρ : En) : RQ := match o with
  | some (.dat d) => .dat d ρ
  | some _ => .at i (p ++ [f]) ρ
  | none => .bad
def qdat (o : Option PyData) (ρ : En) : RQ := match o with
  | some d => .dat d ρ
  | none => .bad
def qf (c f : Str) (t : Th) (ρ : En) : RQ := match t with
  | .at i p => match plc ρ i p with
    | some (.obj (some c') fs) => bif c' == c then qsub (fs.get f) i p f ρ else .bad
    | _ => .bad
  | .dat (.dict ((.none, .str c') :: ds)) => bif c' == c then qdat (fGet ds f) ρ else .bad
  | _ => .bad
def RQ.bq : RQ → (Th → En → RQ) → RQ
  | .at i p ρ, k => k (.at i p) ρ
  | .dat d ρ, k => k (.dat d) ρ
  | .exc x ρ, _ => .exc x ρ
  | .bad, _ => .bad
def cqF (c f : Str) (cq : CQ) : CQ := fun ρ => (cq ρ).bq (qf c f)
section
variable {X : Cx} {xc : Str → Value} {W : Ww} {a b e : Expr} {es : List Expr} {pos : Pos} {ca cb cc : CE} {cq : CQ}
theorem outQ_mono {K : KF} {Γ : Fm W.J} {B B' : Hp} {σ : L2.St} {Q : VK} (e : Ex B B') : ∀ {r : RQ}, outQ K xc W Γ B σ Q r → outQ K xc W Γ B' σ Q r
  | .at i p ρ', h => fun v B2 H2 e2 r2 q => h v B2 H2 (e.trans e2) r2 q
  | .dat d ρ', h => fun v B2 H2 e2 r2 q => h v B2 H2 (e.trans e2) r2 q
  | .exc x ρ', h => fun B2 H2 e2 r2 => h B2 H2 (e.trans e2) r2
  | .bad, h => h
theorem tzq_bq {K : KF} {Γ : Fm W.J} {B : Hp} {ρ : En} {σ : L2.St} {H : Hp} {k : Th → En → RQ} {Q Q' : VK} (rep : Rep K Γ B ρ σ H) (h : outQ K xc W Γ B σ Q ((cq ρ).bq k))
    (next : ∀ v B' H' t ρ', Ex B B' → Rep K Γ B' ρ' σ H' → ThAt K B' σ H' v t → outQ K xc W Γ B' σ Q (k t ρ') → Q' v H') : tZQ K xc W cq σ H Q' := by
  refine ⟨Γ, B, ρ, rep, ?_⟩
  cases hc : cq ρ with
  | «at» i p ρ1 =>
    rw [hc] at h
    exact fun v B1 H1 e1 r1 q1 => next v B1 H1 (.at i p) ρ1 e1 r1 q1 (outQ_mono e1 h)
  | dat d ρ1 =>
    rw [hc] at h
    exact fun v B1 H1 e1 r1 q1 => next v B1 H1 (.dat d) ρ1 e1 r1 q1 (outQ_mono e1 h)
  | exc x ρ1 => rw [hc] at h; exact h
  | bad => rw [hc] at h; exact h
theorem sub_place {K : KF} {Γ : Fm W.J} {B : Hp} {ρ : En} {σ : L2.St} {H : Hp} {Q : VK} {i : Nat} {p : List Str} {f : Str} {o : Option Str} {fs : Fs} {v : V} (r1 : Rep K Γ B ρ σ H) (hp : plc ρ i p = some (.obj o fs)) (q1 : PlAt σ H i p v)
    (k1 : outQ K xc W Γ B σ Q (qsub (fs.get f) i p f ρ)) : ∃ a vs w, v = .ref a ∧ ObAt K H a o vs ∧ vs.lookup f = some w ∧ vs.length = fs.d.length ∧ Q w H := by
  obtain ⟨A1, h1, _⟩ := r1.place hp q1
  obtain ⟨a, vs, A', rfl, rfl, na, ow, ho, hsf⟩ := h1
  cases hg : fs.get f with
  | none => rw [hg] at k1; exact k1.elim
  | some s =>
    rw [hg] at k1
    obtain ⟨w, C1, C0, g1, g2, _⟩ := SF.field hsf hg
    obtain ⟨u, u1, u2⟩ := q1
    have pl : PlAt σ H i (p ++ [f]) w := ⟨u, u1, VAt.snoc u2 rfl ho.raw g1⟩
    refine ⟨a, vs, w, rfl, ho, g1, SF.len hsf, ?_⟩
    cases s with
    | dat d => exact k1 w B H (Ex.refl _) r1 g2.2
    | lst l | dic l | obj c fs | hole => exact k1 w B H (Ex.refl _) r1 pl
theorem zq_f {c f : Str} (h : ZQ X xc W e cq) (hf : FldOk X.kf c f) (hb : attributeBase e f X.env (eval e X.env) = eval e X.env := by rfl) : ZQ X xc W (.Attribute e f pos) (cqF c f cq) :=
  PE.imp (pe_fld h hb) fun σ H Q ⟨Γ, B, ρ, rep, k⟩ => tzq_bq rep k fun v B1 H1 t ρ1 e1 r1 q1 k1 => by
    cases t with
    | «at» i p =>
      unfold qf at k1
      simp only at k1
      split at k1
      · rename_i c' fs hp
        cases ec : (c' == c) with
        | false => rw [ec] at k1; exact k1.elim
        | true =>
          rw [ec, cond_true] at k1
          have ec' := eq_of_beq ec
          subst ec'
          obtain ⟨a, vs, w, rfl, ⟨C, dx, hC, ho⟩, hl, _, hq⟩ := sub_place r1 hp q1 k1
          exact ⟨a, C, dx, vs, w, rfl, ho, (hf C hC).1, (hf C hC).2, hl, hq⟩
      · exact k1.elim
    | dat d =>
      unfold qf at k1
      split at k1
      · rename_i i p hd
        cases hd
      · rename_i c' ds hd
        injection hd with hd
        subst hd
        cases ec : (c' == c) with
        | false => rw [ec] at k1; exact k1.elim
        | true =>
          rw [ec, cond_true] at k1
          have ec' := eq_of_beq ec
          subst ec'
          obtain ⟨a, C, dx, vs, rfl, ho, hC, hF⟩ := dp_obj q1
          cases hg : fGet ds f with
          | none => rw [hg] at k1; exact k1.elim
          | some d =>
            rw [hg] at k1
            obtain ⟨w, g1, g2⟩ := (fGet_of hF).1 d hg
            exact ⟨a, C, dx, vs, w, rfl, r1.bh _ _ ho, (hf C hC).1, (hf C hC).2, g1, k1 w B1 H1 (Ex.refl _) r1 g2⟩
      · exact k1.elim
end
end Z
set_option maxHeartbeats 2000000
/-! Z: exceptions, classes, methods. -/
namespace Z
open PySem PySem.Spec PyProof.Rows L2
open Evl (Ex ex_l ex_t ex_rd)
/-! ### raise -/
def cRaise (x : Str) : CS := fun ρ => .exc x ρ
/-- an exception class of the text's own: xc tells its class -/
def ExcC (K : PySem.W.Frag) (mg : Str → Option Value) (xc : Str → Value) (x : Str) : Prop := ∃ C : Addr, xc x = .ref C ∧ mg x = some (.ref C) ∧
  PySem.W.excIn K C [.type "ValueError", .type "Exception", .type "BaseException", .type "object"] "ValueError.__new__" = true ∧ PySem.W.keepIn K (.ref C) = true ∧ PySem.W.subIn K (.ref C) (.type "BaseException") = some true ∧ PySem.W.typeIn K (.ref C) = some (.type "type")
section
variable {X : Cx} {xc : Str → Value} {W : Ww}
theorem zs_raise {x m : Str} {j : Nat} {p p2 pos pos' : Pos} (h : ExcC X.K X.mg xc x) (tk : Takes X W.W) (hc : X.calm = true := by rfl) (hg : Gl X x := by rfl) (hdb : (x == ("__debug__" : Str)) = false := by decide) :
    ZS X xc W (.Raise (some (.Call (.Name x p) [.Constant (.str m) j p2] [] pos)) none pos') (cRaise x) := by
  obtain ⟨C, e, gC, q, kC, s1, s2⟩ := h
  refine PS.imp (ps_raise hc tk (pmk_own PySem.F.excBase_ValueError q gC kC (raises_own s1 s2) hg hdb)) fun D σ H ⟨Γ, B, ρ, rep, k⟩ => ?_
  have k' : W.W (xc x) none σ H := k B σ H rep
  rw [e] at k'
  exact k'
end
/-! ### calls of methods, of classes: the wish of exceptions stands at the caller's slots -/
section
variable {X : Cx} {k : Nat} {f C : Addr} {fd : FuncData} {ps : List Str} {sp : Sp} {E : L2.St → XK} {x m : Str} {p pos apos : Pos} {o e : Expr} {es : List Expr} {ta : TE} {t : TA}
def tMe (C : Addr) (m : Str) (sp : Sp) (E : L2.St → XK) (ta : TE) (t : TA) : TE := fun σ H Q => ta σ H fun x H1 => ∃ a dx fs, x = .ref a ∧ H1 a = some (.ins C dx fs) ∧ fs.lookup m = none ∧ t σ H1 fun vs H2 => sp (x :: vs) H2 Q (E σ)
theorem pe_me {pl : Sem Bool} (he : PE X o ta) (c : Cls X.K C) (hm : Meth X.K C m f) (F : FnOk X.prog X.w X.K X.mg X.base (L2.CX X.prog X.w) k f fd ps sp) (hr : Room k X.A) (hb : Binds X.K fd ps []) (hx : ∀ σ, PassesAt (L2.CX X.prog X.w) X σ (E σ)) (ha : PA X (e :: es) t)
    (hst : starEach (e :: es) X.env = (false, eval e X.env) :: starEach es X.env := by rfl) (hpl : (backTo pos (starEach es X.env)).any (·.1) = false := by rfl)
    (ht : eval (.Call (.Attribute o m apos) (e :: es) [] pos) X.env = (do
      let ov ← eval o X.env
      standAt apos.atName
      let (f, first) ← holding [ov] (getMethod ov m pl)
      callWith pos f first (backTo pos (starEach (e :: es) X.env)) (backToKw pos (keywordEach [] X.env))) := by rfl) : PE X (.Call (.Attribute o m apos) (e :: es) [] pos) (tMe C m sp E ta t) := by
  constructor
  intro pins s σ H Q I h
  refine PySem.W.methodCall_KW (pl := pl) (thn (he.run pins s σ H _ I h) ?_) ht
  rintro u s1 ⟨y, H1, I1, ry, a, dx, fs, ey, ha1, hl, q⟩
  subst ey
  have eu : u = Value.ref a := ry
  subst eu
  apply getmeth_ok I1 ha1 c hm hl
  refine PySem.W.callWith_K (first := [.ref a]) (h₀ := X.base) I1.ok.mod.kin hm.kp (thn (ha.run pos pins s1 σ H1 _ I1 q) ?_) hst hpl
  rintro us s2 ⟨vs, H2, I2, rv, q2⟩
  exact ⟨I2.kIn, run_fnS (us := Value.ref a :: us) (vs := V.ref a :: vs) F hr hb (hx σ) I2 (.cons rfl rv) q2⟩
theorem pe_me0 {pl : Sem Bool} (he : PE X o ta) (c : Cls X.K C) (hm : Meth X.K C m f) (F : FnOk X.prog X.w X.K X.mg X.base (L2.CX X.prog X.w) k f fd ps sp) (hr : Room k X.A) (hb : Binds X.K fd ps []) (hx : ∀ σ, PassesAt (L2.CX X.prog X.w) X σ (E σ))
    (ht : eval (.Call (.Attribute o m apos) [] [] pos) X.env = (do
      let ov ← eval o X.env
      standAt apos.atName
      let (f, first) ← holding [ov] (getMethod ov m pl)
      callWith pos f first (backTo pos (starEach [] X.env)) (backToKw pos (keywordEach [] X.env))) := by rfl) : PE X (.Call (.Attribute o m apos) [] [] pos) (tMe C m sp E ta tNil) := by
  constructor
  intro pins s σ H Q I h
  refine PySem.W.methodCall_KW (pl := pl) (thn (he.run pins s σ H _ I h) ?_) ht
  rintro u s1 ⟨y, H1, I1, ry, a, dx, fs, ey, ha1, hl, q⟩
  subst ey
  have eu : u = Value.ref a := ry
  subst eu
  apply getmeth_ok I1 ha1 c hm hl
  exact PySem.W.callWith_K0 (first := [.ref a]) I1.kIn hm.kp (run_fnS (us := [Value.ref a]) (vs := [V.ref a]) F hr hb (hx σ) I1 (.cons rfl .nil) q)
def tNew (C : Addr) (sp : Sp) (E : L2.St → XK) (t : TA) : TE := fun σ H Q => t σ H fun vs H1 => ∀ y dx, H1 y = none → H1 dx = none → dx ≠ y →
  sp (.ref y :: vs) (upd (upd H1 dx (.own y)) y (.ins C dx [])) (fun v H2 => v = .non ∧ Q (.ref y) H2) (E σ)
theorem run_new {pins : List (Addr × Obj)} {σ : L2.St} {H : Hp} {s : Shared} {Q : VK} {us : List Value} {vs : List V} (M : Mk X.K C f) (F : FnOk X.prog X.w X.K X.mg X.base (L2.CX X.prog X.w) k f fd ps sp) (hr : Room (k + 1) X.A) (hb : Binds X.K fd ps []) (hx : PassesAt (L2.CX X.prog X.w) X σ (E σ)) (I : Inv X pins σ H s) (rv : Vals vs us)
    (h : ∀ y dx, H y = none → H dx = none → dx ≠ y → sp (.ref y :: vs) (upd (upd H dx (.own y)) y (.ins C dx [])) (fun v H2 => v = .non ∧ Q (.ref y) H2) (E σ)) : wpAny (model X.prog X.w) X.A (call (.ref C) us) (EP X pins σ Q) X.xe s := by
  generalize hn : s.heap.objs.size = n at *
  have f1 : H n = none := I.hok.fresh (Nat.le_of_eq hn)
  have f2 : H (n + 1) = none := I.hok.fresh (by omega)
  have hq := h (n + 1) n f2 f1 (Nat.ne_of_lt (Nat.lt_succ_self _))
  have I2 := Inv.made (C := C) I
  rw [hn] at I2
  have r2 : Vals (V.ref (n + 1) :: vs) (Value.ref (n + 1) :: us) := .cons rfl rv
  have hl : (Value.ref (n + 1) :: us).length = ps.length := by
    have := r2.length
    rw [F.len _ _ _ _ hq] at this
    exact this.symm
  have hl2 : ((Value.ref (n + 1) :: us) ++ []).length = ps.length := by rw [List.append_nil]; exact hl
  have bd := hb _ (Value.ref (n + 1) :: us) I2.kIn hl2
  rw [List.append_nil] at bd
  have go := F.run _ X.stack _ _ ⟨Value.ref (n + 1) :: us, []⟩ (Value.ref (n + 1) :: us) _ _ (E σ) (hr.make C us []) (I2.env0.make C us []) bd r2 hq
  refine wpAny_call (make_map (f := f) I.kIn M.makes M.init (beq_iff_eq.mp M.fn) ?_)
  rw [hn]
  refine codeAny_mono go fun r s' hq' => ?_
  cases r with
  | error e' => exact hx pins _ _ e' s' I2 hq'
  | ok fl =>
    cases fl with
    | ret u =>
      obtain ⟨v, H', I3, rv', ev, q3⟩ := I2.after hq'
      subst ev
      exact ⟨rv', V.ref (n + 1), H', I3, rfl, q3⟩
    | next => exact hq'.elim
    | brk => exact hq'.elim
    | cont => exact hq'.elim
theorem pe_new (M : Mk X.K C f) (F : FnOk X.prog X.w X.K X.mg X.base (L2.CX X.prog X.w) k f fd ps sp) (hr : Room (k + 1) X.A) (hg : Gl X x) (hm : X.mg x = some (.ref C)) (hb : Binds X.K fd ps []) (hx : ∀ σ, PassesAt (L2.CX X.prog X.w) X σ (E σ)) (ha : PA X (e :: es) t)
    (hdb : (x == ("__debug__" : Str)) = false := by decide) (he : starEach (e :: es) X.env = (false, eval e X.env) :: starEach es X.env := by rfl) (hpl : (backTo pos (starEach es X.env)).any (·.1) = false := by rfl) : PE X (.Call (.Name x p) (e :: es) [] pos) (tNew C sp E t) := by
  constructor
  intro pins s σ H Q I h
  refine wpAny_Call_Name_kw (ld_glob I hg hm ?_ hdb)
  refine PySem.W.callWith_K (h₀ := X.base) I.ok.mod.kin M.kp (thn (ha.run pos pins s σ H _ I h) ?_) he hpl
  rintro us s1 ⟨vs, H1, I1, rv, q⟩
  exact ⟨I1.kIn, run_new M F hr hb (hx σ) I1 rv q⟩
end
/-! ### methods by name -/
/-- the class's method of that name keeps the promise of F -/
def HasM (P : Program) (w : World) (K : PySem.W.Frag) (mg : Str → Option Value) (base : Heap) (xc : Str → Value) (c m : Str) (k n : Nat) (ps : List Str) (F : Fn) : Prop :=
  ∃ (C f : Addr) (fd : FuncData), ClsAt ⟨K, P, w⟩ c C ∧ Cls K C ∧ Meth K C m f ∧ FnOk P w K mg base (L2.CX P w) k f fd ps (spZ ⟨K, P, w⟩ xc n F) ∧ Binds K fd ps []
/-- the class is made by an __init__ that keeps the promise of F -/
def HasC (P : Program) (w : World) (K : PySem.W.Frag) (mg : Str → Option Value) (base : Heap) (xc : Str → Value) (c : Str) (k n : Nat) (ps : List Str) (F : Fn) : Prop :=
  ∃ (C f : Addr) (fd : FuncData), ClsAt ⟨K, P, w⟩ c C ∧ mg c = some (.ref C) ∧ Mk K C f ∧ FnOk P w K mg base (L2.CX P w) k f fd ps (spZ ⟨K, P, w⟩ xc n F) ∧ Binds K fd ps []
/-- an object of the class, without an attribute of that name -/
def isOb (c m : Str) : Option (Option S) → Bool
  | some (some (.obj (some c') fs)) => c' == c && (fs.get m).isNone
  | some (some (.dat (.dict ((.none, .str c') :: ds)))) => c' == c && (fGet ds m).isNone
  | _ => false
theorem obj_dat {K : KF} {B : Hp} {C : Addr} {v : V} {c m c' : Str} {ds : List (PyData × PyData)} (hC : ClsAt K c C) (h : Dp K B v (.dict ((.none, .str c') :: ds))) (h2 : (c' == c && (fGet ds m).isNone) = true) : ∃ a dx fs, v = .ref a ∧ B a = some (.ins C dx fs) ∧ fs.lookup m = none := by
  obtain ⟨e1, e2⟩ := Bool.and_eq_true_iff.mp h2
  have e1 := eq_of_beq e1
  subst e1
  obtain ⟨a, C', dx, vs, rfl, h1, hc, hf⟩ := dp_obj h
  have eC := ClsAt.inj hc hC
  subst eC
  exact ⟨a, dx, vs, rfl, h1, (fGet_of hf).2 (Option.isNone_iff_eq_none.mp e2)⟩
theorem obj_own {K : KF} {F : Fx} {B H : Hp} {C : Addr} {v : V} {A : List Addr} {c m c' : Str} {fs : Fs} (hC : ClsAt K c C) (h : SA K F B H (.obj (some c') fs) v A) (h2 : (c' == c && (fs.get m).isNone) = true) : ∃ a dx vs, v = .ref a ∧ H a = some (.ins C dx vs) ∧ vs.lookup m = none := by
  obtain ⟨e1, e2⟩ := Bool.and_eq_true_iff.mp h2
  have e1 := eq_of_beq e1
  subst e1
  obtain ⟨a, vs, A', rfl, _, _, _, ⟨C', dx, hc, h1⟩, hf⟩ := h
  have eC := ClsAt.inj hc hC
  subst eC
  exact ⟨a, dx, vs, rfl, h1, SF.lookup_none hf (Option.isNone_iff_eq_none.mp e2)⟩
theorem isOb_at {K : KF} {J : List Nat} {Γ : Fm J} {B : Hp} {ρ : En} {σ : L2.St} {H : Hp} {C : Addr} {i : Nat} {c m : Str} (rep : Rep K Γ B ρ σ H) (hC : ClsAt K c C) (h : isOb c m (ρ[i]?) = true) : ∃ s a dx fs, ρ[i]? = some (some s) ∧ σ[i]? = some (some (.ref a)) ∧ H a = some (.ins C dx fs) ∧ fs.lookup m = none := by
  unfold isOb at h
  split at h
  · rename_i c' fs hi
    obtain ⟨v, A, h1, h2⟩ := rep.at_ i _ hi
    obtain ⟨a, dx, vs, rfl, k1, k2⟩ := obj_own hC h2 h
    exact ⟨_, a, dx, vs, hi, h1, k1, k2⟩
  · rename_i c' ds hi
    obtain ⟨v, A, h1, h2⟩ := rep.at_ i _ hi
    obtain ⟨a, dx, vs, rfl, k1, k2⟩ := obj_dat hC h2.2 h
    exact ⟨_, a, dx, vs, hi, h1, rep.bh _ _ k1, k2⟩
  · cases h
section
variable {X : Cx} {xc : Str → Value} {W : Ww} {o e : Expr} {es : List Expr} {pos apos p : Pos} {cx : CX'} {cas : CA} {j k n : Nat} {ps : List Str} {F : Fn} {c m : Str}
theorem hu128 {A : Around} (hr : Room k A) : A.units + 64 < cLine := hu64 hr
/-- what a call is handed, and its outcome -/
theorem tz_handed {K : KF} {Γ : Fm W.J} {B : Hp} {ρ ρ1 : En} {σ : L2.St} {H : Hp} {Q : VK} {v : V} {i : Nat} {as : List Ar} (rep : Rep K Γ B ρ1 σ H) {vs : List V} (hv : σ[i]? = some (some v)) (q1 : ArsAt K B σ vs as) (hn : as.length + 1 = n)
    (h : outZ K xc W Γ B σ Q (kc2 (ssOf ρ1 (.s i [] :: as)) F (.s i [] :: as) ρ1)) : spZ K xc n F (v :: vs) H Q (WE W.W σ) := by
  cases hs : ssOf ρ1 (.s i [] :: as) with
  | none => rw [hs] at h; exact h.elim
  | some ss =>
    rw [hs, kc2_0] at h
    cases hd : dist (slotsOf (.s i [] :: as)) with
    | false => rw [hd] at h; exact h.elim
    | true =>
      rw [hd, cond_true] at h
      obtain ⟨ht, AA, hv'⟩ := hand_of (vs := v :: vs) (as := .s i [] :: as) rep (.cons ⟨rfl, hv⟩ q1) hs
      exact spz_call (J := W.J) rep hv' hd (by omega) (by simpa using hn) h
/-- name.m(..) -/
def cMeth (c m : Str) (F : Fn) (i : Nat) (cx : CX') : CE := fun ρ => bif isOb c m (ρ[i]?) then cCall F (cxS i cx) ρ else .bad
theorem tz_meth {K : KF} {Γ : Fm W.J} {B : Hp} {ρ : En} {σ : L2.St} {H : Hp} {Q : VK} {v : V} {i : Nat} {s : S} (rep : Rep K Γ B ρ σ H) (hi : ρ[i]? = some (some s)) (hv : σ[i]? = some (some v)) (hl : CX'.Len cx n) (h : outZ K xc W Γ B σ Q (cCall F (cxS i cx) ρ)) :
    tZX K xc W cx σ H fun vs H1 => spZ K xc (n + 1) F (v :: vs) H1 Q (WE W.W σ) := by
  refine ⟨Γ, B, ρ, rep, ?_⟩
  rw [cCall_r, cxS_r, hi, kxs_0] at h
  cases hc : cx ρ with
  | exc x ρ1 => rw [hc] at h; exact h
  | bad => rw [hc] at h; exact h
  | ok as ρ1 =>
    rw [hc, kxb_0, kc1_0] at h
    intro vs B1 H1 e1 r1 q1
    exact tz_handed (ρ := ρ) r1 hv q1 (by rw [hl hc]) (outZ_mono e1 h)
theorem ze_meth {i : Nat} (G : HasM X.prog X.w X.K X.mg X.base xc c m j (n + 1) ps F) (hr : Room k X.A) (tk : Takes X W.W) (ho : PE X o (tVar i)) (ha : ZX X xc W (e :: es) cx) (hl : CX'.Len cx n) (hjk : j ≤ k := by first | decide | omega)
    (hst : starEach (e :: es) X.env = (false, eval e X.env) :: starEach es X.env := by rfl) (hpl : (backTo pos (starEach es X.env)).any (·.1) = false := by rfl) {pl : Sem Bool}
    (ht : eval (.Call (.Attribute o m apos) (e :: es) [] pos) X.env = (do
      let ov ← eval o X.env
      standAt apos.atName
      let (f, first) ← holding [ov] (getMethod ov m pl)
      callWith pos f first (backTo pos (starEach (e :: es) X.env)) (backToKw pos (keywordEach [] X.env))) := by rfl) : ZE X xc W (.Call (.Attribute o m apos) (e :: es) [] pos) (cMeth c m F i cx) := by
  obtain ⟨C, f, fd, hC, cl, me, fo, hb⟩ := G
  refine PE.imp (pe_me ho cl me fo (hr.mono hjk) hb (fun σ => passAt tk σ) ha hst hpl ht) fun σ H Q ⟨Γ, B, ρ, rep, k⟩ => ?_
  unfold cMeth at k
  cases hi : isOb c m (ρ[i]?) with
  | false => rw [hi] at k; exact k.elim
  | true =>
    rw [hi, cond_true] at k
    obtain ⟨s, a, dx, fs, h1, h2, h3, h4⟩ := isOb_at (K := X.kf) rep hC hi
    exact ⟨.ref a, h2, a, dx, fs, rfl, h3, h4, tz_meth rep h1 h2 hl k⟩
theorem ze_meth0 {i : Nat} (G : HasM X.prog X.w X.K X.mg X.base xc c m j 1 ps F) (hr : Room k X.A) (tk : Takes X W.W) (ho : PE X o (tVar i)) (hjk : j ≤ k := by first | decide | omega) {pl : Sem Bool}
    (ht : eval (.Call (.Attribute o m apos) [] [] pos) X.env = (do
      let ov ← eval o X.env
      standAt apos.atName
      let (f, first) ← holding [ov] (getMethod ov m pl)
      callWith pos f first (backTo pos (starEach [] X.env)) (backToKw pos (keywordEach [] X.env))) := by rfl) : ZE X xc W (.Call (.Attribute o m apos) [] [] pos) (cMeth c m F i cxNil) := by
  obtain ⟨C, f, fd, hC, cl, me, fo, hb⟩ := G
  refine PE.imp (pe_me0 ho cl me fo (hr.mono hjk) hb (fun σ => passAt tk σ) ht) fun σ H Q ⟨Γ, B, ρ, rep, k⟩ => ?_
  unfold cMeth at k
  cases hi : isOb c m (ρ[i]?) with
  | false => rw [hi] at k; exact k.elim
  | true =>
    rw [hi, cond_true] at k
    obtain ⟨s, a, dx, fs, h1, h2, h3, h4⟩ := isOb_at (K := X.kf) rep hC hi
    have := (zx_nil (X := X) (xc := xc) (W := W))
    refine ⟨.ref a, h2, a, dx, fs, rfl, h3, h4, ?_⟩
    show spZ X.kf xc 1 F [.ref a] H Q (WE W.W σ)
    rw [cCall_r, cxS_r, h1, kxs_0, cxNil_r, kxb_0, kc1_0] at k
    exact tz_handed (ρ := ρ) (n := 1) rep h2 .nil rfl k
/-- C(..) -/
def cNew (c : Str) (F : Fn) (cx : CX') : CE := fun ρ => match cx ρ with
  | .ok as ρ1 => match ssOf ρ1 as with
    | some ss => bif dist (slotsOf as) then (match F (.obj (some c) .nil :: ss) with
      | .ok (.dat .none) (s0 :: ss') => bif s0.nh then .ok s0 (putBack ρ1 as ss') else .bad
      | .exc x (_ :: ss') => .exc x (putBack ρ1 as ss')
      | _ => .bad) else .bad
    | none => .bad
  | .exc x ρ1 => .exc x ρ1
  | .bad => .bad
theorem tz_new {K : KF} {Γ : Fm W.J} {B : Hp} {ρ1 : En} {σ : L2.St} {H : Hp} {Q : VK} {C : Addr} {as : List Ar} {vs : List V} {ss : List S} (rep : Rep K Γ B ρ1 σ H) (hC : ClsAt K c C) (q1 : ArsAt K B σ vs as) (hn : as.length = n) (hs : ssOf ρ1 as = some ss) (hd : dist (slotsOf as) = true)
    (h : outZ K xc W Γ B σ Q (match F (.obj (some c) .nil :: ss) with
      | .ok (.dat .none) (s0 :: ss') => bif s0.nh then .ok s0 (putBack ρ1 as ss') else .bad
      | .exc x (_ :: ss') => .exc x (putBack ρ1 as ss')
      | _ => .bad)) {y dx : Addr} (hy : H y = none) (hdx : H dx = none) (ne : dx ≠ y) :
    spZ K xc (n + 1) F (.ref y :: vs) (upd (upd H dx (.own y)) y (.ins C dx [])) (fun v H2 => v = .non ∧ Q (.ref y) H2) (WE W.W σ) := by
  obtain ⟨r1, _, _⟩ := rep.newX (o := .own y) hdx
  have hy1 : upd H dx (.own y) y = none := by rw [upd_ne ne.symm]; exact hy
  obtain ⟨r2, ow, sr⟩ := r1.newX (o := .ins C dx []) hy1
  have s0 : SA K Γ.X B (upd (upd H dx (.own y)) y (.ins C dx [])) (.obj (some c) .nil) (.ref y) [y] := ⟨y, [], [], rfl, rfl, by simp, ow, ⟨C, dx, hC, upd_same⟩, rfl, rfl⟩
  obtain ⟨_, A, z1, z2⟩ := sr (.obj (some c) .nil) rfl s0
  obtain ⟨ht, AA, hv⟩ := hand_of r2 q1 hs
  have hv' : Hand Γ B ρ1 σ (upd (upd H dx (.own y)) y (.ins C dx [])) K (.ref y :: vs) (.t (.obj (some c) .nil) :: as) (.obj (some c) .nil :: ss) (A :: AA) := .cons ⟨rfl, z1, z2⟩ hv
  have hd' : dist (slotsOf (.t (.obj (some c) .nil) :: as)) = true := hd
  have ht' : tmps (.t (.obj (some c) .nil) :: as) ≤ 1 := by show tmps as + 1 ≤ 1; omega
  refine ⟨by rw [hv'.get.1, List.length_cons, hn], FmCall Γ B ρ1 σ _ K (A :: AA), B, _, r2.enter hv' hd' ht', ?_⟩
  cases hF : F (.obj (some c) .nil :: ss) with
  | bad => rw [hF] at h; exact h.elim
  | exc x ss' =>
    rw [hF] at h
    cases ss' with
    | nil => exact h.elim
    | cons t0 ss' =>
      intro B2 H2 e2 q2
      obtain ⟨r3, _, _⟩ := r2.back hv' hd' e2 q2
      exact h B2 H2 e2 r3
  | ok s ss' =>
    rw [hF] at h
    cases s with
    | lst l | dic l | obj c fs | hole => exact h.elim
    | dat d =>
      cases d with
      | bool _ | int _ | str _ | list _ | tuple _ | dict _ => exact h.elim
      | none =>
        cases ss' with
        | nil => exact h.elim
        | cons t0 ss' =>
          cases hz : t0.nh with
          | false =>
            have h' : outZ K xc W Γ B σ Q (bif t0.nh then .ok t0 (putBack ρ1 as ss') else .bad) := h
            rw [hz] at h'
            exact h'.elim
          | true =>
            have h' : outZ K xc W Γ B σ Q (bif t0.nh then .ok t0 (putBack ρ1 as ss') else .bad) := h
            rw [hz, cond_true] at h'
            intro v B2 H2 e2 q2 sv
            obtain ⟨r3, _, tt⟩ := r2.back hv' hd' e2 q2
            refine ⟨dp_none sv.dp, h' _ B2 H2 e2 r3 ?_⟩
            exact ⟨hz, tt (k := 0) rfl rfl rfl⟩
theorem ze_new {x : Str} (G : HasC X.prog X.w X.K X.mg X.base xc x j (n + 1) ps F) (hr : Room k X.A) (tk : Takes X W.W) (ha : ZX X xc W (e :: es) cx) (hl : CX'.Len cx n) (hjk : j + 1 ≤ k := by first | decide | omega) (hg : Gl X x := by rfl) (hdb : (x == ("__debug__" : Str)) = false := by decide)
    (he : starEach (e :: es) X.env = (false, eval e X.env) :: starEach es X.env := by rfl) (hpl : (backTo pos (starEach es X.env)).any (·.1) = false := by rfl) : ZE X xc W (.Call (.Name x p) (e :: es) [] pos) (cNew x F cx) := by
  obtain ⟨C, f, fd, hC, hm, mk, fo, hb⟩ := G
  refine PE.imp (pe_new mk fo (hr.mono hjk) hg hm hb (fun σ => passAt tk σ) ha hdb he hpl) fun σ H Q ⟨Γ, B, ρ, rep, k⟩ => ?_
  refine ⟨Γ, B, ρ, rep, ?_⟩
  unfold cNew at k
  cases hc : cx ρ with
  | exc x ρ1 => rw [hc] at k; exact k
  | bad => rw [hc] at k; exact k
  | ok as ρ1 =>
    rw [hc] at k
    simp only at k
    intro vs B1 H1 e1 r1 q1 y dx hy hdx ne
    cases hs : ssOf ρ1 as with
    | none => rw [hs] at k; exact k.elim
    | some ss =>
      rw [hs] at k
      simp only at k
      cases hd : dist (slotsOf as) with
      | false => rw [hd] at k; exact k.elim
      | true =>
        rw [hd, cond_true] at k
        exact tz_new r1 hC q1 (hl hc) hs hd (outZ_mono e1 k) hy hdx ne
end
end Z
set_option maxHeartbeats 2000000
/-! Z: what is read and written at places; dicts. -/
namespace Z
open PySem PySem.Spec PyProof.Rows L2
open Evl (Ex ex_l ex_t ex_rd)
/-! ### read in place -/
/-- data, or a list or dict of one's own, seen as data -/
def PkD (K : KF) (B H : Hp) (v : V) (d : PyData) : Prop := Dp K B v d ∨ (∃ l a xs, d = .list l ∧ v = .ref a ∧ H a = some (.lst xs) ∧ DpAll K B xs l) ∨ ∃ l a, d = .dict l ∧ v = .ref a ∧ DicAt K B H a l
def thd (ρ : En) : Th → Option PyData
  | .dat d => some d
  | .at i p => match plc ρ i p with
    | some (.lst l) => some (.list l)
    | some (.dic l) => some (.dict l)
    | _ => none
section
variable {K : KF} {J : List Nat} {Γ : Fm J} {B B' : Hp} {ρ : En} {σ : L2.St} {H H' : Hp} {v : V} {d : PyData}
theorem thd_pk {t : Th} (rep : Rep K Γ B ρ σ H) (h : ThAt K B σ H v t) (e : thd ρ t = some d) : PkD K B H v d := by
  cases t with
  | dat d' =>
    cases e
    exact .inl h
  | «at» i p =>
    unfold thd at e
    simp only at e
    split at e
    · rename_i l hp
      cases e
      obtain ⟨A1, ⟨a, xs, rfl, _, _, h2, h3⟩, _⟩ := rep.place hp h
      exact .inr (.inl ⟨l, a, xs, rfl, rfl, h2, h3⟩)
    · rename_i l hp
      cases e
      obtain ⟨A1, ⟨a, rfl, _, _, h2⟩, _⟩ := rep.place hp h
      exact .inr (.inr ⟨l, a, rfl, rfl, h2⟩)
    · cases e
theorem PkD.list {l : List PyData} (rep : Rep K Γ B ρ σ H) (h : PkD K B H v (.list l)) : ∃ a xs, v = .ref a ∧ SqL K H a xs ∧ DpAll K B xs l := by
  rcases h with h | ⟨l', a, xs, e, rfl, h1, h2⟩ | ⟨l', a, e, _⟩
  · obtain ⟨a, xs, rfl, h1, h2⟩ := dp_list h
    exact ⟨a, xs, rfl, ex_l rep.bh h1, h2⟩
  · cases e
    exact ⟨a, xs, rfl, .inl (.inl h1), h2⟩
  · cases e
theorem PkD.dp (h : PkD K B H v d) (n1 : ∀ l, d ≠ .list l) (n2 : ∀ l, d ≠ .dict l) : Dp K B v d := by
  rcases h with h | ⟨l', a, xs, e, _⟩ | ⟨l', a, e, _⟩
  · exact h
  · exact absurd e (n1 _)
  · exact absurd e (n2 _)
/-- all keys of one sort -/
def dOk (l : List (PyData × PyData)) : Bool := (l.all fun p => isK p.1) || l.all fun p => isN p.1
theorem dOk_of {k : PyData} {l : List (PyData × PyData)} (h : kOk l k = true) : dOk l = true := by
  unfold kOk at h
  unfold dOk
  cases hk : isK k with
  | true => rw [hk, cond_true] at h; rw [h, Bool.true_or]
  | false =>
    rw [hk, cond_false] at h
    rw [(Bool.and_eq_true_iff.mp h).2, Bool.or_true]
theorem PkD.dict {l : List (PyData × PyData)} (rep : Rep K Γ B ρ σ H) (h : PkD K B H v (.dict l)) (ok : dOk l = true) : ∃ a, v = .ref a ∧ DicR K B H a l := by
  rcases h with h | ⟨l', a, xs, e, _⟩ | ⟨l', a, e, rfl, h⟩
  · obtain ⟨a, rfl, ⟨kvs, h1, h2⟩ | ⟨L, h1, h2, h0⟩ | ⟨C, dx, c, vs, es, rfl, _⟩⟩ := dp_dict h
    · exact ⟨a, rfl, .inl ⟨kvs, rd_ex rep.bh h1, h2⟩⟩
    · exact ⟨a, rfl, .inr ⟨L, rep.bh _ _ h1, h2, h0⟩⟩
    · exfalso
      unfold dOk at ok
      simp [isK, keyOf, isN, nkOf] at ok
  · cases e
  · cases e
    exact ⟨a, rfl, h.r⟩
/-- seen with all of the heap as data -/
theorem PkD.now (rep : Rep K Γ B ρ σ H) (h : PkD K B H v d) : Dp K H v d := by
  rcases h with h | ⟨l', a, xs, rfl, rfl, h1, h2⟩ | ⟨l', a, rfl, rfl, ⟨kvs, h1, h2⟩ | ⟨L, h1, h2, h0⟩⟩
  · exact dp_mono rep.bh h
  · exact .lst (.inl (.inl h1)) (dpAll_mono rep.bh h2)
  · exact .dic (.inl h1) (dpKV_mono rep.bh h2)
  · exact .dit h1 h0 (dpKN_mono rep.bh h2)
/-- all slots forgotten, all of the heap data -/
theorem Rep.bare (rep : Rep K Γ B ρ σ H) : Rep K (⟨fun _ => none, H, Γ.io, Γ.hv⟩ : Fm J) H (List.replicate ρ.length none) σ H := by
  have no : ∀ {i : Nat} {s : S}, (List.replicate ρ.length (none : Option S))[i]? = some (some s) → False := fun {i s} h => by
    rw [List.getElem?_replicate] at h
    split at h <;> cases h
  exact ⟨Ex.refl H, (fun a o h => nomatch h), (fun a o h => nomatch h), Ex.refl H, by rw [List.length_replicate]; exact rep.len, (fun i s h => (no h).elim), (fun i j s t v u A C _ h => (no h).elim), rep.iot⟩
theorem Rep.grown (rep : Rep K Γ B ρ σ H) (e : Ex H H') : Rep K Γ B ρ σ H' := by
  refine (rep.frame (Ex.refl B) (rep.bh.trans e) (rep.fh.trans e) rep.fb fun i s v A _ _ h3 a ha => ?_).1
  obtain ⟨h1, _, o, h2⟩ := SA.own h3 a ha
  exact ⟨h1, by rw [e _ _ h2, h2]⟩
/-- a value that needs no place -/
def scal : PyData → Option V
  | .none => some .non
  | .bool b => some (.bl b)
  | .int i => some (.int i)
  | .str x => some (.str x)
  | _ => none
theorem scal_dp {c : PyData} {u : V} (h : scal c = some u) : (∀ B, Dp K B u c) ∧ ∀ {B v}, Dp K B v c → v = u := by
  cases c with
  | none => cases h; exact ⟨fun _ => .non, fun h => dp_none h⟩
  | bool b => cases h; exact ⟨fun _ => .bl b, fun h => dp_bool h⟩
  | int b => cases h; exact ⟨fun _ => .int b, fun h => dp_int h⟩
  | str b => cases h; exact ⟨fun _ => .str b, fun h => dp_str h⟩
  | list _ | tuple _ | dict _ => cases h
theorem op2_read {r : R2} {g : PyData → PyData → Option S} (hr : Op2 K r g) (rep : Rep K Γ B ρ σ H) {x y : V} {d e c : PyData} {u : V} {Q : VK} (hx : Dp K H x d) (hy : Dp K H y e) (hg : g d e = some (.dat c)) (hc : scal c = some u) (k : ∀ H', Ex H H' → Rep K Γ B ρ σ H' → Q u H') : r x y H Q := by
  refine hr J _ H _ σ H x y d e _ Q rep.bare hx hy hg fun v B' H' e1 r1 q1 => ?_
  have ev := (scal_dp (K := K) hc).2 q1.dp
  subst ev
  have eH : Ex H H' := e1.trans r1.bh
  exact k H' eH (rep.grown eH)
end
section
variable {X : Cx} {xc : Str → Value} {W : Ww} {a b e ix o : Expr} {es : List Expr} {pos p p2 tpos : Pos} {ca cb ci : CE} {cq : CQ}
/-! a comparison with a place on the right -/
def gInZ (neg : Bool) (d : PyData) : PyData → Option S
  | .dict l => bif kOk l d then some (.dat (.bool (neg != (dGet l d).isSome))) else none
  | e => bif neg then gNotIn d e else gIn d e
def scalS : Option S → Option (PyData × V)
  | some (.dat c) => match scal c with
    | some u => some (c, u)
    | none => none
  | _ => none
def qc (g : PyData → PyData → Option S) (d : PyData) (t : Th) (ρ : En) : R := match thd ρ t with
  | some e => match scalS (g d e) with
    | some c => .ok (.dat c.1) ρ
    | none => .bad
  | none => .bad
/-- a in place -/
def cQ2 (g : PyData → PyData → Option S) (ca : CE) (cq : CQ) : CE := fun ρ => (ca ρ).bd fun d ρ => (cq ρ).bd (qc g d)
theorem scalS_of {o : Option S} {c : PyData × V} (h : scalS o = some c) : o = some (.dat c.1) ∧ scal c.1 = some c.2 := by
  unfold scalS at h
  split at h
  · rename_i d
    split at h
    · rename_i u hu
      cases h
      exact ⟨rfl, hu⟩
    · cases h
  · cases h
theorem tz_q2 {K : KF} {r : R2} {g : PyData → PyData → Option S} (hr : ∀ (J : List Nat) (Γ : Fm J) (B : Hp) (ρ : En) (σ : L2.St) (H : Hp) x y d e c u Q, Rep K Γ B ρ σ H → Dp K B x d → PkD K B H y e → g d e = some (.dat c) → scal c = some u → (∀ H', Ex H H' → Rep K Γ B ρ σ H' → Q u H') → r x y H Q)
    {σ : L2.St} {H : Hp} {Q : VK} (h : tZ K xc W (cQ2 g ca cq) σ H Q) : tOp r (tZ K xc W ca) (tZQ K xc W cq) σ H Q := by
  obtain ⟨Γ, B, ρ, rep, k⟩ := h
  refine tz_bd rep k fun x B1 H1 d ρ1 e1 r1 q1 k1 => ?_
  refine tzq_bd r1 k1 fun y B2 H2 t ρ2 e2 r2 q2 k2 => ?_
  unfold qc at k2
  cases ht : thd ρ2 t with
  | none => rw [ht] at k2; exact k2.elim
  | some e =>
    rw [ht] at k2
    simp only at k2
    cases hs : scalS (g d e) with
    | none => rw [hs] at k2; exact k2.elim
    | some c =>
      rw [hs] at k2
      obtain ⟨h1, h2⟩ := scalS_of hs
      exact hr W.J Γ B2 ρ2 σ H2 x y d e c.1 c.2 Q r2 (dp_mono e2 q1) (thd_pk r2 q2 ht) h1 h2 fun H' eH r' => k2 c.2 B2 H' (Ex.refl _) r' (sres_dat ((scal_dp h2).1 _))
theorem op_inQ (hu : X.A.units + 65 < cLine) : OpR X (compareOp .In) (fun x y H Q => rInZ X.K x y H Q ∨ rDI false X.kf x y H Q) := OpR.or (op_inZ hu) (op_inDic (by omega))
theorem op_notInQ (hu : X.A.units + 65 < cLine) : OpR X (compareOp .NotIn) (fun x y H Q => rNotInZ X.K x y H Q ∨ rDI true X.kf x y H Q) := OpR.or (op_notInZ hu) (op_notInDic (by omega))
theorem rd_dict {K : KF} {neg : Bool} {J : List Nat} {Γ : Fm J} {B : Hp} {ρ : En} {σ : L2.St} {H : Hp} {x y : V} {d : PyData} {l : List (PyData × PyData)} {Q : VK} (rep : Rep K Γ B ρ σ H) (hx : Dp K B x d) (hy : PkD K B H y (.dict l)) (ok : kOk l d = true) (k : Q (.bl (neg != (dGet l d).isSome)) H) : rDI neg K x y H Q := by
  obtain ⟨a, rfl, h⟩ := hy.dict rep (dOk_of ok)
  exact ⟨B, a, l, d, rfl, rep.bh, h, hx, ok, k⟩
theorem oq_in {K : KF} : ∀ (J : List Nat) (Γ : Fm J) (B : Hp) (ρ : En) (σ : L2.St) (H : Hp) x y d e c u Q, Rep K Γ B ρ σ H → Dp K B x d → PkD K B H y e → gInZ false d e = some (.dat c) → scal c = some u → (∀ H', Ex H H' → Rep K Γ B ρ σ H' → Q u H') → rInZ K.K x y H Q ∨ rDI false K x y H Q := by
  intro J Γ B ρ σ H x y d e c u Q rep hx hy hg hc k
  cases e with
  | dict l =>
    obtain ⟨h1, h2⟩ := bif_some (show (bif kOk l d then some (S.dat (.bool (false != (dGet l d).isSome))) else none) = some (.dat c) from hg)
    cases h2
    cases hc
    exact .inr (rd_dict rep hx hy h1 (k H (Ex.refl _) rep))
  | none | bool _ | int _ | str _ | list _ | tuple _ => exact .inl (op2_read o_in rep (dp_mono rep.bh hx) (hy.now rep) (show gIn d _ = _ from hg) hc k)
theorem oq_notIn {K : KF} : ∀ (J : List Nat) (Γ : Fm J) (B : Hp) (ρ : En) (σ : L2.St) (H : Hp) x y d e c u Q, Rep K Γ B ρ σ H → Dp K B x d → PkD K B H y e → gInZ true d e = some (.dat c) → scal c = some u → (∀ H', Ex H H' → Rep K Γ B ρ σ H' → Q u H') → rNotInZ K.K x y H Q ∨ rDI true K x y H Q := by
  intro J Γ B ρ σ H x y d e c u Q rep hx hy hg hc k
  cases e with
  | dict l =>
    obtain ⟨h1, h2⟩ := bif_some (show (bif kOk l d then some (S.dat (.bool (true != (dGet l d).isSome))) else none) = some (.dat c) from hg)
    cases h2
    cases hc
    exact .inr (rd_dict rep hx hy h1 (k H (Ex.refl _) rep))
  | none | bool _ | int _ | str _ | list _ | tuple _ => exact .inl (op2_read o_notIn rep (dp_mono rep.bh hx) (hy.now rep) (show gNotIn d _ = _ from hg) hc k)
theorem ze_inQ (hu : X.A.units + 65 < cLine) (hm : behindInMarks .In b = false) (ha : ZE X xc W a ca) (hb : ZQ X xc W b cq) : ZE X xc W (.Compare a [.In] [b] pos) (cQ2 (gInZ false) ca cq) := PE.imp (pe_cmpR (op_inQ hu) ha hb hm) fun _ _ _ h => tz_q2 oq_in h
theorem ze_notInQ (hu : X.A.units + 65 < cLine) (hm : behindInMarks .NotIn b = false) (ha : ZE X xc W a ca) (hb : ZQ X xc W b cq) : ZE X xc W (.Compare a [.NotIn] [b] pos) (cQ2 (gInZ true) ca cq) := PE.imp (pe_cmpR (op_notInQ hu) ha hb hm) fun _ _ _ h => tz_q2 oq_notIn h
theorem zt_inQ (hu : X.A.units + 65 < cLine) (hm : behindInMarks .In b = false) (ha : ZE X xc W a ca) (hb : ZQ X xc W b cq) : ZT X xc W (.Compare a [.In] [b] pos) (cQ2 (gInZ false) ca cq) := PT.imp (pt_cmpR (op_inQ hu) ha hb hm) fun _ _ _ h => tz_q2 oq_in (tzt_of h)
theorem zt_notInQ (hu : X.A.units + 65 < cLine) (hm : behindInMarks .NotIn b = false) (ha : ZE X xc W a ca) (hb : ZQ X xc W b cq) : ZT X xc W (.Compare a [.NotIn] [b] pos) (cQ2 (gInZ true) ca cq) := PT.imp (pt_cmpR (op_notInQ hu) ha hb hm) fun _ _ _ h => tz_q2 oq_notIn (tzt_of h)
/-! place[i] -/
def gIxZ : PyData → PyData → Option S
  | .dict l, k => bif kOk l k then (dGet l k).map .dat else none
  | d, k => gIx d k
def qix (ci : CE) (t : Th) (ρ : En) : R := match cPu ci ρ with
  | .ok k => match thd ρ t with
    | some d => R.lift (gIxZ d k) ρ
    | none => .bad
  | .exc x => .exc x ρ
  | .bad => .bad
def cIxQ (cq : CQ) (ci : CE) : CE := fun ρ => (cq ρ).bd (qix ci)
theorem ze_ixQ (hu : X.A.units + 64 < cLine) (ha : ZQ X xc W a cq) (hb : ZE X xc W b ci) (hs : PlainIx b) : ZE X xc W (.Subscript a b pos) (cIxQ cq ci) :=
  PE.imp (pe_ix (IxR.or ix_seq (ix_dic hu)) ha hb hs) fun σ H Q ⟨Γ, B, ρ, rep, k⟩ => tzq_bd rep k fun x B1 H1 t ρ1 e1 r1 q1 k1 => by
    unfold qix at k1
    refine tz_pu (K := X.kf) r1 ?_
    cases hp : cPu ci ρ1 with
    | bad => rw [hp] at k1; exact k1.elim
    | exc x =>
      rw [hp] at k1
      exact fun B2 H2 e2 eH r2 => k1 B2 H2 e2 r2
    | ok kd =>
      rw [hp] at k1
      simp only at k1
      cases ht : thd ρ1 t with
      | none => rw [ht] at k1; exact k1.elim
      | some d =>
        rw [ht] at k1
        intro y B2 H2 e2 eH r2 q2
        have pk := thd_pk r2 (q1.ex e2 eH) ht
        obtain ⟨s, hs, af⟩ := out_lift k1
        have af : After X.kf Γ B2 ρ1 σ s Q := fun v B' H' e' r' s' => af v B' H' (e2.trans e') r' s'
        cases d with
        | dict l =>
          have hs' : (bif kOk l kd then (dGet l kd).map S.dat else none) = some s := hs
          cases h1 : kOk l kd with
          | false => rw [h1] at hs'; cases hs'
          | true =>
          rw [h1, cond_true] at hs'
          have h2 := hs'
          cases hg : dGet l kd with
          | none => rw [hg] at h2; cases h2
          | some e =>
            rw [hg] at h2
            cases h2
            obtain ⟨a, rfl, hd⟩ := pk.dict r2 (dOk_of h1)
            exact .inr ⟨B2, a, l, kd, e, rfl, r2.bh, hd, q2, h1, hg, fun v hv => af v B2 H2 (Ex.refl _) r2 (sres_dat hv)⟩
        | list l =>
          cases kd with
          | int k' =>
            have hs : (atI l k').map S.dat = some s := hs
            obtain ⟨a, xs, rfl, h1, h2⟩ := pk.list r2
            cases hv : atI l k' with
            | none => rw [hv] at hs; cases hs
            | some w =>
              rw [hv] at hs
              cases hs
              obtain ⟨u, g1, g2⟩ := dpAll_atI h2 hv
              exact .inl (.inl ⟨a, xs, k', u, rfl, dp_int q2, h1, g1, After.now r2 af g2⟩)
          | none | bool _ | str _ | list _ | tuple _ | dict _ => cases hs
        | none | bool _ | int _ | str _ | tuple _ =>
          have h0 := pk.dp (fun l e => by cases e) (fun l e => by cases e)
          exact .inl (op_ix W.J Γ B2 ρ1 σ H2 x y _ kd s Q r2 (Pk.of h0) q2 hs af)
/-! len(place) -/
def rLenD (K : KF) : List V → Hp → VK → Prop := fun vs H Q => ∃ B a l, vs = [V.ref a] ∧ Ex B H ∧ DicR K B H a l ∧ dOk l = true ∧ Q (.int (l.length : Int)) H
theorem call_lenR : CallR X (.builtin "len") (rLenD X.kf) := by
  intro pins s σ H xs us Q I r h
  obtain ⟨B, a, l, rfl, eB, hd, ok, q⟩ := h
  obtain ⟨u, rfl, ru⟩ := vals1 r
  have eu : u = Value.ref a := ru
  subst eu
  unfold dOk at ok
  have z63 : ((l.length : Int)) < 2 ^ 63 ∨ True := .inr trivial
  rcases Bool.or_eq_true_iff.mp ok with ok | ok
  · obtain ⟨lo, z, kvs, vs, rel, dd, dp⟩ := dic_k I hd ok
    have hl : vs.length = l.length := by rw [← rel.length, dpKV_len dp]
    refine call_len_dict lo dd (by rw [hl]; rw [sizeLine_eq] at z; omega) ?_
    rw [hl]
    exact ⟨.int (l.length : Int), H, I.tok _, ⟨_, rfl⟩, q⟩
  · obtain ⟨lo, z, L, xs, nx, dd, dp, nd⟩ := dic_n I eB hd ok
    have hl : xs.length = l.length := by rw [← Paired.length nx, dpKN_len dp]
    refine call_len_dictH lo dd (by rw [hl]; rw [sizeLine_eq] at z; omega) ?_
    rw [hl]
    exact ⟨.int (l.length : Int), H, I.tok _, ⟨_, rfl⟩, q⟩
def gLenZ : PyData → Option S
  | .dict l => bif dOk l then some (.dat (.int (l.length : Int))) else none
  | d => gLen d
def q1 (g : PyData → Option S) (t : Th) (ρ : En) : R := match thd ρ t with
  | some d => R.lift (g d) ρ
  | none => .bad
def cQ1 (g : PyData → Option S) (cq : CQ) : CE := fun ρ => (cq ρ).bd (q1 g)
theorem ze_lenQ (hm : X.mg "len" = none) (ha : ZQ X xc W e cq) (hg : Gl X "len" := by rfl)
    (he : starEach [e] X.env = (false, eval e X.env) :: starEach [] X.env := by rfl) (hpl : (backTo pos (starEach [] X.env)).any (·.1) = false := by rfl) : ZE X xc W (.Call (.Name "len" p) [e] [] pos) (cQ1 gLenZ cq) :=
  PE.imp (pe_callB (CallR.or call_len call_lenR) hg hm PySem.boot_len (pa_cons ha pa_nil he) (by decide) (by decide) he hpl) fun σ H Q ⟨Γ, B, ρ, rep, k⟩ => tzq_bd rep k fun x B1 H1 t ρ1 e1 r1 h1 k1 => by
    unfold q1 at k1
    cases ht : thd ρ1 t with
    | none => rw [ht] at k1; exact k1.elim
    | some d =>
      rw [ht] at k1
      obtain ⟨s, hs, af⟩ := out_lift k1
      have pk := thd_pk r1 h1 ht
      cases d with
      | dict l =>
        obtain ⟨g1, g2⟩ := bif_some (show (bif dOk l then some (S.dat (.int (l.length : Int))) else none) = some s from hs)
        subst g2
        obtain ⟨a, rfl, hd⟩ := pk.dict r1 g1
        exact .inr ⟨B1, a, l, rfl, r1.bh, hd, g1, After.now r1 af (.int _)⟩
      | list l =>
        have hs : some (S.dat (.int (l.length : Int))) = some s := hs
        cases hs
        obtain ⟨c, xs, rfl, h1, h2⟩ := pk.list r1
        refine .inl ⟨.ref c, xs.length, rfl, .inl ⟨xs, h1, rfl⟩, ?_⟩
        rw [dpAll_len h2]
        exact After.now r1 af (.int _)
      | tuple l =>
        have hs : some (S.dat (.int (l.length : Int))) = some s := hs
        cases hs
        obtain ⟨c, xs, rfl, h1, h2⟩ := dp_tup (pk.dp (fun l e => by cases e) fun l e => by cases e)
        refine .inl ⟨.ref c, xs.length, rfl, .inr ⟨xs, ex_t r1.bh h1, rfl⟩, ?_⟩
        rw [dpAll_len h2]
        exact After.now r1 af (.int _)
      | str z =>
        obtain ⟨h1, h2⟩ := bif_some (show (bif decide (z.length ≤ sizeLine) then some (S.dat (.int (z.length : Int))) else none) = some s from hs)
        subst h2
        rw [dp_str (pk.dp (fun l e => by cases e) fun l e => by cases e)]
        exact .inl ⟨.str z, z.length, rfl, ⟨of_decide_eq_true h1, rfl⟩, After.now r1 af (.int _)⟩
      | none | bool _ | int _ => cases hs
/-! dict(place), keys that are ints and texts -/
def rDcopy (K : KF) : List V → Hp → VK → Prop := fun vs H Q => ∃ B a l, vs = [V.ref a] ∧ Ex B H ∧ DicR K B H a l ∧ (l.all fun p => isK p.1) = true ∧ ∀ p kvs, DpKV K B kvs l → H p = none → Q (.ref p) (upd H p (.dK kvs))
theorem call_dcopy : CallR X (.type "dict") (rDcopy X.kf) := by
  intro pins s σ H xs us Q I r h
  obtain ⟨B, a, l, rfl, eB, hd, ok, q⟩ := h
  obtain ⟨u, rfl, ru⟩ := vals1 r
  have eu : u = Value.ref a := ru
  subst eu
  obtain ⟨lo, z, kvs, vs, rel, dd, dp⟩ := dic_k I hd ok
  have hz : kvs.length ≤ sizeLine := by rw [dpKV_len dp]; exact z
  refine kt_call_dict lo dd (by rw [← rel.length]; exact hz) fun h' d' hs => ?_
  have hm : (s.heap.objs.size == sysModules) = false := beq_eq_false_iff_ne.mpr (Nat.ne_of_gt I.big)
  refine ⟨.ref s.heap.objs.size, upd H s.heap.objs.size (.dK kvs), ?_, rfl, q _ kvs dp (I.hok.fresh (Nat.le_refl _))⟩
  refine I.laid (t' := s.toks) (fun b u e => (hs.2 b (Nat.ne_of_lt (Heap.lt_size e))).trans (Heap.get?_push_of_some _ e)) (Nat.le_refl _) ?_
  exact (show ObjOk X.prog X.w _ _ _ (.dK kvs) from ⟨hz, hm, vs, rel, d'⟩)
def gDcopy : PyData → Option S
  | .dict l => bif l.all fun p => isK p.1 then some (.dic l) else none
  | _ => none
theorem ze_dcopy (hm : X.mg "dict" = none) (ha : ZQ X xc W e cq) (hg : Gl X "dict" := by rfl)
    (he : starEach [e] X.env = (false, eval e X.env) :: starEach [] X.env := by rfl) (hpl : (backTo pos (starEach [] X.env)).any (·.1) = false := by rfl) : ZE X xc W (.Call (.Name "dict" p) [e] [] pos) (cQ1 gDcopy cq) :=
  PE.imp (pe_callTy call_dcopy hg hm (by decide +kernel) (pa_cons ha pa_nil he) (by decide) (by decide) he hpl) fun σ H Q ⟨Γ, B, ρ, rep, k⟩ => tzq_bd rep k fun x B1 H1 t ρ1 e1 r1 h1 k1 => by
    unfold q1 at k1
    cases ht : thd ρ1 t with
    | none => rw [ht] at k1; exact k1.elim
    | some d =>
      rw [ht] at k1
      obtain ⟨s, hs, af⟩ := out_lift k1
      have pk := thd_pk r1 h1 ht
      cases d with
      | dict l =>
        obtain ⟨g1, g2⟩ := bif_some (show (bif l.all fun p => isK p.1 then some (S.dic l) else none) = some s from hs)
        subst g2
        obtain ⟨a, rfl, hd⟩ := pk.dict r1 (by unfold dOk; rw [g1, Bool.true_or])
        refine ⟨B1, a, l, rfl, r1.bh, hd, g1, fun q kvs dp hq => ?_⟩
        obtain ⟨r2, ow, sr⟩ := r1.newX (o := .dK kvs) hq
        exact af _ _ _ (Ex.refl _) r2 (sr (.dic l) rfl ⟨q, rfl, rfl, ow, .inl ⟨kvs, upd_same, dp⟩⟩)
      | none | bool _ | int _ | str _ | list _ | tuple _ => cases hs
/-! {} -/
def cDNew : CE := fun ρ => .ok (.dic []) ρ
theorem ze_dnew : ZE X xc W (.Dict [] [] pos) cDNew := PE.imp pe_dnewK fun σ H Q ⟨Γ, B, ρ, rep, k⟩ => fun q hq => by
  obtain ⟨r2, ow, sr⟩ := rep.newX (o := .dK []) hq
  exact k _ _ _ (Ex.refl _) r2 (sr (.dic []) rfl ⟨q, rfl, rfl, ow, .inl ⟨[], upd_same, .nil⟩⟩)
end
/-! ### stores -/
section
variable {K : KF} {F : Fx} {B H H' : Hp}
theorem SF.put : ∀ {fs : Fs} {vs : List (Str × V)} {A As : List Addr} {f : Str} {s : S} {v : V}, SF K F B H fs vs A → SA K F B H s v As → (∀ a ∈ As, a ∉ A) → ∃ A', SF K F B H (fs.set f s) (putF f v vs) A' ∧ ∀ a ∈ A', a ∈ A ∨ a ∈ As
  | .nil, vs, A, As, f, s, v, h, hs, hd => by
    obtain ⟨rfl, rfl⟩ := h
    exact ⟨As ++ [], ⟨v, [], As, [], rfl, rfl, by simp, hs, rfl, rfl⟩, fun a ha => .inr (by simpa using ha)⟩
  | .cons g t fs, vs, A, As, f, s, v, h, hs, hd => by
    obtain ⟨w, vs', A1, A2, rfl, rfl, dj, h1, h2⟩ := h
    cases e : (g == f) with
    | true =>
      have e' := eq_of_beq e
      subst e'
      have e1 : Fs.set (.cons g t fs) g s = .cons g s fs := by unfold Fs.set; rw [e]; rfl
      have e2 : putF g v ((g, w) :: vs') = (g, v) :: vs' := by unfold putF; rw [if_pos rfl]
      rw [e1, e2]
      exact ⟨As ++ A2, ⟨v, vs', As, A2, rfl, rfl, fun a ha hc => hd a ha (List.mem_append_right _ hc), hs, h2⟩, fun a ha => (List.mem_append.mp ha).elim .inr fun z => .inl (List.mem_append_right _ z)⟩
    | false =>
      have ne : ¬ g = f := fun z => by rw [z] at e; simp at e
      obtain ⟨A', k1, k2⟩ := SF.put h2 hs (f := f) fun a ha hc => hd a ha (List.mem_append_right _ hc)
      have e1 : Fs.set (.cons g t fs) f s = .cons g t (fs.set f s) := by conv => lhs; unfold Fs.set; rw [e, cond_false]
      have e2 : putF f v ((g, w) :: vs') = (g, w) :: putF f v vs' := by conv => lhs; unfold putF; rw [if_neg ne]
      rw [e1, e2]
      refine ⟨A1 ++ A', ⟨w, _, A1, A', rfl, rfl, fun a ha hc => ?_, h1, k1⟩, fun a ha => ?_⟩
      · rcases k2 a hc with z | z
        · exact dj a ha z
        · exact hd a z (List.mem_append_left _ ha)
      · rcases List.mem_append.mp ha with z | z
        · exact .inl (List.mem_append_left _ z)
        · exact (k2 a z).imp (List.mem_append_right _) id
end
section
variable {X : Cx} {xc : Str → Value} {W : Ww} {a b e ix o : Expr} {es : List Expr} {pos p p2 tpos : Pos} {ca cb ci : CE} {cq : CQ}
/-- name.f = e -/
def cSetF (i : Nat) (c f : Str) (ce : CE) : CS := fun ρ => (ce ρ).bs fun s ρ => match ρ[i]? with
  | some (some (.obj (some c') fs)) => bif c' == c && decide (fs.d.length < 1000) then .nx (ρ.set i (some (.obj (some c) (fs.set f s)))) else .bad
  | _ => .bad
theorem zs_setF {i : Nat} {c f : Str} {pos' : Pos} (hf : FldOk X.kf c f) (ho : PE X o (tVar i)) (he : ZE X xc W e ca) (hs : swapsWith e (some (.Attribute o f pos')) pos.line X.env = pure false := by rfl) :
    ZS X xc W (.Assign [.Attribute o f pos'] e pos) (cSetF i c f ca) := PS.imp (ps_fld ho he hs) fun D σ H ⟨Γ, B, ρ, rep, k⟩ => tz_bs rep k fun v B1 H1 s ρ1 e1 r1 q1 k1 => by
  split at k1
  · rename_i c' fs hi
    cases ec : (c' == c && decide (fs.d.length < 1000)) with
    | false => rw [ec] at k1; exact k1.elim
    | true =>
      rw [ec, cond_true] at k1
      obtain ⟨ec1, ec2⟩ := Bool.and_eq_true_iff.mp ec
      have ec1 := eq_of_beq ec1
      subst ec1
      obtain ⟨nh, As, s1, s2⟩ := q1
      obtain ⟨u, A, h1, h2⟩ := r1.at_ i _ hi
      obtain ⟨x, vs, A', rfl, rfl, na, ow, ⟨C, dx, hC, hx⟩, hsf⟩ := id h2
      have dj : ∀ b ∈ As, b ∉ x :: A' := fun b hb => s2 i _ _ _ hi h1 h2 b hb
      refine ⟨.ref x, h1, x, C, dx, vs, rfl, hx, (hf C hC).1, (hf C hC).2, by rw [SF.len hsf]; exact of_decide_eq_true ec2, ?_⟩
      obtain ⟨A2, g1, g2⟩ := hsf.put s1 (f := f) fun b hb hc => dj b hb (List.mem_cons_of_mem _ hc)
      have nx : x ∉ A2 := fun m => (g2 x m).elim na fun z => dj x z List.mem_cons_self
      have keep : ∀ b, b ≠ x → upd H1 x (.ins C dx (putF f v vs)) b = H1 b := fun b hb => upd_ne hb
      have g3 : SF X.kf Γ.X B1 (upd H1 x (.ins C dx (putF f v vs))) (fs.set f s) (putF f v vs) A2 := SF.move (Ex.refl _) rfl (fun b hb => by
        obtain ⟨z1, z2, _⟩ := SF.own g1 b hb
        exact ⟨z1, z2, keep b fun z => nx (z ▸ hb)⟩) g1
      have rest : ∀ (j : Nat) t w G, (ρ1.set i none)[j]? = some (some t) → σ[j]? = some (some w) → SA X.kf Γ.X B1 H1 t w G → ∀ b ∈ G, b ∉ x :: A2 := fun j t w G hj ew hg b hb hc => by
        obtain ⟨ne, hj⟩ := set_none_at hj
        rcases List.mem_cons.mp hc with rfl | hc
        · exact r1.sep j i t _ _ _ _ _ (Ne.symm ne) hj hi ew h1 hg h2 b hb List.mem_cons_self
        · rcases g2 b hc with z | z
          · exact r1.sep j i t _ _ _ _ _ (Ne.symm ne) hj hi ew h1 hg h2 b hb (List.mem_cons_of_mem _ z)
          · exact s2 j t w G hj ew hg b z hb
      have nB : B1 x = none := ow.1
      have nF : Γ.F x = none := ow.2
      obtain ⟨r2, old⟩ := (r1.drop i).frame (B' := B1) (H' := upd H1 x (.ins C dx (putF f v vs))) (Ex.refl _) (fun b o' hb => by rw [keep b fun z => by rw [z, nB] at hb; cases hb]; exact r1.bh b o' hb) (fun b o' hb => by rw [keep b fun z => by rw [z, nF] at hb; cases hb]; exact r1.fh b o' hb) r1.fb fun j t w G hj ew hg b hb =>
        ⟨(SA.own hg b hb).1, keep b fun z => rest j t w G hj ew hg b hb (by rw [z]; exact List.mem_cons_self)⟩
      have r3 := r2.put (s := .obj (some c') (fs.set f s)) (i := i) h1 ⟨x :: A2, ⟨x, _, A2, rfl, rfl, nx, ow, ⟨C, dx, hC, upd_same⟩, g3⟩, fun j t w G hj ew hg b hb hc => by
        rw [List.set_set] at hj
        exact rest j t w G hj ew (old j t w G hj ew hg) b hc hb⟩
      rw [List.set_set] at r3
      exact k1 B1 σ _ r3
  · exact k1.elim
/-- place[i] = e, a dict of one's own -/
def qds (ci : CE) (s : S) (t : Th) (ρ : En) : O := match t with
  | .at i p => match plc ρ i p with
    | some (.dic l) => match cPu ci ρ with
      | .ok k => bif kOk l k && decide (l.length < sizeLine) then .nx (pup ρ i p (.dic (dPut l k s.d))) else .bad
      | .exc x => .exc x ρ
      | .bad => .bad
    | _ => .bad
  | _ => .bad
def cDSet (cq : CQ) (ci ce : CE) : CS := fun ρ => (ce ρ).bs fun s ρ => (cq ρ).bs (qds ci s)
theorem zs_dset (hu : X.A.units + 64 < cLine) (ho : ZQ X xc W o cq) (hix : ZE X xc W ix ci) (he : ZE X xc W e ca)
    (ha : ∀ v, assign (.Subscript o ix tpos) X.env v = (do
      let ov ← holding [v] (eval o X.env)
      let iv ← holding [v, ov] (eval ix X.env)
      standAt tpos
      holding [v, ov, iv] (setItem ov iv v)
      release [v, ov, iv] []) := by intro _; rfl) (hs : swapsWithSole [.Subscript o ix tpos] e pos.line X.env = pure false := by rfl) (hw : swappedStores [.Subscript o ix tpos] e X.env = pure none := by rfl)
    (h1 : (assignEach [.Subscript o ix tpos] X.env).map (·.2) = [assign (.Subscript o ix tpos) X.env] := by rfl) : ZS X xc W (.Assign [.Subscript o ix tpos] e pos) (cDSet cq ci ca) :=
  PS.imp (ps_asg he (pg_sub ho hix (set_dic hu) ha) hs hw h1) fun D σ H ⟨Γ, B, ρ, rep, k⟩ => tz_bs rep k fun v B1 H1 s ρ1 e1 r1 q1 k1 => by
    obtain ⟨B2, e2, r2, q2⟩ := SRes.data r1 q1
    refine tzq_bs r2 k1 fun ov B3 H3 t ρ3 e3 r3 q3 k3 => ?_
    unfold qds at k3
    cases t with
    | dat d => exact k3.elim
    | «at» i p =>
      simp only at k3
      split at k3
      · rename_i l hp
        refine tz_pu (K := X.kf) r3 ?_
        cases hc : cPu ci ρ3 with
        | bad => rw [hc] at k3; exact k3.elim
        | exc x =>
          rw [hc] at k3
          exact fun B4 H4 e4 eH r4 => k3 B4 σ H4 r4
        | ok kd =>
          rw [hc] at k3
          simp only at k3
          cases hk : (kOk l kd && decide (l.length < sizeLine)) with
          | false => rw [hk] at k3; exact k3.elim
          | true =>
            rw [hk, cond_true] at k3
            obtain ⟨k4, k5⟩ := Bool.and_eq_true_iff.mp hk
            intro iv B4 H4 e4 eH r4 q4
            obtain ⟨A1, ⟨x, rfl, rfl, ow, hd⟩, up⟩ := r4.mutP hp (PlAt.ex eH q3)
            refine ⟨B4, x, l, kd, s.d, rfl, r4.bh, hd, q4, dp_mono (e3.trans e4) q2, k4, of_decide_eq_true k5, fun ob hob => ?_⟩
            refine k3 B4 σ _ (up (upd H4 x ob) (.dic (dPut l kd s.d)) [x] (fun b hb o' h' => ?_) ⟨x, rfl, rfl, ow, hob⟩ fun b hb => .inl hb)
            rw [upd_ne (by simpa using hb)]
            exact h'
      · exact k3.elim
end
end Z
set_option maxHeartbeats 2000000
/-! Z: walks over dicts; displays; methods at places. -/
namespace Z
open PySem PySem.Spec PyProof.Rows L2
open Evl (Ex ex_l ex_t ex_rd)
/-! ### a dict is locked -/
structure Sim (B B' : Hp) : Prop where
  rd : ∀ b u, (∀ o w, u ≠ .frz o w) → Rd B b u → Rd B' b u
  ext : ∀ b φ, B b = some (.ext φ) → B' b = some (.ext φ)
  ins : ∀ b C dx vs, B b = some (.ins C dx vs) → B' b = some (.ins C dx vs)
theorem sim_d {B B' : Hp} (s : Sim B B') {a : Addr} {kvs : List (Key × V)} (h : Rd B a (.dK kvs)) : Rd B' a (.dK kvs) := s.rd _ _ (by intro o w z; cases z) h
theorem sim_l {K : PySem.W.Frag} {B B' : Hp} (s : Sim B B') {a : Addr} {xs : List V} (h : L2.SqL K B a xs) : L2.SqL K B' a xs := h.imp (s.rd _ _ (by intro o w z; cases z)) id
theorem sim_t {K : PySem.W.Frag} {B B' : Hp} (s : Sim B B') {a : Addr} {xs : List V} (h : L2.SqT K B a xs) : L2.SqT K B' a xs := h.imp (s.rd _ _ (by intro o w z; cases z)) id
section
variable {K : KF} {B B' : Hp}
theorem dp_all_sim (e : Sim B B') : (∀ {v : V} {d : PyData}, Dp K B v d → Dp K B' v d) ∧ (∀ {vs : List V} {ds : List PyData}, DpAll K B vs ds → DpAll K B' vs ds) ∧
    (∀ {vs : List (Key × V)} {ds : List (PyData × PyData)}, DpKV K B vs ds → DpKV K B' vs ds) ∧ (∀ {vs : NL} {ds : List (PyData × PyData)}, DpKN K B vs ds → DpKN K B' vs ds) ∧ (∀ {vs : List (Str × V)} {ds : List (PyData × PyData)}, DpF K B vs ds → DpF K B' vs ds) := by
  refine ⟨fun {v d} h => ?_, fun {v d} h => ?_, fun {v d} h => ?_, fun {v d} h => ?_, fun {v d} h => ?_⟩
  · exact Dp.rec (motive_1 := fun v d _ => Dp K B' v d) (motive_2 := fun v d _ => DpAll K B' v d) (motive_3 := fun v d _ => DpKV K B' v d) (motive_4 := fun v d _ => DpKN K B' v d) (motive_5 := fun v d _ => DpF K B' v d)
      .non .bl .int .str (fun h _ i => .lst (sim_l e h) i) (fun h _ i => .tup (sim_t e h) i) (fun h _ i => .dic (sim_d e h) i) (fun h n _ i => .dit (e.ext _ _ h) n i) (fun h c _ i => .ins (e.ins _ _ _ _ h) c i)
      .nil (fun _ _ i j => .cons i j) .nil (fun _ _ i j => .cons i j) .nil (fun _ z _ _ i j l => .cons i z j l) .nil (fun _ _ i j => .cons i j) h
  · exact DpAll.rec (motive_1 := fun v d _ => Dp K B' v d) (motive_2 := fun v d _ => DpAll K B' v d) (motive_3 := fun v d _ => DpKV K B' v d) (motive_4 := fun v d _ => DpKN K B' v d) (motive_5 := fun v d _ => DpF K B' v d)
      .non .bl .int .str (fun h _ i => .lst (sim_l e h) i) (fun h _ i => .tup (sim_t e h) i) (fun h _ i => .dic (sim_d e h) i) (fun h n _ i => .dit (e.ext _ _ h) n i) (fun h c _ i => .ins (e.ins _ _ _ _ h) c i)
      .nil (fun _ _ i j => .cons i j) .nil (fun _ _ i j => .cons i j) .nil (fun _ z _ _ i j l => .cons i z j l) .nil (fun _ _ i j => .cons i j) h
  · exact DpKV.rec (motive_1 := fun v d _ => Dp K B' v d) (motive_2 := fun v d _ => DpAll K B' v d) (motive_3 := fun v d _ => DpKV K B' v d) (motive_4 := fun v d _ => DpKN K B' v d) (motive_5 := fun v d _ => DpF K B' v d)
      .non .bl .int .str (fun h _ i => .lst (sim_l e h) i) (fun h _ i => .tup (sim_t e h) i) (fun h _ i => .dic (sim_d e h) i) (fun h n _ i => .dit (e.ext _ _ h) n i) (fun h c _ i => .ins (e.ins _ _ _ _ h) c i)
      .nil (fun _ _ i j => .cons i j) .nil (fun _ _ i j => .cons i j) .nil (fun _ z _ _ i j l => .cons i z j l) .nil (fun _ _ i j => .cons i j) h
  · exact DpKN.rec (motive_1 := fun v d _ => Dp K B' v d) (motive_2 := fun v d _ => DpAll K B' v d) (motive_3 := fun v d _ => DpKV K B' v d) (motive_4 := fun v d _ => DpKN K B' v d) (motive_5 := fun v d _ => DpF K B' v d)
      .non .bl .int .str (fun h _ i => .lst (sim_l e h) i) (fun h _ i => .tup (sim_t e h) i) (fun h _ i => .dic (sim_d e h) i) (fun h n _ i => .dit (e.ext _ _ h) n i) (fun h c _ i => .ins (e.ins _ _ _ _ h) c i)
      .nil (fun _ _ i j => .cons i j) .nil (fun _ _ i j => .cons i j) .nil (fun _ z _ _ i j l => .cons i z j l) .nil (fun _ _ i j => .cons i j) h
  · exact DpF.rec (motive_1 := fun v d _ => Dp K B' v d) (motive_2 := fun v d _ => DpAll K B' v d) (motive_3 := fun v d _ => DpKV K B' v d) (motive_4 := fun v d _ => DpKN K B' v d) (motive_5 := fun v d _ => DpF K B' v d)
      .non .bl .int .str (fun h _ i => .lst (sim_l e h) i) (fun h _ i => .tup (sim_t e h) i) (fun h _ i => .dic (sim_d e h) i) (fun h n _ i => .dit (e.ext _ _ h) n i) (fun h c _ i => .ins (e.ins _ _ _ _ h) c i)
      .nil (fun _ _ i j => .cons i j) .nil (fun _ _ i j => .cons i j) .nil (fun _ z _ _ i j l => .cons i z j l) .nil (fun _ _ i j => .cons i j) h
end
theorem dp_sim {K : KF} {B B' : Hp} (e : Sim B B') {v : V} {d : PyData} (h : Dp K B v d) : Dp K B' v d := (dp_all_sim e).1 h
section
variable {K : KF} {F : Fx} {B B' H H' : Hp}
mutual
theorem SA.sim (eB : Sim B B') : ∀ {s : S} {v : V} {A : List Addr}, (∀ a ∈ A, B' a = none ∧ H' a = H a) → SA K F B H s v A → SA K F B' H' s v A
  | .dat d, v, A, _, h => ⟨h.1, dp_sim eB h.2⟩
  | .hole, v, A, _, h => h
  | .lst l, v, A, k, h => by
    obtain ⟨a, xs, rfl, rfl, o, h2, h3⟩ := h
    have q := k a (by simp)
    exact ⟨a, xs, rfl, rfl, ⟨q.1, o.2⟩, by rw [q.2]; exact h2, (dp_all_sim eB).2.1 h3⟩
  | .dic l, v, A, k, h => by
    obtain ⟨a, rfl, rfl, o, h2⟩ := h
    have q := k a (by simp)
    refine ⟨a, rfl, rfl, ⟨q.1, o.2⟩, ?_⟩
    rcases h2 with ⟨kvs, h2, h3⟩ | ⟨L, h2, h3, h0⟩
    · exact .inl ⟨kvs, by rw [q.2]; exact h2, (dp_all_sim eB).2.2.1 h3⟩
    · exact .inr ⟨L, by rw [q.2]; exact h2, (dp_all_sim eB).2.2.2.1 h3, h0⟩
  | .obj c fs, v, A, k, h => by
    obtain ⟨a, vs, A', rfl, rfl, na, o, h2, h3⟩ := h
    have q := k a (by simp)
    exact ⟨a, vs, A', rfl, rfl, na, ⟨q.1, o.2⟩, h2.mv q.2, SF.sim eB (fun b hb => k b (by simp [hb])) h3⟩
theorem SF.sim (eB : Sim B B') : ∀ {s : Fs} {v : List (Str × V)} {A : List Addr}, (∀ a ∈ A, B' a = none ∧ H' a = H a) → SF K F B H s v A → SF K F B' H' s v A
  | .nil, v, A, _, h => h
  | .cons f s fs, v, A, k, h => by
    obtain ⟨v, vs', A1, A2, rfl, rfl, dj, h1, h2⟩ := h
    exact ⟨v, vs', A1, A2, rfl, rfl, dj, SA.sim eB (fun b hb => k b (by simp [hb])) h1, SF.sim eB (fun b hb => k b (by simp [hb])) h2⟩
end
end
section
variable {K : KF} {J : List Nat} {Γ Γ' : Fm J} {B B' : Hp} {ρ : En} {σ : L2.St} {H H' : Hp}
theorem Rep.simmed (r : Rep K Γ B ρ σ H) (eB : Sim B B') (hF : Γ'.F = Γ.F) (hio : Γ'.io = Γ.io) (hhv : Γ'.hv = Γ.hv) (b0 : Ex Γ'.B0 B') (bh : Ex B' H') (k : ∀ a o, B a = none → H a = some o → B' a = none ∧ H' a = some o) :
    Rep K Γ' B' ρ σ H' ∧ ∀ {s : S} {v : V}, SRes K Γ B ρ σ H s v → SRes K Γ' B' ρ σ H' s v := by
  have hX : Γ'.X = Γ.X := by show (⟨Γ'.F, Γ'.hv⟩ : Fx) = ⟨Γ.F, Γ.hv⟩; rw [hF, hhv]
  have nw : ∀ {s : S} {v : V} {A : List Addr}, SA K Γ.X B H s v A → SA K Γ'.X B' H' s v A := fun {s v A} h => by
    rw [hX]
    refine SA.sim eB (fun a ha => ?_) h
    obtain ⟨h1, _, o, h2⟩ := SA.own h a ha
    obtain ⟨k1, k2⟩ := k a o h1 h2
    exact ⟨k1, by rw [k2, h2]⟩
  have old : ∀ {i : Nat} {s : S} {v : V} {A : List Addr}, ρ[i]? = some (some s) → σ[i]? = some (some v) → SA K Γ'.X B' H' s v A → SA K Γ.X B H s v A := fun {i s v A} h1 h2 h3 => by
    obtain ⟨u, C, g1, g2⟩ := r.at_ i s h1
    have e := some_inj2 (h2.symm.trans g1)
    subst e
    rw [SA.uniq h3 (nw g2)]
    exact g2
  refine ⟨⟨bh, fun a o h => ?_, fun a o h => ?_, b0, r.len, fun i s h => ?_, fun i j s t v u A C ne h1 h2 h3 h4 h5 h6 => r.sep i j s t v u A C ne h1 h2 h3 h4 (old h1 h3 h5) (old h2 h4 h6), by rw [hio]; exact r.iot⟩, fun {s v} h => ?_⟩
  · rw [hF] at h
    exact (k a o (r.fb a o h) (r.fh a o h)).2
  · rw [hF] at h
    exact (k a o (r.fb a o h) (r.fh a o h)).1
  · obtain ⟨u, C, g1, g2⟩ := r.at_ i s h
    exact ⟨u, C, g1, nw g2⟩
  · obtain ⟨nh, A, h1, h2⟩ := h
    exact ⟨nh, A, nw h1, fun i t u C e1 e2 e3 => h2 i t u C e1 e2 (old e1 e2 e3)⟩
theorem sim_lock {a : Addr} {kvs : List (Key × V)} {od : Obj} (h : B a = some (.dK kvs)) : Sim B (upd B a (.frz od (.dK kvs))) := by
  refine ⟨fun b u nf r => ?_, fun b φ r => ?_, fun b C dx vs r => ?_⟩
  · by_cases e : b = a
    · subst e
      rcases r with r | ⟨o, r⟩
      · rw [h] at r; cases r; exact .inr ⟨od, upd_same⟩
      · rw [h] at r; cases r
    · rcases r with r | ⟨o, r⟩
      · exact .inl (by rw [upd_ne e]; exact r)
      · exact .inr ⟨o, by rw [upd_ne e]; exact r⟩
  · rw [upd_ne (fun e => by subst e; rw [h] at r; cases r)]; exact r
  · rw [upd_ne (fun e => by subst e; rw [h] at r; cases r)]; exact r
theorem sim_open {a : Addr} {kvs : List (Key × V)} {od : Obj} (h : B a = some (.frz od (.dK kvs))) : Sim B (upd B a (.dK kvs)) := by
  refine ⟨fun b u nf r => ?_, fun b φ r => ?_, fun b C dx vs r => ?_⟩
  · by_cases e : b = a
    · subst e
      rcases r with r | ⟨o, r⟩
      · rw [h] at r; cases r; exact absurd rfl (nf _ _)
      · rw [h] at r; cases r; exact .inl upd_same
    · rcases r with r | ⟨o, r⟩
      · exact .inl (by rw [upd_ne e]; exact r)
      · exact .inr ⟨o, by rw [upd_ne e]; exact r⟩
  · rw [upd_ne (fun e => by subst e; rw [h] at r; cases r)]; exact r
  · rw [upd_ne (fun e => by subst e; rw [h] at r; cases r)]; exact r
/-- the locked ends -/
abbrev lockD (D : Ends) (a : Addr) (od : Obj) (u : HO) : Ends := ⟨fun σ' H' => H' a = some (.frz od u) ∧ D.nx σ' (upd H' a u), fun v H' => H' a = some (.frz od u) ∧ D.rt v (upd H' a u), fun σ' H' => H' a = some (.frz od u) ∧ D.bk σ' (upd H' a u), fun σ' H' => H' a = some (.frz od u) ∧ D.ct σ' (upd H' a u)⟩
theorem Rep.lock {a : Addr} {kvs : List (Key × V)} (r : Rep K Γ B ρ σ H) (ha : B a = some (.dK kvs)) (od : Obj) : Rep K (Γ.now (upd B a (.frz od (.dK kvs)))) (upd B a (.frz od (.dK kvs))) ρ σ (upd H a (.frz od (.dK kvs))) := by
  refine (r.simmed (Γ' := Γ.now (upd B a (.frz od (.dK kvs)))) (sim_lock ha) rfl rfl rfl (Ex.refl _) (fun b o h => ?_) fun b o h1 h2 => ?_).1
  · by_cases e : b = a
    · subst e; rw [upd_same] at h ⊢; exact h
    · rw [upd_ne e] at h ⊢; exact r.bh b o h
  · have ne : b ≠ a := fun e => by subst e; rw [ha] at h1; cases h1
    rw [upd_ne ne, upd_ne ne]
    exact ⟨h1, h2⟩
theorem Rep.open_ {a : Addr} {kvs : List (Key × V)} {od : Obj} {B2 : Hp} {ρ2 : En} {σ2 : L2.St} {H2 : Hp} (r0 : Rep K Γ B ρ σ H) (ha : B a = some (.dK kvs)) (r : Rep K (Γ.now (upd B a (.frz od (.dK kvs)))) B2 ρ2 σ2 H2) :
    H2 a = some (.frz od (.dK kvs)) ∧ Rep K Γ (upd B2 a (.dK kvs)) ρ2 σ2 (upd H2 a (.dK kvs)) ∧ ∀ {s : S} {v : V}, SRes K (Γ.now (upd B a (.frz od (.dK kvs)))) B2 ρ2 σ2 H2 s v → SRes K Γ (upd B2 a (.dK kvs)) ρ2 σ2 (upd H2 a (.dK kvs)) s v := by
  have hb : B2 a = some (.frz od (.dK kvs)) := r.b0 a _ upd_same
  refine ⟨r.bh _ _ hb, ?_⟩
  refine r.simmed (Γ' := Γ) (sim_open hb) rfl rfl rfl (fun b o h => ?_) (fun b o h => ?_) fun b o h1 h2 => ?_
  · have hB := r0.b0 b o h
    by_cases e : b = a
    · subst e
      rw [ha] at hB
      rw [upd_same]
      exact hB
    · rw [upd_ne e]
      refine r.b0 b o ?_
      show upd B a _ b = some o
      rw [upd_ne e]
      exact hB
  · by_cases e : b = a
    · subst e; rw [upd_same] at h ⊢; exact h
    · rw [upd_ne e] at h ⊢; exact r.bh b o h
  · have ne : b ≠ a := fun e => by subst e; rw [hb] at h1; cases h1
    rw [upd_ne ne, upd_ne ne]
    exact ⟨h1, h2⟩
/-- no exception: the outcome with a locked dict -/
def noExc : O → Bool
  | .exc _ _ => false
  | _ => true
theorem outS_lock {xc : Str → Value} {W : Ww} {Γ : Fm W.J} {a : Addr} {kvs : List (Key × V)} {D : Ends} {od : Obj} (r0 : Rep K Γ B ρ σ H) (ha : B a = some (.dK kvs)) {o : O} (ne : noExc o = true) (h : outS K xc W Γ D o) :
    outS K xc W (Γ.now (upd B a (.frz od (.dK kvs)))) (lockD D a od (.dK kvs)) o := by
  cases o with
  | nx ρ' => exact fun B' σ' H' r => let ⟨z1, z2, _⟩ := r0.open_ ha r; ⟨z1, h _ σ' _ z2⟩
  | rt s ρ' => exact fun v B' σ' H' r q => let ⟨z1, z2, z3⟩ := r0.open_ ha r; ⟨z1, h v _ σ' _ z2 (z3 q)⟩
  | bk ρ' => exact fun B' σ' H' r => let ⟨z1, z2, _⟩ := r0.open_ ha r; ⟨z1, h _ σ' _ z2⟩
  | ct ρ' => exact fun B' σ' H' r => let ⟨z1, z2, _⟩ := r0.open_ ha r; ⟨z1, h _ σ' _ z2⟩
  | exc x ρ' => cases ne
  | bad => exact h
def noExcR : R → Bool
  | .exc _ _ => false
  | _ => true
end
/-! ### dicts that are walked: where they stand -/
inductive Sr where
  | n (i : Nat)
  | k (s : Sr) (key : Str)
  | f (s : Sr) (c f : Str)
def srv (ρ : En) : Sr → Option PyData
  | .n i => match ρ[i]? with
    | some (some (.dat d)) => some d
    | _ => none
  | .k s key => match srv ρ s with
    | some (.dict l) => bif kOk l (.str key) then dGet l (.str key) else none
    | _ => none
  | .f s c f => match srv ρ s with
    | some (.dict ((.none, .str c') :: ds)) => bif c' == c then fGet ds f else none
    | _ => none
def SrAt (K : KF) (B : Hp) (σ : L2.St) : Sr → V → PyData → Prop
  | .n i, v, d => σ[i]? = some (some v) ∧ Dp K B v d
  | .k s key, v, d => Dp K B v d ∧ ∃ a kvs l, SrAt K B σ s (.ref a) (.dict l) ∧ Rd B a (.dK kvs) ∧ valV kvs (.inr key) = some v
  | .f s c f, v, d => Dp K B v d ∧ ∃ a C dx vs d0, SrAt K B σ s (.ref a) d0 ∧ B a = some (.ins C dx vs) ∧ ClsAt K c C ∧ vs.lookup f = some v
section
variable {K : KF} {J : List Nat} {Γ : Fm J} {B B' : Hp} {ρ : En} {σ : L2.St} {H : Hp}
theorem SrAt.dp : ∀ {s : Sr} {v : V} {d : PyData}, SrAt K B σ s v d → Dp K B v d
  | .n i, v, d, h => h.2
  | .k s key, v, d, h => h.1
  | .f s c f, v, d, h => h.1
theorem SrAt.sim (e : Sim B B') : ∀ {s : Sr} {v : V} {d : PyData}, SrAt K B σ s v d → SrAt K B' σ s v d
  | .n i, v, d, h => ⟨h.1, dp_sim e h.2⟩
  | .k s key, v, d, ⟨h, a, kvs, l, h1, h2, h3⟩ => ⟨dp_sim e h, a, kvs, l, SrAt.sim e h1, sim_d e h2, h3⟩
  | .f s c f, v, d, ⟨h, a, C, dx, vs, d0, h1, h2, h3⟩ => ⟨dp_sim e h, a, C, dx, vs, d0, SrAt.sim e h1, e.ins _ _ _ _ h2, h3⟩
theorem kOk_str {l : List (PyData × PyData)} {x : Str} (h : kOk l (.str x) = true) : (l.all fun p => isK p.1) = true := h
theorem sr_at (r : Rep K Γ B ρ σ H) : ∀ {s : Sr} {d : PyData}, srv ρ s = some d → ∃ v, SrAt K B σ s v d
  | .n i, d, h => by
    unfold srv at h
    split at h
    · rename_i d' hi
      cases h
      obtain ⟨v, A, h1, h2⟩ := r.at_ i _ hi
      exact ⟨v, h1, h2.2⟩
    · cases h
  | .k s key, d, h => by
    unfold srv at h
    split at h
    · rename_i l hs
      cases hk : kOk l (.str key) with
      | false => rw [hk] at h; cases h
      | true =>
        rw [hk, cond_true] at h
        obtain ⟨v, hv⟩ := sr_at r hs
        obtain ⟨a, rfl, ⟨kvs, h1, h2⟩ | ⟨L, h1, h2, h0⟩ | ⟨C, dx, c, vs, es, rfl, _⟩⟩ := dp_dict hv.dp
        · obtain ⟨w, g1, g2⟩ := (dGet_k h2 (k := .inr key)).1 d h
          exact ⟨w, g2, a, kvs, l, hv, h1, g1⟩
        · exact absurd (dpKN_nN h2 (kOk_str hk)).2 h0
        · exfalso
          have := kOk_str hk
          simp [isK, keyOf] at this
    · cases h
  | .f s c f, d, h => by
    unfold srv at h
    split at h
    · rename_i c' ds hs
      cases hc : (c' == c) with
      | false => rw [hc] at h; cases h
      | true =>
        rw [hc, cond_true] at h
        have hc := eq_of_beq hc
        subst hc
        obtain ⟨v, hv⟩ := sr_at r hs
        obtain ⟨a, C, dx, vs, rfl, h1, h2, h3⟩ := dp_obj hv.dp
        obtain ⟨w, g1, g2⟩ := (fGet_of h3).1 d h
        exact ⟨w, g2, a, C, dx, vs, _, hv, h1, h2, g1⟩
    · cases h
def tSr (K : KF) (s : Sr) : TE := fun σ H Q => ∃ B v d, Ex B H ∧ SrAt K B σ s v d ∧ Q v H
end
section
variable {X : Cx} {xc : Str → Value} {W : Ww} {a b e ix o : Expr} {es : List Expr} {pos p p2 tpos : Pos}
theorem psr_n {i : Nat} (h : PE X e (tVar i)) : PE X e (tSr X.kf (.n i)) := PE.imp h fun σ H Q ⟨B, v, d, e, h1, q⟩ => ⟨v, h1.1, q⟩
theorem psr_k {s : Sr} {key : Str} {j : Nat} (hu : X.A.units + 64 < cLine) (h : PE X e (tSr X.kf s)) (hs : NoSl (.Constant (.str key) j p) := by exact fun _ _ => rfl) : PE X (.Subscript e (.Constant (.str key) j p) pos) (tSr X.kf (.k s key)) :=
  PE.imp (pe_dget (by omega) h pe_str hs) fun σ H Q ⟨B, v, d, e, ⟨_, a, kvs, l, h1, h2, h3⟩, q⟩ => ⟨B, _, _, e, h1, a, v, rfl, .inl ⟨kvs, .inr key, rd_ex e h2, rfl, h3.symm⟩, q⟩
theorem psr_f {s : Sr} {c f : Str} (hf : FldOk X.kf c f) (h : PE X e (tSr X.kf s)) (hb : attributeBase e f X.env (eval e X.env) = eval e X.env := by rfl) : PE X (.Attribute e f pos) (tSr X.kf (.f s c f)) :=
  PE.imp (pe_fld h hb) fun σ H Q ⟨B, v, d, e, ⟨_, a, C, dx, vs, d0, h1, h2, h3, h4⟩, q⟩ => ⟨B, _, _, e, h1, a, C, dx, vs, v, rfl, e _ _ h2, (hf C h3).1, (hf C h3).2, h4, q⟩
end
end Z
set_option maxHeartbeats 2000000
/-! Z: walks over dicts, displays of dicts, methods at places. -/
namespace Z
open PySem PySem.Spec PyProof.Rows L2
open Evl (Ex ex_l ex_t ex_rd)
/-! ### walks -/
theorem PS.or {X : Cx} {st : Stmt} {t t' : TS} (h : PS X st t) (h' : PS X st t') : PS X st (fun D σ H => t D σ H ∨ t' D σ H) := ⟨fun pins s σ H D I q => q.elim (h.run pins s σ H D I) (h'.run pins s σ H D I)⟩
theorem PE.or {X : Cx} {st : Expr} {t t' : TE} (h : PE X st t) (h' : PE X st t') : PE X st (fun σ H Q => t σ H Q ∨ t' σ H Q) := ⟨fun pins s σ H Q I q => q.elim (h.run pins s σ H Q I) (h'.run pins s σ H Q I)⟩
def allK (l : List (PyData × PyData)) : Bool := l.all fun p => isK p.1
def kKeys (o : Option PyData) (ρ : En) : RA := match o with
  | some (.dict l) => bif allK l then .ok (l.map (·.1)) ρ else .bad
  | _ => .bad
def kItems (o : Option PyData) (ρ : En) : RA := match o with
  | some (.dict l) => bif allK l then .ok (l.map fun p => .tuple [p.1, p.2]) ρ else .bad
  | _ => .bad
def ciKeys (s : Sr) : CA := fun ρ => kKeys (srv ρ s) ρ
def ciItems (s : Sr) : CA := fun ρ => kItems (srv ρ s) ρ
def cNoX (c : CS) : CS := fun ρ => bif noExc (c ρ) then c ρ else .bad
def cNoXE (c : CE) : CE := fun ρ => bif noExcR (c ρ) then c ρ else .bad
section
variable {K : KF} {J : List Nat} {Γ : Fm J} {B B1 : Hp} {ρ : En} {σ : L2.St} {H : Hp}
theorem dpKV_at : ∀ {kvs : List (Key × V)} {l : List (PyData × PyData)} {i : Nat} {p : PyData × PyData}, DpKV K B kvs l → l[i]? = some p → ∃ k v, kvs[i]? = some (k, v) ∧ p.1 = kD k ∧ Dp K B v p.2
  | _, _, i, p, .nil, h => by simp at h
  | _, _, 0, p, .cons (k := k) (v := v) h t, e => by
    simp at e
    subst e
    exact ⟨k, v, rfl, rfl, h⟩
  | _, _, i + 1, p, .cons h t, e => by
    obtain ⟨k, v, h1, h2⟩ := dpKV_at (i := i) t (by simpa using e)
    exact ⟨k, v, by simpa using h1, h2⟩
theorem dp_kD {k : Key} : Dp K B (kV k) (kD k) := by
  cases k with
  | inl i => exact .int i
  | inr x => exact .str x
theorem itk_ok {a : Addr} {kvs : List (Key × V)} {od : Obj} {l : List (PyData × PyData)} (ha : B1 a = some (.frz od (.dK kvs))) (dp : DpKV K B1 kvs l) : ItOk K B1 (Itk a od kvs) (l.map (·.1)) := fun {J Γ B ρ σ H} rep e => by
  have hH : H a = some (.frz od (.dK kvs)) := rep.bh _ _ (e _ _ ha)
  refine ⟨fun i d hd => ?_, hH, by rw [List.length_map, ← dpKV_len dp]; exact Nat.le_refl _⟩
  rw [List.getElem?_map] at hd
  cases hl : l[i]? with
  | none => rw [hl] at hd; cases hd
  | some p =>
    rw [hl] at hd
    have hd' : p.1 = d := Option.some.inj hd
    obtain ⟨k, v, g1, g2, _⟩ := dpKV_at dp hl
    refine ⟨⟨hH, (List.getElem?_eq_some_iff.mp g1).1⟩, fun x H' ⟨eH, k', v', g3, g4⟩ => ?_⟩
    subst eH
    rw [g1] at g3
    cases g3
    subst g4
    exact ⟨B, Ex.refl _, rep, by rw [← hd', g2]; exact dp_kD, fun _ _ h => h⟩
theorem iti_ok {a : Addr} {kvs : List (Key × V)} {od : Obj} {l : List (PyData × PyData)} (ha : B1 a = some (.frz od (.dK kvs))) (dp : DpKV K B1 kvs l) : ItOk K B1 (Iti a od kvs) (l.map fun p => .tuple [p.1, p.2]) := fun {J Γ B ρ σ H} rep e => by
  have hH : H a = some (.frz od (.dK kvs)) := rep.bh _ _ (e _ _ ha)
  refine ⟨fun i d hd => ?_, hH, by rw [List.length_map, ← dpKV_len dp]; exact Nat.le_refl _⟩
  rw [List.getElem?_map] at hd
  cases hl : l[i]? with
  | none => rw [hl] at hd; cases hd
  | some p =>
    rw [hl] at hd
    have hd' : PyData.tuple [p.1, p.2] = d := Option.some.inj hd
    obtain ⟨k, v, g1, g2, g2'⟩ := dpKV_at dp hl
    refine ⟨⟨hH, (List.getElem?_eq_some_iff.mp g1).1⟩, fun x H' ⟨T, k', v', g3, g4, g5, g6⟩ => ?_⟩
    rw [g1] at g3
    cases g3
    subst g4 g6
    obtain ⟨r2, e2, _, _⟩ := rep.new (o := .tup [kV k, v]) g5
    refine ⟨_, e2, r2, ?_, fun b o h => by rw [upd_ne (ne_of_none h g5)]; exact h⟩
    rw [← hd', g2]
    exact .tup (.inl (.inl upd_same)) (.cons dp_kD (.cons (dp_mono (e.trans e2) g2') .nil))
/-- the dict that is walked is locked -/
def Lk (K : KF) (B : Hp) (ρ : En) (σ : L2.St) (s : Sr) : Prop := ∃ a kvs od l, srv ρ s = some (.dict l) ∧ SrAt K B σ s (.ref a) (.dict l) ∧ B a = some (.frz od (.dK kvs)) ∧ DpKV K B kvs l
theorem srv_dict (rep : Rep K Γ B ρ σ H) {s : Sr} {l : List (PyData × PyData)} (h : srv ρ s = some (.dict l)) (ok : allK l = true) : ∃ a kvs, SrAt K B σ s (.ref a) (.dict l) ∧ Rd B a (.dK kvs) ∧ DpKV K B kvs l := by
  obtain ⟨v, hv⟩ := sr_at rep h
  obtain ⟨a, rfl, ⟨kvs, h1, h2⟩ | ⟨L, h1, h2, h0⟩ | ⟨C, dx, c, vs, es, rfl, _⟩⟩ := dp_dict hv.dp
  · exact ⟨a, kvs, hv, h1, h2⟩
  · exact absurd (dpKN_nN h2 ok).2 h0
  · exfalso
    unfold allK at ok
    simp [isK, keyOf] at ok
end
section
variable {X : Cx} {xc : Str → Value} {W : Ww} {tg iter e : Expr} {body : List Stmt} {pos p apos cpos tpos : Pos} {cas : CA} {g : CG} {gs : List Nat} {cb : CS} {s : Sr}
def iL (K : KF) (xc : Str → Value) (W : Ww) (s : Sr) (cas : CA) : TI := fun σ H Q => ∃ (Γ : Fm W.J) (B : Hp) (ρ : En), Rep K Γ B ρ σ H ∧ Lk K B ρ σ s ∧ outI K xc W Γ B σ Q (cas ρ)
theorem zi_keysL (he : PE X e (tSr X.kf s)) : PI X tg e (iL X.kf xc W s (ciKeys s)) := PI.imp (pi_keys he) fun σ H R ⟨Γ, B, ρ, rep, ⟨a, kvs, od, l, h1, h2, h3, h4⟩, k⟩ => by
  refine ⟨B, .ref a, .dict l, rep.bh, h2, a, od, rfl, .inl ⟨kvs, rep.bh _ _ h3, ?_⟩⟩
  unfold ciKeys kKeys at k
  rw [h1] at k
  simp only at k
  cases hk : allK l with
  | false => rw [hk] at k; exact k.elim
  | true =>
    rw [hk, cond_true] at k
    exact k _ B H (Ex.refl _) rep (itk_ok h3 h4)
theorem zi_itemsL {elts : List Expr} {kk : Nat} (he : PE X e (tSr X.kf s)) (hbase : attributeBase e "items" X.env (eval e X.env) = eval e X.env := by rfl) (hline : (apos.endLine == cpos.line) = true := by rfl) :
    PI X (.Tuple elts kk tpos) (.Call (.Attribute e "items" apos) [] [] cpos) (iL X.kf xc W s (ciItems s)) := PI.imp (pi_items he hbase hline) fun σ H R ⟨Γ, B, ρ, rep, ⟨a, kvs, od, l, h1, h2, h3, h4⟩, k⟩ => by
  refine ⟨B, .ref a, .dict l, rep.bh, h2, a, od, kvs, rfl, rep.bh _ _ h3, ?_⟩
  unfold ciItems kItems at k
  rw [h1] at k
  simp only at k
  cases hk : allK l with
  | false => rw [hk] at k; exact k.elim
  | true =>
    rw [hk, cond_true] at k
    exact k _ B H (Ex.refl _) rep (iti_ok h3 h4)
/-- what a walk's source is: a dict that can be locked -/
def Src (s : Sr) (cas : CA) : Prop := ∀ ρ, cas ρ = .bad ∨ ∃ l, srv ρ s = some (.dict l) ∧ allK l = true
theorem src_keys : Src s (ciKeys s) := fun ρ => by
  unfold ciKeys kKeys
  split
  · rename_i l h
    cases hk : allK l with
    | false => exact .inl rfl
    | true => exact .inr ⟨l, h, hk⟩
  · exact .inl rfl
theorem src_items : Src s (ciItems s) := fun ρ => by
  unfold ciItems kItems
  split
  · rename_i l h
    cases hk : allK l with
    | false => exact .inl rfl
    | true => exact .inr ⟨l, h, hk⟩
  · exact .inl rfl
theorem zs_forL (hsrc : Src s cas) (hp : PassesOwn (model X.prog X.w) X.A X.env X.xe) (hc : X.calm = true) (hi : PI X tg iter (iL X.kf xc W s cas)) (hg : ZG X W tg gs g) (hb : ZSs X xc W body cb)
    (hs : ∀ x, foldedSetIterable iter X.env x = pure x := by intro _; rfl) : ZS X xc W (.For tg iter body [] pos) (cNoX (cFor cas g cb)) := by
  have h0 := ps_for (pos := pos) hp hc hi hg hb hs
  refine PS.imp (PS.or h0 (ps_lock h0)) fun D σ H ⟨Γ, B, ρ, rep, k⟩ => ?_
  unfold cNoX at k
  cases hn : noExc (cFor cas g cb ρ) with
  | false => rw [hn] at k; exact k.elim
  | true =>
    rw [hn, cond_true] at k
    rcases hsrc ρ with hbad | ⟨l, hl, ok⟩
    · unfold cFor at k
      rw [hbad] at k
      exact k.elim
    · obtain ⟨a, kvs, h1, h2, h3⟩ := srv_dict rep hl ok
      rcases h2 with h2 | ⟨od, h2⟩
      · refine .inr ⟨a, .dK kvs, rep.bh _ _ h2, trivial, fun od => ?_⟩
        have rl := rep.lock h2 od
        refine ⟨_, _, ρ, rl, ⟨a, kvs, od, l, hl, h1.sim (sim_lock h2), upd_same, (dp_all_sim (sim_lock h2)).2.2.1 h3⟩, ?_⟩
        exact for_out (D := lockD D a od (.dK kvs)) rl (outS_lock rep h2 hn k)
      · exact .inl ⟨Γ, B, ρ, rep, ⟨a, kvs, od, l, hl, h1, h2, h3⟩, for_out rep k⟩
theorem outZ_lock {K : KF} {Γ : Fm W.J} {B : Hp} {ρ : En} {σ : L2.St} {H : Hp} {a : Addr} {kvs : List (Key × V)} {Q : VK} {od : Obj} (r0 : Rep K Γ B ρ σ H) (ha : B a = some (.dK kvs)) {r : R} (ne : noExcR r = true) (h : outZ K xc W Γ B σ Q r) :
    outZ K xc W (Γ.now (upd B a (.frz od (.dK kvs)))) (upd B a (.frz od (.dK kvs))) σ (fun v H' => H' a = some (.frz od (.dK kvs)) ∧ Q v (upd H' a (.dK kvs))) r := by
  cases r with
  | ok s ρ' =>
    intro v B' H' e' r' q'
    obtain ⟨z1, z2, z3⟩ := r0.open_ ha r'
    refine ⟨z1, h v _ _ (fun b o hb => ?_) z2 (z3 q')⟩
    by_cases e : b = a
    · subst e
      rw [ha] at hb
      rw [upd_same]
      exact hb
    · rw [upd_ne e]
      exact e' b o (by rw [upd_ne e]; exact hb)
  | exc x ρ' => cases ne
  | bad => exact h
end
section
variable {X : Cx} {xc : Str → Value} {W : Ww} {ke ve tg iter : Expr} {ifs : List Expr} {scope : Scope} {own : List (Str × Nat)} {pos spos : Pos} {cas : CA} {g : CG} {gs : List Nat} {ct ck cv ce : CE} {s : Sr} {elt : Expr}
theorem ze_dcL (hsrc : Src s cas) (hu : X.A.units + 64 < cLine) (hc : X.calm = true) (hN : X.N.Nodup) (hi : PI X tg iter (iL X.kf xc W s cas)) (ok : BlkOk X.N X.env.scope scope own) (hvs : (gs.all fun i => (own.map (·.2)).contains i) = true) (hJ : (W.J.all fun j => !(own.map (·.2)).contains j) = true)
    (hg : ∀ (s : Shared) (H : Hp) (C : Addr) (cl : List (Str × Addr)) (fp : List Addr), PG (X.blk s H scope (compEnvC scope cl C X.env) fp) tg (gZ X.kf W.J gs g))
    (ht : ∀ (s : Shared) (H : Hp) (C : Addr) (cl : List (Str × Addr)) (fp : List Addr), PTs (X.blk s H scope (compEnvC scope cl C X.env) fp) ifs (tZT X.kf xc (W0 W) ct))
    (hk : ∀ (s : Shared) (H : Hp) (C : Addr) (cl : List (Str × Addr)) (fp : List Addr), PE (X.blk s H scope (compEnvC scope cl C X.env) fp) ke (tZ X.kf xc (W0 W) ck))
    (hv : ∀ (s : Shared) (H : Hp) (C : Addr) (cl : List (Str × Addr)) (fp : List Addr), PE (X.blk s H scope (compEnvC scope cl C X.env) fp) ve (tZ X.kf xc (W0 W) cv)) (hs : ∀ x, foldedSetIterable iter X.env x = pure x := by intro _; rfl) :
    ZE X xc W (.DictComp ke ve [⟨tg, iter, ifs, 0⟩] scope pos) (cNoXE (cDc (own.map (·.2)) cas g ct ck cv)) := by
  have h0 := pe_dz (pos := pos) hu hc hN hi ok hg ht hk hv hs
  refine PE.imp (PE.or h0 (pe_lock h0)) fun σ H Q ⟨Γ, B, ρ, rep, k⟩ => ?_
  unfold cNoXE at k
  cases hn : noExcR (cDc (own.map (·.2)) cas g ct ck cv ρ) with
  | false => rw [hn] at k; exact k.elim
  | true =>
    rw [hn, cond_true] at k
    rcases hsrc ρ with hbad | ⟨l, hl, okl⟩
    · unfold cDc at k
      rw [hbad] at k
      exact k.elim
    · obtain ⟨a, kvs, h1, h2, h3⟩ := srv_dict rep hl okl
      rcases h2 with h2 | ⟨od, h2⟩
      · refine .inr ⟨a, .dK kvs, rep.bh _ _ h2, trivial, fun od => ?_⟩
        have rl := rep.lock h2 od
        refine ⟨_, _, ρ, rl, ⟨a, kvs, od, l, hl, h1.sim (sim_lock h2), upd_same, (dp_all_sim (sim_lock h2)).2.2.1 h3⟩, ?_⟩
        exact dc_out (all_in hvs) (all_out hJ) rl (outZ_lock rep h2 hn k)
      · exact .inl ⟨Γ, B, ρ, rep, ⟨a, kvs, od, l, hl, h1, h2, h3⟩, dc_out (all_in hvs) (all_out hJ) rep k⟩
theorem ze_lcL (hsrc : Src s cas) (hc : X.calm = true) (hN : X.N.Nodup) (hi : PI X tg iter (iL X.kf xc W s cas)) (ok : BlkOk X.N X.env.scope scope own) (hvs : (gs.all fun i => (own.map (·.2)).contains i) = true) (hJ : (W.J.all fun j => !(own.map (·.2)).contains j) = true)
    (hg : ∀ (s : Shared) (H : Hp) (C : Addr) (cl : List (Str × Addr)) (fp : List Addr), PG (X.blk s H scope (compEnvC scope cl C X.env) fp) tg (gZ X.kf W.J gs g))
    (ht : ∀ (s : Shared) (H : Hp) (C : Addr) (cl : List (Str × Addr)) (fp : List Addr), PTs (X.blk s H scope (compEnvC scope cl C X.env) fp) ifs (tZT X.kf xc (W0 W) ct))
    (he : ∀ (s : Shared) (H : Hp) (C : Addr) (cl : List (Str × Addr)) (fp : List Addr), PE (X.blk s H scope (compEnvC scope cl C X.env) fp) elt (tZ X.kf xc (W0 W) ce)) (hs : ∀ x, foldedSetIterable iter X.env x = pure x := by intro _; rfl) :
    ZE X xc W (.ListComp elt [⟨tg, iter, ifs, 0⟩] scope pos) (cNoXE (cLc (own.map (·.2)) cas g ct ce)) := by
  have h0 := pe_lc (pos := pos) hc hN hi ok hg ht he hs
  refine PE.imp (PE.or h0 (pe_lock h0)) fun σ H Q ⟨Γ, B, ρ, rep, k⟩ => ?_
  unfold cNoXE at k
  cases hn : noExcR (cLc (own.map (·.2)) cas g ct ce ρ) with
  | false => rw [hn] at k; exact k.elim
  | true =>
    rw [hn, cond_true] at k
    rcases hsrc ρ with hbad | ⟨l, hl, okl⟩
    · unfold cLc at k
      rw [hbad] at k
      exact k.elim
    · obtain ⟨a, kvs, h1, h2, h3⟩ := srv_dict rep hl okl
      rcases h2 with h2 | ⟨od, h2⟩
      · refine .inr ⟨a, .dK kvs, rep.bh _ _ h2, trivial, fun od => ?_⟩
        have rl := rep.lock h2 od
        refine ⟨_, _, ρ, rl, ⟨a, kvs, od, l, hl, h1.sim (sim_lock h2), upd_same, (dp_all_sim (sim_lock h2)).2.2.1 h3⟩, ?_⟩
        exact lc_out (all_in hvs) (all_out hJ) rl (outZ_lock rep h2 hn k)
      · exact .inl ⟨Γ, B, ρ, rep, ⟨a, kvs, od, l, hl, h1, h2, h3⟩, lc_out (all_in hvs) (all_out hJ) rep k⟩
end
/-! ### a place of a dict of things -/
section
variable {X : Cx} {xc : Str → Value} {W : Ww} {a b e : Expr} {es : List Expr} {pos p : Pos} {cq : CQ}
theorem valV_kvS : ∀ {vs : List (Str × V)} {f : Str}, valV (kvS vs) (.inr f) = vs.lookup f
  | [], f => rfl
  | (g, v) :: vs, f => by
    have ih := valV_kvS (vs := vs) (f := f)
    unfold valV at *
    show (List.find? _ ((Sum.inr g, v) :: kvS vs)).map (·.2) = _
    by_cases h : g = f
    · subst h
      simp [List.lookup]
    · have h2 : (f == g) = false := beq_eq_false_iff_ne.mpr fun z => h z.symm
      rw [List.find?_cons_of_neg (by simpa using h)]
      rw [List.lookup, h2]
      exact ih
def qk (key : Str) (t : Th) (ρ : En) : RQ := match t with
  | .at i p => match plc ρ i p with
    | some (.obj none fs) => qsub (fs.get key) i p key ρ
    | some (.dic l) => bif kOk l (.str key) then qdat (dGet l (.str key)) ρ else .bad
    | _ => .bad
  | .dat (.dict l) => bif kOk l (.str key) then qdat (dGet l (.str key)) ρ else .bad
  | _ => .bad
/-- e["key"] -/
def cqK (key : Str) (cq : CQ) : CQ := fun ρ => (cq ρ).bq (qk key)
theorem zq_k {key : Str} {j : Nat} (hu : X.A.units + 64 < cLine) (h : ZQ X xc W e cq) (hs : NoSl (.Constant (.str key) j p) := by exact fun _ _ => rfl) : ZQ X xc W (.Subscript e (.Constant (.str key) j p) pos) (cqK key cq) :=
  PE.imp (pe_dget (by omega) h pe_str hs) fun σ H Q ⟨Γ, B, ρ, rep, k⟩ => tzq_bq rep k fun v B1 H1 t ρ1 e1 r1 q1 k1 => by
    have dict : ∀ {l : List (PyData × PyData)}, PkD X.kf B1 H1 v (.dict l) → outQ X.kf xc W Γ B1 σ Q (bif kOk l (.str key) then qdat (dGet l (.str key)) ρ1 else .bad) → tC (.str key) σ H1 fun y H2 => ∃ a v', v = .ref a ∧ DGet H2 a y (some v') ∧ Q v' H2 := fun {l} pk k => by
      cases hk : kOk l (.str key) with
      | false => rw [hk] at k; exact k.elim
      | true =>
        rw [hk, cond_true] at k
        cases hg : dGet l (.str key) with
        | none => rw [hg] at k; exact k.elim
        | some d =>
          rw [hg] at k
          obtain ⟨a, rfl, ⟨kvs, g1, g2⟩ | ⟨L, g1, g2, g0⟩⟩ := pk.dict r1 (dOk_of hk)
          · obtain ⟨w, w1, w2⟩ := (dGet_k g2 (k := .inr key)).1 d hg
            exact ⟨a, w, rfl, .inl ⟨kvs, .inr key, g1, rfl, w1.symm⟩, k w B1 H1 (Ex.refl _) r1 w2⟩
          · exact absurd (dpKN_nN g2 (kOk_str hk)).2 g0
    cases t with
    | «at» i p =>
      unfold qk at k1
      simp only at k1
      split at k1
      · rename_i fs hp
        obtain ⟨a, vs, w, rfl, ho, hl, _, hq⟩ := sub_place r1 hp q1 k1
        exact ⟨a, w, rfl, .inl ⟨kvS vs, .inr key, .inl ho, rfl, by rw [valV_kvS, hl]⟩, hq⟩
      · rename_i l hp
        refine dict (l := l) (thd_pk (t := .at i p) r1 q1 ?_) k1
        unfold thd
        simp only [hp]
      · exact k1.elim
    | dat d =>
      unfold qk at k1
      split at k1
      · rename_i i p hd
        cases hd
      · rename_i l hd
        cases hd
        exact dict (.inl q1) k1
      · exact k1.elim
end
end Z
set_option maxHeartbeats 2000000
/-! Z: a display of a dict with keys that are texts, with empty dicts of one's own in it. -/
namespace Z
open PySem PySem.Spec PyProof.Rows L2
open Evl (Ex ex_l ex_t ex_rd)
section
variable {K : KF} {J : List Nat} {Γ : Fm J} {B B' : Hp} {ρ : En} {σ : L2.St} {H H' : Hp}
/-- the frame with empty dicts in it -/
abbrev Fm.ad {J : List Nat} (Γ : Fm J) (S : List Addr) : Fm J := ⟨fun a => if a ∈ S then some (.dK []) else Γ.F a, Γ.B0, Γ.io, Γ.hv⟩
theorem Fm.ad_in {S : List Addr} {a : Addr} (h : a ∈ S) : (Γ.ad S).F a = some (.dK []) := if_pos h
theorem Fm.ad_out {S : List Addr} {a : Addr} (h : a ∉ S) : (Γ.ad S).F a = Γ.F a := if_neg h
theorem Rep.ad {S : List Addr} {D : Addr} (r : Rep K (Γ.ad S) B ρ σ H) (hD : H D = none) : Rep K (Γ.ad (S ++ [D])) B ρ σ (upd H D (.dK [])) := by
  have h := r.plus (o := .dK []) hD
  have e : (Γ.ad S).plus D (.dK []) = Γ.ad (S ++ [D]) := by
    have e1 : upd (Γ.ad S).F D (.dK []) = (Γ.ad (S ++ [D])).F := by
      funext a
      by_cases ea : a = D
      · subst ea
        rw [upd_same, Fm.ad_in (by simp)]
      · rw [upd_ne ea]
        by_cases m : a ∈ S
        · rw [Fm.ad_in m, Fm.ad_in (by simp [m])]
        · rw [Fm.ad_out m, Fm.ad_out (by simp [m, ea])]
    show (⟨upd (Γ.ad S).F D (.dK []), Γ.B0, Γ.io, Γ.hv⟩ : Fm J) = _
    rw [e1]
  rw [e] at h
  exact h
theorem Rep.ad1 {D : Addr} (r : Rep K Γ B ρ σ H) (hD : H D = none) : Rep K (Γ.ad [D]) B ρ σ (upd H D (.dK [])) := by
  have h := r.plus (o := .dK []) hD
  have e : Γ.plus D (.dK []) = Γ.ad [D] := by
    have e1 : upd Γ.F D (.dK []) = (Γ.ad [D]).F := by
      funext a
      by_cases ea : a = D
      · subst ea
        rw [upd_same, Fm.ad_in (by simp)]
      · rw [upd_ne ea, Fm.ad_out (by simp [ea])]
    show (⟨upd Γ.F D (.dK []), Γ.B0, Γ.io, Γ.hv⟩ : Fm J) = _
    rw [e1]
  rw [e] at h
  exact h
theorem Rep.unad {S : List Addr} (r : Rep K (Γ.ad S) B ρ σ H) (hS : ∀ a ∈ S, Γ.F a = none) (hH : ∀ a, a ∉ S → H' a = H a) :
    Rep K Γ B ρ σ H' ∧ (∀ a ∈ S, Own Γ.X B a ∧ H a = some (.dK [])) ∧ ∀ s v A, s.nh = true → SA K Γ.X B H' s v A → (∀ a ∈ A, a ∈ S) → SRes K Γ B ρ σ H' s v := by
  have hb : ∀ a ∈ S, B a = none := fun a m => r.fb a _ (Fm.ad_in m)
  have sub : ∀ a, (Γ.ad S).F a = none → Γ.F a = none ∧ a ∉ S := fun a h => by
    have m : a ∉ S := fun m => by rw [Fm.ad_in m] at h; cases h
    rw [Fm.ad_out m] at h
    exact ⟨h, m⟩
  have fout : ∀ {a : Addr} {u : HO}, Γ.F a = some u → a ∉ S := fun h m => by rw [hS _ m] at h; cases h
  have r2 : Rep K Γ B ρ σ H' := by
    refine r.refm (fun a u h => ?_) (fun a u h => ?_) (fun a u h => ?_) rfl rfl rfl fun i s v A _ _ h3 a ha => ?_
    · rw [hH a fun m => by rw [hb a m] at h; cases h]
      exact r.bh a u h
    · rw [hH a (fout h)]
      exact r.fh a u (by rw [Fm.ad_out (fout h)]; exact h)
    · exact r.fb a u (by rw [Fm.ad_out (fout h)]; exact h)
    · obtain ⟨g1, g2⟩ := sub a (SA.own h3 a ha).2.1
      exact ⟨g1, hH a g2⟩
  refine ⟨r2, fun a m => ⟨⟨hb a m, hS a m⟩, r.fh a _ (Fm.ad_in m)⟩, fun s v A n h hA => ⟨n, A, h, fun i t u C h1 h2 h3 a ha hc => ?_⟩⟩
  obtain ⟨u', C', g1, g2⟩ := r.at_ i t h1
  have ev := some_inj2 (h2.symm.trans g1)
  subst ev
  have g3 : SA K Γ.X B H' t u C' := SA.move (F := (Γ.ad S).X) (F' := Γ.X) (Ex.refl B) rfl (fun b hb' => by
    obtain ⟨z1, z2, _⟩ := SA.own g2 b hb'
    obtain ⟨y1, y2⟩ := sub b z2
    exact ⟨z1, y1, hH b y2⟩) g2
  rw [SA.uniq h3 g3] at hc
  exact (sub a (SA.own g2 a hc).2.1).2 (hA a ha)
/-- the pairs that are made -/
inductive DnAt (K : KF) (B : Hp) : List (Str × Option PyData) → List (Str × V) → List Addr → Prop
  | nil : DnAt K B [] [] []
  | dat {k : Str} {d : PyData} {v : V} {r : List (Str × Option PyData)} {vs : List (Str × V)} {L : List Addr} : Dp K B v d → DnAt K B r vs L → DnAt K B ((k, some d) :: r) ((k, v) :: vs) L
  | new {k : Str} {a : Addr} {r : List (Str × Option PyData)} {vs : List (Str × V)} {L : List Addr} : DnAt K B r vs L → DnAt K B ((k, none) :: r) ((k, .ref a) :: vs) (a :: L)
def fsOf : List (Str × Option PyData) → Fs
  | [] => .nil
  | (k, some d) :: r => .cons k (.dat d) (fsOf r)
  | (k, none) :: r => .cons k (.dic []) (fsOf r)
theorem fsOf_nh : ∀ {r : List (Str × Option PyData)}, (fsOf r).nh = true
  | [] => rfl
  | (k, some d) :: r => by show (true && (fsOf r).nh) = true; rw [fsOf_nh]; rfl
  | (k, none) :: r => by show (true && (fsOf r).nh) = true; rw [fsOf_nh]; rfl
theorem DnAt.mono (e : Ex B B') : ∀ {r : List (Str × Option PyData)} {vs : List (Str × V)} {L : List Addr}, DnAt K B r vs L → DnAt K B' r vs L
  | _, _, _, .nil => .nil
  | _, _, _, .dat h t => .dat (dp_mono e h) (t.mono e)
  | _, _, _, .new t => .new (t.mono e)
theorem DnAt.snocD {k : Str} {d : PyData} {v : V} (h : Dp K B v d) : ∀ {r : List (Str × Option PyData)} {vs : List (Str × V)} {L : List Addr}, DnAt K B r vs L → DnAt K B (r ++ [(k, some d)]) (vs ++ [(k, v)]) L
  | _, _, _, .nil => .dat h .nil
  | _, _, _, .dat g t => .dat g (t.snocD h)
  | _, _, _, .new t => .new (t.snocD h)
theorem DnAt.snocN {k : Str} {a : Addr} : ∀ {r : List (Str × Option PyData)} {vs : List (Str × V)} {L : List Addr}, DnAt K B r vs L → DnAt K B (r ++ [(k, none)]) (vs ++ [(k, .ref a)]) (L ++ [a])
  | _, _, _, .nil => .new .nil
  | _, _, _, .dat g t => .dat g t.snocN
  | _, _, _, .new t => .new t.snocN
theorem DnAt.sf {F : Fx} : ∀ {r : List (Str × Option PyData)} {vs : List (Str × V)} {L : List Addr}, DnAt K B r vs L → L.Nodup → (∀ a ∈ L, Own F B a ∧ H a = some (.dK [])) → SF K F B H (fsOf r) vs L
  | _, _, _, .nil, _, _ => ⟨rfl, rfl⟩
  | _, _, _, .dat (v := v) (vs := vs) (L := L) g t, nd, ow => ⟨v, vs, [], L, rfl, rfl, fun a h => absurd h (by simp), ⟨rfl, g⟩, t.sf nd ow⟩
  | _, _, _, .new (a := a) (vs := vs) (L := L) t, nd, ow => by
    rw [List.nodup_cons] at nd
    refine ⟨.ref a, vs, [a], L, rfl, rfl, fun b h m => ?_, ⟨a, rfl, rfl, (ow a (by simp)).1, .inl ⟨[], (ow a (by simp)).2, .nil⟩⟩, t.sf nd.2 fun b m => ow b (List.mem_cons_of_mem _ m)⟩
    have e : b = a := by simpa using h
    subst e
    exact nd.1 m
theorem merge_kvS : ∀ {vs us : List (Str × V)}, ((us ++ vs).map (·.1)).Nodup → mergeK (kvS us) (kvS vs) = kvS (us ++ vs)
  | [], us, _ => by rw [List.append_nil]; rfl
  | (k, v) :: vs, us, nd => by
    show mergeK (putK (kvS us) (.inr k) v) (kvS vs) = _
    have hn : valV (kvS us) (.inr k) = none := by
      rw [valV_kvS]
      cases e : us.lookup k with
      | none => rfl
      | some w =>
        exfalso
        have m : ∀ {us : List (Str × V)} {w : V}, us.lookup k = some w → k ∈ us.map (·.1) := by
          intro us
          induction us with
          | nil => intro w h; cases h
          | cons p us ih =>
            intro w h
            rw [List.lookup] at h
            split at h
            · rename_i hk
              have := eq_of_beq hk
              subst this
              simp
            · exact List.mem_cons_of_mem _ (ih h)
        have m := m e
        rw [List.map_append, List.nodup_append] at nd
        exact nd.2.2 k m k (by simp) rfl
    rw [putK_new v hn]
    have e2 : kvS us ++ [(Sum.inr k, v)] = kvS (us ++ [(k, v)]) := by unfold kvS; rw [List.map_append]; rfl
    rw [e2, merge_kvS (by rw [List.append_assoc]; exact nd), List.append_assoc]
    rfl
end
abbrev Its := List (Str × Option CE)
def recG : Its → List (Str × Option PyData) → En → R
  | [], done, ρ => .ok (.obj none (fsOf done)) ρ
  | (k, some c) :: r, done, ρ => (c ρ).bd fun d ρ => recG r (done ++ [(k, some d)]) ρ
  | (k, none) :: r, done, ρ => recG r (done ++ [(k, none)]) ρ
/-- {"k": c, "l": {}, ..} -/
def cRec (it : Its) : CE := recG it []
section
variable {X : Cx} {xc : Str → Value} {W : Ww} {pos p p2 : Pos} {j : Nat} {v : Expr} {ks : List (Option Expr)} {vs : List Expr} {it : Its} {c : CE}
def tItm (K : KF) (xc : Str → Value) (W : Ww) (i : Str × Option CE) : TE × TE := (tC (.str i.1), match i.2 with
  | some c => tZ K xc W c
  | none => tDNewK)
def ZD (X : Cx) (xc : Str → Value) (W : Ww) (pos : Pos) (ks : List (Option Expr)) (vs : List Expr) (it : Its) : Prop := PPs X pos ks vs (it.map (tItm X.kf xc W))
theorem zd_nil : ZD X xc W pos [] [] [] := pps_nil
theorem zd_d {k : Str} (h : ZE X xc W v c) (t : ZD X xc W pos ks vs it) : ZD X xc W pos (some (.Constant (.str k) j p) :: ks) (v :: vs) ((k, some c) :: it) := pps_cons pe_str h t
theorem zd_n {k : Str} (t : ZD X xc W pos ks vs it) : ZD X xc W pos (some (.Constant (.str k) j p) :: ks) (.Dict [] [] p2 :: vs) ((k, none) :: it) := pps_cons pe_str pe_dnewK t
theorem tz_rec {K : KF} {σ : L2.St} {Q : VK} {Γ : Fm W.J} {q : Addr} (fq : Γ.F q = none) : ∀ {it : Its} {done : List (Str × Option PyData)} {us : List (Str × V)} {L : List Addr} {B : Hp} {ρ : En} {H : Hp},
    Rep K (Γ.ad (q :: L)) B ρ σ H → (q :: L).Nodup → (∀ a ∈ L, Γ.F a = none) → DnAt K B done us L → outZ K xc W Γ B σ Q (recG it done ρ) →
    ∀ Q' : List (V × V) → Hp → Prop, (∀ H2 vs, H2 q = some (.dK []) → vs.map (·.1) = it.map (·.1) → Q (.ref q) (upd H2 q (.dK (kvS (us ++ vs)))) → Q' (vs.map fun kv => (.str kv.1, kv.2)) H2) → tPairs (it.map (tItm K xc W)) σ H Q'
  | [], done, us, L, B, ρ, H, rep, nd, fL, dn, k, Q', nx => by
    have hS : ∀ a ∈ q :: L, Γ.F a = none := fun a m => by
      rcases List.mem_cons.mp m with e | e
      · subst e; exact fq
      · exact fL a e
    obtain ⟨r2, ow, mk⟩ := rep.unad (H' := upd H q (.dK (kvS us))) hS fun a m => upd_ne fun e => m (by subst e; simp)
    rw [List.nodup_cons] at nd
    refine nx H [] (ow q (by simp)).2 rfl ?_
    rw [List.append_nil]
    refine k (.ref q) B _ (Ex.refl B) r2 (mk _ _ (q :: L) fsOf_nh ⟨q, us, L, rfl, rfl, nd.1, (ow q (by simp)).1, upd_same, dn.sf nd.2 fun a m => ⟨(ow a (List.mem_cons_of_mem _ m)).1, ?_⟩⟩ fun a m => m)
    rw [upd_ne fun e => nd.1 (by subst e; exact m)]
    exact (ow a (List.mem_cons_of_mem _ m)).2
  | (key, some c) :: it, done, us, L, B, ρ, H, rep, nd, fL, dn, k, Q', nx => by
    have hS : ∀ a ∈ q :: L, Γ.F a = none := fun a m => by
      rcases List.mem_cons.mp m with e | e
      · subst e; exact fq
      · exact fL a e
    show tC (.str key) σ H fun x H1 => tZ K xc W c σ H1 fun y H2 => tPairs (it.map (tItm K xc W)) σ H2 _
    show tZ K xc W c σ H _
    refine ⟨_, B, ρ, rep, ?_⟩
    have k : outZ K xc W Γ B σ Q ((c ρ).bd fun d ρ => recG it (done ++ [(key, some d)]) ρ) := k
    cases hc : c ρ with
    | bad => rw [hc] at k; exact k.elim
    | exc x ρ1 =>
      rw [hc] at k
      exact fun B1 H1 e1 r1 => k B1 H1 e1 (r1.unad (H' := H1) hS fun _ _ => rfl).1
    | ok s ρ1 =>
      rw [hc] at k
      intro w B1 H1 e1 r1 q1
      obtain ⟨B2, e2, r2, q2⟩ := SRes.data r1 q1
      have k2 : outZ K xc W Γ B σ Q (recG it (done ++ [(key, some s.d)]) ρ1) := k
      refine tz_rec fq r2 nd fL ((dn.mono (e1.trans e2)).snocD (k := key) q2) (outZ_mono (e1.trans e2) k2) _ fun H2 vs g1 g3 g4 => ?_
      refine nx H2 ((key, w) :: vs) g1 ?_ ?_
      · rw [List.map_cons, List.map_cons, g3]
      · rw [List.append_assoc] at g4
        exact g4
  | (key, none) :: it, done, us, L, B, ρ, H, rep, nd, fL, dn, k, Q', nx => by
    show ∀ a, H a = none → tPairs (it.map (tItm K xc W)) σ (upd H a (.dK [])) _
    intro a ha
    have r2 := rep.ad ha
    have fa : Γ.F a = none := by
      have := Evl.fresh_back rep.fh ha
      by_cases m : a ∈ q :: L
      · rw [Fm.ad_in m] at this; cases this
      · rwa [Fm.ad_out m] at this
    have na : a ∉ q :: L := fun m => by
      have := rep.fh a _ (Fm.ad_in m)
      rw [ha] at this
      cases this
    have nd2 : (q :: (L ++ [a])).Nodup := by
      show ((q :: L) ++ [a]).Nodup
      rw [List.nodup_append]
      refine ⟨nd, by simp, fun x m y n e => ?_⟩
      have e2 : y = a := by simpa using n
      subst e2 e
      exact na m
    refine tz_rec (it := it) fq (L := L ++ [a]) r2 nd2 (fun b m => by
      rcases List.mem_append.mp m with m | m
      · exact fL b m
      · have e : b = a := by simpa using m
        subst e; exact fa) (dn.snocN (k := key) (a := a)) k _ fun H2 vs g1 g3 g4 => ?_
    refine nx H2 ((key, .ref a) :: vs) g1 ?_ ?_
    · rw [List.map_cons, List.map_cons, g3]
    · rw [List.append_assoc] at g4
      exact g4
theorem ze_rec (h : ZD X xc W pos ks vs it) (nd : (it.map (·.1)).Nodup := by decide) (hall : ks.all (·.isSome) = true := by rfl) (hl : ks.length = vs.length := by rfl) (h0 : ks ≠ [] := by exact fun e => by cases e) (h15 : ks.length ≤ 15 := by decide) (h16 : it.length ≤ 15 := by decide) :
    ZE X xc W (.Dict ks vs pos) (cRec it) := PE.imp (pe_disp h hall hl h0 h15) fun σ H Q ⟨Γ, B, ρ, rep, k⟩ => fun q hq => by
  have fq : Γ.F q = none := Evl.fresh_back rep.fh hq
  refine tz_rec (K := X.kf) (xc := xc) (W := W) (it := it) (done := []) (us := []) (L := []) fq (rep.ad1 hq) (by simp) (fun a m => absurd m (by simp)) .nil k _ fun H2 vs g1 g3 g4 => ⟨g1, kvS vs, ?_, ?_, ?_⟩
  · unfold kvS
    rw [List.map_map]
    rfl
  · have e := congrArg List.length g3
    rw [List.length_map, List.length_map] at e
    unfold kvS
    rw [List.length_map]
    omega
  · have e : mergeK [] (kvS vs) = kvS vs := merge_kvS (us := []) (by rw [List.nil_append, g3]; exact nd)
    rw [e]
    exact g4
end
end Z
set_option maxHeartbeats 2000000
namespace Z
open PySem PySem.Spec PyProof.Rows L2
section
variable {P : Program} {w : World} {K : PySem.W.Frag} {mg : Str → Option Value} {base : Heap} {xc : Str → Value} {C f : Addr} {fd : FuncData} {c m : Str} {k n : Nat} {ps : List Str} {F : Fn}
theorem HasM.mk (hC : ClsAt ⟨K, P, w⟩ c C) (cl : Cls K C) (me : Meth K C m f) (h : FnOk P w K mg base (L2.CX P w) k f fd ps (spZ ⟨K, P, w⟩ xc n F)) (b : Binds K fd ps []) : HasM P w K mg base xc c m k n ps F := ⟨C, f, fd, hC, cl, me, h, b⟩
theorem HasC.mk (hC : ClsAt ⟨K, P, w⟩ c C) (hm : mg c = some (.ref C)) (mk : Mk K C f) (h : FnOk P w K mg base (L2.CX P w) k f fd ps (spZ ⟨K, P, w⟩ xc n F)) (b : Binds K fd ps []) : HasC P w K mg base xc c k n ps F := ⟨C, f, fd, hC, hm, mk, h, b⟩
end
end Z
set_option maxHeartbeats 2000000
/-! Z: the machine's rules for places and classes. -/
namespace Z
open PySem PySem.Spec PyProof.Rows L2
section
variable {ρ ρ' : En} {b : Bool}
theorem cMeth_r {c m : Str} {F : Fn} {i : Nat} {cx : CX'} : cMeth c m F i cx ρ = bif isOb c m (ρ[i]?) then cCall F (cxS i cx) ρ else .bad := rfl
def kQ3 (r : RQ) (g : PyData → PyData → Option S) (d : PyData) : R := r.bd (qc g d)
def kQ2 (r : R) (g : PyData → PyData → Option S) (cq : CQ) : R := r.bd fun d ρ => kQ3 (cq ρ) g d
theorem cQ2_r {g : PyData → PyData → Option S} {ca : CE} {cq : CQ} : cQ2 g ca cq ρ = kQ2 (ca ρ) g cq := rfl
theorem kQ2_0 {s : S} {g : PyData → PyData → Option S} {cq : CQ} : kQ2 (.ok s ρ) g cq = kQ3 (cq ρ) g s.d := rfl
def kqs (o : Option S) (ρ : En) : R := match scalS o with
  | some c => .ok (.dat c.1) ρ
  | none => .bad
def kqc (o : Option PyData) (g : PyData → PyData → Option S) (d : PyData) (ρ : En) : R := match o with
  | some e => kqs (g d e) ρ
  | none => .bad
theorem kQ3_0 {i : Nat} {p : List Str} {g : PyData → PyData → Option S} {d : PyData} : kQ3 (.at i p ρ) g d = kqc (thd ρ (.at i p)) g d ρ := rfl
theorem kQ3_1 {e : PyData} {g : PyData → PyData → Option S} {d : PyData} : kQ3 (.dat e ρ) g d = kqs (g d e) ρ := rfl
theorem kqc_0 {e : PyData} {g : PyData → PyData → Option S} {d : PyData} : kqc (some e) g d ρ = kqs (g d e) ρ := rfl
theorem kqs_b {x : Bool} : kqs (some (.dat (.bool x))) ρ = .ok (.dat (.bool x)) ρ := rfl
theorem gInZ_t {l : List (PyData × PyData)} {d : PyData} {neg : Bool} (h : kOk l d = true) : gInZ neg d (.dict l) = some (.dat (.bool (neg != (dGet l d).isSome))) := by
  show (bif kOk l d then _ else _) = _
  rw [h]; rfl
theorem gIxZ_t {l : List (PyData × PyData)} {d e : PyData} (h : kOk l d = true) (g : dGet l d = some e) : gIxZ (.dict l) d = some (.dat e) := by
  show (bif kOk l d then _ else _) = _
  rw [h, g]; rfl
theorem gIxZ_p {l : List PyData} {d : PyData} : gIxZ (.tuple l) d = gIx (.tuple l) d := rfl
theorem gIxZ_l {l : List PyData} {d : PyData} : gIxZ (.list l) d = gIx (.list l) d := rfl
theorem gLenZ_t {l : List (PyData × PyData)} (h : dOk l = true) : gLenZ (.dict l) = some (.dat (.int (l.length : Int))) := by
  show (bif dOk l then _ else _) = _
  rw [h]; rfl
theorem gDcopy_t {l : List (PyData × PyData)} (h : (l.all fun p => isK p.1) = true) : gDcopy (.dict l) = some (.dic l) := by
  show (bif _ then _ else _) = _
  rw [h]; rfl
def kQ1 (r : RQ) (g : PyData → Option S) : R := r.bd (q1 g)
theorem cQ1_r {g : PyData → Option S} {cq : CQ} : cQ1 g cq ρ = kQ1 (cq ρ) g := rfl
def k1t (o : Option PyData) (g : PyData → Option S) (ρ : En) : R := match o with
  | some d => R.lift (g d) ρ
  | none => .bad
theorem kQ1_0 {i : Nat} {p : List Str} {g : PyData → Option S} : kQ1 (.at i p ρ) g = k1t (thd ρ (.at i p)) g ρ := rfl
theorem kQ1_1 {d : PyData} {g : PyData → Option S} : kQ1 (.dat d ρ) g = R.lift (g d) ρ := rfl
theorem k1t_0 {d : PyData} {g : PyData → Option S} : k1t (some d) g ρ = R.lift (g d) ρ := rfl
def kPu (r : R) : RP := match r with
  | .ok s _ => .ok s.d
  | .exc x _ => .exc x
  | .bad => .bad
theorem cPu_r {c : CE} : cPu c ρ = kPu (c (dO ρ)) := rfl
theorem kPu_0 {s : S} : kPu (.ok s ρ) = .ok s.d := rfl
theorem dO_n  : dO [] = [] := rfl
theorem dO_0 {r : En} : dO (none :: r) = none :: dO r := rfl
theorem dO_d {d : PyData} {r : En} : dO (some (.dat d) :: r) = some (.dat d) :: dO r := rfl
theorem dO_l {l : List PyData} {r : En} : dO (some (.lst l) :: r) = none :: dO r := rfl
theorem dO_c {l : List (PyData × PyData)} {r : En} : dO (some (.dic l) :: r) = none :: dO r := rfl
theorem dO_o {c : Option Str} {fs : Fs} {r : En} : dO (some (.obj c fs) :: r) = none :: dO r := rfl
def kIx2 (o : Option PyData) (k : PyData) (ρ : En) : R := match o with
  | some d => R.lift (gIxZ d k) ρ
  | none => .bad
def kIx1 (r : RP) (t : Th) (ρ : En) : R := match r with
  | .ok k => kIx2 (thd ρ t) k ρ
  | .exc x => .exc x ρ
  | .bad => .bad
def kIx (r : RQ) (ci : CE) : R := r.bd fun t ρ => kIx1 (cPu ci ρ) t ρ
theorem cIxQ_r {cq : CQ} {ci : CE} : cIxQ cq ci ρ = kIx (cq ρ) ci := by
  have e : qix ci = fun t ρ => kIx1 (cPu ci ρ) t ρ := by
    funext t ρ
    unfold qix kIx1 kIx2
    cases cPu ci ρ <;> rfl
  unfold cIxQ kIx
  rw [e]
theorem kIx_0 {i : Nat} {p : List Str} {ci : CE} : kIx (.at i p ρ) ci = kIx1 (cPu ci ρ) (.at i p) ρ := rfl
theorem kIx_1 {d : PyData} {ci : CE} : kIx (.dat d ρ) ci = kIx1 (cPu ci ρ) (.dat d) ρ := rfl
theorem kIx1_0 {k : PyData} {t : Th} : kIx1 (.ok k) t ρ = kIx2 (thd ρ t) k ρ := rfl
theorem kIx2_0 {d k : PyData} : kIx2 (some d) k ρ = R.lift (gIxZ d k) ρ := rfl
theorem thd_d {d : PyData} : thd ρ (.dat d) = some d := rfl
def kth (o : Option S) : Option PyData := match o with
  | some (.lst l) => some (.list l)
  | some (.dic l) => some (.dict l)
  | _ => none
theorem thd_p {i : Nat} {p : List Str} : thd ρ (.at i p) = kth (plc ρ i p) := by
  unfold thd kth
  rfl
theorem kth_l {l : List PyData} : kth (some (.lst l)) = some (.list l) := rfl
theorem kth_d {l : List (PyData × PyData)} : kth (some (.dic l)) = some (.dict l) := rfl
def kpl (o : Option (Option S)) (p : List Str) : Option S := match o with
  | some (some s) => S.at p s
  | _ => none
theorem plc_r {i : Nat} {p : List Str} : plc ρ i p = kpl (ρ[i]?) p := rfl
theorem kpl_0 {s : S} {p : List Str} : kpl (some (some s)) p = S.at p s := rfl
def kpp (o : Option (Option S)) (i : Nat) (p : List Str) (t : S) (ρ : En) : En := match o with
  | some (some s) => ρ.set i (some (S.up p s t))
  | _ => ρ
theorem pup_r {i : Nat} {p : List Str} {t : S} : pup ρ i p t = kpp (ρ[i]?) i p t ρ := rfl
theorem kpp_0 {s : S} {i : Nat} {p : List Str} {t : S} : kpp (some (some s)) i p t ρ = ρ.set i (some (S.up p s t)) := rfl
def kqN (o : Option (Option S)) (i : Nat) (ρ : En) : RQ := match o with
  | some (some (.dat d)) => .dat d ρ
  | some (some _) => .at i [] ρ
  | _ => .bad
theorem cqN_r {i : Nat} : cqN i ρ = kqN (ρ[i]?) i ρ := rfl
theorem kqN_d {d : PyData} {i : Nat} : kqN (some (some (.dat d))) i ρ = .dat d ρ := rfl
theorem kqN_l {l : List PyData} {i : Nat} : kqN (some (some (.lst l))) i ρ = .at i [] ρ := rfl
theorem kqN_c {l : List (PyData × PyData)} {i : Nat} : kqN (some (some (.dic l))) i ρ = .at i [] ρ := rfl
theorem kqN_o {c : Option Str} {fs : Fs} {i : Nat} : kqN (some (some (.obj c fs))) i ρ = .at i [] ρ := rfl
def kqF (r : RQ) (c f : Str) : RQ := r.bq (qf c f)
theorem cqF_r {c f : Str} {cq : CQ} : cqF c f cq ρ = kqF (cq ρ) c f := rfl
theorem kqF_0 {c f : Str} {i : Nat} {p : List Str} : kqF (.at i p ρ) c f = qf c f (.at i p) ρ := rfl
theorem kqF_1 {c f : Str} {d : PyData} : kqF (.dat d ρ) c f = qf c f (.dat d) ρ := rfl
def kqK (r : RQ) (f : Str) : RQ := r.bq (qk f)
theorem cqK_r {f : Str} {cq : CQ} : cqK f cq ρ = kqK (cq ρ) f := rfl
theorem kqK_0 {f : Str} {i : Nat} {p : List Str} : kqK (.at i p ρ) f = qk f (.at i p) ρ := rfl
theorem kqK_1 {f : Str} {d : PyData} : kqK (.dat d ρ) f = qk f (.dat d) ρ := rfl
def kqD (r : R) : RQ := match r with
  | .ok s ρ => .dat s.d ρ
  | .exc x ρ => .exc x ρ
  | .bad => .bad
theorem cqD_r {c : CE} : cqD c ρ = kqD (c ρ) := rfl
theorem kqD_0 {s : S} : kqD (.ok s ρ) = .dat s.d ρ := rfl
def kQV (r : RQ) : R := r.bd qv
theorem cQV_r {cq : CQ} : cQV cq ρ = kQV (cq ρ) := rfl
theorem kQV_1 {d : PyData} : kQV (.dat d ρ) = .ok (.dat d) ρ := rfl
def kSF1 (o : Option (Option S)) (i : Nat) (c f : Str) (s : S) (ρ : En) : O := match o with
  | some (some (.obj (some c') fs)) => bif c' == c && decide (fs.d.length < 1000) then .nx (ρ.set i (some (.obj (some c) (fs.set f s)))) else .bad
  | _ => .bad
def kSF (r : R) (i : Nat) (c f : Str) : O := r.bs fun s ρ => kSF1 (ρ[i]?) i c f s ρ
theorem cSetF_r {i : Nat} {c f : Str} {ce : CE} : cSetF i c f ce ρ = kSF (ce ρ) i c f := rfl
theorem kSF_0 {s : S} {i : Nat} {c f : Str} : kSF (.ok s ρ) i c f = kSF1 (ρ[i]?) i c f s ρ := rfl
def kDS3 (r : RP) (l : List (PyData × PyData)) (s : S) (i : Nat) (p : List Str) (ρ : En) : O := match r with
  | .ok k => bif kOk l k && decide (l.length < sizeLine) then .nx (pup ρ i p (.dic (dPut l k s.d))) else .bad
  | .exc x => .exc x ρ
  | .bad => .bad
def kDS2 (o : Option S) (ci : CE) (s : S) (i : Nat) (p : List Str) (ρ : En) : O := match o with
  | some (.dic l) => kDS3 (cPu ci ρ) l s i p ρ
  | _ => .bad
def kDS1 (r : RQ) (ci : CE) (s : S) : O := r.bs (qds ci s)
def kDS (r : R) (cq : CQ) (ci : CE) : O := r.bs fun s ρ => kDS1 (cq ρ) ci s
theorem cDSet_r {cq : CQ} {ci ce : CE} : cDSet cq ci ce ρ = kDS (ce ρ) cq ci := rfl
theorem kDS_0 {s : S} {cq : CQ} {ci : CE} : kDS (.ok s ρ) cq ci = kDS1 (cq ρ) ci s := rfl
theorem kDS1_0 {i : Nat} {p : List Str} {ci : CE} {s : S} : kDS1 (.at i p ρ) ci s = kDS2 (plc ρ i p) ci s i p ρ := by
  show (match plc ρ i p with
    | some (.dic l) => (match cPu ci ρ with
      | .ok k => bif kOk l k && decide (l.length < sizeLine) then O.nx (pup ρ i p (.dic (dPut l k s.d))) else .bad
      | .exc x => .exc x ρ
      | .bad => .bad)
    | _ => .bad) = _
  unfold kDS2 kDS3
  first
    | rfl
    | (cases plc ρ i p with
      | none => rfl
      | some t => cases t with
        | dic l => cases cPu ci ρ <;> rfl
        | dat _ | lst _ | obj _ _ | hole => rfl)
theorem kDS2_0 {l : List (PyData × PyData)} {ci : CE} {s : S} {i : Nat} {p : List Str} : kDS2 (some (.dic l)) ci s i p ρ = kDS3 (cPu ci ρ) l s i p ρ := rfl
theorem kDS3_0 {k : PyData} {l : List (PyData × PyData)} {s : S} {i : Nat} {p : List Str} : kDS3 (.ok k) l s i p ρ = bif kOk l k && decide (l.length < sizeLine) then .nx (pup ρ i p (.dic (dPut l k s.d))) else .bad := rfl
def kNew2 (r : FR) (as : List Ar) (ρ : En) : R := match r with
  | .ok (.dat .none) (s0 :: ss') => bif s0.nh then .ok s0 (putBack ρ as ss') else .bad
  | .exc x (_ :: ss') => .exc x (putBack ρ as ss')
  | _ => .bad
def kNew1 (o : Option (List S)) (c : Str) (F : Fn) (as : List Ar) (ρ : En) : R := match o with
  | some ss => bif dist (slotsOf as) then kNew2 (F (.obj (some c) .nil :: ss)) as ρ else .bad
  | none => .bad
def kNew (r : RX) (c : Str) (F : Fn) : R := match r with
  | .ok as ρ => kNew1 (ssOf ρ as) c F as ρ
  | .exc x ρ => .exc x ρ
  | .bad => .bad
theorem cNew_r {c : Str} {F : Fn} {cx : CX'} : cNew c F cx ρ = kNew (cx ρ) c F := by
  unfold cNew kNew kNew1 kNew2
  cases cx ρ with
  | ok as ρ1 => cases ssOf ρ1 as <;> rfl
  | exc x ρ1 => rfl
  | bad => rfl
theorem kNew_0 {as : List Ar} {c : Str} {F : Fn} : kNew (.ok as ρ) c F = kNew1 (ssOf ρ as) c F as ρ := rfl
theorem kNew1_0 {ss : List S} {c : Str} {F : Fn} {as : List Ar} : kNew1 (some ss) c F as ρ = bif dist (slotsOf as) then kNew2 (F (.obj (some c) .nil :: ss)) as ρ else .bad := rfl
theorem kNew2_0 {s0 : S} {ss : List S} {as : List Ar} : kNew2 (.ok (.dat .none) (s0 :: ss)) as ρ = bif s0.nh then .ok s0 (putBack ρ as ss) else .bad := rfl
theorem noX_nx {c : CS} (h : c ρ = .nx ρ') : cNoX c ρ = .nx ρ' := by unfold cNoX; rw [h]; rfl
theorem noX_ok {c : CE} {s : S} (h : c ρ = .ok s ρ') : cNoXE c ρ = .ok s ρ' := by unfold cNoXE; rw [h]; rfl
theorem ciKeys_at {s : Sr} {l : List (PyData × PyData)} (h : srv ρ s = some (.dict l)) (g : allK l = true) : ciKeys s ρ = .ok (l.map (·.1)) ρ := by
  unfold ciKeys kKeys; rw [h]; simp only; rw [g]; rfl
theorem ciItems_at {s : Sr} {l : List (PyData × PyData)} (h : srv ρ s = some (.dict l)) (g : allK l = true) : ciItems s ρ = .ok (l.map fun p => .tuple [p.1, p.2]) ρ := by
  unfold ciItems kItems; rw [h]; simp only; rw [g]; rfl
theorem cDNew_r  : cDNew ρ = .ok (.dic []) ρ := rfl
def kRec (r : R) (k : Str) (it : Its) (done : List (Str × Option PyData)) : R := r.bd fun d ρ => recG it (done ++ [(k, some d)]) ρ
theorem cRec_r {it : Its} : cRec it ρ = recG it [] ρ := rfl
theorem recG_n {done : List (Str × Option PyData)} : recG [] done ρ = .ok (.obj none (fsOf done)) ρ := rfl
theorem recG_s {k : Str} {c : CE} {it : Its} {done : List (Str × Option PyData)} : recG ((k, some c) :: it) done ρ = kRec (c ρ) k it done := rfl
theorem recG_e {k : Str} {it : Its} {done : List (Str × Option PyData)} : recG ((k, none) :: it) done ρ = recG it (done ++ [(k, none)]) ρ := rfl
theorem kRec_0 {s : S} {k : Str} {it : Its} {done : List (Str × Option PyData)} : kRec (.ok s ρ) k it done = recG it (done ++ [(k, some s.d)]) ρ := rfl
theorem fsOf_n  : fsOf [] = .nil := rfl
theorem fsOf_d {k : Str} {d : PyData} {r : List (Str × Option PyData)} : fsOf ((k, some d) :: r) = .cons k (.dat d) (fsOf r) := rfl
theorem fsOf_c {k : Str} {r : List (Str × Option PyData)} : fsOf ((k, none) :: r) = .cons k (.dic []) (fsOf r) := rfl
end
end Z
set_option maxHeartbeats 2000000
/-! Z: a list is lengthened by a tuple. -/
namespace Z
open PySem PySem.Spec PyProof.Rows L2
open Evl (Ex ex_l ex_t ex_rd)
theorem list_extend_tup (l : Addr) (items : Array Value) (n : Nat) (b : Addr) (items2 : Array Value) (n2 : Nat) (dc : Option Addr) (sl : Array (Option Value)) (hs0 : ¬(!items.isEmpty && Builtin.List.listTooLong (items.size + items2.size)) = true) (hs1 : items.size ≤ sizeLine) (hs2 : items.size + items2.size ≤ sizeLine + 1) :
    Meets (Builtin.«list.extend» ⟨[.ref l, .ref b], []⟩) (fun _ R s => s.heap.get? l = some { cls := .type "list", dict := none, data := .seq items n, slots := #[] } ∧ s.heap.get? b = some { cls := .type "tuple", dict := dc, data := .seq items2 n2, slots := sl } ∧ R (.ok (.ret Value.none)) { s with heap := s.heap.update l (Obj.mapSeq fun x => x ++ items2), toks := s.toks }) :=
  .of_wp fun prog w A R s h => by
    obtain ⟨hp, g, d, tk, os⟩ := s; obtain ⟨hl, hb, h⟩ := h; have f1 := AutoSeq1.idx_int; have f2 := AutoSeq1.sub_tuple_tuple; have f3 := AutoSeq1.sub_list_list; have f4 := AutoSeq1.sub_tuple_list; have f5 := AutoSeq1.sub_list_tuple;
    have hz' : (items ++ items2).size ≤ sizeLine + 1 := by rw [Array.size_append]; exact hs2
    wp_walk using (wpAny_updateSeq hl rfl (hz := hs1) (_hz' := hz')), wpAny_loadPart' hl, wpAny_loadPart' hb; exact ⟨_, rfl, h⟩
def rExtT (K : PySem.W.Frag) : V → List V → Hp → VK → Prop := fun x vs H Q => ∃ l b xs zs, x = .ref l ∧ vs = [.ref b] ∧ H l = some (.lst xs) ∧ L2.SqT K H b zs ∧ xs.length + zs.length ≤ sizeLine ∧ Q .non (upd H l (.lst (xs ++ zs)))
section
variable {X : Cx} {xc : Str → Value} {W : Ww} {o e : Expr} {pos apos cpos : Pos} {ca : CE}
theorem mt_extendT : MtM X "list.extend" (rExtT X.K) := by
  intro pins s σ H x vs v us Q I rx rv h
  obtain ⟨l, b, xs, zs, rfl, rfl, hH, hB, hz, q⟩ := h
  cases rx
  obtain ⟨u, rfl, ru⟩ := rv.one
  cases ru
  obtain ⟨z, its, n, r, hl, e⟩ := I.lstM hH
  obtain ⟨its2, r2, ⟨⟨oc, od, oda, osl⟩, e2, rfl, n2, rfl⟩, z2⟩ := L2.Inv.tuple I hB
  have hl2 := r2.length
  have hsz : its.toArray.size + its2.toArray.size ≤ sizeLine := by rw [List.size_toArray, List.size_toArray]; omega
  have hlong : ¬ (!its.toArray.isEmpty && Builtin.List.listTooLong (its.toArray.size + its2.toArray.size)) = true := by
    rw [notLongL hsz, Bool.and_false]
    exact Bool.false_ne_true
  refine call_meets PySem.F.slot_list_extend ⟨_, e, rfl⟩ PySem.F.entry_list_extend (PySem.F.args_list_extend_2 _ _)
    (list_extend_tup l its.toArray n b its2.toArray n2 od osl hlong (by rw [List.size_toArray]; omega) (by omega)) ⟨e, e2, ?_⟩
  refine ⟨.non, _, I.lset (its' := its ++ its2) hH e (by simp) (r.append r2) ?_, rfl, q⟩
  rw [List.length_append]
  omega
def cExtT (i : Nat) (c : CE) : CS := fun ρ => match ρ[i]? with
  | some (some (.lst _)) => (c ρ).bs fun s ρ => match ρ[i]?, s with
    | some (some (.lst l)), .dat (.tuple m) => bif decide (l.length + m.length ≤ sizeLine) then .nx (ρ.set i (some (.lst (l ++ m)))) else .bad
    | _, _ => .bad
  | _ => .bad
theorem zs_extendT {i : Nat} (ho : PE X o (tVar i)) (he : ZE X xc W e ca)
    (hbase : attributeBase o "extend" X.env (eval o X.env) = eval o X.env := by rfl)
    (hfew : ((backTo cpos (starEach [e] X.env)).all (fun x => !x.1) && (backToKw cpos (keywordEach [] X.env)).all (fun x => x.1.isSome)
      && decide ([e].length + ([] : List Keyword).length + (if ([] : List Keyword).isEmpty then 0 else 1) < 30)) = true := by rfl)
    (hline : (apos.endLine == cpos.line) = true := by rfl) (hs : starEach [e] X.env = (false, eval e X.env) :: starEach [] X.env := by rfl) (hplain : (backTo cpos (starEach [] X.env)).any (·.1) = false := by rfl)
    (hsw : swapsWith (.Call (.Attribute o "extend" apos) [e] [] cpos) none pos.line X.env = pure false := by rfl) :
    ZS X xc W (.Expr (.Call (.Attribute o "extend" apos) [e] [] cpos) pos) (cExtT i ca) :=
  PS.imp (ps_expr (pe_bm PySem.F.plainAttrs_list PySem.F.slot_list_extend PySem.F.type_list_extend mt_extendT ho (pa_cons he pa_nil hs) hbase hfew hline hs hplain) hsw) fun D σ H ⟨Γ, B, ρ, rep, k⟩ => by
    unfold cExtT at k
    split at k
    · rename_i l0 hi
      obtain ⟨a, xs, h1, h2, h3, _⟩ := rep.own hi
      refine ⟨_, h1, .inl ⟨rfl, xs, .inl (.inl h2)⟩, ?_⟩
      refine tz_bs rep k fun v B1 H1 s ρ1 e1 r1 q1 k1 => ?_
      split at k1
      · rename_i l m hl
        cases hd : decide (l.length + m.length ≤ sizeLine) with
        | false => rw [hd] at k1; exact k1.elim
        | true =>
          rw [hd] at k1
          obtain ⟨c, zs, rfl, m3, m5⟩ := dp_tup q1.dp
          obtain ⟨b, ys, g1, g2, g3, g4⟩ := r1.own hl
          rw [h1] at g1
          cases g1
          exact ⟨a, c, ys, zs, rfl, rfl, g2, ex_t r1.bh m3, by rw [dpAll_len g3, dpAll_len m5]; exact of_decide_eq_true hd, k1 B1 σ _ (g4 _ _ (dpAll_app g3 m5))⟩
      · exact k1.elim
    · exact k.elim
theorem cExtT_0 {i : Nat} {c : CE} {ρ : En} {l m : List PyData} (h1 : ρ[i]? = some (some (.lst l))) (h2 : c ρ = .ok (.dat (.tuple m)) ρ) (h3 : decide (l.length + m.length ≤ sizeLine) = true) : cExtT i c ρ = .nx (ρ.set i (some (.lst (l ++ m)))) := by
  unfold cExtT
  rw [h1]
  show (c ρ).bs _ = _
  rw [h2]
  show (match ρ[i]?, S.dat (.tuple m) with
    | some (some (.lst l)), .dat (.tuple m) => bif decide (l.length + m.length ≤ sizeLine) then O.nx (ρ.set i (some (.lst (l ++ m)))) else .bad
    | _, _ => .bad) = _
  rw [h1]
  simp only [h3, cond_true]
end
end Z
set_option maxHeartbeats 2000000
/-! Z: the machine's rules, bundled. -/
namespace Z
open PySem PySem.Spec PyProof.Rows L2
def zR0 := And.intro @k1_0 (And.intro @k1_e (And.intro @k1_c (And.intro @c1_r (And.intro @k2b_0 (And.intro @k2b_e (And.intro @k2b_c (And.intro @k2a_0 (And.intro @k2a_e (And.intro @k2a_c (And.intro @c2_r (And.intro @kN_0 (And.intro @kN_e (And.intro @kN_c (And.intro @cN_r (And.intro @kTup_0 (And.intro @kTup_e (And.intro @kTup_c (And.intro @cTup_r (And.intro @kLst_0 (And.intro @kLst_e (And.intro @kLst_c (And.intro @cLst_r (And.intro @cK_r (And.intro @caNil_r (And.intro @kcb_0 (And.intro @kcb_e (And.intro @kcb_c (And.intro @kca_0 (And.intro @kca_e (And.intro @kca_c (And.intro @caCons_r (And.intro @cxNil_r (And.intro @kxb_0 (And.intro @kxb_e (And.intro @kxb_c (And.intro @kxa_0 (And.intro @kxa_e (And.intro @kxa_c (@cxD_r)))))))))))))))))))))))))))))))))))))))
def zR1 := And.intro @cxS_r (And.intro @kxs_0 (And.intro @cCall_r (And.intro @kc1_0 (And.intro @kc1_e (And.intro @kc2_0 (And.intro @kc3_0 (And.intro @kc3_e (And.intro @kc3_c (And.intro @ssOf_n (And.intro @ss1_0 (And.intro @ss2_0 (And.intro @ssOf_d (And.intro @ssOf_s (And.intro @pb_n (And.intro @pb_d (And.intro @pb_s (And.intro @so_n (And.intro @so_d (And.intro @so_s (And.intro @di_n (And.intro @di_1 (And.intro @di_c (And.intro @cNext_r (And.intro @cRetN_r (And.intro @cBrk_r (And.intro @cCnt_r (And.intro @kRet_0 (And.intro @kRet_e (And.intro @kRet_c (And.intro @cRet_r (And.intro @kDrop_0 (And.intro @kDrop_e (And.intro @kDrop_c (And.intro @cDrop_r (And.intro @kSet_0 (And.intro @kSet_e (And.intro @kSet_c (And.intro @cSet_r (@kAs_0)))))))))))))))))))))))))))))))))))))))
def zR2 := And.intro @kAsg_0 (And.intro @kAsg_e (And.intro @kAsg_c (And.intro @cAsg_r (And.intro @cgName_r (And.intro @cgNil_r (And.intro @kgc_0 (And.intro @cgCons_r (And.intro @cgTup_r (And.intro @cgLst_r (And.intro @kPar_0 (And.intro @kPar_e (And.intro @kPar_c (And.intro @cPar_r (And.intro @kPar3_0 (And.intro @kPar3_e (And.intro @kPar3_c (And.intro @cPar3_r (And.intro @kap3_0 (And.intro @kap2_0 (And.intro @kap2_e (And.intro @kap2_c (And.intro @kap1_0 (And.intro @cApp_r (And.intro @ksi3_0 (And.intro @ksi4_0 (And.intro @ksi2_0 (And.intro @ksi2_e (And.intro @ksi2_c (And.intro @ksi1_0 (And.intro @ksi0_0 (And.intro @ksi0_e (And.intro @ksi0_c (And.intro @cSetIx_r (And.intro @kix_l (And.intro @kix_t (And.intro @kix_s (And.intro @kSq_0 (And.intro @kSq_e (@kSq_c)))))))))))))))))))))))))))))))))))))))
def zR3 := And.intro @ciSeq_r (And.intro @kr1_e (And.intro @kr1_c (And.intro @ciRange1_r (And.intro @kr2_e (And.intro @kr2_c (And.intro @ciRange2_r (And.intro @kFor_0 (And.intro @kFor_e (And.intro @kFor_c (And.intro @cFor_r (And.intro @kf1_0 (And.intro @kf2_nx (And.intro @kf2_ct (And.intro @kf2_bk (And.intro @kf2_rt (And.intro @kf2_exc (And.intro @kf2_cond (And.intro @kb_0 (And.intro @kbb_0 (And.intro @kb1_0 (And.intro @kb1_c (And.intro @kb1_e (And.intro @cB1_r (And.intro @kb3_0 (And.intro @kb3_e (And.intro @kb3_c (And.intro @kb2_0 (And.intro @kb2_c (And.intro @kb2_e (And.intro @cB2_r (And.intro @kres_0 (And.intro @res_d (And.intro @res_s (And.intro @kbn_0 (And.intro @cbN_r (And.intro @kbD_0 (And.intro @kbD_e (And.intro @kbD_c (@cbD_r)))))))))))))))))))))))))))))))))))))))
def zR4 := And.intro @kv_0 (And.intro @cV_r (And.intro @kvm_0 (And.intro @cVm_r (And.intro @cV_0 (And.intro @st_0 (And.intro @gt_0 (And.intro @cV_1 (And.intro @st_1 (And.intro @gt_1 (And.intro @cV_2 (And.intro @st_2 (And.intro @gt_2 (And.intro @cV_3 (And.intro @st_3 (And.intro @gt_3 (And.intro @cV_4 (And.intro @st_4 (And.intro @gt_4 (And.intro @cV_5 (And.intro @st_5 (And.intro @gt_5 (And.intro @cV_6 (And.intro @st_6 (And.intro @gt_6 (And.intro @cV_7 (And.intro @st_7 (And.intro @gt_7 (And.intro @cV_8 (And.intro @st_8 (And.intro @gt_8 (And.intro @cV_9 (And.intro @st_9 (And.intro @gt_9 (And.intro @cV_10 (And.intro @st_10 (And.intro @gt_10 (And.intro @cV_11 (And.intro @st_11 (@gt_11)))))))))))))))))))))))))))))))))))))))
def zR5 := And.intro @cV_12 (And.intro @st_12 (And.intro @gt_12 (And.intro @cV_13 (And.intro @st_13 (And.intro @gt_13 (And.intro @cV_14 (And.intro @st_14 (And.intro @gt_14 (And.intro @cV_15 (And.intro @st_15 (And.intro @gt_15 (And.intro @cV_16 (And.intro @st_16 (And.intro @gt_16 (And.intro @cV_17 (And.intro @st_17 (And.intro @gt_17 (And.intro @cV_18 (And.intro @st_18 (And.intro @gt_18 (And.intro @cV_19 (And.intro @st_19 (And.intro @gt_19 (And.intro @cV_20 (And.intro @st_20 (And.intro @gt_20 (And.intro @cV_21 (And.intro @st_21 (And.intro @gt_21 (And.intro @cV_22 (And.intro @st_22 (And.intro @gt_22 (And.intro @cV_23 (And.intro @st_23 (And.intro @gt_23 (And.intro @tCh2_0 (And.intro @tCh2_e (And.intro @tCh1_0 (@tCh0b_0)))))))))))))))))))))))))))))))))))))))
def zR6 := And.intro @tCh0b_e (And.intro @tCh0a_0 (And.intro @tCh0a_e (And.intro @cChain_r (And.intro @lcL_nil (And.intro @lcL_c (And.intro @ml1_0 (And.intro @ml2_t (And.intro @ml2_f (And.intro @ml2_b (And.intro @ml3_0 (And.intro @ml5_0 (And.intro @ml4_0 (And.intro @ml4_e (And.intro @ml4_c (And.intro @nO_d (And.intro @nO_n (And.intro @nO_l (And.intro @noOwn_n (And.intro @noOwn_c (And.intro @wipe_n (And.intro @wipe_c (And.intro @rsE_0 (And.intro @rest_n (And.intro @rest_c (And.intro @mkF_r (And.intro @fo_0 (And.intro @fx_0 (And.intro @fin_nx' (And.intro @fin_rt' (And.intro @fin_exc' (And.intro @ob_0 (And.intro @og_0 (And.intro @od_0 (And.intro @outs_n (And.intro @outs_c (And.intro @lift_some (And.intro @S_d (And.intro @S_l (@gEq_ii)))))))))))))))))))))))))))))))))))))))
def zR7 := And.intro @gNe_ii (And.intro @tru_b (And.intro @bools_nil (And.intro @bools_cons (And.intro @gIs_bb (And.intro @gIsN_bb (And.intro @atI_0 (And.intro @atI_1 (And.intro @atI_2 (And.intro @atI_3 (And.intro @ixL_1 (And.intro @ixL_2 (And.intro @ixL_3 (And.intro @ixN_41 (And.intro @ixN_42 (And.intro @ixN_43 (And.intro @sq_nx (And.intro @sq_rt (And.intro @sq_bad (And.intro @sq_bk (And.intro @sq_ct (And.intro @sq_exc (And.intro @dz0 (And.intro @dz1 (And.intro @dz2 (And.intro @dz3 (And.intro @dz4 (And.intro @dz5 (And.intro @dz6 (And.intro @dz7 (And.intro @dz8 (And.intro @dz9 (And.intro @dz10 (And.intro @dz11 (And.intro @dz12 (And.intro @ic0 (And.intro @ic1 (And.intro @ic2 (And.intro @ic3 (@ic4)))))))))))))))))))))))))))))))))))))))
def zR8 := And.intro @tAnd_ok (And.intro @tOr_ok (And.intro @tIf_ok (And.intro @tIfS_ok (And.intro @tAnd_exc (And.intro @tOr_exc (And.intro @tIf_exc (And.intro @tIfS_exc (And.intro @cAnd_t (And.intro @cOr_t (And.intro @cIf_t (And.intro @cIfS_t (And.intro @co_and (And.intro @co_or (And.intro @tAnd_cond (And.intro @tOr_cond (And.intro @tIfS_cond (And.intro @sq_cond (And.intro @fin_cond (And.intro @rangeL_2 (And.intro @rangeL_3 (And.intro @rng1_t (And.intro @rng2_t (And.intro @isi_int_n (And.intro @isi_int_b (And.intro @isi_int_i (And.intro @isi_int_s (And.intro @isi_int_l (And.intro @isi_int_t (And.intro @isi_bool_n (And.intro @isi_bool_b (And.intro @isi_bool_i (And.intro @isi_bool_s (And.intro @isi_bool_l (And.intro @isi_bool_t (And.intro @isi_str_n (And.intro @isi_str_b (And.intro @isi_str_i (And.intro @isi_str_s (@isi_str_l)))))))))))))))))))))))))))))))))))))))
def zR9 := And.intro @isi_str_t (And.intro @isi_list_n (And.intro @isi_list_b (And.intro @isi_list_i (And.intro @isi_list_s (And.intro @isi_list_l (And.intro @isi_list_t (And.intro @isi_tuple_n (And.intro @isi_tuple_b (And.intro @isi_tuple_i (And.intro @isi_tuple_s (And.intro @isi_tuple_l (And.intro @isi_tuple_t (And.intro @isi_dict_n (And.intro @isi_dict_b (And.intro @isi_dict_i (And.intro @isi_dict_s (And.intro @isi_dict_l (And.intro @isi_dict_t (And.intro @nh_d (And.intro @nh_l (And.intro @nh_k (And.intro @nh_o (And.intro @nh_fn (And.intro @nh_fc (And.intro @ss3_0 (And.intro @sat_n (And.intro @sat_0 (And.intro @sat_c (And.intro @sup_n (And.intro @sup_c (And.intro @supc_0 (And.intro @fsg_c (And.intro @fsg_n (And.intro @fss_c (And.intro @fss_n (And.intro @pbs_0 (And.intro @pb_t (And.intro @so_t (@ssOf_t)))))))))))))))))))))))))))))))))))))))
def zR10 := And.intro @gIx_l (And.intro @gIx_t (@S_k))
def zB0 := And.intro @cMeth_r (And.intro @cQ2_r (And.intro @kQ2_0 (And.intro @kQ3_0 (And.intro @kQ3_1 (And.intro @kqc_0 (And.intro @kqs_b (And.intro @gIxZ_p (And.intro @gIxZ_l (And.intro @cQ1_r (And.intro @kQ1_0 (And.intro @kQ1_1 (And.intro @k1t_0 (And.intro @cPu_r (And.intro @kPu_0 (And.intro @dO_n (And.intro @dO_0 (And.intro @dO_d (And.intro @dO_l (And.intro @dO_c (And.intro @dO_o (And.intro @cIxQ_r (And.intro @kIx_0 (And.intro @kIx_1 (And.intro @kIx1_0 (And.intro @kIx2_0 (And.intro @thd_d (And.intro @thd_p (And.intro @kth_l (And.intro @kth_d (And.intro @plc_r (And.intro @kpl_0 (And.intro @pup_r (And.intro @kpp_0 (And.intro @cqN_r (And.intro @kqN_d (And.intro @kqN_l (And.intro @kqN_c (And.intro @kqN_o (@cqF_r)))))))))))))))))))))))))))))))))))))))
def zB1 := And.intro @kqF_0 (And.intro @kqF_1 (And.intro @cqK_r (And.intro @kqK_0 (And.intro @kqK_1 (And.intro @cqD_r (And.intro @kqD_0 (And.intro @cQV_r (And.intro @kQV_1 (And.intro @cSetF_r (And.intro @kSF_0 (And.intro @cDSet_r (And.intro @kDS_0 (And.intro @kDS1_0 (And.intro @kDS2_0 (And.intro @kDS3_0 (And.intro @cNew_r (And.intro @kNew_0 (And.intro @kNew1_0 (And.intro @kNew2_0 (And.intro @cDNew_r (And.intro @cRec_r (And.intro @recG_n (And.intro @recG_s (And.intro @recG_e (And.intro @kRec_0 (And.intro @fsOf_n (And.intro @fsOf_d (@fsOf_c))))))))))))))))))))))))))))
end Z
set_option maxHeartbeats 2000000
/-! Z: try .. except X as e: return isinstance(e, Y). -/
namespace Z
open PySem PySem.Spec PyProof.Rows L2
open Evl (Ex ex_l ex_t ex_rd)
/-- which exceptions the clause takes -/
def IsX (K : PySem.W.Frag) (mg : Str → Option Value) (xc : Str → Value) (x : Str) (t : Str → Option Bool) : Prop := ∃ c, mg x = some c ∧ ∀ y b, t y = some b → ∃ D : Addr, xc y = .ref D ∧ PySem.W.exmOne K (.ref D) c = some b
/-- which are instances of the class -/
def IsY (K : PySem.W.Frag) (mg : Str → Option Value) (xc : Str → Value) (x : Str) (t : Str → Option Bool) : Prop := ∃ C : Addr, mg x = some (.ref C) ∧ ∀ y b, t y = some b → ∃ D : Addr, xc y = .ref D ∧ L2.ExcC K D ∧ PySem.W.kitOne K (.ref D) (.ref C) = some b
def kTry (isx isy : Str → Option Bool) (i : Nat) (o : O) : O := match o with
  | .exc x ρ => match isx x with
    | some true => match isy x with
      | some b => bif decide (i < ρ.length) then .rt (.dat (.bool b)) ρ else .bad
      | none => .bad
    | some false => .exc x ρ
    | none => .bad
  | o => o
def cTryIs (isx isy : Str → Option Bool) (i : Nat) (cb : CS) : CS := fun ρ => kTry isx isy i (cb ρ)
section
variable {X : Cx} {xc : Str → Value} {W : Ww} {body : List Stmt} {x y n : Str} {i : Nat} {np pos pos' pr pc pi pn' py : Pos} {cb : CS} {isx isy : Str → Option Bool}
theorem zs_tryIs (hx : IsX X.K X.mg xc x isx) (hy : IsY X.K X.mg xc y isy) (tk : Takes X W.W) (him : X.mg "isinstance" = none)
    (hb : ∀ (W' : WX) (pn : List (Addr × Obj)) (xe : Value → Shared → Prop), Takes (X.tr pn xe) W' → PassesOwn (model X.prog X.w) X.A X.env xe → ZSs (X.tr pn xe) xc ⟨W', W.J⟩ body cb)
    (hN : X.N.Nodup) (hi : X.N[i]? = some n) (hv : ∀ (a : Addr) (pn : List (Addr × Obj)), PE (X.suite a pn) (.Name n pn') (tVar i))
    (hln : X.env.kindOf n = some .local := by rfl) (hs : X.stack = X.env :: X.outer := by rfl) (hf : X.env.frame = some X.env.locals := by rfl) (hg : Gl X x := by rfl) (hgy : Gl X y := by rfl) (hgi : Gl X "isinstance" := by rfl)
    (hdb : (x == ("__debug__" : Str)) = false := by decide) (hdy : (y == ("__debug__" : Str)) = false := by decide)
    (he : ∀ (a : Addr) (pn : List (Addr × Obj)), starEach [.Name n pn', .Name y py] (X.suite a pn).env = (false, eval (.Name n pn') (X.suite a pn).env) :: starEach [.Name y py] (X.suite a pn).env := by intro _ _; rfl)
    (he2 : ∀ (a : Addr) (pn : List (Addr × Obj)), starEach [.Name y py] (X.suite a pn).env = (false, eval (.Name y py) (X.suite a pn).env) :: starEach [] (X.suite a pn).env := by intro _ _; rfl)
    (hpl : (backTo pc (starEach [.Name y py] X.env)).any (·.1) = false := by rfl) :
    ZS X xc W (.Try body [.ExceptHandler (some (.Name x np)) (some n) [.Return (some (.Call (.Name "isinstance" pi) [.Name n pn', .Name y py] [] pc)) pr] pos'] [] [] pos) (cTryIs isx isy i cb) := by
  obtain ⟨c, hc, tx⟩ := hx
  obtain ⟨C, hC, ty⟩ := hy
  have main := ps_try_as (X := X) (x := x) (n := n) (c := c) (i := i) (body := body) (suite := []) (b₀ := .Return (some (.Call (.Name "isinstance" pi) [.Name n pn', .Name y py] [] pc)) pr) (np := np) (pos := pos) (pos' := pos') (Wout := W.W)
    (tb := fun W' => tZS X.kf xc ⟨W', W.J⟩ cb) (ts := fun a cls d => fun D σ H => ∃ z b, cls = xc z ∧ d = none ∧ isx z = some true ∧ isy z = some b ∧ σ[i]? = some (some (.ref a)) ∧ D.rt (.bl b) H) hs hf hN hi hln ⟨hg, hdb, .inl hc⟩ tk hb ?_
  · refine PS.imp main fun D σ H ⟨Γ, B, ρ, rep, k⟩ => ⟨Γ, B, ρ, rep, ?_⟩
    unfold cTryIs kTry at k
    cases ho : cb ρ with
    | nx ρ1 => rw [ho] at k; exact k
    | rt s ρ1 => rw [ho] at k; exact k
    | bk ρ1 => rw [ho] at k; exact k
    | ct ρ1 => rw [ho] at k; exact k
    | bad => rw [ho] at k; exact k
    | exc z ρ1 =>
      rw [ho] at k
      intro B1 σ1 H1 r1
      simp only at k
      cases hz : isx z with
      | none => rw [hz] at k; exact k.elim
      | some t =>
        rw [hz] at k
        obtain ⟨Dz, e1, e2⟩ := tx z t hz
        refine ⟨t, by rw [e1]; exact e2, fun ht a ha => ?_, fun ht => ?_⟩
        · subst ht
          simp only at k
          cases hy' : isy z with
          | none => rw [hy'] at k; exact k.elim
          | some b =>
            rw [hy'] at k
            simp only at k
            cases hd : decide (i < ρ1.length) with
            | false => rw [hd] at k; exact k.elim
            | true =>
              rw [hd, cond_true] at k
              have hlt : i < σ1.length := by rw [← r1.len]; exact of_decide_eq_true hd
              exact ⟨z, b, rfl, rfl, hz, hy', List.getElem?_set_self hlt, k _ B1 σ1 H1 r1 (sres_dat (.bl b))⟩
        · subst ht
          exact k B1 σ1 H1 r1
  · intro a oe cls d pn hzc hfl
    refine ⟨fun pins s σ H D I ⟨z, b, e1, e2, hz, hy', hσ, q⟩ => ?_⟩
    obtain ⟨Dz, g1, g2, g3⟩ := ty z b hy'
    subst e2
    rw [e1, g1] at hzc
    have st := pss_one (ps_ret (pos := pr) (pe_callB (X := X.suite a ((a, oe) :: pn)) (p := pi) (pos := pc) (call_isE g2 hzc hfl) hgi him (by decide +kernel) (pa_cons (hv a ((a, oe) :: pn)) (pa_cons (pe_glob (v := .ref C) hgy hC rfl hdy) pa_nil (he2 _ _)) (he _ _)) (by decide) (by decide) (he _ _) hpl))
    exact st.run pins s σ H D I ⟨.ref a, hσ, .ref C, .ref C, b, rfl, fun u hu => by cases hu; rfl, g3, q⟩
theorem cTryIs_r {ρ : En} : cTryIs isx isy i cb ρ = kTry isx isy i (cb ρ) := rfl
theorem kTry_nx {ρ : En} : kTry isx isy i (.nx ρ) = .nx ρ := rfl
theorem kTry_rt {ρ : En} {s : S} : kTry isx isy i (.rt s ρ) = .rt s ρ := rfl
theorem kTry_x {ρ : En} {z : Str} {b : Bool} (h1 : isx z = some true) (h2 : isy z = some b) (h3 : decide (i < ρ.length) = true) : kTry isx isy i (.exc z ρ) = .rt (.dat (.bool b)) ρ := by
  unfold kTry
  simp only [h1, h2, h3, cond_true]
end
end Z
set_option maxHeartbeats 2000000
/-! Z: texts. -/
namespace Z
open PySem PySem.Spec PyProof.Rows L2
open Evl (Ex ex_l ex_t ex_rd)
/-! ### sep.join(list) -/
def strsOf : List PyData → Option (List Str)
  | [] => some []
  | .str x :: ds => (strsOf ds).map (x :: ·)
  | _ :: _ => none
theorem strsOf_map : ∀ {l : List PyData} {ys : List Str}, strsOf l = some ys → l = ys.map .str
  | [], _, h => by cases h; rfl
  | .str x :: ds, _, h => by
    unfold strsOf at h
    cases e : strsOf ds with
    | none => rw [e] at h; cases h
    | some r =>
      rw [e] at h
      cases h
      rw [List.map_cons, strsOf_map e]
  | .none :: _, _, h => by cases h
  | .bool _ :: _, _, h => by cases h
  | .int _ :: _, _, h => by cases h
  | .list _ :: _, _, h => by cases h
  | .tuple _ :: _, _, h => by cases h
  | .dict _ :: _, _, h => by cases h
theorem of_strs {ys : List Str} : strsOf (ys.map .str) = some ys := by
  induction ys with
  | nil => rfl
  | cons y ys ih => rw [List.map_cons]; unfold strsOf; rw [ih]; rfl
theorem dp_strs {K : KF} {B : Hp} : ∀ {ys : List Str} {vs : List V}, DpAll K B vs (ys.map .str) → vs = ys.map .str
  | [], _, h => by cases h; rfl
  | y :: ys, _, h => by
    rw [List.map_cons] at h
    cases h with
    | cons h1 h2 =>
      rw [dp_str h1, dp_strs h2]
      rfl
def jOk (sep : Str) (ys : List Str) : Bool := decide ((ys.map (·.length)).sum + ys.length * sep.length ≤ 16777216)
def gJoin (d e : PyData) : Option S := match d, e with
  | .str sep, .list l => match strsOf l with
    | some ys => bif jOk sep ys then some (.dat (.str (Txt.join sep ys))) else none
    | none => none
  | _, _ => none
def rJoinS (K : PySem.W.Frag) : V → List V → Hp → VK → Prop := fun x vs H Q => ∃ (sep : Str) (a : Addr) (ys : List Str), x = .str sep ∧ vs = [.ref a] ∧ L2.SqL K H a (ys.map V.str) ∧ (ys.map (·.length)).sum + ys.length * sep.length ≤ 16777216 ∧ Q (.str (Txt.join sep ys)) H
theorem strsAre_of : ∀ {ys : List Str} {us : List Value}, Vals (ys.map V.str) us → StrsAre us ys
  | [], _, h => by cases h; exact .nil
  | y :: ys, _, h => by
    rw [List.map_cons] at h
    cases h with
    | cons h1 h2 =>
      obtain ⟨t, rfl⟩ := h1
      exact .cons y t (strsAre_of h2)
section
variable {X : Cx} {xc : Str → Value} {W : Ww} {o e : Expr} {pos apos cpos : Pos} {ca co : CE}
theorem mt_join : MtM X "str.join" (rJoinS X.K) := by
  intro pins s σ H x vs v us Q I rx rv h
  obtain ⟨sep, a, ys, rfl, rfl, hl, hz, q⟩ := h
  obtain ⟨t, rfl⟩ := rx
  obtain ⟨u, rfl, ru⟩ := rv.one
  cases ru
  obtain ⟨its, r, ⟨oo, n, e1, e2, e3, e4⟩, z⟩ := L2.Inv.list I hl
  refine PyProof.Rows.join_list (items := its.toArray) ⟨oo, e1, e2, n, e4⟩ (by simpa using strsAre_of r) hz fun t' k => ?_
  exact ⟨.str (Txt.join sep ys), H, I.kept (t' := k) fun _ _ z => z, ⟨t', rfl⟩, q⟩
def kJoin2 (r : R) (sep : Str) : R := r.bd fun e ρ => R.lift (gJoin (.str sep) e) ρ
def cJoin (co ca : CE) : CE := fun ρ => (co ρ).bd fun d ρ => match d with
  | .str sep => kJoin2 (ca ρ) sep
  | _ => .bad
theorem ze_join (ho : ZE X xc W o co) (he : ZE X xc W e ca)
    (hbase : attributeBase o "join" X.env (eval o X.env) = eval o X.env := by rfl)
    (hfew : ((backTo cpos (starEach [e] X.env)).all (fun x => !x.1) && (backToKw cpos (keywordEach [] X.env)).all (fun x => x.1.isSome)
      && decide ([e].length + ([] : List Keyword).length + (if ([] : List Keyword).isEmpty then 0 else 1) < 30)) = true := by rfl)
    (hline : (apos.endLine == cpos.line) = true := by rfl) (hs : starEach [e] X.env = (false, eval e X.env) :: starEach [] X.env := by rfl) (hplain : (backTo cpos (starEach [] X.env)).any (·.1) = false := by rfl) :
    ZE X xc W (.Call (.Attribute o "join" apos) [e] [] cpos) (cJoin co ca) :=
  PE.imp (pe_bm PySem.F.plainAttrs_str PySem.F.slot_str_join PySem.F.type_str_join mt_join ho (pa_cons he pa_nil hs) hbase hfew hline hs hplain) fun σ H Q ⟨Γ, B, ρ, rep, k⟩ => tz_bd rep k fun x B1 H1 d ρ1 e1 r1 q1 k1 => by
    cases d with
    | none | bool _ | int _ | list _ | tuple _ | dict _ => exact k1.elim
    | str sep =>
      have ex := dp_str q1
      subst ex
      refine ⟨rfl, ?_⟩
      refine tz_bd (k := fun e ρ => R.lift (gJoin (.str sep) e) ρ) r1 k1 fun y B2 H2 e ρ2 e2 r2 q2 k2 => ?_
      obtain ⟨s, hs, af⟩ := out_lift k2
      cases e with
      | none | bool _ | int _ | str _ | tuple _ | dict _ => cases hs
      | list l =>
        have hs : (match strsOf l with
          | some ys => bif jOk sep ys then some (S.dat (.str (Txt.join sep ys))) else none
          | none => none) = some s := hs
        cases hl : strsOf l with
        | none => rw [hl] at hs; cases hs
        | some ys =>
          rw [hl] at hs
          obtain ⟨h1, h2⟩ := bif_some hs
          subst h2
          obtain ⟨a, xs, rfl, g1, g2⟩ := dp_list q2
          rw [strsOf_map hl] at g2
          rw [dp_strs g2] at g1
          exact ⟨sep, a, ys, rfl, rfl, ex_l r2.bh g1, of_decide_eq_true h1, After.now r2 af (.str _)⟩
end
end Z
set_option maxHeartbeats 2000000
/-! Z: range with three arguments, reversed lists, list(range(..)). -/
namespace Z
open PySem PySem.Spec PyProof.Rows L2
open Evl (Ex ex_l ex_t ex_rd)
def rangeC (lo c : Int) (n : Nat) : List PyData := (List.range n).map fun (k : Nat) => .int (lo + k * c)
theorem itc_ok {K : KF} {B : Hp} (lo c : Int) (n : Nat) : ItOk K B (Itc lo c n) (rangeC lo c n) := fun {J Γ B' ρ σ H} rep e => by
  refine ⟨fun i d hd => ?_, show n ≤ (rangeC lo c n).length by simp [rangeC]⟩
  unfold rangeC at hd
  rw [List.getElem?_map] at hd
  by_cases hi : i < n
  · rw [List.getElem?_range hi] at hd
    have hd' : PyData.int (lo + i * c) = d := Option.some.inj hd
    subst hd'
    refine ⟨hi, fun x H' ⟨eH, hx⟩ => ?_⟩
    subst eH
    subst hx
    exact ⟨B', Ex.refl _, rep, .int _, fun _ _ h => h⟩
  · rw [List.getElem?_eq_none (by rw [List.length_range]; omega)] at hd
    cases hd
def rgC (i j c : Int) : Bool := decide (c ≠ 0) && (decide (c.natAbs < 1073741824) && (Builtin.Range.small i j c && decide (0 ≤ Builtin.Range.rangeSize i j c)))
theorem rgC_of {i j c : Int} (h : rgC i j c = true) : RgC i j c (Builtin.Range.rangeSize i j c).toNat := by
  unfold rgC at h
  simp only [Bool.and_eq_true, decide_eq_true_eq] at h
  obtain ⟨h1, h2, h3, h4⟩ := h
  exact ⟨h1, h2, h3, by omega⟩
def kRng3 (r : RA) : RA := r.ba fun ds ρ => match ds with
  | [.int i, .int j, .int c] => bif rgC i j c then .ok (rangeC i c (Builtin.Range.rangeSize i j c).toNat) ρ else .bad
  | _ => .bad
def ciRange3 (c : CA) : CA := fun ρ => kRng3 (c ρ)
theorem itv_ok {K : KF} {B : Hp} {a : Addr} {xs : List V} {ds : List PyData} (h1 : SqL K B a xs) (h2 : DpAll K B xs ds) : ItOk K B (Itv K.K a xs.length) ds.reverse := fun {J Γ B' ρ σ H} rep e => by
  have hH := ex_l (e.trans rep.bh) h1
  have hl := dpAll_len h2
  refine ⟨fun i d hd => ?_, show xs.length ≤ ds.reverse.length by rw [List.length_reverse, hl]; exact Nat.le_refl _⟩
  have hi : i < ds.length := by
    have := (List.getElem?_eq_some_iff.mp hd).1
    rwa [List.length_reverse] at this
  rw [List.getElem?_reverse hi] at hd
  obtain ⟨v, g1, g2⟩ := dpAll_get h2 hd
  rw [← hl] at g1
  refine ⟨⟨by omega, xs, v, hH, g1⟩, fun x H' ⟨eH, hx⟩ => ?_⟩
  subst eH
  have := hx xs hH
  rw [g1] at this
  cases this
  exact ⟨B', Ex.refl _, rep, dp_mono e g2, fun _ _ h => h⟩
def kRev (r : RA) : RA := r.ba fun ds ρ => match ds with
  | [.list l] => .ok l.reverse ρ
  | _ => .bad
def ciRev (c : CA) : CA := fun ρ => kRev (c ρ)
section
variable {X : Cx} {xc : Str → Value} {W : Ww} {tg e : Expr} {p pos : Pos} {cas : CA}
theorem zi_range3 {a b c : Expr} (hg : Gl X "range") (hm : X.mg "range" = none) (ha : ZA X xc W [a, b, c] cas) (hs : starEach [a, b, c] X.env = (false, eval a X.env) :: starEach [b, c] X.env := by rfl) (hpl : (backTo pos (starEach [b, c] X.env)).any (·.1) = false := by rfl) :
    ZI X xc W tg (.Call (.Name "range" p) [a, b, c] [] pos) (ciRange3 cas) :=
  PI.imp (pi_range3 hg hm ha.run hs hpl) fun σ H Q ⟨Γ, B, ρ, rep, k⟩ => tza_bi rep k fun vs B1 H1 ds ρ1 e1 r1 q1 k1 => by
    split at k1
    · rename_i i j c'
      cases q1 with
      | cons h t =>
        cases t with
        | cons h2 t2 =>
          cases t2 with
          | cons h3 t3 =>
            cases t3
            rw [dp_int h, dp_int h2, dp_int h3]
            cases hd : rgC i j c' with
            | false => rw [hd] at k1; exact k1.elim
            | true =>
              rw [hd] at k1
              exact ⟨i, j, c', _, rfl, rgC_of hd, k1 _ B1 H1 (Ex.refl _) r1 (itc_ok i c' _)⟩
    · exact k1.elim
theorem zi_rev (hg : Gl X "reversed") (hm : X.mg "reversed" = none) (ha : ZA X xc W [e] cas) (hs : starEach [e] X.env = [(false, eval e X.env)] := by rfl) :
    ZI X xc W tg (.Call (.Name "reversed" p) [e] [] pos) (ciRev cas) :=
  PI.imp (pi_reversed hg hm ha.run hs) fun σ H Q ⟨Γ, B, ρ, rep, k⟩ => tza_bi rep k fun vs B1 H1 ds ρ1 e1 r1 q1 k1 => by
    split at k1
    · rename_i l
      cases q1 with
      | cons h t =>
        cases t
        obtain ⟨a, xs, rfl, h1, h2⟩ := dp_list h
        exact ⟨a, xs, rfl, ex_l r1.bh h1, k1 _ B1 H1 (Ex.refl _) r1 (itv_ok h1 h2)⟩
    · exact k1.elim
end
end Z
set_option maxHeartbeats 2000000
/-! Z: list(range(a, b, c)). -/
namespace Z
open PySem PySem.Spec PyProof.Rows L2
open Evl (Ex ex_l ex_t ex_rd)
def rgVC (a c : Int) (n : Nat) : List V := (List.range n).map fun i => V.int (a + (i : Nat) * c)
theorem vals_rgC {a c : Int} {n : Nat} {acc : Array Value} (h : ItemsOf (fun i v => ∃ t, v = .int (a + i * c) t) acc n) : Vals (rgVC a c n) acc.toList := by
  have e : acc.toList.length = n := by rw [Array.length_toList]; exact h.1
  unfold rgVC
  rw [← e]
  refine vals_of_get acc.toList _ fun j u hj => ?_
  obtain ⟨t, rfl⟩ := h.2 j u (by rw [← hj, Array.getElem?_toList])
  exact ⟨t, rfl⟩
def tLstRg3 (ta : TA) : TE := fun σ H Q => ta σ H fun vs H1 => ∃ (i j k : Int) (n : Nat), vs = [.int i, .int j, .int k] ∧ RgC i j k n ∧ n ≤ 2 ^ 24 ∧ ∀ q, H1 q = none → Q (.ref q) (upd H1 q (.lst (rgVC i k n)))
def rgCL (i j c : Int) : Bool := rgC i j c && decide ((Builtin.Range.rangeSize i j c).toNat ≤ 2 ^ 24)
def kLRg3 (r : RA) : R := r.bd fun ds ρ => match ds with
  | [.int i, .int j, .int c] => bif rgCL i j c then .ok (.lst (rangeC i c (Builtin.Range.rangeSize i j c).toNat)) ρ else .bad
  | _ => .bad
def cLRg3 (c : CA) : CE := fun ρ => kLRg3 (c ρ)
section
variable {X : Cx} {xc : Str → Value} {W : Ww} {a b c : Expr} {ta : TA} {p p2 pos pos2 : Pos} {cas : CA}
theorem pe_listRg3 (hc : X.calm = true) (hgl : Gl X "list") (hml : X.mg "list" = none) (hgr : Gl X "range") (hmr : X.mg "range" = none) (ha : PA X [a, b, c] ta)
    (hs : starEach [a, b, c] X.env = (false, eval a X.env) :: starEach [b, c] X.env := by rfl) (hpl : (backTo pos2 (starEach [b, c] X.env)).any (·.1) = false := by rfl)
    (na : starEach [.Call (.Name "range" p2) [a, b, c] [] pos2] X.env = (false, eval (.Call (.Name "range" p2) [a, b, c] [] pos2) X.env) :: starEach [] X.env := by rfl) :
    PE X (.Call (.Name "list" p) [.Call (.Name "range" p2) [a, b, c] [] pos2] [] pos) (tLstRg3 ta) := by
  refine ⟨fun pins s σ H Q I h => ?_⟩
  have inner : wpAny (model X.prog X.w) X.A (eval (.Call (.Name "range" p2) [a, b, c] [] pos2) X.env) (fun x s' => ∃ (r : Addr) (i j k : Int) (n : Nat) (t u v : Tok) (H' : Hp), x = .ref r ∧ IsRange s'.heap r i j k t u v ∧ Inv X pins σ H' s' ∧ (RgC i j k n ∧ n ≤ 2 ^ 24) ∧ ∀ q, H' q = none → Q (.ref q) (upd H' q (.lst (rgVC i k n)))) X.xe s := by
    refine Call_ (ld_blt I hgr hmr boot_range (PyProof.Rows.callWith_type1 (thn (ha.run pos2 pins s σ H _ I h) fun us s1 ⟨vs, H1, I1, r1, q1⟩ => ?_) hs hpl))
    obtain ⟨i, j, k, n, e, ⟨c0, c1, c2, c3⟩, lim, q⟩ := q1
    subst e
    cases r1 with
    | cons r rr =>
      cases rr with
      | cons r' rr =>
        cases rr with
        | cons r'' rr =>
          cases rr
          obtain ⟨t, rfl⟩ := r
          obtain ⟨t', rfl⟩ := r'
          obtain ⟨t'', rfl⟩ := r''
          exact call_range_3 c0 ⟨_, i, j, k, n, _, _, _, H1, rfl, IsRange.new _ _ _ _ _ _ _, I1.kept (t' := s1.toks) fun b u e => Heap.get?_push_of_some _ e, ⟨⟨c0, c1, c2, c3⟩, lim⟩, q⟩ (.inl (PyProof.noPylong_small c1))
  refine Call_ (ld_blt I hgl hml boot_list (PyProof.Rows.callWith_type1 (args_cons (thn inner fun x s1 ⟨r, i, j, k, n, t, u, v, H1, ex, hr, I1, ⟨⟨c0, c1, c2, c3⟩, lim⟩, q⟩ => args_nil ?_) na) na))
  subst ex
  refine call_list_range (n := n) (I1.ok.hd hc) hr c2 c3 lim fun h' tk acc c' hk e' hi => ?_
  refine ⟨.ref s1.heap.objs.size, upd H1 s1.heap.objs.size (.lst (rgVC i k n)), I1.laid hk (Nat.le_refl _) (show ObjOk X.prog X.w _ _ _ (.lst (rgVC i k n)) from ⟨?_, acc.toList, c', vals_rgC hi, ?_⟩), rfl, q _ (I1.hok.fresh (Nat.le_refl _))⟩
  · unfold rgVC; rw [List.length_map, List.length_range, sizeLine_eq]; omega
  · rw [Array.toArray_toList]; exact e'
theorem rgVC_dp {K : KF} {B : Hp} {i c : Int} : ∀ {l : List Nat}, DpAll K B (l.map fun k => V.int (i + (k : Nat) * c)) (l.map fun (k : Nat) => .int (i + k * c))
  | [] => .nil
  | _ :: _ => .cons (.int _) rgVC_dp
theorem ze_listRg3 (hc : X.calm = true) (hml : X.mg "list" = none) (hmr : X.mg "range" = none) (ha : ZA X xc W [a, b, c] cas) (hgl : Gl X "list" := by rfl) (hgr : Gl X "range" := by rfl)
    (hs : starEach [a, b, c] X.env = (false, eval a X.env) :: starEach [b, c] X.env := by rfl) (hpl : (backTo pos2 (starEach [b, c] X.env)).any (·.1) = false := by rfl)
    (na : starEach [.Call (.Name "range" p2) [a, b, c] [] pos2] X.env = (false, eval (.Call (.Name "range" p2) [a, b, c] [] pos2) X.env) :: starEach [] X.env := by rfl) :
    ZE X xc W (.Call (.Name "list" p) [.Call (.Name "range" p2) [a, b, c] [] pos2] [] pos) (cLRg3 cas) :=
  PE.imp (pe_listRg3 hc hgl hml hgr hmr ha.run hs hpl na) fun σ H Q ⟨Γ, B, ρ, rep, k⟩ => by
    refine ⟨Γ, B, ρ, rep, ?_⟩
    unfold cLRg3 kLRg3 at k
    cases hcs : cas ρ with
    | exc x ρ1 => rw [hcs] at k; exact k
    | bad => rw [hcs] at k; exact k
    | ok ds ρ1 =>
      rw [hcs] at k
      intro vs B1 H1 e1 r1 qq
      unfold RA.bd at k
      simp only at k
      clear hcs
      split at k
      · rename_i i j c'
        cases qq with
        | cons h t =>
          cases t with
          | cons h2 t2 =>
            cases t2 with
            | cons h3 t3 =>
              cases t3
              rw [dp_int h, dp_int h2, dp_int h3]
              cases hd : rgCL i j c' with
              | false => rw [hd] at k; exact k.elim
              | true =>
                rw [hd] at k
                obtain ⟨g1, g2⟩ := Bool.and_eq_true_iff.mp hd
                refine ⟨i, j, c', _, rfl, rgC_of g1, of_decide_eq_true g2, fun q hq => ?_⟩
                obtain ⟨r2, ow, sr⟩ := r1.newX (o := .lst (rgVC i c' (Builtin.Range.rangeSize i j c').toNat)) hq
                exact k _ B1 _ e1 r2 (sr (.lst _) rfl ⟨q, _, rfl, rfl, ow, upd_same, rgVC_dp⟩)
      · exact k.elim
end
end Z
set_option maxHeartbeats 2000000
/-! Z: try .. except X as e: return [isinstance(e, Y), ..]. -/
namespace Z
open PySem PySem.Spec PyProof.Rows L2
open Evl (Ex ex_l ex_t ex_rd)
def tIs (i : Nat) (a : Addr) (b : Bool) : TE := fun σ H Q => σ[i]? = some (some (.ref a)) ∧ Q (.bl b) H
def kTryL (isx : Str → Option Bool) (isy : Str → Option (List Bool)) (i : Nat) (o : O) : O := match o with
  | .exc x ρ => match isx x with
    | some true => match isy x with
      | some b => bif decide (i < ρ.length) then .rt (.lst (b.map .bool)) ρ else .bad
      | none => .bad
    | some false => .exc x ρ
    | none => .bad
  | o => o
def cTryL (isx : Str → Option Bool) (isy : Str → Option (List Bool)) (i : Nat) (cb : CS) : CS := fun ρ => kTryL isx isy i (cb ρ)
section
variable {X : Cx} {xc : Str → Value} {W : Ww} {body : List Stmt} {x y n : Str} {i : Nat} {np pos pos' pr pc pi pn' py : Pos} {cb : CS} {isx : Str → Option Bool} {isy : Str → Option (List Bool)} {re : Expr}
theorem bools_dp {K : KF} {B : Hp} : ∀ {bs : List Bool}, DpAll K B (bs.map V.bl) (bs.map .bool)
  | [] => .nil
  | _ :: _ => .cons (.bl _) bools_dp
theorem pe_isE {a D : Addr} {oe : Obj} {pn : List (Addr × Obj)} {b : Bool} {C : Addr} (g2 : L2.ExcC X.K D) (hz : Zc (.ref D) none oe) (hfl : ∃ vs, oe.data = .fields vs) (g3 : PySem.W.kitOne X.K (.ref D) (.ref C) = some b) (him : X.mg "isinstance" = none) (hC : X.mg y = some (.ref C))
    (hv : PE (X.suite a ((a, oe) :: pn)) (.Name n pn') (tVar i)) (hgy : Gl X y := by rfl) (hgi : Gl X "isinstance" := by rfl) (hdy : (y == ("__debug__" : Str)) = false := by decide)
    (he : starEach [.Name n pn', .Name y py] (X.suite a ((a, oe) :: pn)).env = (false, eval (.Name n pn') (X.suite a ((a, oe) :: pn)).env) :: starEach [.Name y py] (X.suite a ((a, oe) :: pn)).env := by rfl)
    (he2 : starEach [.Name y py] (X.suite a ((a, oe) :: pn)).env = (false, eval (.Name y py) (X.suite a ((a, oe) :: pn)).env) :: starEach [] (X.suite a ((a, oe) :: pn)).env := by rfl)
    (hpl : (backTo pc (starEach [.Name y py] X.env)).any (·.1) = false := by rfl) : PE (X.suite a ((a, oe) :: pn)) (.Call (.Name "isinstance" pi) [.Name n pn', .Name y py] [] pc) (tIs i a b) :=
  PE.imp (pe_callB (X := X.suite a ((a, oe) :: pn)) (call_isE g2 hz hfl) hgi him (by decide +kernel) (pa_cons hv (pa_cons (pe_glob (v := .ref C) hgy hC rfl hdy) pa_nil he2) he) (by decide) (by decide) he hpl) fun σ H Q ⟨h1, q⟩ => ⟨.ref a, h1, .ref C, .ref C, b, rfl, fun u hu => by cases hu; rfl, g3, q⟩
theorem zs_tryL (hx : IsX X.K X.mg xc x isx) (tk : Takes X W.W)
    (hb : ∀ (W' : WX) (pn : List (Addr × Obj)) (xe : Value → Shared → Prop), Takes (X.tr pn xe) W' → PassesOwn (model X.prog X.w) X.A X.env xe → ZSs (X.tr pn xe) xc ⟨W', W.J⟩ body cb)
    (hre : ∀ (z : Str) (bs : List Bool) (a D : Addr) (oe : Obj) (pn : List (Addr × Obj)), isy z = some bs → xc z = .ref D → Zc (.ref D) none oe → (∃ vs, oe.data = .fields vs) →
      PE (X.suite a ((a, oe) :: pn)) re (fun σ H Q => σ[i]? = some (some (.ref a)) ∧ ∀ p, H p = none → Q (.ref p) (upd H p (.lst (bs.map V.bl)))))
    (hN : X.N.Nodup) (hi : X.N[i]? = some n)
    (hln : X.env.kindOf n = some .local := by rfl) (hs : X.stack = X.env :: X.outer := by rfl) (hf : X.env.frame = some X.env.locals := by rfl) (hg : Gl X x := by rfl) (hdb : (x == ("__debug__" : Str)) = false := by decide) :
    ZS X xc W (.Try body [.ExceptHandler (some (.Name x np)) (some n) [.Return (some re) pr] pos'] [] [] pos) (cTryL isx isy i cb) := by
  obtain ⟨c, hc, tx⟩ := hx
  have main := ps_try_as (X := X) (x := x) (n := n) (c := c) (i := i) (body := body) (suite := []) (b₀ := .Return (some re) pr) (np := np) (pos := pos) (pos' := pos') (Wout := W.W)
    (tb := fun W' => tZS X.kf xc ⟨W', W.J⟩ cb) (ts := fun a cls d => fun D σ H => ∃ z bs D', cls = .ref D' ∧ xc z = .ref D' ∧ d = none ∧ isy z = some bs ∧ σ[i]? = some (some (.ref a)) ∧ ∀ p, H p = none → D.rt (.ref p) (upd H p (.lst (bs.map V.bl)))) hs hf hN hi hln ⟨hg, hdb, .inl hc⟩ tk hb ?_
  · refine PS.imp main fun D σ H ⟨Γ, B, ρ, rep, k⟩ => ⟨Γ, B, ρ, rep, ?_⟩
    unfold cTryL kTryL at k
    cases ho : cb ρ with
    | nx ρ1 => rw [ho] at k; exact k
    | rt s ρ1 => rw [ho] at k; exact k
    | bk ρ1 => rw [ho] at k; exact k
    | ct ρ1 => rw [ho] at k; exact k
    | bad => rw [ho] at k; exact k
    | exc z ρ1 =>
      rw [ho] at k
      intro B1 σ1 H1 r1
      simp only at k
      cases hz : isx z with
      | none => rw [hz] at k; exact k.elim
      | some t =>
        rw [hz] at k
        obtain ⟨Dz, e1, e2⟩ := tx z t hz
        refine ⟨t, by rw [e1]; exact e2, fun ht a ha => ?_, fun ht => ?_⟩
        · subst ht
          simp only at k
          cases hy' : isy z with
          | none => rw [hy'] at k; exact k.elim
          | some b =>
            rw [hy'] at k
            simp only at k
            cases hd : decide (i < ρ1.length) with
            | false => rw [hd] at k; exact k.elim
            | true =>
              rw [hd, cond_true] at k
              have hlt : i < σ1.length := by rw [← r1.len]; exact of_decide_eq_true hd
              refine ⟨z, b, Dz, e1, e1, rfl, hy', List.getElem?_set_self hlt, fun p hp => ?_⟩
              obtain ⟨r2, ow, sr⟩ := r1.newX (o := .lst (b.map V.bl)) hp
              exact k _ B1 σ1 _ r2 (sr (.lst _) rfl ⟨p, _, rfl, rfl, ow, upd_same, bools_dp⟩)
        · subst ht
          exact k B1 σ1 H1 r1
  · intro a oe cls d pn hzc hfl
    refine ⟨fun pins s σ H D I ⟨z, bs, Dz, e1, g1, e2, hy', hσ, q⟩ => ?_⟩
    subst e2
    rw [e1] at hzc
    exact (pss_one (ps_ret (pos := pr) (hre z bs a Dz oe pn hy' g1 hzc hfl))).run pins s σ H D I ⟨hσ, q⟩
def isL3 (t1 t2 t3 : Str → Option Bool) (z : Str) : Option (List Bool) := match t1 z, t2 z, t3 z with
  | some a, some b, some c => some [a, b, c]
  | _, _, _ => none
theorem isL3_of {t1 t2 t3 : Str → Option Bool} {z : Str} {bs : List Bool} (h : isL3 t1 t2 t3 z = some bs) : ∃ a b c, t1 z = some a ∧ t2 z = some b ∧ t3 z = some c ∧ bs = [a, b, c] := by
  unfold isL3 at h
  split at h
  · rename_i a b c h1 h2 h3
    cases h
    exact ⟨a, b, c, h1, h2, h3, rfl⟩
  · cases h
theorem zs_tryL3 {y1 y2 y3 : Str} {t1 t2 t3 : Str → Option Bool} {pc1 pi1 pn1 py1 pc2 pi2 pn2 py2 pc3 pi3 pn3 py3 pl : Pos} (hx : IsX X.K X.mg xc x isx) (h1 : IsY X.K X.mg xc y1 t1) (h2 : IsY X.K X.mg xc y2 t2) (h3 : IsY X.K X.mg xc y3 t3) (tk : Takes X W.W) (him : X.mg "isinstance" = none)
    (hb : ∀ (W' : WX) (pn : List (Addr × Obj)) (xe : Value → Shared → Prop), Takes (X.tr pn xe) W' → PassesOwn (model X.prog X.w) X.A X.env xe → ZSs (X.tr pn xe) xc ⟨W', W.J⟩ body cb)
    (hN : X.N.Nodup) (hi : X.N[i]? = some n) (v1 : ∀ (a : Addr) (pn : List (Addr × Obj)), PE (X.suite a pn) (.Name n pn1) (tVar i)) (v2 : ∀ (a : Addr) (pn : List (Addr × Obj)), PE (X.suite a pn) (.Name n pn2) (tVar i)) (v3 : ∀ (a : Addr) (pn : List (Addr × Obj)), PE (X.suite a pn) (.Name n pn3) (tVar i))
    (g1 : Gl X y1 := by rfl) (g2 : Gl X y2 := by rfl) (g3 : Gl X y3 := by rfl) (gi : Gl X "isinstance" := by rfl) (d1 : (y1 == ("__debug__" : Str)) = false := by decide) (d2 : (y2 == ("__debug__" : Str)) = false := by decide) (d3 : (y3 == ("__debug__" : Str)) = false := by decide)
    (e1 : ∀ (a : Addr) (pn : List (Addr × Obj)), starEach [.Name n pn1, .Name y1 py1] (X.suite a pn).env = (false, eval (.Name n pn1) (X.suite a pn).env) :: starEach [.Name y1 py1] (X.suite a pn).env := by intro _ _; rfl)
    (e2 : ∀ (a : Addr) (pn : List (Addr × Obj)), starEach [.Name n pn2, .Name y2 py2] (X.suite a pn).env = (false, eval (.Name n pn2) (X.suite a pn).env) :: starEach [.Name y2 py2] (X.suite a pn).env := by intro _ _; rfl)
    (e3 : ∀ (a : Addr) (pn : List (Addr × Obj)), starEach [.Name n pn3, .Name y3 py3] (X.suite a pn).env = (false, eval (.Name n pn3) (X.suite a pn).env) :: starEach [.Name y3 py3] (X.suite a pn).env := by intro _ _; rfl)
    (f1 : ∀ (a : Addr) (pn : List (Addr × Obj)), starEach [.Name y1 py1] (X.suite a pn).env = (false, eval (.Name y1 py1) (X.suite a pn).env) :: starEach [] (X.suite a pn).env := by intro _ _; rfl)
    (f2 : ∀ (a : Addr) (pn : List (Addr × Obj)), starEach [.Name y2 py2] (X.suite a pn).env = (false, eval (.Name y2 py2) (X.suite a pn).env) :: starEach [] (X.suite a pn).env := by intro _ _; rfl)
    (f3 : ∀ (a : Addr) (pn : List (Addr × Obj)), starEach [.Name y3 py3] (X.suite a pn).env = (false, eval (.Name y3 py3) (X.suite a pn).env) :: starEach [] (X.suite a pn).env := by intro _ _; rfl)
    (q1 : (backTo pc1 (starEach [.Name y1 py1] X.env)).any (·.1) = false := by rfl) (q2 : (backTo pc2 (starEach [.Name y2 py2] X.env)).any (·.1) = false := by rfl) (q3 : (backTo pc3 (starEach [.Name y3 py3] X.env)).any (·.1) = false := by rfl)
    (hln : X.env.kindOf n = some .local := by rfl) (hs : X.stack = X.env :: X.outer := by rfl) (hf : X.env.frame = some X.env.locals := by rfl) (hg : Gl X x := by rfl) (hdb : (x == ("__debug__" : Str)) = false := by decide) :
    ZS X xc W (.Try body [.ExceptHandler (some (.Name x np)) (some n) [.Return (some (.List [.Call (.Name "isinstance" pi1) [.Name n pn1, .Name y1 py1] [] pc1, .Call (.Name "isinstance" pi2) [.Name n pn2, .Name y2 py2] [] pc2, .Call (.Name "isinstance" pi3) [.Name n pn3, .Name y3 py3] [] pc3] pl)) pr] pos'] [] [] pos) (cTryL isx (isL3 t1 t2 t3) i cb) := by
  refine zs_tryL hx tk hb (fun z bs a D oe pn hz hD hzc hfl => ?_) hN hi hln hs hf hg hdb
  obtain ⟨b1, b2, b3, z1, z2, z3, rfl⟩ := isL3_of hz
  obtain ⟨C1, m1, k1⟩ := h1
  obtain ⟨C2, m2, k2⟩ := h2
  obtain ⟨C3, m3, k3⟩ := h3
  obtain ⟨D1, r1, x1, o1⟩ := k1 z b1 z1
  obtain ⟨D2, r2, x2, o2⟩ := k2 z b2 z2
  obtain ⟨D3, r3, x3, o3⟩ := k3 z b3 z3
  rw [hD] at r1 r2 r3
  cases r1
  cases r2
  cases r3
  refine PE.imp (pe_lst (pa_cons (pe_isE x1 hzc hfl o1 him m1 (v1 _ _) g1 gi d1 (e1 _ _) (f1 _ _) q1) (pa_cons (pe_isE x2 hzc hfl o2 him m2 (v2 _ _) g2 gi d2 (e2 _ _) (f2 _ _) q2) (pa_cons (pe_isE x3 hzc hfl o3 him m3 (v3 _ _) g3 gi d3 (e3 _ _) (f3 _ _) q3) pa_nil rfl) rfl) rfl)) fun σ H Q ⟨h, q⟩ => ?_
  exact ⟨h, h, h, (by decide : (3 : Nat) ≤ sizeLine), q⟩
theorem cTryL_r {ρ : En} : cTryL isx isy i cb ρ = kTryL isx isy i (cb ρ) := rfl
theorem kTryL_x {ρ : En} {z : Str} {bs : List Bool} (h1 : isx z = some true) (h2 : isy z = some bs) (h3 : decide (i < ρ.length) = true) : kTryL isx isy i (.exc z ρ) = .rt (.lst (bs.map .bool)) ρ := by
  unfold kTryL
  simp only [h1, h2, h3, cond_true]
end
end Z
set_option maxHeartbeats 2000000
/-! Z: the machine's rules for texts that are joined, ranges with a step, lists turned round. -/
namespace Z
open PySem PySem.Spec PyProof.Rows L2
section
variable {ρ : En}
theorem cJoin_r {sep : Str} {ca : CE} : cJoin (cK (.str sep)) ca ρ = kJoin2 (ca ρ) sep := rfl
theorem kJoin2_0 {sep : Str} {s : S} : kJoin2 (.ok s ρ) sep = R.lift (gJoin (.str sep) s.d) ρ := rfl
theorem gJoin_t {sep : Str} {ys : List Str} (h : (ys.map (·.length)).sum + ys.length * sep.length ≤ 16777216) : gJoin (.str sep) (.list (ys.map .str)) = some (.dat (.str (Str.join sep ys))) := by
  unfold gJoin
  simp only [of_strs]
  rw [show jOk sep ys = true from decide_eq_true h, cond_true]
  congr 3
  exact StrLaws.glued_eq_join sep ys
theorem ciRange3_r {c : CA} : ciRange3 c ρ = kRng3 (c ρ) := rfl
theorem kRng3_s {i j c : Int} (h : rgC i j c = true) : kRng3 (.ok [.int i, .int j, .int c] ρ) = .ok (rangeC i c (Builtin.Range.rangeSize i j c).toNat) ρ := by
  show (bif rgC i j c then _ else _) = _
  rw [h]; rfl
theorem ciRev_r {c : CA} : ciRev c ρ = kRev (c ρ) := rfl
theorem kRev_0 {l : List PyData} : kRev (.ok [.list l] ρ) = .ok l.reverse ρ := rfl
theorem cLRg3_r {c : CA} : cLRg3 c ρ = kLRg3 (c ρ) := rfl
theorem kLRg3_s {i j c : Int} (h : rgCL i j c = true) : kLRg3 (.ok [.int i, .int j, .int c] ρ) = .ok (.lst (rangeC i c (Builtin.Range.rangeSize i j c).toNat)) ρ := by
  show (bif rgCL i j c then _ else _) = _
  rw [h]; rfl
theorem rangeC_length {lo c : Int} {n : Nat} : (rangeC lo c n).length = n := by simp [rangeC]
end
/-! texts -/
theorem strOk_app {a b : Str} (ha : PyData.strOk a = true) (hb : PyData.strOk b = true) : PyData.strOk (a ++ b) = true := by
  unfold PyData.strOk at *
  rw [Str.cps_append, Array.all_append, ha, hb]; rfl
theorem strOk_e : PyData.strOk Str.empty = true := by decide +kernel
theorem strOk_join0 : ∀ {ys : List Str}, (∀ y ∈ ys, PyData.strOk y = true) → PyData.strOk (Str.join Str.empty ys) = true
  | [], _ => strOk_e
  | [x], h => h x (by simp)
  | x :: y :: r, h => by
    show PyData.strOk (x ++ Str.empty ++ Str.join Str.empty (y :: r)) = true
    exact strOk_app (strOk_app (h x (by simp)) strOk_e) (strOk_join0 fun z hz => h z (List.mem_cons_of_mem _ hz))
theorem join0_app : ∀ {ys : List Str} {z : Str}, Str.join Str.empty (ys ++ [z]) = Str.join Str.empty ys ++ z
  | [], z => (Str.empty_append z).symm
  | [x], z => by show x ++ Str.empty ++ z = x ++ z; rw [Str.append_empty]
  | x :: y :: r, z => by
    have h := join0_app (ys := y :: r) (z := z)
    show x ++ Str.empty ++ Str.join Str.empty (y :: r ++ [z]) = x ++ Str.empty ++ Str.join Str.empty (y :: r) ++ z
    rw [h, Str.append_assoc (x ++ Str.empty)]
theorem join0_len : ∀ {ys : List Str} {k : Nat}, (∀ y ∈ ys, y.length ≤ k) → (Str.join Str.empty ys).length ≤ ys.length * k
  | [], _, _ => Nat.zero_le _
  | [x], k, h => by have := h x (by simp); show x.length ≤ 1 * k; omega
  | x :: y :: r, k, h => by
    have h1 := join0_len (ys := y :: r) (k := k) fun z hz => h z (List.mem_cons_of_mem _ hz)
    have h2 := h x (by simp)
    show (x ++ Str.empty ++ Str.join Str.empty (y :: r)).length ≤ (r.length + 1 + 1) * k
    have e : (Str.empty : Str).length = 0 := rfl
    rw [Str.length_append, Str.length_append, e, Nat.succ_mul]
    have h1 : (Str.join Str.empty (y :: r)).length ≤ (r.length + 1) * k := h1
    omega
theorem sum_len : ∀ {ys : List Str} {k : Nat}, (∀ y ∈ ys, y.length ≤ k) → (ys.map (·.length)).sum ≤ ys.length * k
  | [], _, _ => Nat.zero_le _
  | x :: r, k, h => by
    have h1 := sum_len (ys := r) (k := k) fun z hz => h z (List.mem_cons_of_mem _ hz)
    have h2 := h x (by simp)
    rw [List.map_cons, List.sum_cons, List.length_cons, Nat.succ_mul]
    omega
theorem shp_str {a : Str} (h : PyData.strOk a = true) : shp (.str a) = true := by
  unfold shp
  rw [show plain (.str a) = true from rfl, Bool.true_and]
  unfold SeqAt.shaped
  rw [show (PyData.str a).canLay0 = true by unfold PyData.canLay0; exact h, Bool.true_and]
  exact decide_eq_true (by show (0 : Nat) ≤ 64; omega)
theorem gNe_same {a : Str} (h : PyData.strOk a = true) : gNe (.str a) (.str a) = some (.dat (.bool false)) := by
  unfold gNe
  rw [shp_str h]
  have : PyData.eqv (.str a) (.str a) = true := by unfold PyData.eqv; exact beq_self_eq_true a
  rw [this]; rfl
end Z
set_option maxHeartbeats 2000000
/-! Z: zip of two lists. -/
namespace Z
open PySem PySem.Spec PyProof.Rows L2
open Evl (Ex ex_l ex_t ex_rd)
def zipD (l m : List PyData) : List PyData := List.zipWith (fun a b => .tuple [a, b]) l m
theorem itz_ok {K : KF} {B : Hp} {a b : Addr} {xs ys : List V} {ds es : List PyData} (h1 : SqL K B a xs) (h2 : DpAll K B xs ds) (g1 : SqL K B b ys) (g2 : DpAll K B ys es) : ItOk K B (Itz K.K a b) (zipD ds es) := fun {J Γ B' ρ σ H} rep e => by
  have hH := ex_l (e.trans rep.bh) h1
  have gH := ex_l (e.trans rep.bh) g1
  have l1 := dpAll_len h2
  have l2 := dpAll_len g2
  refine ⟨fun i d hd => ?_, xs, ys, hH, gH, by unfold zipD; rw [List.length_zipWith]; omega⟩
  unfold zipD at hd
  rw [List.getElem?_zipWith] at hd
  cases hx : ds[i]? with
  | none => rw [hx] at hd; cases hd
  | some d1 =>
    cases hy : es[i]? with
    | none => rw [hx, hy] at hd; cases hd
    | some d2 =>
      rw [hx, hy] at hd
      have hd' : PyData.tuple [d1, d2] = d := Option.some.inj hd
      obtain ⟨v, v1, v2⟩ := dpAll_get h2 hx
      obtain ⟨u, u1, u2⟩ := dpAll_get g2 hy
      refine ⟨⟨xs, ys, v, u, hH, gH, v1, u1⟩, fun x H' ⟨T, x', y', k1, k2, k3, k4, k5⟩ => ?_⟩
      subst k1 k3
      have q1 := k4 xs hH
      have q2 := k5 ys gH
      rw [v1] at q1
      rw [u1] at q2
      cases q1
      cases q2
      obtain ⟨r2, e2, _, _⟩ := rep.new (o := .tup [v, u]) k2
      refine ⟨_, e2, r2, ?_, fun b o h => by rw [upd_ne (ne_of_none h k2)]; exact h⟩
      rw [← hd']
      exact .tup (.inl (.inl upd_same)) (.cons (dp_mono (e.trans e2) v2) (.cons (dp_mono (e.trans e2) u2) .nil))
def kZip (r : RA) : RA := r.ba fun ds ρ => match ds with
  | [.list l, .list m] => .ok (zipD l m) ρ
  | _ => .bad
def ciZip (c : CA) : CA := fun ρ => kZip (c ρ)
section
variable {X : Cx} {xc : Str → Value} {W : Ww} {e e2 : Expr} {p pos tpos : Pos} {cas : CA} {elts : List Expr} {kk : Nat}
theorem zi_zip (hg : Gl X "zip") (hm : X.mg "zip" = none) (ha : ZA X xc W [e, e2] cas) (hs : starEach [e, e2] X.env = (false, eval e X.env) :: starEach [e2] X.env := by rfl) (hpl : (backTo pos (starEach [e2] X.env)).any (·.1) = false := by rfl) :
    ZI X xc W (.Tuple elts kk tpos) (.Call (.Name "zip" p) [e, e2] [] pos) (ciZip cas) :=
  PI.imp (pi_zip hg hm ha.run hs hpl) fun σ H Q ⟨Γ, B, ρ, rep, k⟩ => tza_bi rep k fun vs B1 H1 ds ρ1 e1 r1 q1 k1 => by
    split at k1
    · rename_i l m
      cases q1 with
      | cons h t =>
        cases t with
        | cons h2 t2 =>
          cases t2
          obtain ⟨a, xs, rfl, a1, a2⟩ := dp_list h
          obtain ⟨b, ys, rfl, b1, b2⟩ := dp_list h2
          exact ⟨a, b, xs, ys, rfl, ex_l r1.bh a1, ex_l r1.bh b1, k1 _ B1 H1 (Ex.refl _) r1 (itz_ok a1 a2 b1 b2)⟩
    · exact k1.elim
theorem ciZip_r {c : CA} {ρ : En} : ciZip c ρ = kZip (c ρ) := rfl
theorem kZip_0 {l m : List PyData} {ρ : En} : kZip (.ok [.list l, .list m] ρ) = .ok (zipD l m) ρ := rfl
end
end Z
set_option maxHeartbeats 2000000
/-! Z: the machine's rules for slices xs[:k] and xs[k:]. -/
namespace Z
open PySem PySem.Spec PyProof.Rows L2
def kSlJ (o : Option PyData) (g : PyData → Option Int → Option Int → Option S) (b : Bool) (i : Int) (ρ : En) : R := match o with
  | some d => R.lift (bif b then g d (some i) none else g d none (some i)) ρ
  | none => .bad
def kSlI (r : R) (g : PyData → Option Int → Option Int → Option S) (ar : Ar) (b : Bool) : R := r.bo fun i ρ => kSlJ (resolve ρ ar) g b i ρ
def kSlH (r : RB) (g : PyData → Option Int → Option Int → Option S) (ci : CE) (b : Bool) : R := r.bd fun ar ρ => kSlI (ci ρ) g ar b
section
variable {ρ : En} {g : PyData → Option Int → Option Int → Option S} {cb : CB} {ci : CE} {ar : Ar} {b : Bool} {i : Int}
theorem cSl_hi : cSl g cb none (some ci) ρ = kSlH (cb ρ) g ci false := rfl
theorem cSl_lo : cSl g cb (some ci) none ρ = kSlH (cb ρ) g ci true := rfl
theorem kSlH_0 : kSlH (.ok ar ρ) g ci b = kSlI (ci ρ) g ar b := rfl
theorem kSlI_0 : kSlI (.ok (.dat (.int i)) ρ) g ar b = kSlJ (resolve ρ ar) g b i ρ := rfl
theorem kSlJ_0 {d : PyData} : kSlJ (some d) g false i ρ = R.lift (g d none (some i)) ρ := rfl
theorem kSlJ_1 {d : PyData} : kSlJ (some d) g true i ρ = R.lift (g d (some i) none) ρ := rfl
theorem gSl_hi {l : List PyData} {k : Nat} (h : k ≤ l.length) : gSl (.list l) none (some (k : Int)) = some (.lst (l.take k)) := by
  unfold gSl cutD
  simp only
  rw [HT.sIx_none, HT.sIx_nat, Nat.min_eq_left h, Nat.sub_zero]
  rfl
theorem gSl_lo {l : List PyData} {k : Nat} (h : k ≤ l.length) : gSl (.list l) (some (k : Int)) none = some (.lst (l.drop k)) := by
  unfold gSl cutD
  simp only
  rw [HT.sIx_none, HT.sIx_nat, Nat.min_eq_left h, List.take_of_length_le (by rw [List.length_drop]; omega)]
end
end Z
set_option maxHeartbeats 2000000
/-! Z: isinstance of an exception, by the table of subclasses. -/
namespace Z
open PySem PySem.Spec PyProof.Rows L2
theorem kit_sub {K : PySem.W.Frag} {A B : Addr} {b : Bool} (h1 : PySem.W.typeIn K (.ref B) = some (.type "type")) (h2 : PySem.W.subIn K (.ref A) (.ref B) = some b) (h3 : PySem.W.subIn K (.ref B) (.ref B) = some true) : PySem.W.kitOne K (.ref A) (.ref B) = some b := by
  unfold PySem.W.kitOne
  split
  · rename_i e
    have e : A = B := by
      have := eq_of_beq e
      cases this
      rfl
    subst e
    rw [h2] at h3
    exact h3.symm
  · unfold PySem.W.kitCls
    have hc : (PySem.W.clsIn K B).isSome = true := by
      have h3 : PySem.W.mroIn K B (.ref B) = some true := h3
      unfold PySem.W.mroIn at h3
      cases hq : PySem.W.clsIn K B with
      | none => rw [hq] at h3; cases h3
      | some c => rfl
    simp only [hc, h1, Bool.true_and]
    rw [if_pos (by exact beq_self_eq_true _)]
    exact h2
end Z
set_option maxHeartbeats 2000000
/-! Z: texts: str(int), int(text), slices, text * int, f-strings. -/
namespace Z
open PySem PySem.Spec PyProof.Rows L2
open Evl (Ex ex_l ex_t ex_rd)
/-! ### str(n), int(text) -/
def gStr : List PyData → Option S
  | [.int i] => bif decide (i.natAbs.log2 < 1920) then some (.dat (.str (toString i))) else none
  | _ => none
theorem on_str {K : KF} : OpN K (fun xs H Q => ∃ i : Int, xs = [.int i] ∧ i.natAbs.log2 < 1920 ∧ Q (.str (toString i)) H) gStr := by
  intro J Γ B ρ σ H xs ds s Q rep hx hs af
  unfold gStr at hs
  split at hs
  · rename_i i
    obtain ⟨h1, h2⟩ := bif_some hs
    subst h2
    obtain ⟨x, rfl, h3⟩ := dpAll_one hx
    exact ⟨i, by rw [dp_int h3], of_decide_eq_true h1, After.now rep af (.str _)⟩
  · cases hs
def gIntT : List PyData → Option S
  | [.str a] => bif decide (a.length ≤ 640) then (PySem.intText? a).map fun n => .dat (.int n) else none
  | [.int i] => some (.dat (.int i))
  | [.bool b] => some (.dat (.int (if b then 1 else 0)))
  | _ => none
theorem callR_or {X : Cx} {f : Value} {r r' : List V → Hp → VK → Prop} (h : CallR X f r) (h' : CallR X f r') : CallR X f (fun xs H Q => r xs H Q ∨ r' xs H Q) := by
  intro pins s σ H xs us Q I rs q
  rcases q with q | q
  · exact h pins s σ H xs us Q I rs q
  · exact h' pins s σ H xs us Q I rs q
theorem call_intT {X : Cx} : CallR X (.type "int") (fun xs H Q => ((∃ i, xs = [.int i] ∧ Q (.int i) H) ∨ ∃ k, xs = [.bl k] ∧ Q (.int (if k then 1 else 0)) H) ∨ ∃ a n, xs = [.str a] ∧ PySem.intText? a = some n ∧ a.length ≤ 640 ∧ Q (.int n) H) := callR_or call_int1 call_int_str
theorem on_intT {K : KF} : OpN K (fun xs H Q => ((∃ i, xs = [.int i] ∧ Q (.int i) H) ∨ ∃ k, xs = [.bl k] ∧ Q (.int (if k then 1 else 0)) H) ∨ ∃ a n, xs = [.str a] ∧ PySem.intText? a = some n ∧ a.length ≤ 640 ∧ Q (.int n) H) gIntT := by
  intro J Γ B ρ σ H xs ds s Q rep hx hs af
  unfold gIntT at hs
  split at hs
  · rename_i a
    obtain ⟨x, rfl, h3⟩ := dpAll_one hx
    cases hd : decide (a.length ≤ 640) with
    | false => rw [hd] at hs; cases hs
    | true =>
      rw [hd, cond_true] at hs
      cases hn : PySem.intText? a with
      | none => rw [hn] at hs; cases hs
      | some n =>
        rw [hn] at hs
        cases hs
        exact .inr ⟨a, n, by rw [dp_str h3], hn, of_decide_eq_true hd, After.now rep af (.int _)⟩
  · rename_i i
    cases hs
    obtain ⟨x, rfl, h1⟩ := dpAll_one hx
    exact .inl (.inl ⟨i, by rw [dp_int h1], After.now rep af (.int _)⟩)
  · rename_i b
    cases hs
    obtain ⟨x, rfl, h1⟩ := dpAll_one hx
    exact .inl (.inr ⟨b, by rw [dp_bool h1], After.now rep af (.int _)⟩)
  · cases hs
/-! ### text * int -/
def mulOkB (x : Str) (n : Int) : Bool := decide (0 ≤ n) && (decide (n ≤ 100000) && decide (x.length ≤ 100))
theorem mulOk_of {x : Str} {n : Int} (h : mulOkB x n = true) : MulOk x n := by
  unfold mulOkB at h
  simp only [Bool.and_eq_true, decide_eq_true_eq] at h
  obtain ⟨h1, h2, h3⟩ := h
  refine ⟨?_, fun h4 _ => ?_, fun h4 _ => ?_⟩
  · simp only [Bool.or_eq_false_iff, decide_eq_false_iff_not]
    omega
  · have h5 : (100 : Int) ≤ (2 ^ 63 - 1) / n := by
      rw [Int.le_ediv_iff_mul_le (by omega)]
      omega
    omega
  · unfold Builtin.Str.tooLong
    have : x.length * n.toNat ≤ 100 * 100000 := Nat.mul_le_mul h3 (by omega)
    simp only [decide_eq_false_iff_not]
    have e : sizeLine = 16777216 := rfl
    omega
theorem op_mulT {X : Cx} : OpR X (binaryOp .Mult) (fun x y H Q => ∃ a n, x = .str a ∧ y = .int n ∧ MulOk a n ∧ Q (.str (Txt.mul a n)) H) := by
  intro pins s σ H x y v u Q I rx ry h
  obtain ⟨a, n, rfl, rfl, hok, q⟩ := h
  obtain ⟨t, rfl⟩ := rx
  obtain ⟨t', rfl⟩ := ry
  exact SB.mul hok fun t' k => ⟨.str _, H, I.kept (t' := k) fun _ _ z => z, ⟨_, rfl⟩, q⟩
def gMulT : PyData → PyData → Option S
  | .str a, .int n => bif mulOkB a n then some (.dat (.str (Txt.mul a n))) else none
  | _, _ => none
theorem o_mulT {K : KF} : Op2 K (fun x y H Q => ∃ a n, x = .str a ∧ y = .int n ∧ MulOk a n ∧ Q (.str (Txt.mul a n)) H) gMulT := by
  intro J Γ B ρ σ H x y d e s Q rep hx hy hs af
  unfold gMulT at hs
  split at hs
  · obtain ⟨h1, h2⟩ := bif_some hs
    subst h2
    exact ⟨_, _, dp_str hx, dp_int hy, mulOk_of h1, After.now rep af (.str _)⟩
  · cases hs
/-! ### slices of texts -/
def gSlT (d : PyData) (lo hi : Option Int) : Option S := match d with
  | .str z => bif decide (z.length ≤ sizeLine) then some (.dat (.str (cutS z lo hi))) else none
  | _ => none
section
variable {X : Cx} {xc : Str → Value} {W : Ww} {a : Expr} {p2 pos : Pos} {cb : CB}
theorem ze_sliceT {lo hi : Option Expr} {cl ch : Option CE} (ha : ZB X xc W a cb) (hl : ZO X xc W lo cl) (hh : ZO X xc W hi ch) : ZE X xc W (.Subscript a (.Slice lo hi none p2) pos) (cSl gSlT cb cl ch) :=
  PE.imp (pe_slice sl_str ha hl hh) fun σ H Q ⟨Γ, B, ρ, rep, k⟩ => tzb_bd rep k fun x B1 H1 ar ρ1 e1 r1 q1 k1 => tzo r1 k1 fun l B2 H2 ρ2 e2 r2 k2 => tzo r2 k2 fun u B3 H3 ρ3 e3 r3 k3 => by
    cases hres : resolve ρ3 ar with
    | none => rw [hres] at k3; exact k3.elim
    | some d =>
      rw [hres] at k3
      obtain ⟨s, hs, af⟩ := out_lift k3
      have pk := resolve_pk r3 (e2.trans e3) q1 hres
      unfold gSlT at hs
      split at hs
      · rename_i z
        obtain ⟨h1, h2⟩ := bif_some hs
        subst h2
        have hz := dp_str (pk.dp fun l e => by cases e)
        exact ⟨z, hz, of_decide_eq_true h1, After.now r3 af (.str _)⟩
      · cases hs
/-! ### f-strings -/
def fmtD : PyData → Option Str
  | .str y => bif decide (y.length ≤ sizeLine) then some y else none
  | .int i => bif decide (i.natAbs.log2 < 1920) then some (toString i) else none
  | _ => none
/-- the parts one behind the other -/
def jsG : List CE → Str → CE
  | [], acc => fun ρ => .ok (.dat (.str acc)) ρ
  | c :: cs, acc => fun ρ => (c ρ).bd fun d ρ => match fmtD d with
    | some y => bif decide ((acc ++ y).length ≤ sizeLine) then jsG cs (acc ++ y) ρ else .bad
    | none => .bad
def cJs (cs : List CE) : CE := jsG cs Str.empty
inductive ZJ (X : Cx) (xc : Str → Value) (W : Ww) : List Expr → List CE → Prop where
  | nil : ZJ X xc W [] []
  | fmt {e : Expr} {c : CE} {pos : Pos} {es : List Expr} {cs : List CE} (h : ZE X xc W e c) (r : ZJ X xc W es cs) : ZJ X xc W (.FormattedValue e (-1) none pos :: es) (c :: cs)
  | con {z : Str} {j : Nat} {pos : Pos} {es : List Expr} {cs : List CE} (r : ZJ X xc W es cs) : ZJ X xc W (.Constant (.str z) j pos :: es) (cK (.str z) :: cs)
theorem fmtD_of {K : KF} {B : Hp} {d : PyData} {v : V} {y : Str} (h : fmtD d = some y) (q : Dp K B v d) : (v = .str y ∧ y.length ≤ sizeLine) ∨ ∃ i : Int, v = .int i ∧ i.natAbs.log2 < 1920 ∧ y = toString i := by
  unfold fmtD at h
  split at h
  · obtain ⟨h1, h2⟩ := bif_some h
    subst h2
    exact .inl ⟨dp_str q, of_decide_eq_true h1⟩
  · obtain ⟨h1, h2⟩ := bif_some h
    exact .inr ⟨_, dp_int q, of_decide_eq_true h1, h2.symm⟩
  · cases h
theorem zj_run {X : Cx} {xc : Str → Value} {W : Ww} {es : List Expr} {cs : List CE} (h : ZJ X xc W es cs) : ∃ ts, PJ X es ts ∧ ∀ (acc : Str) (Γ : Fm W.J) (B : Hp) (ρ : En) (σ : L2.St) (H : Hp) (Q : VK), Rep X.kf Γ B ρ σ H → outZ X.kf xc W Γ B σ Q (jsG cs acc ρ) → tJs ts acc σ H fun out H1 => Q (.str out) H1 := by
  induction h with
  | nil => exact ⟨[], .nil, fun acc Γ B ρ σ H Q rep k => k _ B H (Ex.refl _) rep (sres_dat (.str acc))⟩
  | @fmt e c pos es cs h r ih =>
    obtain ⟨ts, p, run⟩ := ih
    refine ⟨_, .cons (pe_fmt h) p, fun acc Γ B ρ σ H Q rep k => ?_⟩
    show tFmt (tZ X.kf xc W c) σ H _
    unfold tFmt
    refine tz_bd rep k fun v B1 H1 d ρ1 e1 r1 q1 k1 => ?_
    cases hf : fmtD d with
    | none => rw [hf] at k1; exact k1.elim
    | some y =>
      rw [hf] at k1
      simp only at k1
      cases hd : decide ((acc ++ y).length ≤ sizeLine) with
      | false => rw [hd] at k1; exact k1.elim
      | true =>
        rw [hd, cond_true] at k1
        rcases fmtD_of hf q1 with ⟨rfl, hl⟩ | ⟨i, rfl, hl, rfl⟩
        · exact .inl ⟨y, rfl, hl, y, rfl, of_decide_eq_true hd, run _ Γ B1 ρ1 σ H1 Q r1 k1⟩
        · exact .inr ⟨i, rfl, hl, _, rfl, of_decide_eq_true hd, run _ Γ B1 ρ1 σ H1 Q r1 k1⟩
  | @con z j pos es cs r ih =>
    obtain ⟨ts, p, run⟩ := ih
    refine ⟨_, .cons pe_str p, fun acc Γ B ρ σ H Q rep k => ?_⟩
    have k1 : outZ X.kf xc W Γ B σ Q (match fmtD (.str z) with
      | some y => bif decide ((acc ++ y).length ≤ sizeLine) then jsG cs (acc ++ y) ρ else .bad
      | none => .bad) := k
    cases hf : fmtD (.str z) with
    | none => rw [hf] at k1; exact k1.elim
    | some y =>
      rw [hf] at k1
      simp only at k1
      have hy : z = y := by
        unfold fmtD at hf
        exact (bif_some hf).2
      subst hy
      cases hd : decide ((acc ++ z).length ≤ sizeLine) with
      | false => rw [hd] at k1; exact k1.elim
      | true =>
        rw [hd, cond_true] at k1
        exact ⟨z, rfl, of_decide_eq_true hd, run _ Γ B ρ σ H Q rep k1⟩
theorem ze_js {v1 v2 : Expr} {rest : List Expr} {cs : List CE} {pos : Pos} (h : ZJ X xc W (v1 :: v2 :: rest) cs) : ZE X xc W (.JoinedStr (v1 :: v2 :: rest) pos) (cJs cs) := by
  obtain ⟨ts, p, run⟩ := zj_run h
  exact PE.imp (pe_joined p) fun σ H Q ⟨Γ, B, ρ, rep, k⟩ => run _ Γ B ρ σ H Q rep k
/-! the machine's rules -/
theorem cJs_r {cs : List CE} {ρ : En} : cJs cs ρ = jsG cs Str.empty ρ := rfl
theorem jsG_n {acc : Str} {ρ : En} : jsG [] acc ρ = .ok (.dat (.str acc)) ρ := rfl
def kJsG (r : R) (cs : List CE) (acc : Str) : R := r.bd fun d ρ => match fmtD d with
    | some y => bif decide ((acc ++ y).length ≤ sizeLine) then jsG cs (acc ++ y) ρ else .bad
    | none => .bad
theorem jsG_c {c : CE} {cs : List CE} {acc : Str} {ρ : En} : jsG (c :: cs) acc ρ = kJsG (c ρ) cs acc := rfl
theorem kJsG_s {d : PyData} {y : Str} {cs : List CE} {acc : Str} {ρ : En} (h : fmtD d = some y) (h2 : (acc ++ y).length ≤ sizeLine) : kJsG (.ok (.dat d) ρ) cs acc = jsG cs (acc ++ y) ρ := by
  show (match fmtD d with
    | some y => bif decide ((acc ++ y).length ≤ sizeLine) then jsG cs (acc ++ y) ρ else .bad
    | none => .bad) = _
  rw [h]
  simp only
  rw [decide_eq_true h2, cond_true]
end
end Z
set_option maxHeartbeats 2000000
/-! plain: hulls of corners. -/
namespace Z
/-- twice the area -/
def ar (a b c : Cn) : Int := (b.1 - a.1) * (c.2 - a.2) - (b.2 - a.2) * (c.1 - a.1)
abbrev Lt (a b : Cn) : Prop := a.1 < b.1 ∨ (a.1 = b.1 ∧ a.2 < b.2)
abbrev Le (a b : Cn) : Prop := a.1 < b.1 ∨ (a.1 = b.1 ∧ a.2 ≤ b.2)
theorem Le.of {a b : Cn} (h : Lt a b) : Le a b := by rcases h with h | h; exact .inl h; exact .inr ⟨h.1, by omega⟩
theorem le_rf (a : Cn) : Le a a := .inr ⟨rfl, Int.le_refl _⟩
theorem Lt.ne {a b : Cn} (h : Lt a b) : a ≠ b := fun e => by subst e; omega
theorem Le.eq_or {a b : Cn} (h : Le a b) : a = b ∨ Lt a b := by
  obtain ⟨a1, a2⟩ := a
  obtain ⟨b1, b2⟩ := b
  by_cases e : (a1, a2) = (b1, b2)
  · exact .inl e
  · refine .inr ?_
    have : ¬ (a1 = b1 ∧ a2 = b2) := fun h => e (by rw [h.1, h.2])
    have h : a1 < b1 ∨ (a1 = b1 ∧ a2 ≤ b2) := h
    show a1 < b1 ∨ (a1 = b1 ∧ a2 < b2)
    omega
theorem le_anti {a b : Cn} (h : Le a b) (g : Le b a) : a = b := by
  rcases h.eq_or with e | e
  · exact e
  · exfalso; omega
theorem lt_or {a b : Cn} (h : a ≠ b) : Lt a b ∨ Lt b a := by
  by_cases g : Le a b
  · exact g.eq_or.elim (fun e => absurd e h) .inl
  · right; omega
/-! ### vectors to the right -/
abbrev Ps (x y : Int) : Prop := 0 < x ∨ (x = 0 ∧ 0 < y)
theorem mul_nn {a b : Int} (h : 0 ≤ a) (g : 0 ≤ b) : 0 ≤ a * b := Int.mul_nonneg h g
theorem mul_ps {a b : Int} (h : 0 < a) (g : 0 < b) : 0 < a * b := Int.mul_pos h g
theorem pos_of_mul {a b : Int} (h : 0 < a) (g : 0 < a * b) : 0 < b := by
  rcases Int.lt_or_le 0 b with k | k
  · exact k
  · have := Int.mul_nonneg (Int.le_of_lt h) (show 0 ≤ -b by omega)
    rw [Int.mul_neg] at this
    omega
theorem nn_of_mul {a b : Int} (h : 0 < a) (g : 0 ≤ a * b) : 0 ≤ b := by
  rcases Int.lt_or_le b 0 with k | k
  · have := Int.mul_pos h (show 0 < -b by omega)
    rw [Int.mul_neg] at this
    omega
  · exact k
section
variable {u1 u2 v1 v2 w1 w2 : Int}
theorem tr0 (hu : Ps u1 u2) (hv : Ps v1 v2) (hw : Ps w1 w2) (h1 : 0 ≤ u1 * v2 - u2 * v1) (h2 : 0 ≤ v1 * w2 - v2 * w1) : 0 ≤ u1 * w2 - u2 * w1 := by
  rcases hv with hv | ⟨hv, hv2⟩
  · have a := mul_nn (show 0 ≤ u1 by omega) h2
    have b := mul_nn (show 0 ≤ w1 by omega) h1
    refine nn_of_mul hv ?_
    grind
  · subst hv
    have e : w1 = 0 := by
      rcases hw with hw | hw
      · have := mul_ps hv2 hw
        omega
      · exact hw.1
    subst e
    have a := mul_nn (show 0 ≤ u1 by omega) (show 0 ≤ w2 by omega)
    omega
theorem tr1 (hu : Ps u1 u2) (hv : Ps v1 v2) (hw : Ps w1 w2) (h1 : 0 ≤ u1 * v2 - u2 * v1) (h2 : 0 < v1 * w2 - v2 * w1) : 0 < u1 * w2 - u2 * w1 := by
  rcases hv with hv | ⟨hv, hv2⟩
  · have u0 : 0 < u1 := by
      rcases hu with hu | ⟨hu, hu2⟩
      · exact hu
      · subst hu
        have := mul_ps hu2 hv
        omega
    have a := mul_ps u0 h2
    have b := mul_nn (show 0 ≤ w1 by omega) h1
    refine pos_of_mul hv ?_
    grind
  · subst hv
    exfalso
    have := mul_nn (show 0 ≤ v2 by omega) (show 0 ≤ w1 by omega)
    omega
theorem tr2 (hu : Ps u1 u2) (hv : Ps v1 v2) (hw : Ps w1 w2) (h1 : 0 < u1 * v2 - u2 * v1) (h2 : 0 ≤ v1 * w2 - v2 * w1) : 0 < u1 * w2 - u2 * w1 := by
  rcases hv with hv | ⟨hv, hv2⟩
  · rcases hw with hw | ⟨hw, hw2⟩
    · have a := mul_nn (show 0 ≤ u1 by omega) h2
      have b := mul_ps hw h1
      refine pos_of_mul hv ?_
      grind
    · subst hw
      rcases hu with hu | ⟨hu, hu2⟩
      · have := mul_ps hu hw2
        omega
      · subst hu
        have := mul_ps hu2 hv
        omega
  · subst hv
    have e : w1 = 0 := by
      rcases hw with hw | hw
      · have := mul_ps hv2 hw
        omega
      · exact hw.1
    subst e
    have u0 : 0 < u1 := by
      rcases hu with hu | ⟨hu, hu2⟩
      · exact hu
      · subst hu; omega
    have := mul_ps u0 (show 0 < w2 by omega)
    omega
end
section
variable {a b c d e : Cn}
/-- a < b < c < d: turns to the left go on -/
theorem ar_up (h1 : Lt a b) (h2 : Lt b c) (h3 : Lt c d) (g1 : 0 < ar a b c) (g2 : 0 < ar b c d) : 0 < ar a b d := by
  have t := tr1 (u1 := b.1 - a.1) (u2 := b.2 - a.2) (v1 := c.1 - b.1) (v2 := c.2 - b.2) (w1 := d.1 - c.1) (w2 := d.2 - c.2) (by omega) (by omega) (by omega)
    (by unfold ar at g1; grind) (by unfold ar at g2; grind)
  unfold ar at *
  grind
/-- a < b < c, d < b, d on or left of ab, c left of it: d is left of bc -/
theorem ar_back (h1 : Lt a b) (h2 : Lt b c) (h3 : Lt d b) (g1 : 0 < ar a b c) (g2 : 0 ≤ ar a b d) : 0 < ar b c d := by
  have t := tr1 (u1 := b.1 - d.1) (u2 := b.2 - d.2) (v1 := b.1 - a.1) (v2 := b.2 - a.2) (w1 := c.1 - b.1) (w2 := c.2 - b.2) (by omega) (by omega) (by omega)
    (by unfold ar at g2; grind) (by unfold ar at g1; grind)
  unfold ar at *
  grind
/-- what was left out is on or left of the new edge -/
theorem ar_out (h1 : Lt a b) (h2 : Lt a c) (h3 : Lt a d) (g1 : ar a b c ≤ 0) (g2 : 0 ≤ ar a b d) : 0 ≤ ar a c d := by
  have t := tr0 (u1 := c.1 - a.1) (u2 := c.2 - a.2) (v1 := b.1 - a.1) (v2 := b.2 - a.2) (w1 := d.1 - a.1) (w2 := d.2 - a.2) (by omega) (by omega) (by omega)
    (by unfold ar at g1; grind) (by unfold ar at g2; grind)
  unfold ar at *
  grind
end
/-! ### the lower rim -/
def pushC : List Cn → Cn → List Cn
  | b :: a :: r, c => if ar a b c ≤ 0 then pushC (a :: r) c else c :: b :: a :: r
  | [a], c => [c, a]
  | [], c => [c]
def rim (s : List Cn) : List Cn := s.foldl pushC []
def Ed (s : List Cn) (a b : Cn) : Prop := ∀ c ∈ s, 0 < ar a b c ∨ (ar a b c = 0 ∧ Le a c ∧ Le c b)
def Eds (s : List Cn) : List Cn → Prop
  | b :: a :: r => Ed s a b ∧ Eds s (a :: r)
  | _ => True
def Srt : List Cn → Prop
  | b :: a :: r => Lt a b ∧ Srt (a :: r)
  | _ => True
theorem Ed.sub {s s' : List Cn} {a b : Cn} (h : Ed s a b) (g : ∀ c ∈ s', c ∈ s) : Ed s' a b := fun c hc => h c (g c hc)
theorem Eds.sub {s s' : List Cn} (g : ∀ c ∈ s', c ∈ s) : ∀ {st : List Cn}, Eds s st → Eds s' st
  | [], _ => trivial
  | [_], _ => trivial
  | _ :: _ :: _, h => ⟨h.1.sub g, Eds.sub g h.2⟩
theorem ar_self {a b : Cn} : ar a b b = 0 := by unfold ar; grind
theorem ar_self0 {a b : Cn} : ar a b a = 0 := by unfold ar; grind
theorem Eds.more {s : List Cn} {c : Cn} : ∀ {st : List Cn} {b : Cn}, Eds s (b :: st) → Srt (b :: st) → (∀ x ∈ b :: st, x ∈ s) → Lt b c → (∀ a, st.head? = some a → 0 < ar a b c) → Eds (c :: s) (b :: st)
  | [], _, _, _, _, _, _ => trivial
  | a :: r, b, h, hs, hm, hc, hp => by
    have p := hp a rfl
    refine ⟨fun d hd => ?_, Eds.more h.2 hs.2 (fun x hx => hm x (List.mem_cons_of_mem _ hx)) (by have := hs.1; omega) fun a' ha' => ?_⟩
    · rcases List.mem_cons.mp hd with rfl | hd
      · exact .inl p
      · exact h.1 d hd
    · cases r with
      | nil => cases ha'
      | cons a'' r =>
        cases ha'
        rcases h.2.1 b (hm b List.mem_cons_self) with g | g
        · exact ar_up hs.2.1 hs.1 hc g p
        · have := hs.1
          exfalso; omega
theorem push_ok : ∀ {st : List Cn} {h : Cn} {s : List Cn} {c m : Cn}, Srt (h :: st) → Eds s (h :: st) → (∀ x ∈ h :: st, x ∈ s) → (∀ d ∈ s, Lt d c) → (h :: st).getLast? = some m → (∀ d ∈ s, Le m d) → (∀ d ∈ s, Le d h ∨ 0 ≤ ar h c d) →
    ∃ t, pushC (h :: st) c = c :: t ∧ t ≠ [] ∧ Srt (c :: t) ∧ Eds (c :: s) (c :: t) ∧ (∀ x ∈ c :: t, x ∈ c :: s) ∧ (c :: t).getLast? = some m
  | [], h, s, c, m, hs, he, hm, hc, hl, hb, ht => by
    cases hl
    refine ⟨[h], rfl, by simp, ⟨hc h (hm h List.mem_cons_self), trivial⟩, ⟨fun d hd => ?_, trivial⟩, fun x hx => ?_, rfl⟩
    · rcases List.mem_cons.mp hd with rfl | hd
      · exact .inr ⟨ar_self, Le.of (hc h (hm h List.mem_cons_self)), le_rf _⟩
      · have b1 := hb d hd
        rcases ht d hd with g | g
        · have := le_anti b1 g
          subst this
          exact .inr ⟨ar_self0, le_rf _, Le.of (hc _ hd)⟩
        · rcases Int.lt_or_eq_of_le g with g | g
          · exact .inl g
          · exact .inr ⟨g.symm, b1, Le.of (hc _ hd)⟩
    · rcases List.mem_cons.mp hx with rfl | hx
      · exact List.mem_cons_self
      · exact List.mem_cons_of_mem _ (hm x hx)
  | a :: r, b, s, c, m, hs, he, hm, hc, hl, hb, ht => by
    have bs := hm b List.mem_cons_self
    have as := hm a (List.mem_cons_of_mem _ List.mem_cons_self)
    have lab := hs.1
    by_cases g : ar a b c ≤ 0
    · have e : pushC (b :: a :: r) c = pushC (a :: r) c := by rw [pushC, if_pos g]
      rw [e]
      refine push_ok hs.2 he.2 (fun x hx => hm x (List.mem_cons_of_mem _ hx)) hc (by rw [← hl]; rfl) hb fun d hd => ?_
      by_cases k : Le d a
      · exact .inl k
      · refine .inr (ar_out lab (hc a as) (by omega) g ?_)
        rcases he.1 d hd with q | q
        · exact Int.le_of_lt q
        · exact Int.le_of_eq q.1.symm
    · have e : pushC (b :: a :: r) c = c :: b :: a :: r := by rw [pushC, if_neg g]
      have g : 0 < ar a b c := by omega
      rw [e]
      refine ⟨b :: a :: r, rfl, by simp, ⟨hc b bs, hs⟩, ⟨fun d hd => ?_, Eds.more he hs hm (hc b bs) fun a' ha' => by cases ha'; exact g⟩, fun x hx => ?_, by rw [← hl]; rfl⟩
      · rcases List.mem_cons.mp hd with rfl | hd
        · exact .inr ⟨ar_self, Le.of (hc b bs), le_rf _⟩
        · by_cases k : Le d b
          · rcases k.eq_or with k | k
            · subst k
              exact .inr ⟨ar_self0, le_rf _, Le.of (hc _ hd)⟩
            · refine .inl (ar_back lab (hc b bs) k g ?_)
              rcases he.1 d hd with q | q
              · exact Int.le_of_lt q
              · exact Int.le_of_eq q.1.symm
          · rcases ht d hd with q | q
            · exact absurd q k
            · rcases Int.lt_or_eq_of_le q with q | q
              · exact .inl q
              · exact .inr ⟨q.symm, by omega, Le.of (hc _ hd)⟩
      · rcases List.mem_cons.mp hx with rfl | hx
        · exact List.mem_cons_self
        · exact List.mem_cons_of_mem _ (hm x hx)
theorem rim_go : ∀ {l : List Cn} {st : List Cn} {h : Cn} {s : List Cn} {m : Cn}, Srt (h :: st) → Eds s (h :: st) → (∀ x ∈ h :: st, x ∈ s) → (h :: st).getLast? = some m → (∀ d ∈ s, Le m d) → (∀ d ∈ s, Le d h) → (∀ d ∈ s, ∀ c ∈ l, Lt d c) → l.Pairwise Lt → h ∈ s →
    ∃ t g, l.foldl pushC (h :: st) = g :: t ∧ Srt (g :: t) ∧ Eds (l ++ s) (g :: t) ∧ (∀ x ∈ g :: t, x ∈ l ++ s) ∧ (g :: t).getLast? = some m ∧ (∀ d ∈ l ++ s, Le d g) ∧ (l ≠ [] → t ≠ [])
  | [], st, h, s, m, hs, he, hm, hl, hb, ht, hc, hp, hh => ⟨st, h, rfl, hs, he, hm, hl, ht, fun e => absurd rfl e⟩
  | c :: l, st, h, s, m, hs, he, hm, hl, hb, ht, hc, hp, hh => by
    have hp := List.pairwise_cons.mp hp
    obtain ⟨t, e, t0, h1, h2, h3, h4⟩ := push_ok hs he hm (fun d hd => hc d hd c List.mem_cons_self) hl hb (fun d hd => .inl (ht d hd))
    rw [List.foldl_cons, e]
    have mc : Le m c := Le.of (by have := hb h hh; have := hc h hh c List.mem_cons_self; omega)
    obtain ⟨t', g, k1, k2, k3, k4, k5, k6, k7⟩ := rim_go (l := l) (s := c :: s) h1 h2 h3 h4 (fun d hd => by
        rcases List.mem_cons.mp hd with rfl | hd
        · exact mc
        · exact hb d hd) (fun d hd => by
        rcases List.mem_cons.mp hd with rfl | hd
        · exact le_rf _
        · exact Le.of (hc d hd c List.mem_cons_self)) (fun d hd c' hc' => by
        rcases List.mem_cons.mp hd with rfl | hd
        · exact hp.1 c' hc'
        · exact hc d hd c' (List.mem_cons_of_mem _ hc')) hp.2 List.mem_cons_self
    have sub : ∀ x, x ∈ (c :: l) ++ s ↔ x ∈ l ++ c :: s := fun x => by simp only [List.mem_append, List.mem_cons]; grind
    refine ⟨t', g, k1, k2, k3.sub fun x hx => (sub x).mp hx, fun x hx => (sub x).mpr (k4 x hx), k5, fun d hd => k6 d ((sub d).mp hd), fun _ => ?_⟩
    cases l with
    | nil =>
      cases k1
      exact t0
    | cons _ _ => exact k7 (by simp)
theorem rim_ok {m : Cn} {l : List Cn} (hp : (m :: l).Pairwise Lt) : ∃ t g, rim (m :: l) = g :: t ∧ Srt (g :: t) ∧ Eds (m :: l) (g :: t) ∧ (∀ x ∈ g :: t, x ∈ m :: l) ∧ (g :: t).getLast? = some m ∧ (∀ d ∈ m :: l, Le d g) ∧ (l ≠ [] → t ≠ []) := by
  have hq := List.pairwise_cons.mp hp
  obtain ⟨t, g, k1, k2, k3, k4, k5, k6, k7⟩ := rim_go (l := l) (st := []) (h := m) (s := [m]) (m := m) trivial trivial (fun x hx => hx) rfl (fun d hd => by rw [List.mem_singleton.mp hd]; exact le_rf _) (fun d hd => by rw [List.mem_singleton.mp hd]; exact le_rf _) (fun d hd c hc => by rw [List.mem_singleton.mp hd]; exact hq.1 c hc) hq.2 List.mem_cons_self
  have sub : ∀ x, x ∈ m :: l ↔ x ∈ l ++ [m] := fun x => by simp only [List.mem_append, List.mem_cons, List.mem_singleton]; grind
  exact ⟨t, g, k1, k2, k3.sub fun x hx => (sub x).mp hx, fun x hx => (sub x).mpr (k4 x hx), k5, fun d hd => k6 d ((sub d).mp hd), k7⟩
/-! ### the hull -/
def Bt (a c b : Cn) : Prop := (Le a c ∧ Le c b) ∨ (Le c a ∧ Le b c)
def Nx (s : List Cn) (a b : Cn) : Prop := b ∈ s ∧ a ≠ b ∧ ∀ c ∈ s, 0 < ar a b c ∨ (ar a b c = 0 ∧ Bt a c b)
theorem ar_swap {a b c : Cn} : ar a c b = -ar a b c := by unfold ar; grind
theorem Nx.uniq {s : List Cn} {a b c : Cn} (h : Nx s a b) (g : Nx s a c) : b = c := by
  have e1 := h.2.2 c g.1
  have e2 := g.2.2 b h.1
  have e3 := ar_swap (a := a) (b := b) (c := c)
  have n1 := h.2.1
  have n2 := g.2.1
  have z1 : Bt a c b := by rcases e1 with e | e; (rcases e2 with e' | e' <;> omega); exact e.2
  have z2 : Bt a b c := by rcases e2 with e | e; (rcases e1 with e' | e' <;> omega); exact e.2
  by_cases e : b = c
  · exact e
  · rcases lt_or e with k | k <;> rcases lt_or n1 with k1 | k1 <;> rcases lt_or n2 with k2 | k2 <;> rcases z1 with z1 | z1 <;> rcases z2 with z2 | z2 <;> (exfalso; omega)
def Ch (s : List Cn) : Cn → List Cn → Cn → Prop
  | a, [], z => Nx s a z
  | a, b :: r, z => Nx s a b ∧ Ch s b r z
theorem Ch.app {s : List Cn} {z : Cn} {r' : List Cn} : ∀ {a b : Cn} {r : List Cn}, Ch s a r b → Ch s b r' z → Ch s a (r ++ b :: r') z
  | a, b, [], h, g => ⟨h, g⟩
  | a, b, c :: r, h, g => ⟨h.1, Ch.app h.2 g⟩
theorem Ch.uniq {s : List Cn} {z : Cn} : ∀ {r r' : List Cn} {a : Cn}, Ch s a r z → Ch s a r' z → z ∉ r → z ∉ r' → r = r'
  | [], [], _, _, _, _, _ => rfl
  | [], b :: r', _, h, g, _, n => absurd (Nx.uniq h g.1) fun e => n (by rw [e]; exact List.mem_cons_self)
  | b :: r, [], _, h, g, n, _ => absurd (Nx.uniq g h.1) fun e => n (by rw [e]; exact List.mem_cons_self)
  | b :: r, c :: r', _, h, g, n, n' => by
    have e := h.1.uniq g.1
    subst e
    rw [Ch.uniq h.2 g.2 (fun m => n (List.mem_cons_of_mem _ m)) fun m => n' (List.mem_cons_of_mem _ m)]
theorem pw_snoc {R : Cn → Cn → Prop} {l : List Cn} {a : Cn} (h : l.Pairwise R) (g : ∀ x ∈ l, R x a) : (l ++ [a]).Pairwise R :=
  List.pairwise_append.mpr ⟨h, List.pairwise_singleton _ _, fun x hx y hy => by rw [List.mem_singleton.mp hy]; exact g x hx⟩
theorem stk_ch1 {S : List Cn} {φ : Cn → Cn} {R : Cn → Cn → Prop} (tr : ∀ {a b c}, R a b → R b c → R a c) {s : List Cn} (f : ∀ a b, Ed s a b → Lt a b → a ∈ s → b ∈ s → Nx S (φ a) (φ b) ∧ R (φ a) (φ b)) :
    ∀ {t : List Cn} {h : Cn}, Eds s (h :: t) → Srt (h :: t) → (∀ x ∈ h :: t, x ∈ s) → t ≠ [] →
    ∃ m r, (t.map φ).reverse = φ m :: r ∧ Ch S (φ m) r (φ h) ∧ (h :: t).getLast? = some m ∧ (φ m :: r).Pairwise R ∧ (∀ x ∈ φ m :: r, R x (φ h)) ∧ ∀ x ∈ φ m :: r, ∃ y, Nx S x y ∧ R x y
  | [], _, _, _, _, n => absurd rfl n
  | [a], h, he, hs, hm, _ => by
    have q := f a h he.1 hs.1 (hm a (by simp)) (hm h (by simp))
    refine ⟨a, [], rfl, q.1, rfl, List.pairwise_singleton _ _, fun x hx => ?_, fun x hx => ?_⟩
    · rw [List.mem_singleton.mp hx]; exact q.2
    · rw [List.mem_singleton.mp hx]; exact ⟨_, q⟩
  | a :: a' :: t, h, he, hs, hm, _ => by
    have q := f a h he.1 hs.1 (hm a (by simp)) (hm h (by simp))
    obtain ⟨m, r, e, c, l, p, g, k⟩ := stk_ch1 (S := S) (φ := φ) (R := R) @tr f (t := a' :: t) (h := a) he.2 hs.2 (fun x hx => hm x (List.mem_cons_of_mem _ hx)) (by simp)
    refine ⟨m, r ++ [φ a], ?_, c.app (r' := []) q.1, by rw [← l]; rfl, pw_snoc p g, fun x hx => ?_, fun x hx => ?_⟩
    · rw [List.map_cons, List.reverse_cons, e]; rfl
    · have hx : x ∈ (φ m :: r) ++ [φ a] := hx
      rcases List.mem_append.mp hx with hx | hx
      · exact tr (g x hx) q.2
      · rw [List.mem_singleton.mp hx]; exact q.2
    · have hx : x ∈ (φ m :: r) ++ [φ a] := hx
      rcases List.mem_append.mp hx with hx | hx
      · exact k x hx
      · rw [List.mem_singleton.mp hx]; exact ⟨_, q⟩
/-- P is the hull of s -/
inductive Hl (s : List Cn) : List Cn → Prop
  | one {p : Cn} : p ∈ s → (∀ c ∈ s, c = p) → Hl s [p]
  | poly {p : Cn} {r : List Cn} : r ≠ [] → p ∈ s → (∀ c ∈ s, Le p c) → (p :: r).Nodup → Ch s p r p → Hl s (p :: r)
def ngC (c : Cn) : Cn := (-c.1, -c.2)
theorem ng_ng (c : Cn) : ngC (ngC c) = c := by unfold ngC; simp
theorem ar_ng {a b c : Cn} : ar (ngC a) (ngC b) (ngC c) = ar a b c := by unfold ar ngC; grind
theorem push_ng : ∀ {st : List Cn} {c : Cn}, pushC (st.map ngC) (ngC c) = (pushC st c).map ngC
  | [], _ => rfl
  | [_], _ => rfl
  | b :: a :: r, c => by
    show pushC (ngC b :: ngC a :: r.map ngC) (ngC c) = _
    by_cases g : ar a b c ≤ 0
    · rw [pushC, if_pos (by rw [ar_ng]; exact g), pushC, if_pos g]
      exact push_ng (st := a :: r)
    · rw [pushC, if_neg (by rw [ar_ng]; exact g), pushC, if_neg g]
      rfl
theorem rim_ng' : ∀ {l st : List Cn}, (l.map ngC).foldl pushC (st.map ngC) = (l.foldl pushC st).map ngC
  | [], _ => rfl
  | c :: l, st => by
    rw [List.map_cons, List.foldl_cons, List.foldl_cons, push_ng]
    exact rim_ng'
theorem rim_ng {l : List Cn} : rim (l.map ngC) = (rim l).map ngC := rim_ng' (st := [])
theorem ng_lt {a b : Cn} : Lt (ngC a) (ngC b) ↔ Lt b a := by
  show (-a.1 < -b.1 ∨ (-a.1 = -b.1 ∧ -a.2 < -b.2)) ↔ _
  omega
theorem ng_le {a b : Cn} : Le (ngC a) (ngC b) ↔ Le b a := by
  show (-a.1 < -b.1 ∨ (-a.1 = -b.1 ∧ -a.2 ≤ -b.2)) ↔ _
  omega
def chainL (s : List Cn) : List Cn := (rim s).reverse.dropLast
def hullL (s : List Cn) : List Cn := match s with
  | [_] => s
  | s => chainL s ++ chainL s.reverse
theorem chainL_of {h : Cn} {t s : List Cn} (e : rim s = h :: t) : chainL s = t.reverse := by
  unfold chainL
  rw [e, List.reverse_cons, List.dropLast_concat]
theorem hull_ok {s : List Cn} (hp : s.Pairwise Lt) (hn : s ≠ []) : Hl s (hullL s) := by
  match s, hn with
  | [p], _ => exact .one (by simp) fun c hc => by simpa using hc
  | m :: m2 :: l, _ =>
    have e0 : hullL (m :: m2 :: l) = chainL (m :: m2 :: l) ++ chainL (m :: m2 :: l).reverse := rfl
    obtain ⟨t, g, e1, s1, d1, i1, l1, b1, n1⟩ := rim_ok hp
    -- the other way
    obtain ⟨g2, l2, er⟩ : ∃ g2 l2, (m :: m2 :: l).reverse = g2 :: l2 := by
      cases h : (m :: m2 :: l).reverse with
      | nil => simp at h
      | cons a b => exact ⟨a, b, rfl⟩
    have mem : ∀ x, x ∈ g2 :: l2 ↔ x ∈ m :: m2 :: l := fun x => by rw [← er, List.mem_reverse]
    have hr : ((g2 :: l2).map ngC).Pairwise Lt := by
      rw [← er, List.pairwise_map, List.pairwise_reverse]
      exact hp.imp fun h => ng_lt.mpr h
    obtain ⟨t', g', e2, s2, d2, i2, k2, b2, n2⟩ := rim_ok (m := ngC g2) (l := l2.map ngC) hr
    have l2n : l2 ≠ [] := fun e => by
      have := congrArg List.length er
      rw [e] at this
      simp at this
    have f1 : ∀ a b, Ed (m :: m2 :: l) a b → Lt a b → a ∈ m :: m2 :: l → b ∈ m :: m2 :: l → Nx (m :: m2 :: l) (id a) (id b) ∧ Lt (id a) (id b) := fun a b h1 h2 h3 h4 =>
      ⟨⟨h4, h2.ne, fun c hc => (h1 c hc).imp id fun q => ⟨q.1, .inl q.2⟩⟩, h2⟩
    have f2 : ∀ a b, Ed (ngC g2 :: l2.map ngC) a b → Lt a b → a ∈ ngC g2 :: l2.map ngC → b ∈ ngC g2 :: l2.map ngC → Nx (m :: m2 :: l) (ngC a) (ngC b) ∧ Lt (ngC b) (ngC a) := fun a b h1 h2 h3 h4 => by
      have back : ∀ x, x ∈ ngC g2 :: l2.map ngC → ngC x ∈ m :: m2 :: l := fun x hx => by
        have hx : x ∈ (g2 :: l2).map ngC := hx
        obtain ⟨y, hy, rfl⟩ := List.mem_map.mp hx
        rw [ng_ng]
        exact (mem y).mp hy
      refine ⟨⟨back b h4, fun e => h2.ne (by rw [← ng_ng a, e, ng_ng]), fun c hc => ?_⟩, ng_lt.mpr h2⟩
      have hc' : ngC c ∈ ngC g2 :: l2.map ngC := List.mem_map.mpr ⟨c, (mem c).mpr hc, rfl⟩ |> fun (h : ngC c ∈ (g2 :: l2).map ngC) => h
      have q := h1 _ hc'
      have ea : ar (ngC a) (ngC b) c = ar a b (ngC c) := by rw [← ar_ng, ng_ng, ng_ng]
      rw [ea]
      refine q.imp id fun q => ⟨q.1, .inr ⟨?_, ?_⟩⟩
      · rw [← ng_le, ng_ng]; exact q.2.1
      · rw [← ng_le, ng_ng]; exact q.2.2
    obtain ⟨x1, r1, w1, c1, y1, p1, q1, z1⟩ := stk_ch1 (φ := id) (R := Lt) (fun {a b c} h g => by omega) f1 d1 s1 i1 (n1 (by simp))
    obtain ⟨x2, r2, w2, c2, y2, p2, q2, z2⟩ := stk_ch1 (φ := ngC) (R := fun a b => Lt b a) (fun {a b c} h g => by omega) f2 d2 s2 i2 (n2 (by simpa using l2n))
    rw [l1] at y1
    cases y1
    rw [k2] at y2
    cases y2
    rw [ng_ng] at w2 c2 p2 q2 z2
    have em : ngC g' = m := by
      have h1 := b2 (ngC m) (List.mem_map.mpr ⟨m, (mem m).mpr (by simp), rfl⟩ |> fun (h : ngC m ∈ (g2 :: l2).map ngC) => h)
      have h2 : Le (ngC g') m := by rw [← ng_le, ng_ng]; exact h1
      have h3 : Le m (ngC g') := by
        have hg : g' ∈ (g2 :: l2).map ngC := i2 g' List.mem_cons_self
        obtain ⟨y, hy, rfl⟩ := List.mem_map.mp hg
        rw [ng_ng]
        have := (mem y).mp hy
        rcases List.mem_cons.mp this with rfl | this
        · exact le_rf _
        · exact Le.of ((List.pairwise_cons.mp hp).1 y this)
      exact le_anti h2 h3
    have eg : g2 = g := by
      have h1 : Le g2 g := b1 g2 ((mem g2).mp (by simp))
      have h2 : Le g g2 := by
        have hg := (mem g).mpr (i1 g List.mem_cons_self)
        rcases List.mem_cons.mp hg with e | hg
        · rw [e]; exact le_rf _
        · have := (List.pairwise_cons.mp hr).1 (ngC g) (List.mem_map.mpr ⟨g, hg, rfl⟩)
          exact Le.of (ng_lt.mp this)
      exact le_anti h1 h2
    subst eg
    rw [em] at c2 q2
    have a1 : chainL (m :: m2 :: l) = m :: r1 := by rw [chainL_of e1]; simpa using w1
    have a2 : chainL (m :: m2 :: l).reverse = g2 :: r2 := by
      rw [er]
      have e3 : rim (g2 :: l2) = ngC g' :: t'.map ngC := by
        have := congrArg (List.map ngC) e2
        rw [← List.map_cons, ← rim_ng] at this
        have hh : ((g2 :: l2).map ngC).map ngC = g2 :: l2 := by rw [List.map_map]; exact (List.map_congr_left fun x _ => ng_ng x).trans (List.map_id _)
        rw [hh] at this
        exact this
      rw [chainL_of e3, w2]
    rw [e0, a1, a2]
    have dis : ∀ x ∈ m :: r1, ∀ y ∈ g2 :: r2, x ≠ y := fun x hx y hy e => by
      subst e
      obtain ⟨u, h1, h2⟩ := z1 x hx
      obtain ⟨v, h3, h4⟩ := z2 x hy
      have := h1.uniq h3
      subst this
      omega
    refine .poly (by simp) (by simp) (fun c hc => ?_) ?_ (Ch.app c1 c2)
    · rcases List.mem_cons.mp hc with rfl | hc
      · exact le_rf _
      · exact Le.of ((List.pairwise_cons.mp hp).1 c hc)
    · show ((m :: r1) ++ (g2 :: r2)).Nodup
      refine List.pairwise_append.mpr ⟨p1.imp fun h => h.ne, p2.imp fun h => h.ne.symm, dis⟩
end Z
set_option maxHeartbeats 2000000
/-! plain: more about hulls. -/
namespace Z
theorem Hl.sub {s P : List Cn} (h : Hl s P) : ∀ c ∈ P, c ∈ s := by
  cases h with
  | one h _ => intro c hc; rw [List.mem_singleton.mp hc]; exact h
  | poly _ h _ _ hc =>
    rename_i p r
    have go : ∀ {r : List Cn} {a z : Cn}, Ch s a r z → ∀ x ∈ r, x ∈ s := fun {r} => by
      induction r with
      | nil => intro a z _ x hx; cases hx
      | cons b r ih =>
        intro a z hc x hx
        rcases List.mem_cons.mp hx with rfl | hx
        · exact hc.1.1
        · exact ih hc.2 x hx
    intro x hx
    rcases List.mem_cons.mp hx with rfl | hx
    · exact h
    · exact go hc x hx
theorem Hl.ne {s P : List Cn} (h : Hl s P) : P ≠ [] := by cases h <;> simp
theorem Hl.nodup {s P : List Cn} (h : Hl s P) : P.Nodup := by
  cases h with
  | one _ _ => simp
  | poly _ _ _ h _ => exact h
theorem Nx.same {s s' : List Cn} (e : ∀ c, c ∈ s ↔ c ∈ s') {a b : Cn} (h : Nx s a b) : Nx s' a b := ⟨(e b).mp h.1, h.2.1, fun c hc => h.2.2 c ((e c).mpr hc)⟩
theorem Ch.same {s s' : List Cn} (e : ∀ c, c ∈ s ↔ c ∈ s') {z : Cn} : ∀ {r : List Cn} {a : Cn}, Ch s a r z → Ch s' a r z
  | [], _, h => Nx.same e h
  | _ :: _, _, h => ⟨h.1.same e, Ch.same e h.2⟩
theorem Hl.same {s s' P : List Cn} (e : ∀ c, c ∈ s ↔ c ∈ s') (h : Hl s P) : Hl s' P := by
  cases h with
  | one h g => exact .one ((e _).mp h) fun c hc => g c ((e c).mpr hc)
  | poly n h g d k => exact .poly n ((e _).mp h) (fun c hc => g c ((e c).mpr hc)) d (k.same e)
theorem Ch.self {s P : List Cn} (g : ∀ c ∈ P, c ∈ s) {z : Cn} (hz : z ∈ P) : ∀ {r : List Cn} {a : Cn}, (∀ x ∈ r, x ∈ P) → Ch s a r z → Ch P a r z
  | [], _, _, h => ⟨hz, h.2.1, fun c hc => h.2.2 c (g c hc)⟩
  | b :: r, _, m, h => ⟨⟨m b (by simp), h.1.2.1, fun c hc => h.1.2.2 c (g c hc)⟩, Ch.self g hz (fun x hx => m x (by simp [hx])) h.2⟩
theorem Hl.self {s P : List Cn} (h : Hl s P) : Hl P P := by
  have hs := h.sub
  cases h with
  | one h g => exact .one (by simp) fun c hc => by simpa using hc
  | poly n h g d k => exact .poly n (by simp) (fun c hc => g c (hs c hc)) d (k.self hs (by simp) fun x hx => by simp [hx])
theorem Hl.uniq {s P Q : List Cn} (h : Hl s P) (g : Hl s Q) : P = Q := by
  cases h with
  | one h1 h2 =>
    rename_i p
    cases g with
    | one g1 g2 => rw [g2 _ h1]
    | poly n g1 g2 g3 g4 =>
      rename_i q r
      cases r with
      | nil => exact absurd rfl n
      | cons b r =>
        have e := h2 _ g1
        have e2 := h2 _ g4.1.1
        exact absurd (e.trans e2.symm) g4.1.2.1
  | poly n h1 h2 h3 h4 =>
    rename_i p r
    cases g with
    | one g1 g2 =>
      cases r with
      | nil => exact absurd rfl n
      | cons b r => exact absurd ((g2 _ h1).trans (g2 _ h4.1.1).symm) h4.1.2.1
    | poly n g1 g2 g3 g4 =>
      rename_i q r'
      have e := le_anti (h2 _ g1) (g2 _ h1)
      subst e
      rw [h4.uniq g4 (List.nodup_cons.mp h3).1 (List.nodup_cons.mp g3).1]
theorem nodup_len : ∀ {l s : List Cn}, l.Nodup → (∀ x ∈ l, x ∈ s) → l.length ≤ s.length
  | [], _, _, _ => Nat.zero_le _
  | a :: l, s, h, g => by
    have hn := List.nodup_cons.mp h
    have := nodup_len (l := l) (s := s.erase a) hn.2 fun x hx => (List.mem_erase_of_ne (fun e => hn.1 (by rw [← e]; exact hx))).mpr (g x (by simp [hx]))
    have ha := g a (by simp)
    rw [List.length_erase_of_mem ha] at this
    have := List.length_pos_of_mem ha
    simp only [List.length_cons]
    omega
theorem Hl.len {s P : List Cn} (h : Hl s P) : P.length ≤ s.length := nodup_len h.nodup h.sub
/-! ### between -/
/-- on one line and between in the order: between in both coordinates -/
theorem bt_co {a b c : Cn} (h : ar a b c = 0) (g : Bt a c b) : ((a.1 ≤ c.1 ∧ c.1 ≤ b.1) ∨ (b.1 ≤ c.1 ∧ c.1 ≤ a.1)) ∧ ((a.2 ≤ c.2 ∧ c.2 ≤ b.2) ∨ (b.2 ≤ c.2 ∧ c.2 ≤ a.2)) := by
  have key : ∀ {a b c : Cn}, ar a b c = 0 → Le a c → Le c b → (a.1 ≤ c.1 ∧ c.1 ≤ b.1) ∧ ((a.2 ≤ c.2 ∧ c.2 ≤ b.2) ∨ (b.2 ≤ c.2 ∧ c.2 ≤ a.2)) := fun {a b c} h h1 h2 => by
    refine ⟨by omega, ?_⟩
    by_cases e : a.1 = b.1
    · left; omega
    · have d : 0 < b.1 - a.1 := by omega
      have t0 : 0 ≤ c.1 - a.1 := by omega
      have t1 : 0 ≤ b.1 - c.1 := by omega
      unfold ar at h
      rcases Int.lt_or_le (b.2 - a.2) 0 with k | k
      · right
        have m1 := mul_nn (show 0 ≤ a.2 - b.2 by omega) t0
        have m2 := mul_nn (show 0 ≤ a.2 - b.2 by omega) t1
        have n1 : 0 ≤ a.2 - c.2 := nn_of_mul d (by grind)
        have n2 : 0 ≤ c.2 - b.2 := nn_of_mul d (by grind)
        omega
      · left
        have m1 := mul_nn k t0
        have m2 := mul_nn k t1
        have n1 : 0 ≤ c.2 - a.2 := nn_of_mul d (by grind)
        have n2 : 0 ≤ b.2 - c.2 := nn_of_mul d (by grind)
        omega
  rcases g with g | g
  · have := key h g.1 g.2
    exact ⟨.inl this.1, this.2⟩
  · have h' : ar b a c = 0 := by unfold ar at *; grind
    have := key h' g.2 g.1
    exact ⟨.inr this.1, this.2.symm⟩
def far (a c : Cn) : Int := (c.1 - a.1) ^ 2 + (c.2 - a.2) ^ 2
theorem sq_le {x y : Int} (h : (0 ≤ x ∧ x ≤ y) ∨ (y ≤ x ∧ x ≤ 0)) : x ^ 2 ≤ y ^ 2 ∧ (x ≠ y → x ^ 2 < y ^ 2) := by
  have e1 : x ^ 2 = x * x := by grind
  have e2 : y ^ 2 = y * y := by grind
  rw [e1, e2]
  rcases h with h | h
  · have m1 := mul_nn h.1 (show 0 ≤ y - x by omega)
    have m2 := mul_nn (show 0 ≤ y - x by omega) (show 0 ≤ y - x by omega)
    refine ⟨by grind, fun n => ?_⟩
    have m3 := mul_ps (show 0 < y - x by omega) (show 0 < y - x by omega)
    grind
  · have m1 := mul_nn (show 0 ≤ -x by omega) (show 0 ≤ x - y by omega)
    have m2 := mul_nn (show 0 ≤ x - y by omega) (show 0 ≤ x - y by omega)
    refine ⟨by grind, fun n => ?_⟩
    have m3 := mul_ps (show 0 < x - y by omega) (show 0 < x - y by omega)
    grind
theorem far_le {a b c : Cn} (h : ar a b c = 0) (g : Bt a c b) : far a c ≤ far a b ∧ (c ≠ b → far a c < far a b) := by
  obtain ⟨h1, h2⟩ := bt_co h g
  obtain ⟨p1, p2⟩ := sq_le (x := c.1 - a.1) (y := b.1 - a.1) (by omega)
  obtain ⟨q1, q2⟩ := sq_le (x := c.2 - a.2) (y := b.2 - a.2) (by omega)
  unfold far
  refine ⟨by omega, fun n => ?_⟩
  by_cases e : c.1 = b.1
  · have e2 : c.2 ≠ b.2 := fun e2 => n (Prod.ext e e2)
    have := q2 (by omega)
    omega
  · have := p2 (by omega)
    omega
/-- one step of the law's search for the next corner -/
def jb (now best c : Cn) : Cn := if c ≠ now ∧ (ar now best c < 0 ∨ (ar now best c = 0 ∧ far now best < far now c)) then c else best
theorem jb_stay {s : List Cn} {now b c : Cn} (h : Nx s now b) (hc : c ∈ s) : jb now b c = b := by
  unfold jb
  rw [if_neg]
  rintro ⟨_, g⟩
  rcases h.2.2 c hc with k | k
  · omega
  · have := (far_le k.1 k.2).1
    omega
theorem jb_take {s : List Cn} {now b best : Cn} (h : Nx s now b) (hb : best ∈ s) (hn : best ≠ b) : jb now best b = b := by
  unfold jb
  rw [if_pos]
  refine ⟨h.2.1.symm, ?_⟩
  have e := ar_swap (a := now) (b := b) (c := best)
  rcases h.2.2 best hb with k | k
  · left; omega
  · right
    exact ⟨by omega, (far_le k.1 k.2).2 hn⟩
theorem jb_fold {s : List Cn} {now b : Cn} (h : Nx s now b) : ∀ {l : List Cn} {best : Cn}, (∀ c ∈ l, c ∈ s) → best ∈ s → (best = b ∨ b ∈ l) → l.foldl (jb now) best = b
  | [], best, _, _, h2 => by
    rcases h2 with h2 | h2
    · exact h2
    · cases h2
  | c :: l, best, m, hb, h2 => by
    rw [List.foldl_cons]
    by_cases e : best = b
    · subst e
      rw [jb_stay h (m c (by simp))]
      exact jb_fold h (fun x hx => m x (by simp [hx])) hb (.inl rfl)
    · by_cases e2 : c = b
      · subst e2
        rw [jb_take h hb e]
        exact jb_fold h (fun x hx => m x (by simp [hx])) h.1 (.inl rfl)
      · have hb' : b ∈ l := by
          rcases h2 with h2 | h2
          · exact absurd h2 e
          · exact (List.mem_cons.mp h2).resolve_left fun k => e2 k.symm
        refine jb_fold h (fun x hx => m x (by simp [hx])) ?_ (.inr hb')
        unfold jb
        split
        · exact m c (by simp)
        · exact hb
/-! ### in a polygon -/
def hh (a b : Cn) (p : Int × Int × Int) : Int := (b.1 - a.1) * (p.2.1 - a.2 * p.2.2) - (b.2 - a.2) * (p.1 - a.1 * p.2.2)
def prs : Cn → List Cn → Cn → List (Cn × Cn)
  | a, [], z => [(a, z)]
  | a, b :: r, z => (a, b) :: prs b r z
theorem ch_prs {s : List Cn} {z : Cn} : ∀ {r : List Cn} {a : Cn}, Ch s a r z → ∀ e ∈ prs a r z, Nx s e.1 e.2
  | [], _, h, e, he => by rw [List.mem_singleton.mp he]; exact h
  | b :: r, _, h, e, he => by
    rcases List.mem_cons.mp he with rfl | he
    · exact h.1
    · exact ch_prs h.2 e he
theorem hh_swap {a b : Cn} {p : Int × Int × Int} : hh b a p = -hh a b p := by unfold hh; grind
theorem hh_one {a b c : Cn} : hh a b (c.1, c.2, 1) = ar a b c := by unfold hh ar; grind
def Tri (o x y : Cn) (p : Int × Int × Int) : Prop := 0 ≤ hh o x p ∧ 0 ≤ hh x y p ∧ 0 ≤ hh y o p
/-- from the edges to the fan -/
theorem fan_of {o : Cn} {p : Int × Int × Int} : ∀ {r : List Cn} {x : Cn}, r ≠ [] → 0 ≤ hh o x p → (∀ e ∈ prs x r o, 0 ≤ hh e.1 e.2 p) → ∃ (k : Nat) (u v : Cn), (x :: r)[k]? = some u ∧ (x :: r)[k + 1]? = some v ∧ Tri o u v p
  | [], x, n, _, _ => absurd rfl n
  | [y], x, _, h, g => ⟨0, x, y, rfl, rfl, h, g (x, y) (by simp [prs]), g (y, o) (by simp [prs])⟩
  | y :: z :: r, x, _, h, g => by
    by_cases k : 0 ≤ hh y o p
    · exact ⟨0, x, y, rfl, rfl, h, g (x, y) (by simp [prs]), k⟩
    · have := hh_swap (a := o) (b := y) (p := p)
      obtain ⟨i, u, v, h1, h2, h3⟩ := fan_of (o := o) (p := p) (r := z :: r) (x := y) (by simp) (by omega) fun e he => g e (List.mem_cons_of_mem _ he)
      exact ⟨i + 1, u, v, by simpa using h1, by simpa using h2, h3⟩
theorem hh_sum (o x y a b : Cn) (p : Int × Int × Int) : ar o x y * hh a b p = hh x y p * ar a b o + hh y o p * ar a b x + hh o x p * ar a b y := by
  unfold ar hh
  grind
theorem of_fan {s : List Cn} {o x y a b : Cn} {p : Int × Int × Int} (h : Nx s a b) (ho : o ∈ s) (hx : x ∈ s) (hy : y ∈ s) (hd : 0 < ar o x y) (t : Tri o x y p) : 0 ≤ hh a b p := by
  have nn : ∀ c ∈ s, 0 ≤ ar a b c := fun c hc => (h.2.2 c hc).elim Int.le_of_lt fun q => Int.le_of_eq q.1.symm
  refine nn_of_mul hd ?_
  rw [hh_sum]
  have a1 := mul_nn t.2.1 (nn o ho)
  have a2 := mul_nn t.2.2 (nn x hx)
  have a3 := mul_nn t.1 (nn y hy)
  omega
end Z
set_option maxHeartbeats 4000000
namespace Z
open PySem PySem.Spec PyProof.Rows L2
/-! ### the text -/
def topS (i : Nat) : Stmt := PySem.Challenge.pw_roomyway_k32_write_and_read.main.body.getD i (.Pass ⟨0, 0, 0, 0⟩)
structure Tx (K : PySem.W.Frag) (mg : Str → Option Value) (xc : Str → Value) : Prop where
  abs : mg "abs" = none
  all : mg "all" = none
  bool : mg "bool" = none
  int : mg "int" = none
  isinstance : mg "isinstance" = none
  len : mg "len" = none
  list : mg "list" = none
  range : mg "range" = none
  str : mg "str" = none
  tuple : mg "tuple" = none
  c_DEEPEST : ConstOf K mg "DEEPEST" (.int 40)
  c_FIGURES : ConstOf K mg "FIGURES" (.str ("0123456789" : Str))
  c_MOST_FIGURES : ConstOf K mg "MOST_FIGURES" (.int 200)
  c_MOST_LENGTH_FIGURES : ConstOf K mg "MOST_LENGTH_FIGURES" (.int 2)
  f_TextReader_at : ∀ (P : Program) (w : World), FldOk ⟨K, P, w⟩ "TextReader" "at"
  f_TextReader_text : ∀ (P : Program) (w : World), FldOk ⟨K, P, w⟩ "TextReader" "text"
def whileMax : Nat := 2 ^ 40
section
variable {P : Program} {w : World} {K : PySem.W.Frag} {mg : Str → Option Value} {base : Heap} {xc : Str → Value}
abbrev s_is_number : Stmt := topS 4
abbrev sc_N_is_number : List Str := ["thing"]
theorem sc_is_number : FnScope sc_N_is_number ["thing"] (defScope s_is_number) := ⟨rfl, rfl, rfl, by decide +kernel, rfl, by decide +kernel, by decide +kernel⟩
def M_is_number : CS := cRet (cAnd (c1 (gIsi "int") (cV 0)) (c1 gNot (c1 (gIsi "bool") (cV 0))))
def F_is_number : Fn := mkF 1 1 [] M_is_number
theorem ok_is_number {f : Addr} {fd : FuncData} (T : Tx K mg xc)  (U : Fun K "is_number" "is_number" s_is_number f fd) (hm : mg "is_number" = some (.ref f)) (b : Binds K fd ["thing"] []) :
    Has P w K mg base xc "is_number" 1 1 ["thing"] F_is_number := by
  refine Has.mk U hm b (zfn (k := 0) U sc_is_number rfl (by decide) (by decide) ?_)
  rintro _ E cdv A outer s H rfl hr tk hp
  have sc := sc_is_number
  exact zss_one (zs_ret (ze_and (ze_isi (T := "int") (by decide) T.isinstance T.int (by decide +kernel) (ze_var (pv 0))) (ze_one (ze_not (ze_isi (T := "bool") (by decide) T.isinstance T.bool (by decide +kernel) (ze_var (pv 0)))))))
abbrev s_write : Stmt := topS 10
abbrev sc_N_write : List Str := ["thing", "part"]
theorem sc_write : FnScope sc_N_write ["thing"] (defScope s_write) := ⟨rfl, rfl, rfl, by decide +kernel, rfl, by decide +kernel, by decide +kernel⟩
def M_write (Fr : Fn) : CS := cSeq (cIfS (c1 gTru (cCall F_is_number (cxD (cV 0) (cxNil)))) (cRet (cN gStr (caCons (cV 0) (caNil)))) (cNext)) (cSeq (cIfS (c1 gTru (c1 (gIsi "str") (cV 0))) (cRet (cJs [cB1 gLen (cbN 0), cK (.str (":" : Str)), cV 0])) (cNext)) (cRet (c2 gAdd (c2 gAdd (cK (.str ("(" : Str))) (cJoin (cK (.str ("," : Str))) (cLc [1] (ciSeq (cV 0)) (cgName 1) (cK (.bool true)) (cCall Fr (cxD (cV 1) (cxNil)))))) (cK (.str (")" : Str))))))
def F_write : Nat → Fn
  | 0 => mkF 1 2 [] fun _ => .bad
  | k + 1 => mkF 1 2 [] (M_write (F_write k))
theorem ok_write {f : Addr} {fd : FuncData} (T : Tx K mg xc) (G_is_number : Has P w K mg base xc "is_number" 1 1 ["thing"] F_is_number) (U : Fun K "write" "write" s_write f fd) (hm : mg "write" = some (.ref f)) (b : Binds K fd ["thing"] []) :
    ∀ k : Nat, Has P w K mg base xc "write" (2 + k) 1 ["thing"] (F_write k) := by
  intro k
  induction k with
  | zero =>
    refine Has.mk U hm b (zfn (k := 1) U sc_write rfl (by decide) (by decide) ?_)
    rintro _ E cdv A outer s H rfl hr tk hp
    exact zss_bad
  | succ k Gr =>
    refine Has.mk U hm b (zfn (k := 2 + k) U sc_write rfl (by decide) (by decide) ?_)
    rintro _ E cdv A outer s H rfl hr tk hp
    have sc := sc_write
    exact zss_cons (zs_if (zt_truth (ze_callH G_is_number hr tk (zx_d (ze_var (pv 0)) (zx_nil)) (len_d len_nil)) (fun _ => rfl)) (zss_one (zs_ret (ze_callT call_str_int on_str T.str (by decide +kernel) (za_cons (ze_var (pv 0)) (za_nil))))) (zss_nil)) (zss_cons (zs_if (zt_truth (ze_isi (T := "str") (by decide) T.isinstance T.str (by decide +kernel) (ze_var (pv 0))) (fun _ => rfl)) (zss_one (zs_ret (ze_js (.fmt (ze_len T.len (zb_n (pv 0))) (.con (.fmt (ze_var (pv 0)) (.nil))))))) (zss_nil)) (zss_one (zs_ret (ze_op op_addZ o_add (ze_op op_addZ o_add (ze_str) (ze_join (ze_str) (ze_lc (own := [("part", 1)]) rfl sc.nd (zi_seq (ze_var (pv 0))) (blkOk_by (N := sc_N_write) (sc := defScope s_write) (by decide +kernel)) rfl rfl (fun _ _ _ _ _ => zg_name (i := 1) sc.nd rfl (by first | exact Or.inl rfl | exact Or.inr rfl)) (fun _ _ _ _ _ => pts_yes) (fun _ _ _ _ _ => ze_callH Gr hr takes0 (zx_d (ze_var (pv 1)) (zx_nil)) (len_d len_nil))))) (ze_str)))))
abbrev s_u_law_pot : Stmt := topS 14
abbrev sc_N_u_law_pot : List Str := ["_law_script", "_law_seed", "_law_cell"]
theorem sc_u_law_pot : FnScope sc_N_u_law_pot ["_law_script"] (defScope s_u_law_pot) := ⟨rfl, rfl, rfl, by decide +kernel, rfl, by decide +kernel, by decide +kernel⟩
def L_u_law_pot_0 : CS := cSet 1 (c2 gMod (cN gInt (caCons (c2 gAdd (c2 gMul (cV 1) (cK (.int 31))) (cV 2)) (caNil))) (cK (.int 2147483647)))
def M_u_law_pot : CS := cSeq (cSet 1 (cK (.int 1))) (cSeq (cFor (ciSeq (cV 0)) (cgName 2) (L_u_law_pot_0)) (cRet (cLst (caCons (cN gList (caCons (cV 0) (caNil))) (caCons (cK (.int 0)) (caCons (cK (.int 0)) (caCons (cV 1) (caNil))))))))
def F_u_law_pot : Fn := mkF 1 3 [] M_u_law_pot
theorem ok_u_law_pot {f : Addr} {fd : FuncData} (T : Tx K mg xc)  (U : Fun K "_law_pot" "_law_pot" s_u_law_pot f fd) (hm : mg "_law_pot" = some (.ref f)) (b : Binds K fd ["_law_script"] []) :
    Has P w K mg base xc "_law_pot" 1 1 ["_law_script"] F_u_law_pot := by
  refine Has.mk U hm b (zfn (k := 0) U sc_u_law_pot rfl (by decide) (by decide) ?_)
  rintro _ E cdv A outer s H rfl hr tk hp
  have sc := sc_u_law_pot
  exact zss_cons (zs_set (i := 1) sc.nd rfl (by first | exact Or.inl rfl | exact Or.inr rfl) (ze_int)) (zss_cons (zs_for hp rfl (zi_seq (ze_var (pv 0))) (zg_name (i := 2) sc.nd rfl (by first | exact Or.inl rfl | exact Or.inr rfl)) (zss_one (zs_set (i := 1) sc.nd rfl (by first | exact Or.inl rfl | exact Or.inr rfl) (ze_op op_mod o_mod (ze_callT call_int1 on_int T.int (by decide +kernel) (za_cons (ze_op op_addZ o_add (ze_op op_mulW o_mul (ze_var (pv 1)) (ze_int)) (ze_var (pv 2))) (za_nil))) (ze_int))))) (zss_one (zs_ret (ze_lst (za_cons (ze_callT call_list_of on_list T.list (by decide +kernel) (za_cons (ze_var (pv 0)) (za_nil))) (za_cons (ze_int) (za_cons (ze_int) (za_cons (ze_var (pv 1)) (za_nil)))))))))
abbrev s_u_law_next : Stmt := topS 15
abbrev sc_N_u_law_next : List Str := ["_law_pot_here", "_law_limit", "_law_cell", "_law_found", "_law_mixed"]
theorem sc_u_law_next : FnScope sc_N_u_law_next ["_law_pot_here", "_law_limit"] (defScope s_u_law_next) := ⟨rfl, rfl, rfl, by decide +kernel, rfl, by decide +kernel, by decide +kernel⟩
def M_u_law_next : CS := cSeq (cIfS (cAnd (c2 gEq (cB2 gIx (cbN 0) (cK (.int 2))) (cK (.int 0))) (c2 gLt (cB2 gIx (cbN 0) (cK (.int 1))) (cB1 gLen (cbD (cB2 gIx (cbN 0) (cK (.int 0))))))) (cSeq (cSet 2 (cN gAbs (caCons (cN gInt (caCons (cB2 gIx (cbD (cB2 gIx (cbN 0) (cK (.int 0)))) (cB2 gIx (cbN 0) (cK (.int 1)))) (caNil))) (caNil)))) (cSeq (cSetIx 0 (cK (.int 1)) (c2 gAdd (cB2 gIx (cbN 0) (cK (.int 1))) (cK (.int 1)))) (cSeq (cIfS (c2 gLt (cV 2) (c2 gPow (cK (.int 10)) (cK (.int 18)))) (cRet (c2 gMod (cN gInt (caCons (cV 2) (caNil))) (cV 1))) (cNext)) (cSetIx 0 (cK (.int 2)) (cV 2))))) (cNext)) (cSeq (cIfS (c2 gGt (cB2 gIx (cbN 0) (cK (.int 2))) (cK (.int 0))) (cSeq (cSet 3 (c2 gMod (cN gInt (caCons (cB2 gIx (cbN 0) (cK (.int 2))) (caNil))) (cV 1))) (cSeq (cSetIx 0 (cK (.int 2)) (c2 gFd (cB2 gIx (cbN 0) (cK (.int 2))) (cV 1))) (cRet (cVm 3)))) (cNext)) (cSeq (cSetIx 0 (cK (.int 3)) (c2 gMod (cN gInt (caCons (c2 gAdd (c2 gMul (cB2 gIx (cbN 0) (cK (.int 3))) (cK (.int 48271))) (cK (.int 12345))) (caNil))) (cK (.int 2147483647)))) (cSeq (cSet 4 (c2 gMod (cN gInt (caCons (c2 gAdd (c2 gMul (cB2 gIx (cbN 0) (cK (.int 3))) (cK (.int 69621))) (c2 gFd (cB2 gIx (cbN 0) (cK (.int 3))) (cK (.int 127)))) (caNil))) (cK (.int 2147483629)))) (cRet (c2 gMod (cN gInt (caCons (cV 4) (caNil))) (cV 1))))))
def F_u_law_next : Fn := mkF 2 5 [0] M_u_law_next
theorem ok_u_law_next {f : Addr} {fd : FuncData} (T : Tx K mg xc)  (U : Fun K "_law_next" "_law_next" s_u_law_next f fd) (hm : mg "_law_next" = some (.ref f)) (b : Binds K fd ["_law_pot_here", "_law_limit"] []) :
    Has P w K mg base xc "_law_next" 1 2 ["_law_pot_here", "_law_limit"] F_u_law_next := by
  refine Has.mk U hm b (zfn (k := 0) U sc_u_law_next rfl (by decide) (by decide) ?_)
  rintro _ E cdv A outer s H rfl hr tk hp
  have sc := sc_u_law_next
  exact zss_cons (zs_if (zt_w (zw_and (zt_cmp (op_eqD (hu64 hr)) o_eq (nomark _) (ze_item (zb_n (pv 0)) (ze_int) (fun _ _ => rfl)) (ze_int)) (zw_and1 (zt_cmp op_lt o_lt (nomark _) (ze_item (zb_n (pv 0)) (ze_int) (fun _ _ => rfl)) (ze_len T.len (zb_d (ze_item (zb_n (pv 0)) (ze_int) (fun _ _ => rfl)))))))) (zss_cons (zs_set (i := 2) sc.nd rfl (by first | exact Or.inl rfl | exact Or.inr rfl) (ze_callB call_abs on_abs T.abs (by decide +kernel) (za_cons (ze_callT call_int1 on_int T.int (by decide +kernel) (za_cons (ze_item (zb_d (ze_item (zb_n (pv 0)) (ze_int) (fun _ _ => rfl))) (ze_item (zb_n (pv 0)) (ze_int) (fun _ _ => rfl)) (fun _ _ => rfl)) (za_nil))) (za_nil)))) (zss_cons (zs_setIx (pv 0) (ze_int) (ze_op op_addZ o_add (ze_item (zb_n (pv 0)) (ze_int) (fun _ _ => rfl)) (ze_int))) (zss_cons (zs_if (zt_cmp op_lt o_lt (nomark _) (ze_var (pv 2)) (ze_op op_pow o_pow (ze_int) (ze_int))) (zss_one (zs_ret (ze_op op_mod o_mod (ze_callT call_int1 on_int T.int (by decide +kernel) (za_cons (ze_var (pv 2)) (za_nil))) (ze_var (pv 1))))) (zss_nil)) (zss_one (zs_setIx (pv 0) (ze_int) (ze_var (pv 2))))))) (zss_nil)) (zss_cons (zs_if (zt_cmp op_gt o_gt (nomark _) (ze_item (zb_n (pv 0)) (ze_int) (fun _ _ => rfl)) (ze_int)) (zss_cons (zs_set (i := 3) sc.nd rfl (by first | exact Or.inl rfl | exact Or.inr rfl) (ze_op op_mod o_mod (ze_callT call_int1 on_int T.int (by decide +kernel) (za_cons (ze_item (zb_n (pv 0)) (ze_int) (fun _ _ => rfl)) (za_nil))) (ze_var (pv 1)))) (zss_cons (zs_setIx (pv 0) (ze_int) (ze_op op_fdX o_fd (ze_item (zb_n (pv 0)) (ze_int) (fun _ _ => rfl)) (ze_var (pv 1)))) (zss_one (zs_ret (ze_varm (pv 3)))))) (zss_nil)) (zss_cons (zs_setIx (pv 0) (ze_int) (ze_op op_mod o_mod (ze_callT call_int1 on_int T.int (by decide +kernel) (za_cons (ze_op op_addZ o_add (ze_op op_mulW o_mul (ze_item (zb_n (pv 0)) (ze_int) (fun _ _ => rfl)) (ze_int)) (ze_int)) (za_nil))) (ze_int))) (zss_cons (zs_set (i := 4) sc.nd rfl (by first | exact Or.inl rfl | exact Or.inr rfl) (ze_op op_mod o_mod (ze_callT call_int1 on_int T.int (by decide +kernel) (za_cons (ze_op op_addZ o_add (ze_op op_mulW o_mul (ze_item (zb_n (pv 0)) (ze_int) (fun _ _ => rfl)) (ze_int)) (ze_op op_fdX o_fd (ze_item (zb_n (pv 0)) (ze_int) (fun _ _ => rfl)) (ze_int))) (za_nil))) (ze_int))) (zss_one (zs_ret (ze_op op_mod o_mod (ze_callT call_int1 on_int T.int (by decide +kernel) (za_cons (ze_var (pv 4)) (za_nil))) (ze_var (pv 1))))))))
abbrev s_u_law_is_int : Stmt := topS 16
abbrev sc_N_u_law_is_int : List Str := ["_law_value"]
theorem sc_u_law_is_int : FnScope sc_N_u_law_is_int ["_law_value"] (defScope s_u_law_is_int) := ⟨rfl, rfl, rfl, by decide +kernel, rfl, by decide +kernel, by decide +kernel⟩
def M_u_law_is_int : CS := cRet (cAnd (c1 (gIsi "int") (cV 0)) (c1 gNot (c1 (gIsi "bool") (cV 0))))
def F_u_law_is_int : Fn := mkF 1 1 [] M_u_law_is_int
theorem ok_u_law_is_int {f : Addr} {fd : FuncData} (T : Tx K mg xc)  (U : Fun K "_law_is_int" "_law_is_int" s_u_law_is_int f fd) (hm : mg "_law_is_int" = some (.ref f)) (b : Binds K fd ["_law_value"] []) :
    Has P w K mg base xc "_law_is_int" 1 1 ["_law_value"] F_u_law_is_int := by
  refine Has.mk U hm b (zfn (k := 0) U sc_u_law_is_int rfl (by decide) (by decide) ?_)
  rintro _ E cdv A outer s H rfl hr tk hp
  have sc := sc_u_law_is_int
  exact zss_one (zs_ret (ze_and (ze_isi (T := "int") (by decide) T.isinstance T.int (by decide +kernel) (ze_var (pv 0))) (ze_one (ze_not (ze_isi (T := "bool") (by decide) T.isinstance T.bool (by decide +kernel) (ze_var (pv 0)))))))
abbrev s_u_law_same : Stmt := topS 17
abbrev sc_N_u_law_same : List Str := ["_law_found", "_law_value", "_law_k"]
theorem sc_u_law_same : FnScope sc_N_u_law_same ["_law_found", "_law_value"] (defScope s_u_law_same) := ⟨rfl, rfl, rfl, by decide +kernel, rfl, by decide +kernel, by decide +kernel⟩
def M_u_law_same (Fr : Fn) : CS := cSeq (cIfS (c2 gIs (cV 1) (cK .none)) (cRet (c2 gIs (cV 0) (cK .none))) (cNext)) (cSeq (cIfS (c1 gTru (c1 (gIsi "bool") (cV 1))) (cRet (cAnd (c1 (gIsi "bool") (cV 0)) (c2 gEq (cV 0) (cV 1)))) (cNext)) (cSeq (cIfS (c1 gTru (c1 (gIsi "int") (cV 1))) (cRet (cAnd (cCall F_u_law_is_int (cxD (cV 0) (cxNil))) (c2 gEq (cV 0) (cV 1)))) (cNext)) (cSeq (cIfS (c1 gTru (c1 (gIsi "str") (cV 1))) (cRet (cAnd (c1 (gIsi "str") (cV 0)) (c2 gEq (cV 0) (cV 1)))) (cNext)) (cSeq (cIfS (cOr (c2 gNe (c1 (gIsi "list") (cV 1)) (c1 (gIsi "list") (cV 0))) (c2 gNe (c1 (gIsi "tuple") (cV 1)) (c1 (gIsi "tuple") (cV 0)))) (cRet (cK (.bool false))) (cNext)) (cRet (cAnd (c2 gEq (cB1 gLen (cbN 0)) (cB1 gLen (cbN 1))) (cN gAll (caCons (cLc [2] (ciRange1 (caCons (cB1 gLen (cbN 1)) (caNil))) (cgName 2) (cK (.bool true)) (cCall Fr (cxD (cB2 gIx (cbN 0) (cV 2)) (cxD (cB2 gIx (cbN 1) (cV 2)) (cxNil))))) (caNil)))))))))
def F_u_law_same : Nat → Fn
  | 0 => mkF 2 3 [] fun _ => .bad
  | k + 1 => mkF 2 3 [] (M_u_law_same (F_u_law_same k))
theorem ok_u_law_same {f : Addr} {fd : FuncData} (T : Tx K mg xc) (G_u_law_is_int : Has P w K mg base xc "_law_is_int" 1 1 ["_law_value"] F_u_law_is_int) (U : Fun K "_law_same" "_law_same" s_u_law_same f fd) (hm : mg "_law_same" = some (.ref f)) (b : Binds K fd ["_law_found", "_law_value"] []) :
    ∀ k : Nat, Has P w K mg base xc "_law_same" (2 + k) 2 ["_law_found", "_law_value"] (F_u_law_same k) := by
  intro k
  induction k with
  | zero =>
    refine Has.mk U hm b (zfn (k := 1) U sc_u_law_same rfl (by decide) (by decide) ?_)
    rintro _ E cdv A outer s H rfl hr tk hp
    exact zss_bad
  | succ k Gr =>
    refine Has.mk U hm b (zfn (k := 2 + k) U sc_u_law_same rfl (by decide) (by decide) ?_)
    rintro _ E cdv A outer s H rfl hr tk hp
    have sc := sc_u_law_same
    exact zss_cons (zs_if (zt_cmp op_isZ o_is (nomark _) (ze_var (pv 1)) (ze_none)) (zss_one (zs_ret (ze_cmp op_isZ o_is (nomark _) (ze_var (pv 0)) (ze_none)))) (zss_nil)) (zss_cons (zs_if (zt_truth (ze_isi (T := "bool") (by decide) T.isinstance T.bool (by decide +kernel) (ze_var (pv 1))) (fun _ => rfl)) (zss_one (zs_ret (ze_and (ze_isi (T := "bool") (by decide) T.isinstance T.bool (by decide +kernel) (ze_var (pv 0))) (ze_one (ze_cmp (op_eqD (hu64 hr)) o_eq (nomark _) (ze_var (pv 0)) (ze_var (pv 1))))))) (zss_nil)) (zss_cons (zs_if (zt_truth (ze_isi (T := "int") (by decide) T.isinstance T.int (by decide +kernel) (ze_var (pv 1))) (fun _ => rfl)) (zss_one (zs_ret (ze_and (ze_callH G_u_law_is_int hr tk (zx_d (ze_var (pv 0)) (zx_nil)) (len_d len_nil)) (ze_one (ze_cmp (op_eqD (hu64 hr)) o_eq (nomark _) (ze_var (pv 0)) (ze_var (pv 1))))))) (zss_nil)) (zss_cons (zs_if (zt_truth (ze_isi (T := "str") (by decide) T.isinstance T.str (by decide +kernel) (ze_var (pv 1))) (fun _ => rfl)) (zss_one (zs_ret (ze_and (ze_isi (T := "str") (by decide) T.isinstance T.str (by decide +kernel) (ze_var (pv 0))) (ze_one (ze_cmp (op_eqD (hu64 hr)) o_eq (nomark _) (ze_var (pv 0)) (ze_var (pv 1))))))) (zss_nil)) (zss_cons (zs_if (zt_w (zw_or (zt_cmp (op_neD (hu64 hr)) o_ne (nomark _) (ze_isi (T := "list") (by decide) T.isinstance T.list (by decide +kernel) (ze_var (pv 1))) (ze_isi (T := "list") (by decide) T.isinstance T.list (by decide +kernel) (ze_var (pv 0)))) (zw_or1 (zt_cmp (op_neD (hu64 hr)) o_ne (nomark _) (ze_isi (T := "tuple") (by decide) T.isinstance T.tuple (by decide +kernel) (ze_var (pv 1))) (ze_isi (T := "tuple") (by decide) T.isinstance T.tuple (by decide +kernel) (ze_var (pv 0))))))) (zss_one (zs_ret (ze_bool))) (zss_nil)) (zss_one (zs_ret (ze_and (ze_cmp (op_eqD (hu64 hr)) o_eq (nomark _) (ze_len T.len (zb_n (pv 0))) (ze_len T.len (zb_n (pv 1)))) (ze_one (ze_callB (cr_all rfl) on_all T.all (by decide +kernel) (za_cons (ze_lc (own := [("_law_k", 2)]) rfl sc.nd (zi_range1 rfl T.range (za_cons (ze_len T.len (zb_n (pv 1))) (za_nil))) (blkOk_by (N := sc_N_u_law_same) (sc := defScope s_u_law_same) (by decide +kernel)) rfl rfl (fun _ _ _ _ _ => zg_name (i := 2) sc.nd rfl (by first | exact Or.inl rfl | exact Or.inr rfl)) (fun _ _ _ _ _ => pts_yes) (fun _ _ _ _ _ => ze_callH Gr hr takes0 (zx_d (ze_item (zb_n (pv 0)) (ze_var (pv 2)) (fun _ _ => rfl)) (zx_d (ze_item (zb_n (pv 1)) (ze_var (pv 2)) (fun _ _ => rfl)) (zx_nil))) (len_d (len_d len_nil)))) (za_nil)))))))))))
abbrev s_u_law_thing : Stmt := topS 18
abbrev sc_N_u_law_thing : List Str := ["_law_pot_here", "_law_depth", "_law_kind", "_law_k"]
theorem sc_u_law_thing : FnScope sc_N_u_law_thing ["_law_pot_here", "_law_depth"] (defScope s_u_law_thing) := ⟨rfl, rfl, rfl, by decide +kernel, rfl, by decide +kernel, by decide +kernel⟩
def M_u_law_thing (Fr : Fn) : CS := cSeq (cSet 2 (cCall F_u_law_next (cxS 0 (cxD (cK (.int 6)) (cxNil))))) (cSeq (cIfS (c2 gEq (cV 2) (cK (.int 0))) (cRet (c2 gSub (cCall F_u_law_next (cxS 0 (cxD (c2 gPow (cK (.int 10)) (cK (.int 60))) (cxNil)))) (cCall F_u_law_next (cxS 0 (cxD (c2 gPow (cK (.int 10)) (cK (.int 60))) (cxNil)))))) (cNext)) (cSeq (cIfS (cOr (c2 gEq (cV 2) (cK (.int 1))) (c2 gEq (cV 1) (cK (.int 0)))) (cRet (c2 gSub (cCall F_u_law_next (cxS 0 (cxD (cK (.int 30)) (cxNil)))) (cK (.int 9)))) (cNext)) (cSeq (cIfS (c2 gLt (cV 2) (cK (.int 4))) (cRet (cJoin (cK (.str ("" : Str))) (cLc [3] (ciRange1 (caCons (cCall F_u_law_next (cxS 0 (cxD (cK (.int 13)) (cxNil)))) (caNil))) (cgName 3) (cK (.bool true)) (cB2 gIx (cbD (cK (.str ("0123:,()-a " : Str)))) (cCall F_u_law_next (cxS 0 (cxD (cK (.int 11)) (cxNil)))))))) (cNext)) (cRet (cN gTuple (caCons (cLc [3] (ciRange1 (caCons (cCall F_u_law_next (cxS 0 (cxD (cK (.int 5)) (cxNil)))) (caNil))) (cgName 3) (cK (.bool true)) (cCall Fr (cxS 0 (cxD (c2 gSub (cV 1) (cK (.int 1))) (cxNil))))) (caNil)))))))
def F_u_law_thing : Nat → Fn
  | 0 => mkF 2 4 [0] fun _ => .bad
  | k + 1 => mkF 2 4 [0] (M_u_law_thing (F_u_law_thing k))
theorem ok_u_law_thing {f : Addr} {fd : FuncData} (T : Tx K mg xc) (G_u_law_next : Has P w K mg base xc "_law_next" 1 2 ["_law_pot_here", "_law_limit"] F_u_law_next) (U : Fun K "_law_thing" "_law_thing" s_u_law_thing f fd) (hm : mg "_law_thing" = some (.ref f)) (b : Binds K fd ["_law_pot_here", "_law_depth"] []) :
    ∀ k : Nat, Has P w K mg base xc "_law_thing" (2 + k) 2 ["_law_pot_here", "_law_depth"] (F_u_law_thing k) := by
  intro k
  induction k with
  | zero =>
    refine Has.mk U hm b (zfn (k := 1) U sc_u_law_thing rfl (by decide) (by decide) ?_)
    rintro _ E cdv A outer s H rfl hr tk hp
    exact zss_bad
  | succ k Gr =>
    refine Has.mk U hm b (zfn (k := 2 + k) U sc_u_law_thing rfl (by decide) (by decide) ?_)
    rintro _ E cdv A outer s H rfl hr tk hp
    have sc := sc_u_law_thing
    exact zss_cons (zs_set (i := 2) sc.nd rfl (by first | exact Or.inl rfl | exact Or.inr rfl) (ze_callH G_u_law_next hr tk (zx_s (pv 0) (zx_d (ze_int) (zx_nil))) (len_s (len_d len_nil)))) (zss_cons (zs_if (zt_cmp (op_eqD (hu64 hr)) o_eq (nomark _) (ze_var (pv 2)) (ze_int)) (zss_one (zs_ret (ze_op op_sub o_sub (ze_callH G_u_law_next hr tk (zx_s (pv 0) (zx_d (ze_op op_pow o_pow (ze_int) (ze_int)) (zx_nil))) (len_s (len_d len_nil))) (ze_callH G_u_law_next hr tk (zx_s (pv 0) (zx_d (ze_op op_pow o_pow (ze_int) (ze_int)) (zx_nil))) (len_s (len_d len_nil)))))) (zss_nil)) (zss_cons (zs_if (zt_w (zw_or (zt_cmp (op_eqD (hu64 hr)) o_eq (nomark _) (ze_var (pv 2)) (ze_int)) (zw_or1 (zt_cmp (op_eqD (hu64 hr)) o_eq (nomark _) (ze_var (pv 1)) (ze_int))))) (zss_one (zs_ret (ze_op op_sub o_sub (ze_callH G_u_law_next hr tk (zx_s (pv 0) (zx_d (ze_int) (zx_nil))) (len_s (len_d len_nil))) (ze_int)))) (zss_nil)) (zss_cons (zs_if (zt_cmp op_lt o_lt (nomark _) (ze_var (pv 2)) (ze_int)) (zss_one (zs_ret (ze_join (ze_str) (ze_lc (own := [("_law_k", 3)]) rfl sc.nd (zi_range1 rfl T.range (za_cons (ze_callH G_u_law_next hr tk (zx_s (pv 0) (zx_d (ze_int) (zx_nil))) (len_s (len_d len_nil))) (za_nil))) (blkOk_by (N := sc_N_u_law_thing) (sc := defScope s_u_law_thing) (by decide +kernel)) rfl rfl (fun _ _ _ _ _ => zg_name (i := 3) sc.nd rfl (by first | exact Or.inl rfl | exact Or.inr rfl)) (fun _ _ _ _ _ => pts_yes) (fun _ _ _ _ _ => ze_item (zb_d (ze_str)) (ze_callH G_u_law_next hr takes0 (zx_s (pv 0) (zx_d (ze_int) (zx_nil))) (len_s (len_d len_nil))) (fun _ _ => rfl)))))) (zss_nil)) (zss_one (zs_ret (ze_callT call_tuple_of on_tuple T.tuple (by decide +kernel) (za_cons (ze_lc (own := [("_law_k", 3)]) rfl sc.nd (zi_range1 rfl T.range (za_cons (ze_callH G_u_law_next hr tk (zx_s (pv 0) (zx_d (ze_int) (zx_nil))) (len_s (len_d len_nil))) (za_nil))) (blkOk_by (N := sc_N_u_law_thing) (sc := defScope s_u_law_thing) (by decide +kernel)) rfl rfl (fun _ _ _ _ _ => zg_name (i := 3) sc.nd rfl (by first | exact Or.inl rfl | exact Or.inr rfl)) (fun _ _ _ _ _ => pts_yes) (fun _ _ _ _ _ => ze_callH Gr hr takes0 (zx_s (pv 0) (zx_d (ze_op op_sub o_sub (ze_var (pv 1)) (ze_int)) (zx_nil))) (len_s (len_d len_nil)))) (za_nil))))))))
abbrev s_u_law_written : Stmt := topS 19
abbrev sc_N_u_law_written : List Str := ["_law_thing_here", "_law_part"]
theorem sc_u_law_written : FnScope sc_N_u_law_written ["_law_thing_here"] (defScope s_u_law_written) := ⟨rfl, rfl, rfl, by decide +kernel, rfl, by decide +kernel, by decide +kernel⟩
def M_u_law_written (Fr : Fn) : CS := cSeq (cIfS (c1 gTru (c1 (gIsi "int") (cV 0))) (cRet (cN gStr (caCons (cV 0) (caNil)))) (cNext)) (cSeq (cIfS (c1 gTru (c1 (gIsi "str") (cV 0))) (cRet (c2 gAdd (c2 gAdd (cN gStr (caCons (cB1 gLen (cbN 0)) (caNil))) (cK (.str (":" : Str)))) (cV 0))) (cNext)) (cRet (c2 gAdd (c2 gAdd (cK (.str ("(" : Str))) (cJoin (cK (.str ("," : Str))) (cLc [1] (ciSeq (cV 0)) (cgName 1) (cK (.bool true)) (cCall Fr (cxD (cV 1) (cxNil)))))) (cK (.str (")" : Str))))))
def F_u_law_written : Nat → Fn
  | 0 => mkF 1 2 [] fun _ => .bad
  | k + 1 => mkF 1 2 [] (M_u_law_written (F_u_law_written k))
theorem ok_u_law_written {f : Addr} {fd : FuncData} (T : Tx K mg xc)  (U : Fun K "_law_written" "_law_written" s_u_law_written f fd) (hm : mg "_law_written" = some (.ref f)) (b : Binds K fd ["_law_thing_here"] []) :
    ∀ k : Nat, Has P w K mg base xc "_law_written" (1 + k) 1 ["_law_thing_here"] (F_u_law_written k) := by
  intro k
  induction k with
  | zero =>
    refine Has.mk U hm b (zfn (k := 0) U sc_u_law_written rfl (by decide) (by decide) ?_)
    rintro _ E cdv A outer s H rfl hr tk hp
    exact zss_bad
  | succ k Gr =>
    refine Has.mk U hm b (zfn (k := 1 + k) U sc_u_law_written rfl (by decide) (by decide) ?_)
    rintro _ E cdv A outer s H rfl hr tk hp
    have sc := sc_u_law_written
    exact zss_cons (zs_if (zt_truth (ze_isi (T := "int") (by decide) T.isinstance T.int (by decide +kernel) (ze_var (pv 0))) (fun _ => rfl)) (zss_one (zs_ret (ze_callT call_str_int on_str T.str (by decide +kernel) (za_cons (ze_var (pv 0)) (za_nil))))) (zss_nil)) (zss_cons (zs_if (zt_truth (ze_isi (T := "str") (by decide) T.isinstance T.str (by decide +kernel) (ze_var (pv 0))) (fun _ => rfl)) (zss_one (zs_ret (ze_op op_addZ o_add (ze_op op_addZ o_add (ze_callT call_str_int on_str T.str (by decide +kernel) (za_cons (ze_len T.len (zb_n (pv 0))) (za_nil))) (ze_str)) (ze_var (pv 0))))) (zss_nil)) (zss_one (zs_ret (ze_op op_addZ o_add (ze_op op_addZ o_add (ze_str) (ze_join (ze_str) (ze_lc (own := [("_law_part", 1)]) rfl sc.nd (zi_seq (ze_var (pv 0))) (blkOk_by (N := sc_N_u_law_written) (sc := defScope s_u_law_written) (by decide +kernel)) rfl rfl (fun _ _ _ _ _ => zg_name (i := 1) sc.nd rfl (by first | exact Or.inl rfl | exact Or.inr rfl)) (fun _ _ _ _ _ => pts_yes) (fun _ _ _ _ _ => ze_callH Gr hr takes0 (zx_d (ze_var (pv 1)) (zx_nil)) (len_d len_nil))))) (ze_str)))))
abbrev s_TextReader___init__ : Stmt := inClass (topS 11) 0
abbrev sc_N_TextReader___init__ : List Str := ["self", "text"]
theorem sc_TextReader___init__ : FnScope sc_N_TextReader___init__ ["self", "text"] (defScope s_TextReader___init__) := ⟨rfl, rfl, rfl, by decide +kernel, rfl, by decide +kernel, by decide +kernel⟩
def M_TextReader___init__ : CS := cSeq (cSetF 0 "TextReader" "text" (cV 1)) (cSetF 0 "TextReader" "at" (cK (.int 0)))
def F_TextReader___init__ : Fn := mkF 2 2 [0] M_TextReader___init__
theorem ok_TextReader___init__ {f : Addr} {fd : FuncData} (T : Tx K mg xc)  (U : Fun K "__init__" "TextReader.__init__" s_TextReader___init__ f fd) :
    FnOk P w K mg base (L2.CX P w) 1 f fd ["self", "text"] (spZ ⟨K, P, w⟩ xc 2 F_TextReader___init__) := by
  refine zfn (k := 0) U sc_TextReader___init__ rfl (by decide) (by decide) ?_
  rintro _ E cdv A outer s H rfl hr tk hp
  have sc := sc_TextReader___init__
  exact zss_cons (zs_setF (T.f_TextReader_text _ _) (pv 0) (ze_var (pv 1))) (zss_one (zs_setF (T.f_TextReader_at _ _) (pv 0) (ze_int)))
abbrev s_TextReader_peek : Stmt := inClass (topS 11) 1
abbrev sc_N_TextReader_peek : List Str := ["self"]
theorem sc_TextReader_peek : FnScope sc_N_TextReader_peek ["self"] (defScope s_TextReader_peek) := ⟨rfl, rfl, rfl, by decide +kernel, rfl, by decide +kernel, by decide +kernel⟩
def M_TextReader_peek : CS := cRet (cSl gSlT (cbD (cQV (cqF "TextReader" "text" (cqN 0)))) (some (cQV (cqF "TextReader" "at" (cqN 0)))) (some (c2 gAdd (cQV (cqF "TextReader" "at" (cqN 0))) (cK (.int 1)))))
def F_TextReader_peek : Fn := mkF 1 1 [0] M_TextReader_peek
theorem ok_TextReader_peek {f : Addr} {fd : FuncData} (T : Tx K mg xc)  (U : Fun K "peek" "TextReader.peek" s_TextReader_peek f fd) :
    FnOk P w K mg base (L2.CX P w) 1 f fd ["self"] (spZ ⟨K, P, w⟩ xc 1 F_TextReader_peek) := by
  refine zfn (k := 0) U sc_TextReader_peek rfl (by decide) (by decide) ?_
  rintro _ E cdv A outer s H rfl hr tk hp
  have sc := sc_TextReader_peek
  exact zss_one (zs_ret (ze_sliceT (zb_d (ze_q (zq_f (zq_n (pv 0)) (T.f_TextReader_text _ _)))) (zo_some (ze_q (zq_f (zq_n (pv 0)) (T.f_TextReader_at _ _)))) (zo_some (ze_op op_addZ o_add (ze_q (zq_f (zq_n (pv 0)) (T.f_TextReader_at _ _))) (ze_int)))))
abbrev s_TextReader_figures : Stmt := inClass (topS 11) 2
abbrev sc_N_TextReader_figures : List Str := ["self", "first", "found"]
theorem sc_TextReader_figures : FnScope sc_N_TextReader_figures ["self"] (defScope s_TextReader_figures) := ⟨rfl, rfl, rfl, by decide +kernel, rfl, by decide +kernel, by decide +kernel⟩
def L_TextReader_figures_0 : CS := cSetF 0 "TextReader" "at" (c2 gAdd (cQV (cqF "TextReader" "at" (cqN 0))) (cK (.int 1)))
def L_TextReader_figures_1 : CE := cAnd (c2 gNe (cMeth "TextReader" "peek" F_TextReader_peek 0 cxNil) (cK (.str ("" : Str)))) (c2 gIn (cMeth "TextReader" "peek" F_TextReader_peek 0 cxNil) (cK (.str ("0123456789" : Str))))
def M_TextReader_figures : CS := cSeq (cSet 1 (cQV (cqF "TextReader" "at" (cqN 0)))) (cSeq (whileL (L_TextReader_figures_1) (L_TextReader_figures_0) whileMax) (cSeq (cSet 2 (cSl gSlT (cbD (cQV (cqF "TextReader" "text" (cqN 0)))) (some (cV 1)) (some (cQV (cqF "TextReader" "at" (cqN 0)))))) (cSeq (cIfS (cOr (c1 gNot (cChain gLe gLe (cK (.int 1)) (cB1 gLen (cbN 2)) (cK (.int 200)))) (cAnd (c2 gGt (cB1 gLen (cbN 2)) (cK (.int 1))) (c2 gEq (cB2 gIx (cbN 2) (cK (.int 0))) (cK (.str ("0" : Str)))))) ((fun _ => .bad)) (cNext)) (cRet (cN gIntT (caCons (cV 2) (caNil)))))))
def F_TextReader_figures : Fn := mkF 1 3 [0] M_TextReader_figures
theorem ok_TextReader_figures {f : Addr} {fd : FuncData} (T : Tx K mg xc) (G_TextReader_peek : HasM P w K mg base xc "TextReader" "peek" 1 1 ["self"] F_TextReader_peek) (U : Fun K "figures" "TextReader.figures" s_TextReader_figures f fd) :
    FnOk P w K mg base (L2.CX P w) 2 f fd ["self"] (spZ ⟨K, P, w⟩ xc 1 F_TextReader_figures) := by
  refine zfn (k := 1) U sc_TextReader_figures rfl (by decide) (by decide) ?_
  rintro _ E cdv A outer s H rfl hr tk hp
  have sc := sc_TextReader_figures
  exact zss_cons (zs_set (i := 1) sc.nd rfl (by first | exact Or.inl rfl | exact Or.inr rfl) (ze_q (zq_f (zq_n (pv 0)) (T.f_TextReader_at _ _)))) (zss_cons (zs_while hp (zt_w (zw_and (zt_cmp (op_neD (hu64 hr)) o_ne (nomark _) (ze_meth0 G_TextReader_peek hr tk (pv 0)) (ze_str)) (zw_and1 (zt_cmp (op_inZ (hu65 hr)) o_in (by with_unfolding_all rfl) (ze_meth0 G_TextReader_peek hr tk (pv 0)) (ze_const T.c_FIGURES))))) (zss_one (zs_setF (T.f_TextReader_at _ _) (pv 0) (ze_op op_addZ o_add (ze_q (zq_f (zq_n (pv 0)) (T.f_TextReader_at _ _))) (ze_int))))) (zss_cons (zs_set (i := 2) sc.nd rfl (by first | exact Or.inl rfl | exact Or.inr rfl) (ze_sliceT (zb_d (ze_q (zq_f (zq_n (pv 0)) (T.f_TextReader_text _ _)))) (zo_some (ze_var (pv 1))) (zo_some (ze_q (zq_f (zq_n (pv 0)) (T.f_TextReader_at _ _)))))) (zss_cons (zs_if (zt_w (zw_or (zt_not (zt_chain op_le op_le o_le o_le (ze_int) (ze_len T.len (zb_n (pv 2))) (ze_const T.c_MOST_FIGURES))) (zw_or1 (zt_w (zw_and (zt_cmp op_gt o_gt (nomark _) (ze_len T.len (zb_n (pv 2))) (ze_int)) (zw_and1 (zt_cmp (op_eqD (hu64 hr)) o_eq (nomark _) (ze_item (zb_n (pv 2)) (ze_int) (fun _ _ => rfl)) (ze_str)))))))) (zss_one (zs_bad)) (zss_nil)) (zss_one (zs_ret (ze_callT call_intT on_intT T.int (by decide +kernel) (za_cons (ze_var (pv 2)) (za_nil))))))))
abbrev s_TextReader_sign : Stmt := inClass (topS 11) 3
abbrev sc_N_TextReader_sign : List Str := ["self", "wanted"]
theorem sc_TextReader_sign : FnScope sc_N_TextReader_sign ["self", "wanted"] (defScope s_TextReader_sign) := ⟨rfl, rfl, rfl, by decide +kernel, rfl, by decide +kernel, by decide +kernel⟩
def M_TextReader_sign : CS := cSeq (cIfS (c2 gNe (cMeth "TextReader" "peek" F_TextReader_peek 0 cxNil) (cV 1)) ((fun _ => .bad)) (cNext)) (cSetF 0 "TextReader" "at" (c2 gAdd (cQV (cqF "TextReader" "at" (cqN 0))) (cK (.int 1))))
def F_TextReader_sign : Fn := mkF 2 2 [0] M_TextReader_sign
theorem ok_TextReader_sign {f : Addr} {fd : FuncData} (T : Tx K mg xc) (G_TextReader_peek : HasM P w K mg base xc "TextReader" "peek" 1 1 ["self"] F_TextReader_peek) (U : Fun K "sign" "TextReader.sign" s_TextReader_sign f fd) :
    FnOk P w K mg base (L2.CX P w) 2 f fd ["self", "wanted"] (spZ ⟨K, P, w⟩ xc 2 F_TextReader_sign) := by
  refine zfn (k := 1) U sc_TextReader_sign rfl (by decide) (by decide) ?_
  rintro _ E cdv A outer s H rfl hr tk hp
  have sc := sc_TextReader_sign
  exact zss_cons (zs_if (zt_cmp (op_neD (hu64 hr)) o_ne (nomark _) (ze_meth0 G_TextReader_peek hr tk (pv 0)) (ze_var (pv 1))) (zss_one (zs_bad)) (zss_nil)) (zss_one (zs_setF (T.f_TextReader_at _ _) (pv 0) (ze_op op_addZ o_add (ze_q (zq_f (zq_n (pv 0)) (T.f_TextReader_at _ _))) (ze_int))))
abbrev s_TextReader_number_or_text : Stmt := inClass (topS 11) 4
abbrev sc_N_TextReader_number_or_text : List Str := ["self", "number", "found"]
theorem sc_TextReader_number_or_text : FnScope sc_N_TextReader_number_or_text ["self"] (defScope s_TextReader_number_or_text) := ⟨rfl, rfl, rfl, by decide +kernel, rfl, by decide +kernel, by decide +kernel⟩
def M_TextReader_number_or_text : CS := cSeq (cSet 1 (cMeth "TextReader" "figures" F_TextReader_figures 0 cxNil)) (cSeq (cIfS (c2 gNe (cMeth "TextReader" "peek" F_TextReader_peek 0 cxNil) (cK (.str (":" : Str)))) (cRet (cVm 1)) (cNext)) (cSeq (cSetF 0 "TextReader" "at" (c2 gAdd (cQV (cqF "TextReader" "at" (cqN 0))) (cK (.int 1)))) (cSeq (cSet 2 (cSl gSlT (cbD (cQV (cqF "TextReader" "text" (cqN 0)))) (some (cQV (cqF "TextReader" "at" (cqN 0)))) (some (c2 gAdd (cQV (cqF "TextReader" "at" (cqN 0))) (cV 1))))) (cSeq (cIfS (cOr (c2 gGt (cB1 gLen (cbD (cN gStr (caCons (cV 1) (caNil))))) (cK (.int 2))) (c2 gNe (cB1 gLen (cbN 2)) (cV 1))) ((fun _ => .bad)) (cNext)) (cSeq (cSetF 0 "TextReader" "at" (c2 gAdd (cQV (cqF "TextReader" "at" (cqN 0))) (cV 1))) (cRet (cVm 2)))))))
def F_TextReader_number_or_text : Fn := mkF 1 3 [0] M_TextReader_number_or_text
theorem ok_TextReader_number_or_text {f : Addr} {fd : FuncData} (T : Tx K mg xc) (G_TextReader_figures : HasM P w K mg base xc "TextReader" "figures" 2 1 ["self"] F_TextReader_figures) (G_TextReader_peek : HasM P w K mg base xc "TextReader" "peek" 1 1 ["self"] F_TextReader_peek) (U : Fun K "number_or_text" "TextReader.number_or_text" s_TextReader_number_or_text f fd) :
    FnOk P w K mg base (L2.CX P w) 3 f fd ["self"] (spZ ⟨K, P, w⟩ xc 1 F_TextReader_number_or_text) := by
  refine zfn (k := 2) U sc_TextReader_number_or_text rfl (by decide) (by decide) ?_
  rintro _ E cdv A outer s H rfl hr tk hp
  have sc := sc_TextReader_number_or_text
  exact zss_cons (zs_set (i := 1) sc.nd rfl (by first | exact Or.inl rfl | exact Or.inr rfl) (ze_meth0 G_TextReader_figures hr tk (pv 0))) (zss_cons (zs_if (zt_cmp (op_neD (hu64 hr)) o_ne (nomark _) (ze_meth0 G_TextReader_peek hr tk (pv 0)) (ze_str)) (zss_one (zs_ret (ze_varm (pv 1)))) (zss_nil)) (zss_cons (zs_setF (T.f_TextReader_at _ _) (pv 0) (ze_op op_addZ o_add (ze_q (zq_f (zq_n (pv 0)) (T.f_TextReader_at _ _))) (ze_int))) (zss_cons (zs_set (i := 2) sc.nd rfl (by first | exact Or.inl rfl | exact Or.inr rfl) (ze_sliceT (zb_d (ze_q (zq_f (zq_n (pv 0)) (T.f_TextReader_text _ _)))) (zo_some (ze_q (zq_f (zq_n (pv 0)) (T.f_TextReader_at _ _)))) (zo_some (ze_op op_addZ o_add (ze_q (zq_f (zq_n (pv 0)) (T.f_TextReader_at _ _))) (ze_var (pv 1)))))) (zss_cons (zs_if (zt_w (zw_or (zt_cmp op_gt o_gt (nomark _) (ze_len T.len (zb_d (ze_callT call_str_int on_str T.str (by decide +kernel) (za_cons (ze_var (pv 1)) (za_nil))))) (ze_const T.c_MOST_LENGTH_FIGURES)) (zw_or1 (zt_cmp (op_neD (hu64 hr)) o_ne (nomark _) (ze_len T.len (zb_n (pv 2))) (ze_var (pv 1)))))) (zss_one (zs_bad)) (zss_nil)) (zss_cons (zs_setF (T.f_TextReader_at _ _) (pv 0) (ze_op op_addZ o_add (ze_q (zq_f (zq_n (pv 0)) (T.f_TextReader_at _ _))) (ze_var (pv 1)))) (zss_one (zs_ret (ze_varm (pv 2)))))))))
abbrev s_TextReader_parts : Stmt := inClass (topS 11) 5
abbrev sc_N_TextReader_parts : List Str := ["self", "depth", "found"]
theorem sc_TextReader_parts : FnScope sc_N_TextReader_parts ["self", "depth"] (defScope s_TextReader_parts) := ⟨rfl, rfl, rfl, by decide +kernel, rfl, by decide +kernel, by decide +kernel⟩
def L_TextReader_parts_0 (Fr : Fn) : CS := cSeq (cIfS (cB1 gTru (cbN 2)) (cDrop (cMeth "TextReader" "sign" F_TextReader_sign 0 (cxD (cK (.str ("," : Str))) (cxNil)))) (cNext)) (cApp 2 (cMeth "TextReader" "thing" Fr 0 (cxD (c2 gSub (cV 1) (cK (.int 1))) (cxNil))))
def L_TextReader_parts_1 (Fr : Fn) : CE := c2 gNe (cMeth "TextReader" "peek" F_TextReader_peek 0 cxNil) (cK (.str (")" : Str)))
def M_TextReader_parts (Fr : Fn) : CS := cSeq (cIfS (c2 gEq (cV 1) (cK (.int 0))) ((fun _ => .bad)) (cNext)) (cSeq (cDrop (cMeth "TextReader" "sign" F_TextReader_sign 0 (cxD (cK (.str ("(" : Str))) (cxNil)))) (cSeq (cSet 2 (cLst (caNil))) (cSeq (whileL (L_TextReader_parts_1 Fr) (L_TextReader_parts_0 Fr) whileMax) (cSeq (cDrop (cMeth "TextReader" "sign" F_TextReader_sign 0 (cxD (cK (.str (")" : Str))) (cxNil)))) (cRet (cN gTuple (caCons (cV 2) (caNil))))))))
def F_TextReader_parts (Fr : Fn) : Fn := mkF 2 3 [0] (M_TextReader_parts Fr)
theorem ok_TextReader_parts {f : Addr} {fd : FuncData} {lv : Nat} {Fr : Fn} (T : Tx K mg xc) (G_TextReader_peek : HasM P w K mg base xc "TextReader" "peek" 1 1 ["self"] F_TextReader_peek) (G_TextReader_sign : HasM P w K mg base xc "TextReader" "sign" 2 2 ["self", "wanted"] F_TextReader_sign) (Gr : HasM P w K mg base xc "TextReader" "thing" lv 2 ["self", "depth"] Fr) (hlv : 2 ≤ lv) (U : Fun K "parts" "TextReader.parts" s_TextReader_parts f fd) :
    FnOk P w K mg base (L2.CX P w) (lv + 1) f fd ["self", "depth"] (spZ ⟨K, P, w⟩ xc 2 (F_TextReader_parts Fr)) := by
  refine zfn (k := lv) U sc_TextReader_parts rfl (by decide) (by decide) ?_
  rintro _ E cdv A outer s H rfl hr tk hp
  have sc := sc_TextReader_parts
  exact zss_cons (zs_if (zt_cmp (op_eqD (hu64 hr)) o_eq (nomark _) (ze_var (pv 1)) (ze_int)) (zss_one (zs_bad)) (zss_nil)) (zss_cons (zs_expr (ze_meth G_TextReader_sign hr tk (pv 0) (zx_d (ze_str) (zx_nil)) (len_d len_nil))) (zss_cons (zs_set (i := 2) sc.nd rfl (by first | exact Or.inl rfl | exact Or.inr rfl) (ze_lst (za_nil))) (zss_cons (zs_while hp (zt_cmp (op_neD (hu64 hr)) o_ne (nomark _) (ze_meth0 G_TextReader_peek hr tk (pv 0)) (ze_str)) (zss_cons (zs_if (zt_truthB (zb_n (pv 2)) (fun _ => rfl)) (zss_one (zs_expr (ze_meth G_TextReader_sign hr tk (pv 0) (zx_d (ze_str) (zx_nil)) (len_d len_nil)))) (zss_nil)) (zss_one (zs_append (pv 2) (ze_meth Gr hr tk (pv 0) (zx_d (ze_op op_sub o_sub (ze_var (pv 1)) (ze_int)) (zx_nil)) (len_d len_nil)))))) (zss_cons (zs_expr (ze_meth G_TextReader_sign hr tk (pv 0) (zx_d (ze_str) (zx_nil)) (len_d len_nil))) (zss_one (zs_ret (ze_callT call_tuple_of on_tuple T.tuple (by decide +kernel) (za_cons (ze_var (pv 2)) (za_nil)))))))))
abbrev s_TextReader_thing : Stmt := inClass (topS 11) 6
abbrev sc_N_TextReader_thing : List Str := ["self", "depth", "number"]
theorem sc_TextReader_thing : FnScope sc_N_TextReader_thing ["self", "depth"] (defScope s_TextReader_thing) := ⟨rfl, rfl, rfl, by decide +kernel, rfl, by decide +kernel, by decide +kernel⟩
def M_TextReader_thing (Fr : Fn) : CS := cSeq (cIfS (c2 gEq (cMeth "TextReader" "peek" F_TextReader_peek 0 cxNil) (cK (.str ("(" : Str)))) (cRet (cMeth "TextReader" "parts" (F_TextReader_parts Fr) 0 (cxD (cV 1) (cxNil)))) (cNext)) (cSeq (cIfS (c2 gEq (cMeth "TextReader" "peek" F_TextReader_peek 0 cxNil) (cK (.str ("-" : Str)))) (cSeq (cSetF 0 "TextReader" "at" (c2 gAdd (cQV (cqF "TextReader" "at" (cqN 0))) (cK (.int 1)))) (cSeq (cSet 2 (cMeth "TextReader" "figures" F_TextReader_figures 0 cxNil)) (cSeq (cIfS (c2 gEq (cV 2) (cK (.int 0))) ((fun _ => .bad)) (cNext)) (cRet (c1 gNeg (cV 2)))))) (cNext)) (cRet (cMeth "TextReader" "number_or_text" F_TextReader_number_or_text 0 cxNil)))
def F_TextReader_thing : Nat → Fn
  | 0 => mkF 2 3 [0] fun _ => .bad
  | k + 1 => mkF 2 3 [0] (M_TextReader_thing (F_TextReader_thing k))
theorem ok_TextReader_thing {C f fA : Addr} {fd fdA : FuncData} (T : Tx K mg xc) (G_TextReader_figures : HasM P w K mg base xc "TextReader" "figures" 2 1 ["self"] F_TextReader_figures) (G_TextReader_number_or_text : HasM P w K mg base xc "TextReader" "number_or_text" 3 1 ["self"] F_TextReader_number_or_text) (G_TextReader_peek : HasM P w K mg base xc "TextReader" "peek" 1 1 ["self"] F_TextReader_peek) (G_TextReader_sign : HasM P w K mg base xc "TextReader" "sign" 2 2 ["self", "wanted"] F_TextReader_sign) (hC : ClsAt ⟨K, P, w⟩ "TextReader" C) (cl : Cls K C) (me : Meth K C "thing" f) (meA : Meth K C "parts" fA) (bB : Binds K fd ["self", "depth"] []) (bA : Binds K fdA ["self", "depth"] []) (UA : Fun K "parts" "TextReader.parts" s_TextReader_parts fA fdA) (U : Fun K "thing" "TextReader.thing" s_TextReader_thing f fd) :
    ∀ k : Nat, FnOk P w K mg base (L2.CX P w) (4 + 2 * k) f fd ["self", "depth"] (spZ ⟨K, P, w⟩ xc 2 (F_TextReader_thing k)) := by
  intro k
  induction k with
  | zero =>
    refine zfn (k := 3) U sc_TextReader_thing rfl (by decide) (by decide) ?_
    rintro _ E cdv A outer s H rfl hr tk hp
    exact zss_bad
  | succ k ih =>
    have Gr := HasM.mk hC cl me ih bB
    have Gp := HasM.mk hC cl meA (ok_TextReader_parts T G_TextReader_peek G_TextReader_sign Gr (by omega) UA) bA
    refine zfn (k := 4 + 2 * k + 1) U sc_TextReader_thing rfl (by decide) (by decide) ?_
    rintro _ E cdv A outer s H rfl hr tk hp
    have sc := sc_TextReader_thing
    exact zss_cons (zs_if (zt_cmp (op_eqD (hu64 hr)) o_eq (nomark _) (ze_meth0 G_TextReader_peek hr tk (pv 0)) (ze_str)) (zss_one (zs_ret (ze_meth Gp hr tk (pv 0) (zx_d (ze_var (pv 1)) (zx_nil)) (len_d len_nil)))) (zss_nil)) (zss_cons (zs_if (zt_cmp (op_eqD (hu64 hr)) o_eq (nomark _) (ze_meth0 G_TextReader_peek hr tk (pv 0)) (ze_str)) (zss_cons (zs_setF (T.f_TextReader_at _ _) (pv 0) (ze_op op_addZ o_add (ze_q (zq_f (zq_n (pv 0)) (T.f_TextReader_at _ _))) (ze_int))) (zss_cons (zs_set (i := 2) sc.nd rfl (by first | exact Or.inl rfl | exact Or.inr rfl) (ze_meth0 G_TextReader_figures hr tk (pv 0))) (zss_cons (zs_if (zt_cmp (op_eqD (hu64 hr)) o_eq (nomark _) (ze_var (pv 2)) (ze_int)) (zss_one (zs_bad)) (zss_nil)) (zss_one (zs_ret (ze_un un_neg o_neg (ze_var (pv 2)))))))) (zss_nil)) (zss_one (zs_ret (ze_meth0 G_TextReader_number_or_text hr tk (pv 0)))))
abbrev s_read : Stmt := topS 12
abbrev sc_N_read : List Str := ["text", "reader", "thing"]
theorem sc_read : FnScope sc_N_read ["text"] (defScope s_read) := ⟨rfl, rfl, rfl, by decide +kernel, rfl, by decide +kernel, by decide +kernel⟩
def M_read : CS := cSeq (cSet 1 (cNew "TextReader" F_TextReader___init__ (cxD (cV 0) (cxNil)))) (cSeq (cSet 2 (cMeth "TextReader" "thing" (F_TextReader_thing 45) 1 (cxD (cK (.int 40)) (cxNil)))) (cSeq (cIfS (c2 gNe (cQV (cqF "TextReader" "at" (cqN 1))) (cB1 gLen (cbN 0))) ((fun _ => .bad)) (cNext)) (cRet (cVm 2))))
def F_read : Fn := mkF 1 3 [] M_read
theorem ok_read {f : Addr} {fd : FuncData} (T : Tx K mg xc) (G_TextReader___init__ : HasC P w K mg base xc "TextReader" 1 2 ["self", "text"] F_TextReader___init__) (G_TextReader_thing : HasM P w K mg base xc "TextReader" "thing" 94 2 ["self", "depth"] (F_TextReader_thing 45)) (U : Fun K "read" "read" s_read f fd) (hm : mg "read" = some (.ref f)) (b : Binds K fd ["text"] []) :
    Has P w K mg base xc "read" 95 1 ["text"] F_read := by
  refine Has.mk U hm b (zfn (k := 94) U sc_read rfl (by decide) (by decide) ?_)
  rintro _ E cdv A outer s H rfl hr tk hp
  have sc := sc_read
  exact zss_cons (zs_set (i := 1) sc.nd rfl (by first | exact Or.inl rfl | exact Or.inr rfl) (ze_new G_TextReader___init__ hr tk (zx_d (ze_var (pv 0)) (zx_nil)) (len_d len_nil))) (zss_cons (zs_set (i := 2) sc.nd rfl (by first | exact Or.inl rfl | exact Or.inr rfl) (ze_meth G_TextReader_thing hr tk (pv 1) (zx_d (ze_const T.c_DEEPEST) (zx_nil)) (len_d len_nil))) (zss_cons (zs_if (zt_cmp (op_neD (hu64 hr)) o_ne (nomark _) (ze_q (zq_f (zq_n (pv 1)) (T.f_TextReader_at _ _))) (ze_len T.len (zb_n (pv 0)))) (zss_one (zs_bad)) (zss_nil)) (zss_one (zs_ret (ze_varm (pv 2))))))
abbrev s_law : Stmt := topS 20
abbrev sc_N_law : List Str := ["_law_script", "_law_pot_here", "_law_thing_here", "_law_k", "_law_one", "_law_text"]
theorem sc_law : FnScope sc_N_law ["_law_script"] (defScope s_law) := ⟨rfl, rfl, rfl, by decide +kernel, rfl, by decide +kernel, by decide +kernel⟩
def L_law_0 : CS := cSet 2 (cTup (caCons (cV 3) (caCons (cV 2) (caNil))))
def L_law_1 : CS := cSeq (cSet 5 (cCall (F_write 20) (cxD (cV 4) (cxNil)))) (cIfS (cOr (c1 gNot (c1 gTru (c1 (gIsi "str") (cV 5)))) (cOr (c2 gNe (cV 5) (cCall (F_u_law_written 20) (cxD (cV 4) (cxNil)))) (c1 gNot (c1 gTru (cCall (F_u_law_same 20) (cxD (cCall F_read (cxD (cV 5) (cxNil))) (cxD (cV 4) (cxNil)))))))) (cRet (cK (.bool false))) (cNext))
def M_law : CS := cSeq (cSet 1 (cCall F_u_law_pot (cxD (cV 0) (cxNil)))) (cSeq (cSet 2 (cCall (F_u_law_thing 8) (cxS 1 (cxD (cK (.int 3)) (cxNil))))) (cSeq (cFor (ciRange1 (caCons (cB2 gIx (cbD (cLst (caCons (cK (.int 0)) (caCons (cK (.int 6)) (caNil))))) (cCall F_u_law_next (cxS 1 (cxD (cK (.int 2)) (cxNil))))) (caNil))) (cgName 3) (L_law_0)) (cSeq (cFor (ciSeq (cLst (caCons (cV 2) (caCons (cTup (caCons (c2 gMulT (cK (.str ("x" : Str))) (cK (.int 99))) (caCons (c1 gNeg (cK (.int 1))) (caNil)))) (caCons (c2 gMul (c2 gMul (c2 gMul (c2 gPow (cK (.int 10)) (cK (.int 60))) (c2 gPow (cK (.int 10)) (cK (.int 60)))) (c2 gPow (cK (.int 10)) (cK (.int 60)))) (c2 gPow (cK (.int 10)) (cK (.int 19)))) (caNil)))))) (cgName 4) (L_law_1)) (cRet (cK (.bool true))))))
def F_law : Fn := mkF 1 6 [] M_law
theorem ok_law {f : Addr} {fd : FuncData} (T : Tx K mg xc) (G_u_law_next : Has P w K mg base xc "_law_next" 1 2 ["_law_pot_here", "_law_limit"] F_u_law_next) (G_u_law_pot : Has P w K mg base xc "_law_pot" 1 1 ["_law_script"] F_u_law_pot) (G_u_law_same : Has P w K mg base xc "_law_same" 22 2 ["_law_found", "_law_value"] (F_u_law_same 20)) (G_u_law_thing : Has P w K mg base xc "_law_thing" 10 2 ["_law_pot_here", "_law_depth"] (F_u_law_thing 8)) (G_u_law_written : Has P w K mg base xc "_law_written" 21 1 ["_law_thing_here"] (F_u_law_written 20)) (G_read : Has P w K mg base xc "read" 95 1 ["text"] F_read) (G_write : Has P w K mg base xc "write" 22 1 ["thing"] (F_write 20)) (U : Fun K "law" "law" s_law f fd) (hm : mg "law" = some (.ref f)) (b : Binds K fd ["_law_script"] []) :
    FnOk P w K mg base (L2.CX P w) 96 f fd ["_law_script"] (spZ ⟨K, P, w⟩ xc 1 F_law) := by
  refine zfn (k := 95) U sc_law rfl (by decide) (by decide) ?_
  rintro _ E cdv A outer s H rfl hr tk hp
  have sc := sc_law
  exact zss_cons (zs_set (i := 1) sc.nd rfl (by first | exact Or.inl rfl | exact Or.inr rfl) (ze_callH G_u_law_pot hr tk (zx_d (ze_var (pv 0)) (zx_nil)) (len_d len_nil))) (zss_cons (zs_set (i := 2) sc.nd rfl (by first | exact Or.inl rfl | exact Or.inr rfl) (ze_callH G_u_law_thing hr tk (zx_s (pv 1) (zx_d (ze_int) (zx_nil))) (len_s (len_d len_nil)))) (zss_cons (zs_for hp rfl (zi_range1 rfl T.range (za_cons (ze_item (zb_d (ze_lst (za_cons (ze_int) (za_cons (ze_int) (za_nil))))) (ze_callH G_u_law_next hr tk (zx_s (pv 1) (zx_d (ze_int) (zx_nil))) (len_s (len_d len_nil))) (fun _ _ => rfl)) (za_nil))) (zg_name (i := 3) sc.nd rfl (by first | exact Or.inl rfl | exact Or.inr rfl)) (zss_one (zs_set (i := 2) sc.nd rfl (by first | exact Or.inl rfl | exact Or.inr rfl) (ze_tup (za_cons (ze_var (pv 3)) (za_cons (ze_var (pv 2)) (za_nil))))))) (zss_cons (zs_for hp rfl (zi_seq (ze_lst (za_cons (ze_var (pv 2)) (za_cons (ze_tup (za_cons (ze_op op_mulT o_mulT (ze_str) (ze_int)) (za_cons (ze_un un_neg o_neg (ze_int)) (za_nil)))) (za_cons (ze_op op_mulW o_mul (ze_op op_mulW o_mul (ze_op op_mulW o_mul (ze_op op_pow o_pow (ze_int) (ze_int)) (ze_op op_pow o_pow (ze_int) (ze_int))) (ze_op op_pow o_pow (ze_int) (ze_int))) (ze_op op_pow o_pow (ze_int) (ze_int))) (za_nil)))))) (zg_name (i := 4) sc.nd rfl (by first | exact Or.inl rfl | exact Or.inr rfl)) (zss_cons (zs_set (i := 5) sc.nd rfl (by first | exact Or.inl rfl | exact Or.inr rfl) (ze_callH G_write hr tk (zx_d (ze_var (pv 4)) (zx_nil)) (len_d len_nil))) (zss_one (zs_if (zt_w (zw_or (zt_not (zt_truth (ze_isi (T := "str") (by decide) T.isinstance T.str (by decide +kernel) (ze_var (pv 5))) (fun _ => rfl))) (zw_or (zt_cmp (op_neD (hu64 hr)) o_ne (nomark _) (ze_var (pv 5)) (ze_callH G_u_law_written hr tk (zx_d (ze_var (pv 4)) (zx_nil)) (len_d len_nil))) (zw_or1 (zt_not (zt_truth (ze_callH G_u_law_same hr tk (zx_d (ze_callH G_read hr tk (zx_d (ze_var (pv 5)) (zx_nil)) (len_d len_nil)) (zx_d (ze_var (pv 4)) (zx_nil))) (len_d (len_d len_nil))) (fun _ => rfl))))))) (zss_one (zs_ret (ze_bool))) (zss_nil))))) (zss_one (zs_ret (ze_bool))))))
end
end Z
set_option maxHeartbeats 1000000
namespace Z
open PySem PySem.Spec PyProof.Rows L2
theorem wmax : whileMax = (2 ^ 40 - 1) + 1 := rfl
theorem ch_cls : (100000 : Nat) < sizeLine := by decide
theorem bools_map {α : Type} (f : α → Bool) : ∀ l : List α, boolsOf (l.map fun x => PyData.bool (f x)) = some (l.map f)
  | [] => rfl
  | x :: l => by rw [List.map_cons, bools_cons, bools_map f l]; rfl
theorem all_mid {α : Type} (f : α → Bool) (l : List α) : (l.map f).all id = l.all f := by simp [List.all_map]
theorem any_mid {α : Type} (f : α → Bool) (l : List α) : (l.map f).any id = l.any f := by simp [List.any_map]
theorem gAll_map {α : Type} (f : α → Bool) (l : List α) : gAll [.list (l.map fun x => PyData.bool (f x))] = some (.dat (.bool (l.all f))) := by
  show (boolsOf _).map _ = _
  rw [bools_map]
  simp [List.all_map]
theorem gAny_map {α : Type} (f : α → Bool) (l : List α) : gAny [.list (l.map fun x => PyData.bool (f x))] = some (.dat (.bool (l.any f))) := by
  show (boolsOf _).map _ = _
  rw [bools_map]
  simp [List.any_map]
theorem bools_const {α : Type} {b : Bool} (l : List α) : boolsOf (l.map fun _ => PyData.bool b) = some (l.map fun _ => b) := bools_map (fun _ => b) l
theorem all_const {α : Type} (l : List α) : (l.map fun _ => true).all id = true := by simp
theorem any_const {α : Type} (l : List α) : (l.map fun _ => false).any id = false := by simp
/-- data as a corner -/
def cnOf : PyData → Cn
  | .tuple [.int x, .int y] => (x, y)
  | _ => (0, 0)
theorem cnOf_pD (c : Cn) : cnOf (pD c) = c := rfl
theorem map_pD {α : Type} (f : PyData → α) (Q : List Cn) : (Q.map pD).map f = Q.map fun c => f (pD c) := by rw [List.map_map]; rfl
open PySem.NumText
/-! ### numbers as signs -/
abbrev Cd := List Nat
def cds (z : Str) : Cd := z.cps.toList
def stC (c : Cd) : Str := ⟨c.toArray⟩
theorem cds_stC (c : Cd) : cds (stC c) = c := by unfold cds stC; simp
theorem stC_cds (z : Str) : stC (cds z) = z := by unfold cds stC; simp
theorem cds_inj {a b : Str} (h : cds a = cds b) : a = b := by rw [← stC_cds a, ← stC_cds b, h]
theorem len_cds (z : Str) : z.length = (cds z).length := by unfold cds Str.length; simp
theorem cds_app (a b : Str) : cds (a ++ b) = cds a ++ cds b := by unfold cds; rw [Str.cps_append, Array.toList_append]
theorem stC_app (a b : Cd) : stC (a ++ b) = stC a ++ stC b := cds_inj (by rw [cds_app, cds_stC, cds_stC, cds_stC])
theorem len_stC (c : Cd) : (stC c).length = c.length := by rw [len_cds, cds_stC]
def dg (m : Nat) : Cd := (Nat.toDigits 10 m).map Char.toNat
theorem dg_ne (m : Nat) : dg m ≠ [] := fun e => by
  have h := PySem.toDigits_len_ge 10 m
  rw [List.map_eq_nil_iff.mp e] at h
  exact absurd h (by decide)
theorem dg_all (m : Nat) : AllDigits (dg m) := by
  intro c hc
  obtain ⟨ch, hch, e⟩ := List.mem_map.mp hc
  have r := digit_range (Nat.isDigit_of_mem_toDigits (by decide) (by decide) hch)
  rw [← e]
  exact r
theorem dg_val (m : Nat) : digitsVal (dg m) = m := W.KIN.val_back m
theorem dg_len {m n : Nat} (h : m < 10 ^ n) (hn : 0 < n) : (dg m).length ≤ n := by
  have e := (Nat.length_repr_le_iff (n := m) hn).mpr h
  unfold dg
  rw [List.length_map]
  rwa [← String.length_toList, Nat.toList_repr] at e
theorem dg_head : ∀ m : Nat, 0 < m → ∀ c r, dg m = c :: r → c ≠ 48 := by
  intro m
  induction m using Nat.strongRecOn with
  | _ m ih =>
    intro h0 c r e
    by_cases h : m < 10
    · unfold dg at e
      rw [Nat.toDigits_of_lt_base h] at e
      have e2 : (Nat.digitChar m).toNat = c := by
        have := List.cons.inj e
        exact this.1
      have k : ∀ d : Nat, d < 10 → 0 < d → (Nat.digitChar d).toNat ≠ 48 := by decide
      rw [← e2]
      exact k m h h0
    · have hm : m % 10 < 10 := Nat.mod_lt m (by decide)
      have t : Nat.toDigits 10 (m / 10) ++ Nat.toDigits 10 (m % 10) = Nat.toDigits 10 (10 * (m / 10) + m % 10) := Nat.toDigits_append_toDigits (by decide) (by omega) hm
      rw [Nat.div_add_mod] at t
      have e3 : dg m = dg (m / 10) ++ dg (m % 10) := by unfold dg; rw [← t, List.map_append]
      rw [e3] at e
      cases hq : dg (m / 10) with
      | nil => exact absurd hq (dg_ne _)
      | cons c' r' =>
        rw [hq] at e
        have := (List.cons.inj e).1
        rw [← this]
        exact ih (m / 10) (by omega) (by omega) c' r' hq
theorem dg_lead {m : Nat} {c : Nat} {r : Cd} (h : dg m = c :: r) (hr : r ≠ []) : c ≠ 48 := by
  by_cases h0 : 0 < m
  · exact dg_head m h0 c r h
  · have : m = 0 := by omega
    subst this
    exfalso
    have e : dg 0 = [48] := by decide +kernel
    rw [e] at h
    exact hr (List.cons.inj h).2.symm
/-- the signs of a number -/
def sg10 (i : Int) : Cd := if i < 0 then 45 :: dg i.natAbs else dg i.natAbs
theorem toS_cd (i : Int) : cds (Str.ofString (toString i)) = sg10 i := by
  cases i with
  | ofNat m =>
    unfold sg10
    rw [if_neg (by show ¬ ((m : Int) < 0); omega)]
    exact W.KIN.signs_num m
  | negSucc m =>
    unfold sg10
    rw [if_pos (by exact Int.negSucc_lt_zero m)]
    show (Str.ofString (toString (Int.negSucc m))).cps.toList = _
    rw [signs_ofString]
    show ("-" ++ Nat.repr (m + 1)).toList.map Char.toNat = _
    rw [String.toList_append, List.map_append, Nat.toList_repr]
    rfl
theorem toS_st (i : Int) : Str.ofString (toString i) = stC (sg10 i) := by rw [← toS_cd, stC_cds]
theorem sg10_len {i : Int} {n : Nat} (h : i.natAbs < 10 ^ n) (hn : 0 < n) : (sg10 i).length ≤ n + 1 := by
  have := dg_len h hn
  unfold sg10
  split
  · rw [List.length_cons]; omega
  · omega
theorem int_dg {m : Nat} (h : m < 10 ^ 200) : PySem.intText? (stC (dg m)) = some (m : Int) := by
  have hl := dg_len h (by decide)
  have e := intText_digits (x := stC (dg m)) (by rw [show (stC (dg m)).cps.toList = dg m from cds_stC _]; exact dg_all m) (by rw [show (stC (dg m)).cps.toList = dg m from cds_stC _]; exact dg_ne m) (by rw [len_stC]; omega)
  rw [show (stC (dg m)).cps.toList = dg m from cds_stC _, dg_val] at e
  exact e
structure PotOk (l : List PyData) : Prop where
  ex : ∃ (ns : List Int) (i : Nat) (c s : Int), l = [.list (ns.map .int), .int i, .int c, .int s] ∧ i ≤ ns.length ∧ 0 ≤ c ∧ 0 ≤ s ∧ s < 2147483647
theorem small_mul {i : Int} {j : Int} (h : i.natAbs < 2 ^ 64) (h2 : j.natAbs < 2 ^ 64) : decide (CMulW i j) = true := decide_eq_true (wide_mul h h2 (by decide) (by decide) (by decide))
theorem next_spec {l : List PyData} {m : Int} (h : PotOk l) (hm : 0 < m) (hm2 : m.natAbs.log2 < 9000) : ∃ r l', F_u_law_next [.lst l, .dat (.int m)] = .ok (.dat (.int r)) [.lst l', .dat (.int m)] ∧ 0 ≤ r ∧ r < m ∧ PotOk l' := by
  obtain ⟨ns, i, c, s, rfl, hi, hc, hs, hs2⟩ := h.ex
  have m0 : decide ((0 : Int) < m) = true := decide_eq_true hm
  have mf : ∀ x, decide (CFd x m) = true := fun x => decide_eq_true ⟨by omega, hm2⟩
  have p1 : decide (CPow 10 18) = true := by decide
  have p2 : ((10 : Int) ^ (18 : Nat)) = 1000000000000000000 := by decide
  have r0 : ∀ x : Int, 0 ≤ x % m := fun x => Int.emod_nonneg x (by omega)
  have r1 : ∀ x : Int, x % m < m := fun x => Int.emod_lt_of_pos x hm
  have p3 : decide ((0 : Int) < 2147483647) = true := by decide
  have p4 : decide ((0 : Int) < 2147483629) = true := by decide
  have p5 : ∀ x, decide (CFd x 127) = true := fun x => decide_eq_true ⟨by decide, by decide⟩
  have big : ∀ (c : Int), 0 < c → ∃ r l', F_u_law_next [.lst [.list (ns.map .int), .int i, .int c, .int s], .dat (.int m)] = .ok (.dat (.int r)) [.lst l', .dat (.int m)] ∧ 0 ≤ r ∧ r < m ∧ PotOk l' := fun c hc => by
    have c1' : (c == 0) = false := beq_eq_false_iff_ne.mpr (by omega)
    have c2' : decide (0 < c) = true := decide_eq_true hc
    unfold F_u_law_next M_u_law_next
    simp -implicitDefEqProofs only [zR0, zR1, zR2, zR3, zR4, zR5, zR6, zR7, zR8, zR9, zR10, gAdd, gSub, gNeg, gNot, gLt, gLe, gGt, gGe, gLen, gAbs, gInt, gMax2, gMin2, gGcd, gList, gTuple, gAll, gAny, gPow, gMul, gFd, gMod, List.getElem?_cons_zero, List.getElem?_cons_succ, List.set_cons_zero, List.set_cons_succ, List.map_cons, List.map_nil, List.length_cons, List.length_nil, List.cons_append, List.nil_append, List.replicate_succ, List.replicate_zero, List.length_map, ↓cond_true, ↓cond_false, cond_true, cond_false, Option.map_some, beq_self_eq_true, List.contains_cons, List.contains_nil, Bool.or_false, Bool.false_or, Bool.or_true, Bool.and_true, Bool.true_and, Bool.not_true, Bool.not_false, Nat.reduceBEq, Nat.reduceAdd, Nat.reduceSub, Nat.reduceEqDiff, reduceCtorEq, Bool.false_eq_true, List.all_cons, List.all_nil, List.any_cons, List.any_nil, id, Int.reduceToNat, if_true, ite_true, if_false, eq_self, decide_true, decide_false, Option.map_none, forL_c, forL_n, cSeq_r, kr1_0, kr2_0, cLc_r, c1', c2', m0, mf]
    refine ⟨_, _, rfl, r0 _, r1 _, ⟨ns, i, _, s, rfl, hi, ?_, hs, hs2⟩⟩
    rw [Int.fdiv_eq_ediv_of_nonneg _ (by omega)]
    exact Int.ediv_nonneg (by omega) (by omega)
  by_cases c0 : c = 0
  · subst c0
    have z0 : decide ((0 : Int) < 0) = false := by decide
    by_cases hlt : i < ns.length
    · have hx : atI (ns.map PyData.int) (i : Int) = some (.int ns[i]) := by rw [atI_lt (by simpa using hlt)]; simp
      have hl : decide ((i : Int) < (ns.length : Int)) = true := decide_eq_true (by omega)
      obtain ⟨v, hv⟩ : ∃ v, v = (if ns[i] < 0 then -ns[i] else ns[i]) := ⟨_, rfl⟩
      have hv0 : 0 ≤ v := by rw [hv]; split <;> omega
      by_cases hs18 : v < 1000000000000000000
      · have d18 : decide (v < 1000000000000000000) = true := decide_eq_true hs18
        unfold F_u_law_next M_u_law_next
        simp -implicitDefEqProofs only [zR0, zR1, zR2, zR3, zR4, zR5, zR6, zR7, zR8, zR9, zR10, gAdd, gSub, gNeg, gNot, gLt, gLe, gGt, gGe, gLen, gAbs, gInt, gMax2, gMin2, gGcd, gList, gTuple, gAll, gAny, gPow, gMul, gFd, gMod, List.getElem?_cons_zero, List.getElem?_cons_succ, List.set_cons_zero, List.set_cons_succ, List.map_cons, List.map_nil, List.length_cons, List.length_nil, List.cons_append, List.nil_append, List.replicate_succ, List.replicate_zero, List.length_map, ↓cond_true, ↓cond_false, cond_true, cond_false, Option.map_some, beq_self_eq_true, List.contains_cons, List.contains_nil, Bool.or_false, Bool.false_or, Bool.or_true, Bool.and_true, Bool.true_and, Bool.not_true, Bool.not_false, Nat.reduceBEq, Nat.reduceAdd, Nat.reduceSub, Nat.reduceEqDiff, reduceCtorEq, Bool.false_eq_true, List.all_cons, List.all_nil, List.any_cons, List.any_nil, id, Int.reduceToNat, if_true, ite_true, if_false, eq_self, decide_true, decide_false, Option.map_none, forL_c, forL_n, cSeq_r, kr1_0, kr2_0, cLc_r, hl, hx, ← hv, p1, p2, d18, m0]
        exact ⟨_, _, rfl, r0 _, r1 _, ⟨ns, i + 1, 0, s, by simp, by omega, by omega, hs, hs2⟩⟩
      · have d18 : decide (v < 1000000000000000000) = false := decide_eq_false hs18
        have c2' : decide (0 < v) = true := decide_eq_true (by omega)
        unfold F_u_law_next M_u_law_next
        simp -implicitDefEqProofs only [zR0, zR1, zR2, zR3, zR4, zR5, zR6, zR7, zR8, zR9, zR10, gAdd, gSub, gNeg, gNot, gLt, gLe, gGt, gGe, gLen, gAbs, gInt, gMax2, gMin2, gGcd, gList, gTuple, gAll, gAny, gPow, gMul, gFd, gMod, List.getElem?_cons_zero, List.getElem?_cons_succ, List.set_cons_zero, List.set_cons_succ, List.map_cons, List.map_nil, List.length_cons, List.length_nil, List.cons_append, List.nil_append, List.replicate_succ, List.replicate_zero, List.length_map, ↓cond_true, ↓cond_false, cond_true, cond_false, Option.map_some, beq_self_eq_true, List.contains_cons, List.contains_nil, Bool.or_false, Bool.false_or, Bool.or_true, Bool.and_true, Bool.true_and, Bool.not_true, Bool.not_false, Nat.reduceBEq, Nat.reduceAdd, Nat.reduceSub, Nat.reduceEqDiff, reduceCtorEq, Bool.false_eq_true, List.all_cons, List.all_nil, List.any_cons, List.any_nil, id, Int.reduceToNat, if_true, ite_true, if_false, eq_self, decide_true, decide_false, Option.map_none, forL_c, forL_n, cSeq_r, kr1_0, kr2_0, cLc_r, hl, hx, ← hv, p1, p2, d18, m0, c2', mf]
        refine ⟨_, _, rfl, r0 _, r1 _, ⟨ns, i + 1, _, s, rfl, by omega, ?_, hs, hs2⟩⟩
        rw [Int.fdiv_eq_ediv_of_nonneg _ (by omega)]
        exact Int.ediv_nonneg (by omega) (by omega)
    · have hl : decide ((i : Int) < (ns.length : Int)) = false := decide_eq_false (by omega)
      have mu1 : decide (CMulW s 48271) = true := small_mul (by omega) (by decide)
      obtain ⟨t, ht⟩ : ∃ t, t = (s * 48271 + 12345) % 2147483647 := ⟨_, rfl⟩
      have ht0 : 0 ≤ t ∧ t < 2147483647 := by omega
      have mu2 : decide (CMulW t 69621) = true := small_mul (by omega) (by decide)
      unfold F_u_law_next M_u_law_next
      simp -implicitDefEqProofs only [zR0, zR1, zR2, zR3, zR4, zR5, zR6, zR7, zR8, zR9, zR10, gAdd, gSub, gNeg, gNot, gLt, gLe, gGt, gGe, gLen, gAbs, gInt, gMax2, gMin2, gGcd, gList, gTuple, gAll, gAny, gPow, gMul, gFd, gMod, List.getElem?_cons_zero, List.getElem?_cons_succ, List.set_cons_zero, List.set_cons_succ, List.map_cons, List.map_nil, List.length_cons, List.length_nil, List.cons_append, List.nil_append, List.replicate_succ, List.replicate_zero, List.length_map, ↓cond_true, ↓cond_false, cond_true, cond_false, Option.map_some, beq_self_eq_true, List.contains_cons, List.contains_nil, Bool.or_false, Bool.false_or, Bool.or_true, Bool.and_true, Bool.true_and, Bool.not_true, Bool.not_false, Nat.reduceBEq, Nat.reduceAdd, Nat.reduceSub, Nat.reduceEqDiff, reduceCtorEq, Bool.false_eq_true, List.all_cons, List.all_nil, List.any_cons, List.any_nil, id, Int.reduceToNat, if_true, ite_true, if_false, eq_self, decide_true, decide_false, Option.map_none, forL_c, forL_n, cSeq_r, kr1_0, kr2_0, cLc_r, hl, z0, mu1, p3, ← ht, mu2, p5, p4, m0]
      exact ⟨_, _, rfl, r0 _, r1 _, ⟨ns, i, 0, t, rfl, hi, by omega, ht0.1, ht0.2⟩⟩
  · exact big c (by omega)
theorem pot_spec (ns : List Int) : ∃ l, F_u_law_pot [.dat (.list (ns.map .int))] = .ok (.lst l) [.dat (.list (ns.map .int))] ∧ PotOk l := by
  obtain ⟨ρ', e, _, s, x, rfl, h0, h1⟩ := forL_nx (g := cgName 2) (body := L_u_law_pot_0)
    (fun ds ρ => (∃ ms : List Int, ds = ms.map .int) ∧ ∃ (s : Int) (x : Option S), ρ = [some (.dat (.list (ns.map .int))), some (.dat (.int s)), x] ∧ 0 ≤ s ∧ s < 2147483647)
    (fun d ds ρ h => by
      obtain ⟨⟨ms, hm⟩, s, x, rfl, h0, h1⟩ := h
      cases ms with
      | nil => cases hm
      | cons m ms =>
        cases hm
        have mu : decide (CMulW s 31) = true := small_mul (by omega) (by decide)
        have p3 : decide ((0 : Int) < 2147483647) = true := by decide
        refine ⟨_, _, rfl, ?_, ⟨ms, rfl⟩, (s * 31 + m) % 2147483647, some (.dat (.int m)), rfl, by omega, by omega⟩
        simp only [L_u_law_pot_0, zR0, zR1, zR2, zR3, zR4, zR5, zR6, zR7, zR8, zR9, zR10, gAdd, gSub, gNeg, gNot, gLt, gLe, gGt, gGe, gLen, gAbs, gInt, gMax2, gMin2, gGcd, gList, gTuple, gAll, gAny, gPow, gMul, gFd, gMod, List.getElem?_cons_zero, List.getElem?_cons_succ, List.set_cons_zero, List.set_cons_succ, List.map_cons, List.map_nil, List.length_cons, List.length_nil, List.cons_append, List.nil_append, List.replicate_succ, List.replicate_zero, List.length_map, ↓cond_true, ↓cond_false, cond_true, cond_false, Option.map_some, beq_self_eq_true, List.contains_cons, List.contains_nil, Bool.or_false, Bool.false_or, Bool.or_true, Bool.and_true, Bool.true_and, Bool.not_true, Bool.not_false, Nat.reduceBEq, Nat.reduceAdd, Nat.reduceSub, Nat.reduceEqDiff, reduceCtorEq, Bool.false_eq_true, List.all_cons, List.all_nil, List.any_cons, List.any_nil, id, Int.reduceToNat, if_true, ite_true, if_false, eq_self, decide_true, decide_false, Option.map_none, forL_c, forL_n, cSeq_r, kr1_0, kr2_0, cLc_r, mu, p3]) (ns.map .int) [some (.dat (.list (ns.map .int))), some (.dat (.int 1)), none] ⟨⟨ns, rfl⟩, 1, none, rfl, by omega, by omega⟩
  refine ⟨[.list (ns.map .int), .int (0 : Nat), .int 0, .int s], ?_, ⟨ns, 0, 0, s, rfl, by omega, by omega, h0, h1⟩⟩
  unfold F_u_law_pot M_u_law_pot
  simp -implicitDefEqProofs only [zR0, zR1, zR2, zR3, zR4, zR5, zR6, zR7, zR8, zR9, zR10, gAdd, gSub, gNeg, gNot, gLt, gLe, gGt, gGe, gLen, gAbs, gInt, gMax2, gMin2, gGcd, gList, gTuple, gAll, gAny, gPow, gMul, gFd, gMod, List.getElem?_cons_zero, List.getElem?_cons_succ, List.set_cons_zero, List.set_cons_succ, List.map_cons, List.map_nil, List.length_cons, List.length_nil, List.cons_append, List.nil_append, List.replicate_succ, List.replicate_zero, List.length_map, ↓cond_true, ↓cond_false, cond_true, cond_false, Option.map_some, beq_self_eq_true, List.contains_cons, List.contains_nil, Bool.or_false, Bool.false_or, Bool.or_true, Bool.and_true, Bool.true_and, Bool.not_true, Bool.not_false, Nat.reduceBEq, Nat.reduceAdd, Nat.reduceSub, Nat.reduceEqDiff, reduceCtorEq, Bool.false_eq_true, List.all_cons, List.all_nil, List.any_cons, List.any_nil, id, Int.reduceToNat, if_true, ite_true, if_false, eq_self, decide_true, decide_false, Option.map_none, forL_c, forL_n, cSeq_r, kr1_0, kr2_0, cLc_r, e]
end Z
set_option maxHeartbeats 1000000
namespace Z
open PySem PySem.Spec PyProof.Rows L2
/-! ### what is written -/
mutual
def wr : PyData → Cd
  | .int i => sg10 i
  | .str z => dg z.length ++ 58 :: cds z
  | .tuple l => 40 :: (wrs l ++ [41])
  | .none => []
  | .bool _ => []
  | .list _ => []
  | .dict _ => []
def wrs : List PyData → Cd
  | [] => []
  | d :: ds => wr d ++ wrt ds
def wrt : List PyData → Cd
  | [] => []
  | d :: ds => 44 :: (wr d ++ wrt ds)
end
/-- a thing of numbers, texts and tuples -/
inductive Thg : Nat → PyData → Prop where
  | int {n : Nat} (i : Int) (h : i.natAbs < 10 ^ 200) : Thg n (.int i)
  | str {n : Nat} (z : Str) (h : z.length ≤ 99) (ok : PyData.strOk z = true) : Thg n (.str z)
  | tup {n : Nat} (ds : List PyData) (hl : ds.length ≤ 1000) (h : ∀ d ∈ ds, Thg n d) : Thg (n + 1) (.tuple ds)
theorem join_c : ∀ {ds : List PyData}, cds (Str.join (Str.ofString ",") (ds.map fun d => stC (wr d))) = wrs ds
  | [] => rfl
  | [d] => by
    show cds (stC (wr d)) = wr d ++ []
    rw [cds_stC, List.append_nil]
  | d :: e :: ds => by
    have ih := join_c (ds := e :: ds)
    show cds (stC (wr d) ++ Str.ofString "," ++ Str.join (Str.ofString ",") ((e :: ds).map fun d => stC (wr d))) = wr d ++ 44 :: (wr e ++ wrt ds)
    rw [cds_app, cds_app, cds_stC, ih]
    have e1 : cds (Str.ofString ",") = [44] := by decide +kernel
    rw [e1, List.append_assoc]
    rfl
theorem wrs_len : ∀ {ds : List PyData}, ((ds.map fun d => stC (wr d)).map (·.length)).sum + ds.length ≤ (wrs ds).length + 1
  | [] => Nat.zero_le _
  | d :: ds => by
    have t : ∀ ds : List PyData, ((ds.map fun d => stC (wr d)).map (·.length)).sum + ds.length ≤ (wrt ds).length := by
      intro ds
      induction ds with
      | nil => exact Nat.le_refl _
      | cons e es ih =>
        rw [List.map_cons, List.map_cons, List.sum_cons, List.length_cons, len_stC]
        show _ ≤ (44 :: (wr e ++ wrt es)).length
        rw [List.length_cons, List.length_append]
        omega
    have := t ds
    rw [List.map_cons, List.map_cons, List.sum_cons, List.length_cons, len_stC]
    show _ ≤ (wr d ++ wrt ds).length + 1
    rw [List.length_append]
    omega
theorem wrs_mem : ∀ {ds : List PyData} {d : PyData}, d ∈ ds → (wr d).length ≤ (wrs ds).length
  | e :: ds, d, h => by
    have t : ∀ (ds : List PyData) (d : PyData), d ∈ ds → (wr d).length ≤ (wrt ds).length := by
      intro ds
      induction ds with
      | nil => intro d h; cases h
      | cons e es ih =>
        intro d h
        show _ ≤ (44 :: (wr e ++ wrt es)).length
        rw [List.length_cons, List.length_append]
        rcases List.mem_cons.mp h with rfl | h
        · omega
        · have := ih d h; omega
    show _ ≤ (wr e ++ wrt ds).length
    rw [List.length_append]
    rcases List.mem_cons.mp h with rfl | h
    · omega
    · have := t ds d h; omega
theorem log_200 {i : Int} (h : i.natAbs < 10 ^ 200) : i.natAbs.log2 < 1920 := by
  by_cases h0 : i.natAbs = 0
  · rw [h0]; decide
  · rw [Nat.log2_lt h0]
    exact Nat.lt_of_lt_of_le h (by decide +kernel)
theorem isn_int {i : Int} : F_is_number [.dat (.int i)] = .ok (.dat (.bool true)) [.dat (.int i)] := by
  unfold F_is_number M_is_number
  simp -implicitDefEqProofs only [zR0, zR1, zR2, zR3, zR4, zR5, zR6, zR7, zR8, zR9, zR10, gAdd, gSub, gNeg, gNot, gLt, gLe, gGt, gGe, gLen, gAbs, gInt, gMax2, gMin2, gGcd, gList, gTuple, gAll, gAny, gPow, gMul, gFd, gMod, List.getElem?_cons_zero, List.getElem?_cons_succ, List.set_cons_zero, List.set_cons_succ, List.map_cons, List.map_nil, List.length_cons, List.length_nil, List.cons_append, List.nil_append, List.replicate_succ, List.replicate_zero, List.length_map, ↓cond_true, ↓cond_false, cond_true, cond_false, Option.map_some, beq_self_eq_true, List.contains_cons, List.contains_nil, Bool.or_false, Bool.false_or, Bool.or_true, Bool.and_true, Bool.true_and, Bool.not_true, Bool.not_false, Nat.reduceBEq, Nat.reduceAdd, Nat.reduceSub, Nat.reduceEqDiff, reduceCtorEq, Bool.false_eq_true, List.all_cons, List.all_nil, List.any_cons, List.any_nil, id, Int.reduceToNat, if_true, ite_true, if_false, eq_self, decide_true, decide_false, Option.map_none, forL_c, forL_n, cSeq_r, kr1_0, kr2_0, cLc_r, gIsi]
  try rfl
theorem isn_str {z : Str} : F_is_number [.dat (.str z)] = .ok (.dat (.bool false)) [.dat (.str z)] := by
  unfold F_is_number M_is_number
  simp -implicitDefEqProofs only [zR0, zR1, zR2, zR3, zR4, zR5, zR6, zR7, zR8, zR9, zR10, gAdd, gSub, gNeg, gNot, gLt, gLe, gGt, gGe, gLen, gAbs, gInt, gMax2, gMin2, gGcd, gList, gTuple, gAll, gAny, gPow, gMul, gFd, gMod, List.getElem?_cons_zero, List.getElem?_cons_succ, List.set_cons_zero, List.set_cons_succ, List.map_cons, List.map_nil, List.length_cons, List.length_nil, List.cons_append, List.nil_append, List.replicate_succ, List.replicate_zero, List.length_map, ↓cond_true, ↓cond_false, cond_true, cond_false, Option.map_some, beq_self_eq_true, List.contains_cons, List.contains_nil, Bool.or_false, Bool.false_or, Bool.or_true, Bool.and_true, Bool.true_and, Bool.not_true, Bool.not_false, Nat.reduceBEq, Nat.reduceAdd, Nat.reduceSub, Nat.reduceEqDiff, reduceCtorEq, Bool.false_eq_true, List.all_cons, List.all_nil, List.any_cons, List.any_nil, id, Int.reduceToNat, if_true, ite_true, if_false, eq_self, decide_true, decide_false, Option.map_none, forL_c, forL_n, cSeq_r, kr1_0, kr2_0, cLc_r, gIsi]
  try rfl
theorem isn_tup {l : List PyData} : F_is_number [.dat (.tuple l)] = .ok (.dat (.bool false)) [.dat (.tuple l)] := by
  unfold F_is_number M_is_number
  simp -implicitDefEqProofs only [zR0, zR1, zR2, zR3, zR4, zR5, zR6, zR7, zR8, zR9, zR10, gAdd, gSub, gNeg, gNot, gLt, gLe, gGt, gGe, gLen, gAbs, gInt, gMax2, gMin2, gGcd, gList, gTuple, gAll, gAny, gPow, gMul, gFd, gMod, List.getElem?_cons_zero, List.getElem?_cons_succ, List.set_cons_zero, List.set_cons_succ, List.map_cons, List.map_nil, List.length_cons, List.length_nil, List.cons_append, List.nil_append, List.replicate_succ, List.replicate_zero, List.length_map, ↓cond_true, ↓cond_false, cond_true, cond_false, Option.map_some, beq_self_eq_true, List.contains_cons, List.contains_nil, Bool.or_false, Bool.false_or, Bool.or_true, Bool.and_true, Bool.true_and, Bool.not_true, Bool.not_false, Nat.reduceBEq, Nat.reduceAdd, Nat.reduceSub, Nat.reduceEqDiff, reduceCtorEq, Bool.false_eq_true, List.all_cons, List.all_nil, List.any_cons, List.any_nil, id, Int.reduceToNat, if_true, ite_true, if_false, eq_self, decide_true, decide_false, Option.map_none, forL_c, forL_n, cSeq_r, kr1_0, kr2_0, cLc_r, gIsi]
  try rfl
end Z
set_option maxHeartbeats 1000000
namespace Z
open PySem PySem.Spec PyProof.Rows L2
/-! ### write, walked -/
theorem mk12 {c : CS} {s : S} : mkF 1 2 [] c [s] = finish [] [s] (c [some s, none]) := rfl
theorem len_sg {n : Nat} (h : n ≤ 100000) : (dg n).length ≤ 6 := dg_len (Nat.lt_of_le_of_lt h (by decide)) (by decide)
theorem nat_st (n : Nat) : Str.ofString (toString ((n : Nat) : Int)) = stC (dg n) := by
  rw [toS_st]
  unfold sg10
  rw [if_neg (by omega)]
  rfl
theorem cds_lit1 : cds (Str.ofString ":") = [58] ∧ cds (Str.ofString "(") = [40] ∧ cds (Str.ofString ")") = [41] ∧ cds (Str.ofString ",") = [44] := ⟨by decide +kernel, by decide +kernel, by decide +kernel, by decide +kernel⟩
theorem lit_st : Str.ofString ":" = stC [58] ∧ Str.ofString "(" = stC [40] ∧ Str.ofString ")" = stC [41] ∧ Str.ofString "," = stC [44] := by
  obtain ⟨a, b, c, d⟩ := cds_lit1
  exact ⟨cds_inj (by rw [a, cds_stC]), cds_inj (by rw [b, cds_stC]), cds_inj (by rw [c, cds_stC]), cds_inj (by rw [d, cds_stC])⟩
theorem join_st {ds : List PyData} : Str.join (Str.ofString ",") (ds.map fun d => stC (wr d)) = stC (wrs ds) := cds_inj (by rw [join_c, cds_stC])
theorem fmtD_i {i : Int} (h : i.natAbs.log2 < 1920) : fmtD (.int i) = some (Str.ofString (toString i)) := by
  show (bif decide (i.natAbs.log2 < 1920) then _ else _) = _
  rw [decide_eq_true h]
  rfl
theorem fmtD_s {y : Str} (h : y.length ≤ sizeLine) : fmtD (.str y) = some y := by
  show (bif decide (y.length ≤ sizeLine) then _ else _) = _
  rw [decide_eq_true h]
  rfl
theorem js_spec {z : Str} (h : z.length ≤ 99) : cJs [cB1 gLen (cbN 0), cK (.str (":" : Str)), cV 0] [some (.dat (.str z)), none] = .ok (.dat (.str (stC (dg z.length ++ 58 :: cds z)))) [some (.dat (.str z)), none] := by
  have cl := ch_cls
  have hz : decide (z.length ≤ sizeLine) = true := decide_eq_true (by omega)
  have hn := len_sg (n := z.length) (by omega)
  have c1 : cB1 gLen (cbN 0) [some (.dat (.str z)), none] = .ok (.dat (.int (z.length : Int))) [some (.dat (.str z)), none] := by
    simp -implicitDefEqProofs only [zR0, zR1, zR2, zR3, zR4, zR5, zR6, zR7, zR8, zR9, zR10, gAdd, gSub, gNeg, gNot, gLt, gLe, gGt, gGe, gLen, gAbs, gInt, gMax2, gMin2, gGcd, gList, gTuple, gAll, gAny, gPow, gMul, gFd, gMod, List.getElem?_cons_zero, List.getElem?_cons_succ, List.set_cons_zero, List.set_cons_succ, List.map_cons, List.map_nil, List.length_cons, List.length_nil, List.cons_append, List.nil_append, List.replicate_succ, List.replicate_zero, List.length_map, ↓cond_true, ↓cond_false, cond_true, cond_false, Option.map_some, beq_self_eq_true, List.contains_cons, List.contains_nil, Bool.or_false, Bool.false_or, Bool.or_true, Bool.and_true, Bool.true_and, Bool.not_true, Bool.not_false, Nat.reduceBEq, Nat.reduceAdd, Nat.reduceSub, Nat.reduceEqDiff, reduceCtorEq, Bool.false_eq_true, List.all_cons, List.all_nil, List.any_cons, List.any_nil, id, Int.reduceToNat, if_true, ite_true, if_false, eq_self, decide_true, decide_false, Option.map_none, forL_c, forL_n, cSeq_r, kr1_0, kr2_0, cLc_r, hz]
  have f1 : fmtD (.int (z.length : Int)) = some (stC (dg z.length)) := by
    rw [fmtD_i (log_200 (by
      have : (z.length : Int).natAbs = z.length := rfl
      rw [this]
      exact Nat.lt_of_le_of_lt h (by decide +kernel))), nat_st]
  have f2 : fmtD (.str (":" : Str)) = some (stC [58]) := by
    rw [show (":" : Str) = Str.ofString ":" from rfl, lit_st.1]
    exact fmtD_s (by rw [len_stC]; simp only [List.length_cons, List.length_nil]; omega)
  have f3 : fmtD (.str z) = some z := fmtD_s (by omega)
  have e0 : (Str.empty : Str).length = 0 := rfl
  rw [cJs_r, jsG_c, c1, kJsG_s f1 (by rw [Str.length_append, e0, len_stC]; omega), jsG_c, show cK (.str (":" : Str)) [some (.dat (.str z)), none] = .ok (.dat (.str (":" : Str))) [some (.dat (.str z)), none] from rfl,
    kJsG_s f2 (by rw [Str.length_append, Str.length_append, e0, len_stC, len_stC]; simp only [List.length_cons, List.length_nil]; omega), jsG_c, show cV 0 [some (.dat (.str z)), none] = .ok (.dat (.str z)) [some (.dat (.str z)), none] from rfl,
    kJsG_s f3 (by rw [Str.length_append, Str.length_append, Str.length_append, e0, len_stC, len_stC]; simp only [List.length_cons, List.length_nil]; omega), jsG_n]
  congr 3
  refine cds_inj ?_
  rw [cds_app, cds_app, cds_app, cds_stC, cds_stC, cds_stC, show cds Str.empty = [] from rfl, List.nil_append, List.append_assoc]
  rfl
theorem wr_join {ds : List PyData} (h : (wrs ds).length ≤ 50000) : gJoin (.str ("," : Str)) (.list (ds.map fun d => .str (stC (wr d)))) = some (.dat (.str (stC (wrs ds)))) := by
  have := gJoin_t (sep := Str.ofString ",") (ys := ds.map fun d => stC (wr d)) (by
    have := wrs_len (ds := ds)
    have e : (Str.ofString ",").length = 1 := by rw [len_cds, cds_lit1.2.2.2]; rfl
    rw [e, Nat.mul_one, List.length_map]
    omega)
  rw [join_st, List.map_map] at this
  exact this
theorem kJoin2_ll {sep : Str} {l : List PyData} {ρ : En} : kJoin2 (.ok (.lst l) ρ) sep = R.lift (gJoin (.str sep) (.list l)) ρ := rfl
theorem par_st {c : Cd} : Str.ofString "(" ++ stC c ++ Str.ofString ")" = stC (40 :: (c ++ [41])) := by
  rw [lit_st.2.1, lit_st.2.2.1, ← stC_app, ← stC_app]
  rfl
theorem tup_st {F : Fn} {ds : List PyData} (h : (wrs ds).length ≤ 50000) (hl : ds.length ≤ 1000) (ih : ∀ d ∈ ds, F [.dat d] = .ok (.dat (.str (stC (wr d)))) [.dat d]) :
    c2 gAdd (c2 gAdd (cK (.str ("(" : Str))) (cJoin (cK (.str ("," : Str))) (cLc [1] (ciSeq (cV 0)) (cgName 1) (cK (.bool true)) (cCall F (cxD (cV 1) (cxNil)))))) (cK (.str (")" : Str))) [some (.dat (.tuple ds)), none] = .ok (.dat (.str (stC (wr (.tuple ds))))) [some (.dat (.tuple ds)), none] := by
  have cl := ch_cls
  have lc : cLc [1] (ciSeq (cV 0)) (cgName 1) (cK (.bool true)) (cCall F (cxD (cV 1) (cxNil))) [some (.dat (.tuple ds)), none] = .ok (.lst (ds.map fun d => .str (stC (wr d)))) [some (.dat (.tuple ds)), none] := by
    refine cLc_map (ρ1 := [some (.dat (.tuple ds)), none]) (ds := ds) (fun d => .str (stC (wr d))) (by simp -implicitDefEqProofs only [zR0, zR1, zR2, zR3, zR4, zR5, zR6, zR7, zR8, zR9, zR10, gAdd, gSub, gNeg, gNot, gLt, gLe, gGt, gGe, gLen, gAbs, gInt, gMax2, gMin2, gGcd, gList, gTuple, gAll, gAny, gPow, gMul, gFd, gMod, List.getElem?_cons_zero, List.getElem?_cons_succ, List.set_cons_zero, List.set_cons_succ, List.map_cons, List.map_nil, List.length_cons, List.length_nil, List.cons_append, List.nil_append, List.replicate_succ, List.replicate_zero, List.length_map, ↓cond_true, ↓cond_false, cond_true, cond_false, Option.map_some, beq_self_eq_true, List.contains_cons, List.contains_nil, Bool.or_false, Bool.false_or, Bool.or_true, Bool.and_true, Bool.true_and, Bool.not_true, Bool.not_false, Nat.reduceBEq, Nat.reduceAdd, Nat.reduceSub, Nat.reduceEqDiff, reduceCtorEq, Bool.false_eq_true, List.all_cons, List.all_nil, List.any_cons, List.any_nil, id, Int.reduceToNat, if_true, ite_true, if_false, eq_self, decide_true, decide_false, Option.map_none, forL_c, forL_n, cSeq_r, kr1_0, kr2_0, cLc_r]) rfl (by omega) fun d hd => ?_
    refine ⟨[some (.dat (.tuple ds)), some (.dat d)], [some (.dat (.tuple ds)), some (.dat d)], [some (.dat (.tuple ds)), some (.dat d)], .dat (.str (stC (wr d))), rfl, rfl, by simp -implicitDefEqProofs only [zR0, zR1, zR2, zR3, zR4, zR5, zR6, zR7, zR8, zR9, zR10, gAdd, gSub, gNeg, gNot, gLt, gLe, gGt, gGe, gLen, gAbs, gInt, gMax2, gMin2, gGcd, gList, gTuple, gAll, gAny, gPow, gMul, gFd, gMod, List.getElem?_cons_zero, List.getElem?_cons_succ, List.set_cons_zero, List.set_cons_succ, List.map_cons, List.map_nil, List.length_cons, List.length_nil, List.cons_append, List.nil_append, List.replicate_succ, List.replicate_zero, List.length_map, ↓cond_true, ↓cond_false, cond_true, cond_false, Option.map_some, beq_self_eq_true, List.contains_cons, List.contains_nil, Bool.or_false, Bool.false_or, Bool.or_true, Bool.and_true, Bool.true_and, Bool.not_true, Bool.not_false, Nat.reduceBEq, Nat.reduceAdd, Nat.reduceSub, Nat.reduceEqDiff, reduceCtorEq, Bool.false_eq_true, List.all_cons, List.all_nil, List.any_cons, List.any_nil, id, Int.reduceToNat, if_true, ite_true, if_false, eq_self, decide_true, decide_false, Option.map_none, forL_c, forL_n, cSeq_r, kr1_0, kr2_0, cLc_r, ih d hd], rfl, rfl⟩
  have j := wr_join h
  have l1 : (Str.ofString "(").length = 1 := by rw [len_cds, cds_lit1.2.1]; rfl
  have l2 : (Str.ofString ")").length = 1 := by rw [len_cds, cds_lit1.2.2.1]; rfl
  have z1 : decide ((Str.ofString "(").length + (stC (wrs ds)).length ≤ sizeLine) = true := decide_eq_true (by rw [l1, len_stC]; omega)
  have z2 : decide ((Str.ofString "(" ++ stC (wrs ds)).length + (Str.ofString ")").length ≤ sizeLine) = true := decide_eq_true (by rw [Str.length_append, l1, l2, len_stC]; omega)
  have e : wr (.tuple ds) = 40 :: (wrs ds ++ [41]) := by rw [wr]
  rw [e, ← par_st]
  simp -implicitDefEqProofs only [zR0, zR1, zR2, zR3, zR4, zR5, zR6, zR7, zR8, zR9, zR10, gAdd, gSub, gNeg, gNot, gLt, gLe, gGt, gGe, gLen, gAbs, gInt, gMax2, gMin2, gGcd, gList, gTuple, gAll, gAny, gPow, gMul, gFd, gMod, List.getElem?_cons_zero, List.getElem?_cons_succ, List.set_cons_zero, List.set_cons_succ, List.map_cons, List.map_nil, List.length_cons, List.length_nil, List.cons_append, List.nil_append, List.replicate_succ, List.replicate_zero, List.length_map, ↓cond_true, ↓cond_false, cond_true, cond_false, Option.map_some, beq_self_eq_true, List.contains_cons, List.contains_nil, Bool.or_false, Bool.false_or, Bool.or_true, Bool.and_true, Bool.true_and, Bool.not_true, Bool.not_false, Nat.reduceBEq, Nat.reduceAdd, Nat.reduceSub, Nat.reduceEqDiff, reduceCtorEq, Bool.false_eq_true, List.all_cons, List.all_nil, List.any_cons, List.any_nil, id, Int.reduceToNat, if_true, ite_true, if_false, eq_self, decide_true, decide_false, Option.map_none, forL_c, forL_n, cJoin_r, lc, kJoin2_ll, j, z1, z2]
theorem write_spec : ∀ (n : Nat) {d : PyData}, Thg n d → (wr d).length ≤ 50000 → F_write (n + 1) [.dat d] = .ok (.dat (.str (stC (wr d)))) [.dat d] := by
  intro n
  induction n with
  | zero =>
    intro d h hl
    cases h with
    | int i h =>
      have l := decide_eq_true (log_200 h)
      have e : wr (.int i) = sg10 i := by rw [wr]
      rw [e, ← toS_st]
      show mkF 1 2 [] (M_write (F_write 0)) _ = _
      unfold M_write
      rw [mk12, cSeq_r]
      simp -implicitDefEqProofs only [zR0, zR1, zR2, zR3, zR4, zR5, zR6, zR7, zR8, zR9, zR10, gAdd, gSub, gNeg, gNot, gLt, gLe, gGt, gGe, gLen, gAbs, gInt, gMax2, gMin2, gGcd, gList, gTuple, gAll, gAny, gPow, gMul, gFd, gMod, List.getElem?_cons_zero, List.getElem?_cons_succ, List.set_cons_zero, List.set_cons_succ, List.map_cons, List.map_nil, List.length_cons, List.length_nil, List.cons_append, List.nil_append, List.replicate_succ, List.replicate_zero, List.length_map, ↓cond_true, ↓cond_false, cond_true, cond_false, Option.map_some, beq_self_eq_true, List.contains_cons, List.contains_nil, Bool.or_false, Bool.false_or, Bool.or_true, Bool.and_true, Bool.true_and, Bool.not_true, Bool.not_false, Nat.reduceBEq, Nat.reduceAdd, Nat.reduceSub, Nat.reduceEqDiff, reduceCtorEq, Bool.false_eq_true, List.all_cons, List.all_nil, List.any_cons, List.any_nil, id, Int.reduceToNat, if_true, ite_true, if_false, eq_self, decide_true, decide_false, Option.map_none, forL_c, forL_n, isn_int, gStr, l]
    | str z h ok =>
      have e : wr (.str z) = dg z.length ++ 58 :: cds z := by rw [wr]
      rw [e]
      show mkF 1 2 [] (M_write (F_write 0)) _ = _
      unfold M_write
      rw [mk12, cSeq_r]
      simp -implicitDefEqProofs only [zR0, zR1, zR2, zR3, zR4, zR5, zR6, zR7, zR8, zR9, zR10, gAdd, gSub, gNeg, gNot, gLt, gLe, gGt, gGe, gLen, gAbs, gInt, gMax2, gMin2, gGcd, gList, gTuple, gAll, gAny, gPow, gMul, gFd, gMod, List.getElem?_cons_zero, List.getElem?_cons_succ, List.set_cons_zero, List.set_cons_succ, List.map_cons, List.map_nil, List.length_cons, List.length_nil, List.cons_append, List.nil_append, List.replicate_succ, List.replicate_zero, List.length_map, ↓cond_true, ↓cond_false, cond_true, cond_false, Option.map_some, beq_self_eq_true, List.contains_cons, List.contains_nil, Bool.or_false, Bool.false_or, Bool.or_true, Bool.and_true, Bool.true_and, Bool.not_true, Bool.not_false, Nat.reduceBEq, Nat.reduceAdd, Nat.reduceSub, Nat.reduceEqDiff, reduceCtorEq, Bool.false_eq_true, List.all_cons, List.all_nil, List.any_cons, List.any_nil, id, Int.reduceToNat, if_true, ite_true, if_false, eq_self, decide_true, decide_false, Option.map_none, forL_c, forL_n, isn_str]
      rw [cSeq_r]
      have g : gIsi "str" (.str z) = some (.dat (.bool true)) := rfl
      simp -implicitDefEqProofs only [zR0, zR1, zR2, zR3, zR4, zR5, zR6, zR7, zR8, zR9, zR10, gAdd, gSub, gNeg, gNot, gLt, gLe, gGt, gGe, gLen, gAbs, gInt, gMax2, gMin2, gGcd, gList, gTuple, gAll, gAny, gPow, gMul, gFd, gMod, List.getElem?_cons_zero, List.getElem?_cons_succ, List.set_cons_zero, List.set_cons_succ, List.map_cons, List.map_nil, List.length_cons, List.length_nil, List.cons_append, List.nil_append, List.replicate_succ, List.replicate_zero, List.length_map, ↓cond_true, ↓cond_false, cond_true, cond_false, Option.map_some, beq_self_eq_true, List.contains_cons, List.contains_nil, Bool.or_false, Bool.false_or, Bool.or_true, Bool.and_true, Bool.true_and, Bool.not_true, Bool.not_false, Nat.reduceBEq, Nat.reduceAdd, Nat.reduceSub, Nat.reduceEqDiff, reduceCtorEq, Bool.false_eq_true, List.all_cons, List.all_nil, List.any_cons, List.any_nil, id, Int.reduceToNat, if_true, ite_true, if_false, eq_self, decide_true, decide_false, Option.map_none, forL_c, forL_n, g, js_spec h]
  | succ n ih =>
    intro d h hl
    cases h with
    | int i h =>
      have l := decide_eq_true (log_200 h)
      have e : wr (.int i) = sg10 i := by rw [wr]
      rw [e, ← toS_st]
      show mkF 1 2 [] (M_write (F_write (n + 1))) _ = _
      unfold M_write
      rw [mk12, cSeq_r]
      simp -implicitDefEqProofs only [zR0, zR1, zR2, zR3, zR4, zR5, zR6, zR7, zR8, zR9, zR10, gAdd, gSub, gNeg, gNot, gLt, gLe, gGt, gGe, gLen, gAbs, gInt, gMax2, gMin2, gGcd, gList, gTuple, gAll, gAny, gPow, gMul, gFd, gMod, List.getElem?_cons_zero, List.getElem?_cons_succ, List.set_cons_zero, List.set_cons_succ, List.map_cons, List.map_nil, List.length_cons, List.length_nil, List.cons_append, List.nil_append, List.replicate_succ, List.replicate_zero, List.length_map, ↓cond_true, ↓cond_false, cond_true, cond_false, Option.map_some, beq_self_eq_true, List.contains_cons, List.contains_nil, Bool.or_false, Bool.false_or, Bool.or_true, Bool.and_true, Bool.true_and, Bool.not_true, Bool.not_false, Nat.reduceBEq, Nat.reduceAdd, Nat.reduceSub, Nat.reduceEqDiff, reduceCtorEq, Bool.false_eq_true, List.all_cons, List.all_nil, List.any_cons, List.any_nil, id, Int.reduceToNat, if_true, ite_true, if_false, eq_self, decide_true, decide_false, Option.map_none, forL_c, forL_n, isn_int, gStr, l]
    | str z h ok =>
      have e : wr (.str z) = dg z.length ++ 58 :: cds z := by rw [wr]
      rw [e]
      show mkF 1 2 [] (M_write (F_write (n + 1))) _ = _
      unfold M_write
      rw [mk12, cSeq_r]
      simp -implicitDefEqProofs only [zR0, zR1, zR2, zR3, zR4, zR5, zR6, zR7, zR8, zR9, zR10, gAdd, gSub, gNeg, gNot, gLt, gLe, gGt, gGe, gLen, gAbs, gInt, gMax2, gMin2, gGcd, gList, gTuple, gAll, gAny, gPow, gMul, gFd, gMod, List.getElem?_cons_zero, List.getElem?_cons_succ, List.set_cons_zero, List.set_cons_succ, List.map_cons, List.map_nil, List.length_cons, List.length_nil, List.cons_append, List.nil_append, List.replicate_succ, List.replicate_zero, List.length_map, ↓cond_true, ↓cond_false, cond_true, cond_false, Option.map_some, beq_self_eq_true, List.contains_cons, List.contains_nil, Bool.or_false, Bool.false_or, Bool.or_true, Bool.and_true, Bool.true_and, Bool.not_true, Bool.not_false, Nat.reduceBEq, Nat.reduceAdd, Nat.reduceSub, Nat.reduceEqDiff, reduceCtorEq, Bool.false_eq_true, List.all_cons, List.all_nil, List.any_cons, List.any_nil, id, Int.reduceToNat, if_true, ite_true, if_false, eq_self, decide_true, decide_false, Option.map_none, forL_c, forL_n, isn_str]
      rw [cSeq_r]
      have g : gIsi "str" (.str z) = some (.dat (.bool true)) := rfl
      simp -implicitDefEqProofs only [zR0, zR1, zR2, zR3, zR4, zR5, zR6, zR7, zR8, zR9, zR10, gAdd, gSub, gNeg, gNot, gLt, gLe, gGt, gGe, gLen, gAbs, gInt, gMax2, gMin2, gGcd, gList, gTuple, gAll, gAny, gPow, gMul, gFd, gMod, List.getElem?_cons_zero, List.getElem?_cons_succ, List.set_cons_zero, List.set_cons_succ, List.map_cons, List.map_nil, List.length_cons, List.length_nil, List.cons_append, List.nil_append, List.replicate_succ, List.replicate_zero, List.length_map, ↓cond_true, ↓cond_false, cond_true, cond_false, Option.map_some, beq_self_eq_true, List.contains_cons, List.contains_nil, Bool.or_false, Bool.false_or, Bool.or_true, Bool.and_true, Bool.true_and, Bool.not_true, Bool.not_false, Nat.reduceBEq, Nat.reduceAdd, Nat.reduceSub, Nat.reduceEqDiff, reduceCtorEq, Bool.false_eq_true, List.all_cons, List.all_nil, List.any_cons, List.any_nil, id, Int.reduceToNat, if_true, ite_true, if_false, eq_self, decide_true, decide_false, Option.map_none, forL_c, forL_n, g, js_spec h]
    | tup ds hl2 h =>
      have e : wr (.tuple ds) = 40 :: (wrs ds ++ [41]) := by rw [wr]
      have hw : (wrs ds).length ≤ 50000 := by rw [e] at hl; simp only [List.length_cons, List.length_append, List.length_nil] at hl; omega
      have t := tup_st (F := F_write (n + 1)) hw hl2 fun d hd => ih (h d hd) (by have := wrs_mem hd; omega)
      show mkF 1 2 [] (M_write (F_write (n + 1))) _ = _
      unfold M_write
      rw [mk12, cSeq_r]
      simp -implicitDefEqProofs only [zR0, zR1, zR2, zR3, zR4, zR5, zR6, zR7, zR8, zR9, zR10, gAdd, gSub, gNeg, gNot, gLt, gLe, gGt, gGe, gLen, gAbs, gInt, gMax2, gMin2, gGcd, gList, gTuple, gAll, gAny, gPow, gMul, gFd, gMod, List.getElem?_cons_zero, List.getElem?_cons_succ, List.set_cons_zero, List.set_cons_succ, List.map_cons, List.map_nil, List.length_cons, List.length_nil, List.cons_append, List.nil_append, List.replicate_succ, List.replicate_zero, List.length_map, ↓cond_true, ↓cond_false, cond_true, cond_false, Option.map_some, beq_self_eq_true, List.contains_cons, List.contains_nil, Bool.or_false, Bool.false_or, Bool.or_true, Bool.and_true, Bool.true_and, Bool.not_true, Bool.not_false, Nat.reduceBEq, Nat.reduceAdd, Nat.reduceSub, Nat.reduceEqDiff, reduceCtorEq, Bool.false_eq_true, List.all_cons, List.all_nil, List.any_cons, List.any_nil, id, Int.reduceToNat, if_true, ite_true, if_false, eq_self, decide_true, decide_false, Option.map_none, forL_c, forL_n, isn_tup]
      have g : gIsi "str" (.tuple ds) = some (.dat (.bool false)) := rfl
      have s2 : cIfS (c1 gTru (c1 (gIsi "str") (cV 0))) (cRet (cJs [cB1 gLen (cbN 0), cK (.str (":" : Str)), cV 0])) (cNext) [some (.dat (.tuple ds)), none] = .nx [some (.dat (.tuple ds)), none] := by simp -implicitDefEqProofs only [zR0, zR1, zR2, zR3, zR4, zR5, zR6, zR7, zR8, zR9, zR10, gAdd, gSub, gNeg, gNot, gLt, gLe, gGt, gGe, gLen, gAbs, gInt, gMax2, gMin2, gGcd, gList, gTuple, gAll, gAny, gPow, gMul, gFd, gMod, List.getElem?_cons_zero, List.getElem?_cons_succ, List.set_cons_zero, List.set_cons_succ, List.map_cons, List.map_nil, List.length_cons, List.length_nil, List.cons_append, List.nil_append, List.replicate_succ, List.replicate_zero, List.length_map, ↓cond_true, ↓cond_false, cond_true, cond_false, Option.map_some, beq_self_eq_true, List.contains_cons, List.contains_nil, Bool.or_false, Bool.false_or, Bool.or_true, Bool.and_true, Bool.true_and, Bool.not_true, Bool.not_false, Nat.reduceBEq, Nat.reduceAdd, Nat.reduceSub, Nat.reduceEqDiff, reduceCtorEq, Bool.false_eq_true, List.all_cons, List.all_nil, List.any_cons, List.any_nil, id, Int.reduceToNat, if_true, ite_true, if_false, eq_self, decide_true, decide_false, Option.map_none, forL_c, forL_n, g]
      rw [cSeq_r, s2, sq_nx, cRet_r, t]
      rfl
end Z
set_option maxHeartbeats 1000000
namespace Z
open PySem PySem.Spec PyProof.Rows L2
/-! ### the law's own text, and its sameness -/
theorem written_spec : ∀ (n : Nat) {d : PyData}, Thg n d → (wr d).length ≤ 50000 → F_u_law_written (n + 1) [.dat d] = .ok (.dat (.str (stC (wr d)))) [.dat d] := by
  have cl := ch_cls
  have int : ∀ (F : Fn) (i : Int), i.natAbs < 10 ^ 200 → mkF 1 2 [] (M_u_law_written F) [.dat (.int i)] = .ok (.dat (.str (stC (wr (.int i))))) [.dat (.int i)] := fun F i h => by
    have l := decide_eq_true (log_200 h)
    have e : wr (.int i) = sg10 i := by rw [wr]
    have g : gIsi "int" (.int i) = some (.dat (.bool true)) := rfl
    rw [e, ← toS_st]
    unfold M_u_law_written
    rw [mk12, cSeq_r]
    simp -implicitDefEqProofs only [zR0, zR1, zR2, zR3, zR4, zR5, zR6, zR7, zR8, zR9, zR10, gAdd, gSub, gNeg, gNot, gLt, gLe, gGt, gGe, gLen, gAbs, gInt, gMax2, gMin2, gGcd, gList, gTuple, gAll, gAny, gPow, gMul, gFd, gMod, List.getElem?_cons_zero, List.getElem?_cons_succ, List.set_cons_zero, List.set_cons_succ, List.map_cons, List.map_nil, List.length_cons, List.length_nil, List.cons_append, List.nil_append, List.replicate_succ, List.replicate_zero, List.length_map, ↓cond_true, ↓cond_false, cond_true, cond_false, Option.map_some, beq_self_eq_true, List.contains_cons, List.contains_nil, Bool.or_false, Bool.false_or, Bool.or_true, Bool.and_true, Bool.true_and, Bool.not_true, Bool.not_false, Nat.reduceBEq, Nat.reduceAdd, Nat.reduceSub, Nat.reduceEqDiff, reduceCtorEq, Bool.false_eq_true, List.all_cons, List.all_nil, List.any_cons, List.any_nil, id, Int.reduceToNat, if_true, ite_true, if_false, eq_self, decide_true, decide_false, Option.map_none, forL_c, forL_n, g, gStr, l]
  have str : ∀ (F : Fn) (z : Str), z.length ≤ 99 → mkF 1 2 [] (M_u_law_written F) [.dat (.str z)] = .ok (.dat (.str (stC (wr (.str z))))) [.dat (.str z)] := fun F z h => by
    have e : wr (.str z) = dg z.length ++ 58 :: cds z := by rw [wr]
    have g1 : gIsi "int" (.str z) = some (.dat (.bool false)) := rfl
    have g2 : gIsi "str" (.str z) = some (.dat (.bool true)) := rfl
    have hz : decide (z.length ≤ sizeLine) = true := decide_eq_true (by omega)
    have hn := len_sg (n := z.length) (by omega)
    have hl : decide ((z.length : Int).natAbs.log2 < 1920) = true := decide_eq_true (log_200 (by
      have : (z.length : Int).natAbs = z.length := rfl
      rw [this]
      exact Nat.lt_of_le_of_lt h (by decide +kernel)))
    have e1 : dg z.length ++ 58 :: cds z = dg z.length ++ [58] ++ cds z := by simp
    have l1 : (Str.ofString ":").length = 1 := by rw [len_cds, cds_lit1.1]; rfl
    have z1 : decide ((Str.ofString (toString (z.length : Int))).length + (Str.ofString ":").length ≤ sizeLine) = true := decide_eq_true (by rw [nat_st, len_stC, l1]; omega)
    have z2 : decide ((Str.ofString (toString (z.length : Int)) ++ Str.ofString ":").length + z.length ≤ sizeLine) = true := decide_eq_true (by rw [Str.length_append, nat_st, len_stC, l1]; omega)
    rw [e, e1, stC_app, stC_app, stC_cds, ← nat_st, ← lit_st.1]
    unfold M_u_law_written
    rw [mk12, cSeq_r]
    simp -implicitDefEqProofs only [zR0, zR1, zR2, zR3, zR4, zR5, zR6, zR7, zR8, zR9, zR10, gAdd, gSub, gNeg, gNot, gLt, gLe, gGt, gGe, gLen, gAbs, gInt, gMax2, gMin2, gGcd, gList, gTuple, gAll, gAny, gPow, gMul, gFd, gMod, List.getElem?_cons_zero, List.getElem?_cons_succ, List.set_cons_zero, List.set_cons_succ, List.map_cons, List.map_nil, List.length_cons, List.length_nil, List.cons_append, List.nil_append, List.replicate_succ, List.replicate_zero, List.length_map, ↓cond_true, ↓cond_false, cond_true, cond_false, Option.map_some, beq_self_eq_true, List.contains_cons, List.contains_nil, Bool.or_false, Bool.false_or, Bool.or_true, Bool.and_true, Bool.true_and, Bool.not_true, Bool.not_false, Nat.reduceBEq, Nat.reduceAdd, Nat.reduceSub, Nat.reduceEqDiff, reduceCtorEq, Bool.false_eq_true, List.all_cons, List.all_nil, List.any_cons, List.any_nil, id, Int.reduceToNat, if_true, ite_true, if_false, eq_self, decide_true, decide_false, Option.map_none, forL_c, forL_n, g1]
    rw [cSeq_r]
    simp -implicitDefEqProofs only [zR0, zR1, zR2, zR3, zR4, zR5, zR6, zR7, zR8, zR9, zR10, gAdd, gSub, gNeg, gNot, gLt, gLe, gGt, gGe, gLen, gAbs, gInt, gMax2, gMin2, gGcd, gList, gTuple, gAll, gAny, gPow, gMul, gFd, gMod, List.getElem?_cons_zero, List.getElem?_cons_succ, List.set_cons_zero, List.set_cons_succ, List.map_cons, List.map_nil, List.length_cons, List.length_nil, List.cons_append, List.nil_append, List.replicate_succ, List.replicate_zero, List.length_map, ↓cond_true, ↓cond_false, cond_true, cond_false, Option.map_some, beq_self_eq_true, List.contains_cons, List.contains_nil, Bool.or_false, Bool.false_or, Bool.or_true, Bool.and_true, Bool.true_and, Bool.not_true, Bool.not_false, Nat.reduceBEq, Nat.reduceAdd, Nat.reduceSub, Nat.reduceEqDiff, reduceCtorEq, Bool.false_eq_true, List.all_cons, List.all_nil, List.any_cons, List.any_nil, id, Int.reduceToNat, if_true, ite_true, if_false, eq_self, decide_true, decide_false, Option.map_none, forL_c, forL_n, g2, hz, gStr, hl, z1, z2]
  intro n
  induction n with
  | zero =>
    intro d h hl
    cases h with
    | int i h => exact int _ i h
    | str z h ok => exact str _ z h
  | succ n ih =>
    intro d h hl
    cases h with
    | int i h => exact int _ i h
    | str z h ok => exact str _ z h
    | tup ds hl2 h =>
      have e : wr (.tuple ds) = 40 :: (wrs ds ++ [41]) := by rw [wr]
      have hw : (wrs ds).length ≤ 50000 := by rw [e] at hl; simp only [List.length_cons, List.length_append, List.length_nil] at hl; omega
      have t := tup_st (F := F_u_law_written (n + 1)) hw hl2 fun d hd => ih (h d hd) (by have := wrs_mem hd; omega)
      have g1 : gIsi "int" (.tuple ds) = some (.dat (.bool false)) := rfl
      have g2 : gIsi "str" (.tuple ds) = some (.dat (.bool false)) := rfl
      show mkF 1 2 [] (M_u_law_written (F_u_law_written (n + 1))) _ = _
      unfold M_u_law_written
      have s1 : ∀ a : CS, cIfS (c1 gTru (c1 (gIsi "int") (cV 0))) a (cNext) [some (.dat (.tuple ds)), none] = .nx [some (.dat (.tuple ds)), none] := fun a => by simp -implicitDefEqProofs only [zR0, zR1, zR2, zR3, zR4, zR5, zR6, zR7, zR8, zR9, zR10, gAdd, gSub, gNeg, gNot, gLt, gLe, gGt, gGe, gLen, gAbs, gInt, gMax2, gMin2, gGcd, gList, gTuple, gAll, gAny, gPow, gMul, gFd, gMod, List.getElem?_cons_zero, List.getElem?_cons_succ, List.set_cons_zero, List.set_cons_succ, List.map_cons, List.map_nil, List.length_cons, List.length_nil, List.cons_append, List.nil_append, List.replicate_succ, List.replicate_zero, List.length_map, ↓cond_true, ↓cond_false, cond_true, cond_false, Option.map_some, beq_self_eq_true, List.contains_cons, List.contains_nil, Bool.or_false, Bool.false_or, Bool.or_true, Bool.and_true, Bool.true_and, Bool.not_true, Bool.not_false, Nat.reduceBEq, Nat.reduceAdd, Nat.reduceSub, Nat.reduceEqDiff, reduceCtorEq, Bool.false_eq_true, List.all_cons, List.all_nil, List.any_cons, List.any_nil, id, Int.reduceToNat, if_true, ite_true, if_false, eq_self, decide_true, decide_false, Option.map_none, forL_c, forL_n, g1]
      have s2 : ∀ a : CS, cIfS (c1 gTru (c1 (gIsi "str") (cV 0))) a (cNext) [some (.dat (.tuple ds)), none] = .nx [some (.dat (.tuple ds)), none] := fun a => by simp -implicitDefEqProofs only [zR0, zR1, zR2, zR3, zR4, zR5, zR6, zR7, zR8, zR9, zR10, gAdd, gSub, gNeg, gNot, gLt, gLe, gGt, gGe, gLen, gAbs, gInt, gMax2, gMin2, gGcd, gList, gTuple, gAll, gAny, gPow, gMul, gFd, gMod, List.getElem?_cons_zero, List.getElem?_cons_succ, List.set_cons_zero, List.set_cons_succ, List.map_cons, List.map_nil, List.length_cons, List.length_nil, List.cons_append, List.nil_append, List.replicate_succ, List.replicate_zero, List.length_map, ↓cond_true, ↓cond_false, cond_true, cond_false, Option.map_some, beq_self_eq_true, List.contains_cons, List.contains_nil, Bool.or_false, Bool.false_or, Bool.or_true, Bool.and_true, Bool.true_and, Bool.not_true, Bool.not_false, Nat.reduceBEq, Nat.reduceAdd, Nat.reduceSub, Nat.reduceEqDiff, reduceCtorEq, Bool.false_eq_true, List.all_cons, List.all_nil, List.any_cons, List.any_nil, id, Int.reduceToNat, if_true, ite_true, if_false, eq_self, decide_true, decide_false, Option.map_none, forL_c, forL_n, g2]
      rw [mk12, cSeq_r, s1, sq_nx, cSeq_r, s2, sq_nx, cRet_r, t]
      rfl
theorem shp_s {z : Str} (h : PyData.strOk z = true) : gEq (.str z) (.str z) = some (.dat (.bool true)) := by
  unfold gEq
  rw [shp_str h]
  have : PyData.eqv (.str z) (.str z) = true := by unfold PyData.eqv; exact beq_self_eq_true z
  rw [this]; rfl
theorem isint_spec {i : Int} : F_u_law_is_int [.dat (.int i)] = .ok (.dat (.bool true)) [.dat (.int i)] := by
  unfold F_u_law_is_int M_u_law_is_int
  simp -implicitDefEqProofs only [zR0, zR1, zR2, zR3, zR4, zR5, zR6, zR7, zR8, zR9, zR10, gAdd, gSub, gNeg, gNot, gLt, gLe, gGt, gGe, gLen, gAbs, gInt, gMax2, gMin2, gGcd, gList, gTuple, gAll, gAny, gPow, gMul, gFd, gMod, List.getElem?_cons_zero, List.getElem?_cons_succ, List.set_cons_zero, List.set_cons_succ, List.map_cons, List.map_nil, List.length_cons, List.length_nil, List.cons_append, List.nil_append, List.replicate_succ, List.replicate_zero, List.length_map, ↓cond_true, ↓cond_false, cond_true, cond_false, Option.map_some, beq_self_eq_true, List.contains_cons, List.contains_nil, Bool.or_false, Bool.false_or, Bool.or_true, Bool.and_true, Bool.true_and, Bool.not_true, Bool.not_false, Nat.reduceBEq, Nat.reduceAdd, Nat.reduceSub, Nat.reduceEqDiff, reduceCtorEq, Bool.false_eq_true, List.all_cons, List.all_nil, List.any_cons, List.any_nil, id, Int.reduceToNat, if_true, ite_true, if_false, eq_self, decide_true, decide_false, Option.map_none, forL_c, forL_n, cSeq_r, kr1_0, kr2_0, cLc_r, gIsi]
  try rfl
theorem mk23s {c : CS} {s t : S} : mkF 2 3 [] c [s, t] = finish [] [s, t] (c [some s, some t, none]) := rfl
theorem bools_rep (n : Nat) : boolsOf ((rangeL 0 n).map fun _ => PyData.bool true) = some ((rangeL 0 n).map fun _ => true) := bools_map (fun _ => true) _
theorem same_spec : ∀ (n : Nat) {d : PyData}, Thg n d → F_u_law_same (n + 1) [.dat d, .dat d] = .ok (.dat (.bool true)) [.dat d, .dat d] := by
  have cl := ch_cls
  have int : ∀ (F : Fn) (i : Int), mkF 2 3 [] (M_u_law_same F) [.dat (.int i), .dat (.int i)] = .ok (.dat (.bool true)) [.dat (.int i), .dat (.int i)] := fun F i => by
    have g0 : gIs (.int i) .none = some (.dat (.bool false)) := rfl
    have g1 : gIsi "bool" (.int i) = some (.dat (.bool false)) := rfl
    have g2 : gIsi "int" (.int i) = some (.dat (.bool true)) := rfl
    unfold M_u_law_same
    rw [mk23s, cSeq_r]
    simp -implicitDefEqProofs only [zR0, zR1, zR2, zR3, zR4, zR5, zR6, zR7, zR8, zR9, zR10, gAdd, gSub, gNeg, gNot, gLt, gLe, gGt, gGe, gLen, gAbs, gInt, gMax2, gMin2, gGcd, gList, gTuple, gAll, gAny, gPow, gMul, gFd, gMod, List.getElem?_cons_zero, List.getElem?_cons_succ, List.set_cons_zero, List.set_cons_succ, List.map_cons, List.map_nil, List.length_cons, List.length_nil, List.cons_append, List.nil_append, List.replicate_succ, List.replicate_zero, List.length_map, ↓cond_true, ↓cond_false, cond_true, cond_false, Option.map_some, beq_self_eq_true, List.contains_cons, List.contains_nil, Bool.or_false, Bool.false_or, Bool.or_true, Bool.and_true, Bool.true_and, Bool.not_true, Bool.not_false, Nat.reduceBEq, Nat.reduceAdd, Nat.reduceSub, Nat.reduceEqDiff, reduceCtorEq, Bool.false_eq_true, List.all_cons, List.all_nil, List.any_cons, List.any_nil, id, Int.reduceToNat, if_true, ite_true, if_false, eq_self, decide_true, decide_false, Option.map_none, forL_c, forL_n, g0]
    rw [cSeq_r]
    simp -implicitDefEqProofs only [zR0, zR1, zR2, zR3, zR4, zR5, zR6, zR7, zR8, zR9, zR10, gAdd, gSub, gNeg, gNot, gLt, gLe, gGt, gGe, gLen, gAbs, gInt, gMax2, gMin2, gGcd, gList, gTuple, gAll, gAny, gPow, gMul, gFd, gMod, List.getElem?_cons_zero, List.getElem?_cons_succ, List.set_cons_zero, List.set_cons_succ, List.map_cons, List.map_nil, List.length_cons, List.length_nil, List.cons_append, List.nil_append, List.replicate_succ, List.replicate_zero, List.length_map, ↓cond_true, ↓cond_false, cond_true, cond_false, Option.map_some, beq_self_eq_true, List.contains_cons, List.contains_nil, Bool.or_false, Bool.false_or, Bool.or_true, Bool.and_true, Bool.true_and, Bool.not_true, Bool.not_false, Nat.reduceBEq, Nat.reduceAdd, Nat.reduceSub, Nat.reduceEqDiff, reduceCtorEq, Bool.false_eq_true, List.all_cons, List.all_nil, List.any_cons, List.any_nil, id, Int.reduceToNat, if_true, ite_true, if_false, eq_self, decide_true, decide_false, Option.map_none, forL_c, forL_n, g1]
    rw [cSeq_r]
    simp -implicitDefEqProofs only [zR0, zR1, zR2, zR3, zR4, zR5, zR6, zR7, zR8, zR9, zR10, gAdd, gSub, gNeg, gNot, gLt, gLe, gGt, gGe, gLen, gAbs, gInt, gMax2, gMin2, gGcd, gList, gTuple, gAll, gAny, gPow, gMul, gFd, gMod, List.getElem?_cons_zero, List.getElem?_cons_succ, List.set_cons_zero, List.set_cons_succ, List.map_cons, List.map_nil, List.length_cons, List.length_nil, List.cons_append, List.nil_append, List.replicate_succ, List.replicate_zero, List.length_map, ↓cond_true, ↓cond_false, cond_true, cond_false, Option.map_some, beq_self_eq_true, List.contains_cons, List.contains_nil, Bool.or_false, Bool.false_or, Bool.or_true, Bool.and_true, Bool.true_and, Bool.not_true, Bool.not_false, Nat.reduceBEq, Nat.reduceAdd, Nat.reduceSub, Nat.reduceEqDiff, reduceCtorEq, Bool.false_eq_true, List.all_cons, List.all_nil, List.any_cons, List.any_nil, id, Int.reduceToNat, if_true, ite_true, if_false, eq_self, decide_true, decide_false, Option.map_none, forL_c, forL_n, g2, isint_spec]
  have str : ∀ (F : Fn) (z : Str), PyData.strOk z = true → mkF 2 3 [] (M_u_law_same F) [.dat (.str z), .dat (.str z)] = .ok (.dat (.bool true)) [.dat (.str z), .dat (.str z)] := fun F z ok => by
    have g0 : gIs (.str z) .none = some (.dat (.bool false)) := rfl
    have g1 : gIsi "bool" (.str z) = some (.dat (.bool false)) := rfl
    have g2 : gIsi "int" (.str z) = some (.dat (.bool false)) := rfl
    have g3 : gIsi "str" (.str z) = some (.dat (.bool true)) := rfl
    have g4 := shp_s ok
    unfold M_u_law_same
    rw [mk23s, cSeq_r]
    simp -implicitDefEqProofs only [zR0, zR1, zR2, zR3, zR4, zR5, zR6, zR7, zR8, zR9, zR10, gAdd, gSub, gNeg, gNot, gLt, gLe, gGt, gGe, gLen, gAbs, gInt, gMax2, gMin2, gGcd, gList, gTuple, gAll, gAny, gPow, gMul, gFd, gMod, List.getElem?_cons_zero, List.getElem?_cons_succ, List.set_cons_zero, List.set_cons_succ, List.map_cons, List.map_nil, List.length_cons, List.length_nil, List.cons_append, List.nil_append, List.replicate_succ, List.replicate_zero, List.length_map, ↓cond_true, ↓cond_false, cond_true, cond_false, Option.map_some, beq_self_eq_true, List.contains_cons, List.contains_nil, Bool.or_false, Bool.false_or, Bool.or_true, Bool.and_true, Bool.true_and, Bool.not_true, Bool.not_false, Nat.reduceBEq, Nat.reduceAdd, Nat.reduceSub, Nat.reduceEqDiff, reduceCtorEq, Bool.false_eq_true, List.all_cons, List.all_nil, List.any_cons, List.any_nil, id, Int.reduceToNat, if_true, ite_true, if_false, eq_self, decide_true, decide_false, Option.map_none, forL_c, forL_n, g0]
    rw [cSeq_r]
    simp -implicitDefEqProofs only [zR0, zR1, zR2, zR3, zR4, zR5, zR6, zR7, zR8, zR9, zR10, gAdd, gSub, gNeg, gNot, gLt, gLe, gGt, gGe, gLen, gAbs, gInt, gMax2, gMin2, gGcd, gList, gTuple, gAll, gAny, gPow, gMul, gFd, gMod, List.getElem?_cons_zero, List.getElem?_cons_succ, List.set_cons_zero, List.set_cons_succ, List.map_cons, List.map_nil, List.length_cons, List.length_nil, List.cons_append, List.nil_append, List.replicate_succ, List.replicate_zero, List.length_map, ↓cond_true, ↓cond_false, cond_true, cond_false, Option.map_some, beq_self_eq_true, List.contains_cons, List.contains_nil, Bool.or_false, Bool.false_or, Bool.or_true, Bool.and_true, Bool.true_and, Bool.not_true, Bool.not_false, Nat.reduceBEq, Nat.reduceAdd, Nat.reduceSub, Nat.reduceEqDiff, reduceCtorEq, Bool.false_eq_true, List.all_cons, List.all_nil, List.any_cons, List.any_nil, id, Int.reduceToNat, if_true, ite_true, if_false, eq_self, decide_true, decide_false, Option.map_none, forL_c, forL_n, g1]
    rw [cSeq_r]
    simp -implicitDefEqProofs only [zR0, zR1, zR2, zR3, zR4, zR5, zR6, zR7, zR8, zR9, zR10, gAdd, gSub, gNeg, gNot, gLt, gLe, gGt, gGe, gLen, gAbs, gInt, gMax2, gMin2, gGcd, gList, gTuple, gAll, gAny, gPow, gMul, gFd, gMod, List.getElem?_cons_zero, List.getElem?_cons_succ, List.set_cons_zero, List.set_cons_succ, List.map_cons, List.map_nil, List.length_cons, List.length_nil, List.cons_append, List.nil_append, List.replicate_succ, List.replicate_zero, List.length_map, ↓cond_true, ↓cond_false, cond_true, cond_false, Option.map_some, beq_self_eq_true, List.contains_cons, List.contains_nil, Bool.or_false, Bool.false_or, Bool.or_true, Bool.and_true, Bool.true_and, Bool.not_true, Bool.not_false, Nat.reduceBEq, Nat.reduceAdd, Nat.reduceSub, Nat.reduceEqDiff, reduceCtorEq, Bool.false_eq_true, List.all_cons, List.all_nil, List.any_cons, List.any_nil, id, Int.reduceToNat, if_true, ite_true, if_false, eq_self, decide_true, decide_false, Option.map_none, forL_c, forL_n, g2]
    rw [cSeq_r]
    simp -implicitDefEqProofs only [zR0, zR1, zR2, zR3, zR4, zR5, zR6, zR7, zR8, zR9, zR10, gAdd, gSub, gNeg, gNot, gLt, gLe, gGt, gGe, gLen, gAbs, gInt, gMax2, gMin2, gGcd, gList, gTuple, gAll, gAny, gPow, gMul, gFd, gMod, List.getElem?_cons_zero, List.getElem?_cons_succ, List.set_cons_zero, List.set_cons_succ, List.map_cons, List.map_nil, List.length_cons, List.length_nil, List.cons_append, List.nil_append, List.replicate_succ, List.replicate_zero, List.length_map, ↓cond_true, ↓cond_false, cond_true, cond_false, Option.map_some, beq_self_eq_true, List.contains_cons, List.contains_nil, Bool.or_false, Bool.false_or, Bool.or_true, Bool.and_true, Bool.true_and, Bool.not_true, Bool.not_false, Nat.reduceBEq, Nat.reduceAdd, Nat.reduceSub, Nat.reduceEqDiff, reduceCtorEq, Bool.false_eq_true, List.all_cons, List.all_nil, List.any_cons, List.any_nil, id, Int.reduceToNat, if_true, ite_true, if_false, eq_self, decide_true, decide_false, Option.map_none, forL_c, forL_n, g3, g4]
  intro n
  induction n with
  | zero =>
    intro d h
    cases h with
    | int i h => exact int _ i
    | str z h ok => exact str _ z ok
  | succ n ih =>
    intro d h
    cases h with
    | int i h => exact int _ i
    | str z h ok => exact str _ z ok
    | tup ds hl h =>
      have g0 : gIs (.tuple ds) .none = some (.dat (.bool false)) := rfl
      have g1 : gIsi "bool" (.tuple ds) = some (.dat (.bool false)) := rfl
      have g2 : gIsi "int" (.tuple ds) = some (.dat (.bool false)) := rfl
      have g3 : gIsi "str" (.tuple ds) = some (.dat (.bool false)) := rfl
      have g4 : gIsi "list" (.tuple ds) = some (.dat (.bool false)) := rfl
      have g5 : gIsi "tuple" (.tuple ds) = some (.dat (.bool true)) := rfl
      have n1 : gNe (.bool false) (.bool false) = some (.dat (.bool false)) := rfl
      have n2 : gNe (.bool true) (.bool true) = some (.dat (.bool false)) := rfl
      have sm : Sml (ds.length : Int) := by unfold Sml; omega
      have tn : (ds.length : Int).toNat = ds.length := rfl
      have lc : cLc [2] (ciRange1 (caCons (cB1 gLen (cbN 1)) (caNil))) (cgName 2) (cK (.bool true)) (cCall (F_u_law_same (n + 1)) (cxD (cB2 gIx (cbN 0) (cV 2)) (cxD (cB2 gIx (cbN 1) (cV 2)) (cxNil)))) [some (.dat (.tuple ds)), some (.dat (.tuple ds)), none] =
          .ok (.lst ((rangeL 0 ds.length).map fun _ => .bool true)) [some (.dat (.tuple ds)), some (.dat (.tuple ds)), none] := by
        refine cLc_map (ρ1 := [some (.dat (.tuple ds)), some (.dat (.tuple ds)), none]) (fun _ => .bool true) ?_ rfl (by rw [rangeL_length]; omega) fun d hd => ?_
        · simp -implicitDefEqProofs only [zR0, zR1, zR2, zR3, zR4, zR5, zR6, zR7, zR8, zR9, zR10, gAdd, gSub, gNeg, gNot, gLt, gLe, gGt, gGe, gLen, gAbs, gInt, gMax2, gMin2, gGcd, gList, gTuple, gAll, gAny, gPow, gMul, gFd, gMod, List.getElem?_cons_zero, List.getElem?_cons_succ, List.set_cons_zero, List.set_cons_succ, List.map_cons, List.map_nil, List.length_cons, List.length_nil, List.cons_append, List.nil_append, List.replicate_succ, List.replicate_zero, List.length_map, ↓cond_true, ↓cond_false, cond_true, cond_false, Option.map_some, beq_self_eq_true, List.contains_cons, List.contains_nil, Bool.or_false, Bool.false_or, Bool.or_true, Bool.and_true, Bool.true_and, Bool.not_true, Bool.not_false, Nat.reduceBEq, Nat.reduceAdd, Nat.reduceSub, Nat.reduceEqDiff, reduceCtorEq, Bool.false_eq_true, List.all_cons, List.all_nil, List.any_cons, List.any_nil, id, Int.reduceToNat, if_true, ite_true, if_false, eq_self, decide_true, decide_false, Option.map_none, forL_c, forL_n, cSeq_r, kr1_s sm, tn]
        · obtain ⟨k, hk, rfl⟩ := List.mem_map.mp hd
          have hk := List.mem_range.mp hk
          have hx0 : ds[k]? = some ds[k] := List.getElem?_eq_getElem hk
          have m := List.getElem_mem hk
          generalize ds[k] = x at *
          have hx : atI ds (0 + (k : Int)) = some x := atI_pos (j := k) (by omega) hx0
          have e := ih (h x m)
          refine ⟨[some (.dat (.tuple ds)), some (.dat (.tuple ds)), some (.dat (.int (0 + (k : Int))))], [some (.dat (.tuple ds)), some (.dat (.tuple ds)), some (.dat (.int (0 + (k : Int))))], [some (.dat (.tuple ds)), some (.dat (.tuple ds)), some (.dat (.int (0 + (k : Int))))], .dat (.bool true), rfl, rfl, ?_, rfl, rfl⟩
          generalize (0 + (k : Int)) = j at *
          simp -implicitDefEqProofs only [zR0, zR1, zR2, zR3, zR4, zR5, zR6, zR7, zR8, zR9, zR10, gAdd, gSub, gNeg, gNot, gLt, gLe, gGt, gGe, gLen, gAbs, gInt, gMax2, gMin2, gGcd, gList, gTuple, gAll, gAny, gPow, gMul, gFd, gMod, List.getElem?_cons_zero, List.getElem?_cons_succ, List.set_cons_zero, List.set_cons_succ, List.map_cons, List.map_nil, List.length_cons, List.length_nil, List.cons_append, List.nil_append, List.replicate_succ, List.replicate_zero, List.length_map, ↓cond_true, ↓cond_false, cond_true, cond_false, Option.map_some, beq_self_eq_true, List.contains_cons, List.contains_nil, Bool.or_false, Bool.false_or, Bool.or_true, Bool.and_true, Bool.true_and, Bool.not_true, Bool.not_false, Nat.reduceBEq, Nat.reduceAdd, Nat.reduceSub, Nat.reduceEqDiff, reduceCtorEq, Bool.false_eq_true, List.all_cons, List.all_nil, List.any_cons, List.any_nil, id, Int.reduceToNat, if_true, ite_true, if_false, eq_self, decide_true, decide_false, Option.map_none, forL_c, forL_n, cSeq_r, kr1_0, kr2_0, cLc_r, hx, e]
      have al : ((rangeL 0 ds.length).map fun _ => true).all id = true := by rw [List.all_map]; exact List.all_eq_true.mpr fun _ _ => rfl
      show mkF 2 3 [] (M_u_law_same (F_u_law_same (n + 1))) _ = _
      unfold M_u_law_same
      rw [mk23s, cSeq_r]
      simp -implicitDefEqProofs only [zR0, zR1, zR2, zR3, zR4, zR5, zR6, zR7, zR8, zR9, zR10, gAdd, gSub, gNeg, gNot, gLt, gLe, gGt, gGe, gLen, gAbs, gInt, gMax2, gMin2, gGcd, gList, gTuple, gAll, gAny, gPow, gMul, gFd, gMod, List.getElem?_cons_zero, List.getElem?_cons_succ, List.set_cons_zero, List.set_cons_succ, List.map_cons, List.map_nil, List.length_cons, List.length_nil, List.cons_append, List.nil_append, List.replicate_succ, List.replicate_zero, List.length_map, ↓cond_true, ↓cond_false, cond_true, cond_false, Option.map_some, beq_self_eq_true, List.contains_cons, List.contains_nil, Bool.or_false, Bool.false_or, Bool.or_true, Bool.and_true, Bool.true_and, Bool.not_true, Bool.not_false, Nat.reduceBEq, Nat.reduceAdd, Nat.reduceSub, Nat.reduceEqDiff, reduceCtorEq, Bool.false_eq_true, List.all_cons, List.all_nil, List.any_cons, List.any_nil, id, Int.reduceToNat, if_true, ite_true, if_false, eq_self, decide_true, decide_false, Option.map_none, forL_c, forL_n, g0]
      rw [cSeq_r]
      simp -implicitDefEqProofs only [zR0, zR1, zR2, zR3, zR4, zR5, zR6, zR7, zR8, zR9, zR10, gAdd, gSub, gNeg, gNot, gLt, gLe, gGt, gGe, gLen, gAbs, gInt, gMax2, gMin2, gGcd, gList, gTuple, gAll, gAny, gPow, gMul, gFd, gMod, List.getElem?_cons_zero, List.getElem?_cons_succ, List.set_cons_zero, List.set_cons_succ, List.map_cons, List.map_nil, List.length_cons, List.length_nil, List.cons_append, List.nil_append, List.replicate_succ, List.replicate_zero, List.length_map, ↓cond_true, ↓cond_false, cond_true, cond_false, Option.map_some, beq_self_eq_true, List.contains_cons, List.contains_nil, Bool.or_false, Bool.false_or, Bool.or_true, Bool.and_true, Bool.true_and, Bool.not_true, Bool.not_false, Nat.reduceBEq, Nat.reduceAdd, Nat.reduceSub, Nat.reduceEqDiff, reduceCtorEq, Bool.false_eq_true, List.all_cons, List.all_nil, List.any_cons, List.any_nil, id, Int.reduceToNat, if_true, ite_true, if_false, eq_self, decide_true, decide_false, Option.map_none, forL_c, forL_n, g1]
      rw [cSeq_r]
      simp -implicitDefEqProofs only [zR0, zR1, zR2, zR3, zR4, zR5, zR6, zR7, zR8, zR9, zR10, gAdd, gSub, gNeg, gNot, gLt, gLe, gGt, gGe, gLen, gAbs, gInt, gMax2, gMin2, gGcd, gList, gTuple, gAll, gAny, gPow, gMul, gFd, gMod, List.getElem?_cons_zero, List.getElem?_cons_succ, List.set_cons_zero, List.set_cons_succ, List.map_cons, List.map_nil, List.length_cons, List.length_nil, List.cons_append, List.nil_append, List.replicate_succ, List.replicate_zero, List.length_map, ↓cond_true, ↓cond_false, cond_true, cond_false, Option.map_some, beq_self_eq_true, List.contains_cons, List.contains_nil, Bool.or_false, Bool.false_or, Bool.or_true, Bool.and_true, Bool.true_and, Bool.not_true, Bool.not_false, Nat.reduceBEq, Nat.reduceAdd, Nat.reduceSub, Nat.reduceEqDiff, reduceCtorEq, Bool.false_eq_true, List.all_cons, List.all_nil, List.any_cons, List.any_nil, id, Int.reduceToNat, if_true, ite_true, if_false, eq_self, decide_true, decide_false, Option.map_none, forL_c, forL_n, g2]
      rw [cSeq_r]
      simp -implicitDefEqProofs only [zR0, zR1, zR2, zR3, zR4, zR5, zR6, zR7, zR8, zR9, zR10, gAdd, gSub, gNeg, gNot, gLt, gLe, gGt, gGe, gLen, gAbs, gInt, gMax2, gMin2, gGcd, gList, gTuple, gAll, gAny, gPow, gMul, gFd, gMod, List.getElem?_cons_zero, List.getElem?_cons_succ, List.set_cons_zero, List.set_cons_succ, List.map_cons, List.map_nil, List.length_cons, List.length_nil, List.cons_append, List.nil_append, List.replicate_succ, List.replicate_zero, List.length_map, ↓cond_true, ↓cond_false, cond_true, cond_false, Option.map_some, beq_self_eq_true, List.contains_cons, List.contains_nil, Bool.or_false, Bool.false_or, Bool.or_true, Bool.and_true, Bool.true_and, Bool.not_true, Bool.not_false, Nat.reduceBEq, Nat.reduceAdd, Nat.reduceSub, Nat.reduceEqDiff, reduceCtorEq, Bool.false_eq_true, List.all_cons, List.all_nil, List.any_cons, List.any_nil, id, Int.reduceToNat, if_true, ite_true, if_false, eq_self, decide_true, decide_false, Option.map_none, forL_c, forL_n, g3]
      rw [cSeq_r]
      simp -implicitDefEqProofs only [zR0, zR1, zR2, zR3, zR4, zR5, zR6, zR7, zR8, zR9, zR10, gAdd, gSub, gNeg, gNot, gLt, gLe, gGt, gGe, gLen, gAbs, gInt, gMax2, gMin2, gGcd, gList, gTuple, gAll, gAny, gPow, gMul, gFd, gMod, List.getElem?_cons_zero, List.getElem?_cons_succ, List.set_cons_zero, List.set_cons_succ, List.map_cons, List.map_nil, List.length_cons, List.length_nil, List.cons_append, List.nil_append, List.replicate_succ, List.replicate_zero, List.length_map, ↓cond_true, ↓cond_false, cond_true, cond_false, Option.map_some, beq_self_eq_true, List.contains_cons, List.contains_nil, Bool.or_false, Bool.false_or, Bool.or_true, Bool.and_true, Bool.true_and, Bool.not_true, Bool.not_false, Nat.reduceBEq, Nat.reduceAdd, Nat.reduceSub, Nat.reduceEqDiff, reduceCtorEq, Bool.false_eq_true, List.all_cons, List.all_nil, List.any_cons, List.any_nil, id, Int.reduceToNat, if_true, ite_true, if_false, eq_self, decide_true, decide_false, Option.map_none, forL_c, forL_n, g4, g5, n1, n2]
      simp -implicitDefEqProofs only [zR0, zR1, zR2, zR3, zR4, zR5, zR6, zR7, zR8, zR9, zR10, gAdd, gSub, gNeg, gNot, gLt, gLe, gGt, gGe, gLen, gAbs, gInt, gMax2, gMin2, gGcd, gList, gTuple, gAll, gAny, gPow, gMul, gFd, gMod, List.getElem?_cons_zero, List.getElem?_cons_succ, List.set_cons_zero, List.set_cons_succ, List.map_cons, List.map_nil, List.length_cons, List.length_nil, List.cons_append, List.nil_append, List.replicate_succ, List.replicate_zero, List.length_map, ↓cond_true, ↓cond_false, cond_true, cond_false, Option.map_some, beq_self_eq_true, List.contains_cons, List.contains_nil, Bool.or_false, Bool.false_or, Bool.or_true, Bool.and_true, Bool.true_and, Bool.not_true, Bool.not_false, Nat.reduceBEq, Nat.reduceAdd, Nat.reduceSub, Nat.reduceEqDiff, reduceCtorEq, Bool.false_eq_true, List.all_cons, List.all_nil, List.any_cons, List.any_nil, id, Int.reduceToNat, if_true, ite_true, if_false, eq_self, decide_true, decide_false, Option.map_none, forL_c, forL_n, lc, bools_rep, al]
end Z
set_option maxHeartbeats 1000000
namespace Z
open PySem PySem.Spec PyProof.Rows L2
/-! ### the reader -/
def rdS (T : Str) (k : Int) : S := .obj (some "TextReader") (.cons "text" (.dat (.str T)) (.cons "at" (.dat (.int k)) .nil))
section
variable {T : Str} {k j : Int} {r : En}
theorem rb_peek : isOb "TextReader" "peek" (some (some (rdS T k))) = true := by with_unfolding_all rfl
theorem rb_figures : isOb "TextReader" "figures" (some (some (rdS T k))) = true := by with_unfolding_all rfl
theorem rb_sign : isOb "TextReader" "sign" (some (some (rdS T k))) = true := by with_unfolding_all rfl
theorem rb_nt : isOb "TextReader" "number_or_text" (some (some (rdS T k))) = true := by with_unfolding_all rfl
theorem rb_parts : isOb "TextReader" "parts" (some (some (rdS T k))) = true := by with_unfolding_all rfl
theorem rb_thing : isOb "TextReader" "thing" (some (some (rdS T k))) = true := by with_unfolding_all rfl
theorem rk_0 {i : Nat} : kqN (some (some (rdS T k))) i r = .at i [] r := rfl
theorem rq_text : qf "TextReader" "text" (.at 0 []) (some (rdS T k) :: r) = .dat (.str T) (some (rdS T k) :: r) := by with_unfolding_all rfl
theorem rq_at : qf "TextReader" "at" (.at 0 []) (some (rdS T k) :: r) = .dat (.int k) (some (rdS T k) :: r) := by with_unfolding_all rfl
theorem rs_at {ρ : En} : kSF1 (some (some (rdS T k))) 0 "TextReader" "at" (.dat (.int j)) ρ = .nx (ρ.set 0 (some (rdS T j))) := by with_unfolding_all rfl
theorem rd_nh : (rdS T k).nh = true := rfl
end
theorem cSl_2 {g : PyData → Option Int → Option Int → Option S} {cb : CB} {cl ch : CE} {ρ : En} {d : PyData} {i j : Int} {ar : Ar} (h1 : cb ρ = .ok ar ρ) (h2 : cl ρ = .ok (.dat (.int i)) ρ) (h3 : ch ρ = .ok (.dat (.int j)) ρ) (h4 : resolve ρ ar = some d) : cSl g cb (some cl) (some ch) ρ = R.lift (g d (some i) (some j)) ρ := by
  unfold cSl
  rw [h1]
  show ((cl ρ).bo fun i ρ => (ch ρ).bo fun j ρ => match resolve ρ ar with
    | some d => R.lift (g d (some i) (some j)) ρ
    | none => .bad) = _
  rw [h2]
  show ((ch ρ).bo fun j ρ => match resolve ρ ar with
    | some d => R.lift (g d (some i) (some j)) ρ
    | none => .bad) = _
  rw [h3]
  show (match resolve ρ ar with
    | some d => R.lift (g d (some i) (some j)) ρ
    | none => .bad) = _
  rw [h4]
theorem cut_ab {T : Str} {a b : Nat} (h1 : a ≤ b) (h2 : a ≤ T.length) : cutS T (some (a : Int)) (some (b : Int)) = stC (((cds T).drop a).take (b - a)) := by
  unfold cutS stC
  congr 2
  rw [HT.sIx_nat, HT.sIx_nat, Nat.min_eq_left h2]
  show ((cds T).drop a).take (min b T.length - a) = _
  by_cases h : b ≤ T.length
  · rw [Nat.min_eq_left h]
  · rw [Nat.min_eq_right (by omega)]
    have hl : ((cds T).drop a).length = T.length - a := by rw [List.length_drop, ← len_cds]
    rw [List.take_of_length_le (by omega), List.take_of_length_le (by omega)]
/-- before and behind the place -/
def RS (pre rest : Cd) : S := rdS (stC (pre ++ rest)) (pre.length : Int)
theorem RS_step {pre rest : Cd} {c : Nat} : rdS (stC (pre ++ c :: rest)) ((pre.length : Int) + 1) = RS (pre ++ [c]) rest := by
  unfold RS
  rw [List.append_assoc, List.length_append]
  rfl
theorem RS_adv {pre a rest : Cd} {n : Int} (h : n = (a.length : Int)) : rdS (stC (pre ++ (a ++ rest))) ((pre.length : Int) + n) = RS (pre ++ a) rest := by
  unfold RS
  rw [List.append_assoc, List.length_append, h]
  rfl
def OkC (c : Cd) : Prop := ∀ x ∈ c, x < 0x110000
theorem ok_st {c : Cd} (h : OkC c) : PyData.strOk (stC c) = true := by
  unfold PyData.strOk stC
  rw [← Array.all_toList]
  exact List.all_eq_true.mpr fun x hx => decide_eq_true (h x hx)
theorem OkC.app {a b : Cd} (h : OkC (a ++ b)) : OkC a ∧ OkC b := ⟨fun x hx => h x (List.mem_append.mpr (.inl hx)), fun x hx => h x (List.mem_append.mpr (.inr hx))⟩
theorem OkC.take {a : Cd} (h : OkC a) (n : Nat) : OkC (a.take n) := fun x hx => h x (List.mem_of_mem_take hx)
theorem stC_inj {a b : Cd} : stC a = stC b ↔ a = b := ⟨fun h => by rw [← cds_stC a, ← cds_stC b, h], fun h => by rw [h]⟩
theorem eqv_st {a b : Cd} : PyData.eqv (.str (stC a)) (.str (stC b)) = decide (a = b) := by
  unfold PyData.eqv
  rw [Bool.eq_iff_iff, beq_iff_eq, decide_eq_true_eq]
  exact stC_inj
theorem gNe_st {a b : Cd} (h1 : OkC a) (h2 : OkC b) : gNe (.str (stC a)) (.str (stC b)) = some (.dat (.bool (!decide (a = b)))) := by
  unfold gNe
  rw [shp_str (ok_st h1), shp_str (ok_st h2), eqv_st]
  rfl
theorem gEq_st {a b : Cd} (h1 : OkC a) (h2 : OkC b) : gEq (.str (stC a)) (.str (stC b)) = some (.dat (.bool (decide (a = b)))) := by
  unfold gEq
  rw [shp_str (ok_st h1), shp_str (ok_st h2), eqv_st]
  rfl
theorem okc1 {c : Nat} (h : c < 0x110000) : OkC [c] := fun x hx => by rw [List.mem_singleton.mp hx]; exact h
theorem okc0 : OkC [] := fun _ h => by cases h
theorem mk11 {c : CS} {s : S} : mkF 1 1 [0] c [s] = finish [0] [s] (c [some s]) := rfl
theorem mk11n {c : CS} {s : S} : mkF 1 1 [] c [s] = finish [] [s] (c [some s]) := rfl
theorem peek_spec {pre rest : Cd} (hl : (pre ++ rest).length ≤ 100000) : F_TextReader_peek [RS pre rest] = .ok (.dat (.str (stC (rest.take 1)))) [RS pre rest] := by
  have cl := ch_cls
  have hT : (stC (pre ++ rest)).length ≤ 100000 := by rw [len_stC]; exact hl
  have h1 : cbD (cQV (cqF "TextReader" "text" (cqN 0))) [some (RS pre rest)] = .ok (.d (.str (stC (pre ++ rest)))) [some (RS pre rest)] := by
    unfold RS
    simp -implicitDefEqProofs only [zR0, zR1, zR2, zR3, zR4, zR5, zR6, zR7, zR8, zR9, zR10, gAdd, gSub, gNeg, gNot, gLt, gLe, gGt, gGe, gLen, gAbs, gInt, gMax2, gMin2, gGcd, gList, gTuple, gAll, gAny, gPow, gMul, gFd, gMod, List.getElem?_cons_zero, List.getElem?_cons_succ, List.set_cons_zero, List.set_cons_succ, List.map_cons, List.map_nil, List.length_cons, List.length_nil, List.cons_append, List.nil_append, List.replicate_succ, List.replicate_zero, List.length_map, ↓cond_true, ↓cond_false, cond_true, cond_false, Option.map_some, beq_self_eq_true, List.contains_cons, List.contains_nil, Bool.or_false, Bool.false_or, Bool.or_true, Bool.and_true, Bool.true_and, Bool.not_true, Bool.not_false, Nat.reduceBEq, Nat.reduceAdd, Nat.reduceSub, Nat.reduceEqDiff, reduceCtorEq, Bool.false_eq_true, List.all_cons, List.all_nil, List.any_cons, List.any_nil, id, Int.reduceToNat, if_true, ite_true, if_false, eq_self, decide_true, decide_false, Option.map_none, forL_c, forL_n, cSeq_r, kr1_0, kr2_0, cLc_r, zB0, zB1, rk_0, rq_text]
  have h2 : cQV (cqF "TextReader" "at" (cqN 0)) [some (RS pre rest)] = .ok (.dat (.int (pre.length : Int))) [some (RS pre rest)] := by
    unfold RS
    simp -implicitDefEqProofs only [zR0, zR1, zR2, zR3, zR4, zR5, zR6, zR7, zR8, zR9, zR10, gAdd, gSub, gNeg, gNot, gLt, gLe, gGt, gGe, gLen, gAbs, gInt, gMax2, gMin2, gGcd, gList, gTuple, gAll, gAny, gPow, gMul, gFd, gMod, List.getElem?_cons_zero, List.getElem?_cons_succ, List.set_cons_zero, List.set_cons_succ, List.map_cons, List.map_nil, List.length_cons, List.length_nil, List.cons_append, List.nil_append, List.replicate_succ, List.replicate_zero, List.length_map, ↓cond_true, ↓cond_false, cond_true, cond_false, Option.map_some, beq_self_eq_true, List.contains_cons, List.contains_nil, Bool.or_false, Bool.false_or, Bool.or_true, Bool.and_true, Bool.true_and, Bool.not_true, Bool.not_false, Nat.reduceBEq, Nat.reduceAdd, Nat.reduceSub, Nat.reduceEqDiff, reduceCtorEq, Bool.false_eq_true, List.all_cons, List.all_nil, List.any_cons, List.any_nil, id, Int.reduceToNat, if_true, ite_true, if_false, eq_self, decide_true, decide_false, Option.map_none, forL_c, forL_n, cSeq_r, kr1_0, kr2_0, cLc_r, zB0, zB1, rk_0, rq_at]
  have h3 : c2 gAdd (cQV (cqF "TextReader" "at" (cqN 0))) (cK (.int 1)) [some (RS pre rest)] = .ok (.dat (.int ((pre.length : Int) + 1))) [some (RS pre rest)] := by
    unfold RS
    simp -implicitDefEqProofs only [zR0, zR1, zR2, zR3, zR4, zR5, zR6, zR7, zR8, zR9, zR10, gAdd, gSub, gNeg, gNot, gLt, gLe, gGt, gGe, gLen, gAbs, gInt, gMax2, gMin2, gGcd, gList, gTuple, gAll, gAny, gPow, gMul, gFd, gMod, List.getElem?_cons_zero, List.getElem?_cons_succ, List.set_cons_zero, List.set_cons_succ, List.map_cons, List.map_nil, List.length_cons, List.length_nil, List.cons_append, List.nil_append, List.replicate_succ, List.replicate_zero, List.length_map, ↓cond_true, ↓cond_false, cond_true, cond_false, Option.map_some, beq_self_eq_true, List.contains_cons, List.contains_nil, Bool.or_false, Bool.false_or, Bool.or_true, Bool.and_true, Bool.true_and, Bool.not_true, Bool.not_false, Nat.reduceBEq, Nat.reduceAdd, Nat.reduceSub, Nat.reduceEqDiff, reduceCtorEq, Bool.false_eq_true, List.all_cons, List.all_nil, List.any_cons, List.any_nil, id, Int.reduceToNat, if_true, ite_true, if_false, eq_self, decide_true, decide_false, Option.map_none, forL_c, forL_n, cSeq_r, kr1_0, kr2_0, cLc_r, zB0, zB1, rk_0, rq_at]
  have e := cSl_2 (g := gSlT) h1 h2 h3 (res_d)
  have g : gSlT (.str (stC (pre ++ rest))) (some (pre.length : Int)) (some ((pre.length : Int) + 1)) = some (.dat (.str (stC (rest.take 1)))) := by
    show (bif decide ((stC (pre ++ rest)).length ≤ sizeLine) then _ else _) = _
    rw [decide_eq_true (by omega), cond_true]
    have := cut_ab (T := stC (pre ++ rest)) (a := pre.length) (b := pre.length + 1) (by omega) (by rw [len_stC, List.length_append]; omega)
    rw [cds_stC, List.drop_left, show pre.length + 1 - pre.length = 1 by omega] at this
    exact congrArg (fun s => some (S.dat (.str s))) this
  rw [g] at e
  unfold F_TextReader_peek M_TextReader_peek
  show finish _ _ (cRet _ [some (RS pre rest)]) = _
  rw [cRet_r, e]
  rfl
end Z
set_option maxHeartbeats 1000000
namespace Z
open PySem PySem.Spec PyProof.Rows L2
open PySem.NumText
/-! ### numbers and signs, read -/
def StopD (r : Cd) : Prop := ∀ c ∈ r.head?, ¬ (48 ≤ c ∧ c ≤ 57)
theorem rd_set {a b : S} {r : En} : (some a :: r).set 0 (some b) = some b :: r := rfl
theorem RS_e {pre rest : Cd} : RS pre rest = rdS (stC (pre ++ rest)) (pre.length : Int) := rfl
theorem peek_call {pre rest : Cd} {r : En} (hl : (pre ++ rest).length ≤ 100000) : cMeth "TextReader" "peek" F_TextReader_peek 0 cxNil (some (RS pre rest) :: r) = .ok (.dat (.str (stC (rest.take 1)))) (some (RS pre rest) :: r) := by
  have e := peek_spec hl
  have ob : isOb "TextReader" "peek" (some (some (RS pre rest))) = true := rb_peek
  simp -implicitDefEqProofs only [zR0, zR1, zR2, zR3, zR4, zR5, zR6, zR7, zR8, zR9, zR10, gAdd, gSub, gNeg, gNot, gLt, gLe, gGt, gGe, gLen, gAbs, gInt, gMax2, gMin2, gGcd, gList, gTuple, gAll, gAny, gPow, gMul, gFd, gMod, List.getElem?_cons_zero, List.getElem?_cons_succ, List.set_cons_zero, List.set_cons_succ, List.map_cons, List.map_nil, List.length_cons, List.length_nil, List.cons_append, List.nil_append, List.replicate_succ, List.replicate_zero, List.length_map, ↓cond_true, ↓cond_false, cond_true, cond_false, Option.map_some, beq_self_eq_true, List.contains_cons, List.contains_nil, Bool.or_false, Bool.false_or, Bool.or_true, Bool.and_true, Bool.true_and, Bool.not_true, Bool.not_false, Nat.reduceBEq, Nat.reduceAdd, Nat.reduceSub, Nat.reduceEqDiff, reduceCtorEq, Bool.false_eq_true, List.all_cons, List.all_nil, List.any_cons, List.any_nil, id, Int.reduceToNat, if_true, ite_true, if_false, eq_self, decide_true, decide_false, Option.map_none, forL_c, forL_n, cSeq_r, kr1_0, kr2_0, cLc_r, zB0, zB1, ob, e]
theorem bump {pre rest : Cd} {c : Nat} {r : En} : cSetF 0 "TextReader" "at" (c2 gAdd (cQV (cqF "TextReader" "at" (cqN 0))) (cK (.int 1))) (some (RS pre (c :: rest)) :: r) = .nx (some (RS (pre ++ [c]) rest) :: r) := by
  rw [← RS_step, RS_e]
  simp -implicitDefEqProofs only [zR0, zR1, zR2, zR3, zR4, zR5, zR6, zR7, zR8, zR9, zR10, gAdd, gSub, gNeg, gNot, gLt, gLe, gGt, gGe, gLen, gAbs, gInt, gMax2, gMin2, gGcd, gList, gTuple, gAll, gAny, gPow, gMul, gFd, gMod, List.getElem?_cons_zero, List.getElem?_cons_succ, List.set_cons_zero, List.set_cons_succ, List.map_cons, List.map_nil, List.length_cons, List.length_nil, List.cons_append, List.nil_append, List.replicate_succ, List.replicate_zero, List.length_map, ↓cond_true, ↓cond_false, cond_true, cond_false, Option.map_some, beq_self_eq_true, List.contains_cons, List.contains_nil, Bool.or_false, Bool.false_or, Bool.or_true, Bool.and_true, Bool.true_and, Bool.not_true, Bool.not_false, Nat.reduceBEq, Nat.reduceAdd, Nat.reduceSub, Nat.reduceEqDiff, reduceCtorEq, Bool.false_eq_true, List.all_cons, List.all_nil, List.any_cons, List.any_nil, id, Int.reduceToNat, if_true, ite_true, if_false, eq_self, decide_true, decide_false, Option.map_none, forL_c, forL_n, cSeq_r, kr1_0, kr2_0, cLc_r, zB0, zB1, rk_0, rq_at, rs_at]
theorem fig_in {c : Nat} : gIn (.str (stC [c])) (.str ("0123456789" : Str)) = some (.dat (.bool (decide (48 ≤ c ∧ c ≤ 57)))) := by
  show (bif decide ((stC [c]).length = 1) then some (S.dat (.bool (decide ((stC [c]).cps.getD 0 0 ∈ ("0123456789" : Str).cps.toList)))) else none) = _
  rw [decide_eq_true (show (stC [c]).length = 1 from len_stC [c]), cond_true]
  congr 3
  have e : ("0123456789" : Str).cps.toList = [48, 49, 50, 51, 52, 53, 54, 55, 56, 57] := by decide +kernel
  rw [e]
  refine decide_eq_decide.mpr ?_
  show c ∈ [48, 49, 50, 51, 52, 53, 54, 55, 56, 57] ↔ _
  simp only [List.mem_cons, List.not_mem_nil, or_false]
  omega
theorem emp_st : ("" : Str) = stC [] := by with_unfolding_all rfl
def hdD : Cd → Bool
  | [] => false
  | c :: _ => decide (48 ≤ c ∧ c ≤ 57)
theorem fig_test {pre rest : Cd} {r : En} (hl : (pre ++ rest).length ≤ 100000) (ok : OkC (pre ++ rest)) : L_TextReader_figures_1 (some (RS pre rest) :: r) = .ok (.dat (.bool (hdD rest))) (some (RS pre rest) :: r) := by
  have p := peek_call (r := r) hl
  have okr := ok.app.2
  unfold L_TextReader_figures_1
  rw [show ("" : Str) = stC [] from emp_st]
  cases rest with
  | nil =>
    have p : cMeth "TextReader" "peek" F_TextReader_peek 0 cxNil (some (RS pre []) :: r) = .ok (.dat (.str (stC []))) (some (RS pre []) :: r) := p
    have g := gNe_st (a := []) (b := []) okc0 okc0
    have d : decide (([] : Cd) = []) = true := decide_eq_true rfl
    rw [d] at g
    rw [show ∀ (a b : CE) (ρ : En), cAnd a b ρ = tAnd (a ρ) b from fun _ _ _ => rfl, show ∀ (a b : CE) (ρ : En), c2 gNe a b ρ = k2a (a ρ) gNe b from fun _ _ _ => rfl, p]
    simp -implicitDefEqProofs only [zR0, zR1, zR2, zR3, zR4, zR5, zR6, zR7, zR8, zR9, zR10, gAdd, gSub, gNeg, gNot, gLt, gLe, gGt, gGe, gLen, gAbs, gInt, gMax2, gMin2, gGcd, gList, gTuple, gAll, gAny, gPow, gMul, gFd, gMod, List.getElem?_cons_zero, List.getElem?_cons_succ, List.set_cons_zero, List.set_cons_succ, List.map_cons, List.map_nil, List.length_cons, List.length_nil, List.cons_append, List.nil_append, List.replicate_succ, List.replicate_zero, List.length_map, ↓cond_true, ↓cond_false, cond_true, cond_false, Option.map_some, beq_self_eq_true, List.contains_cons, List.contains_nil, Bool.or_false, Bool.false_or, Bool.or_true, Bool.and_true, Bool.true_and, Bool.not_true, Bool.not_false, Nat.reduceBEq, Nat.reduceAdd, Nat.reduceSub, Nat.reduceEqDiff, reduceCtorEq, Bool.false_eq_true, List.all_cons, List.all_nil, List.any_cons, List.any_nil, id, Int.reduceToNat, if_true, ite_true, if_false, eq_self, decide_true, decide_false, Option.map_none, forL_c, forL_n, g]
    try rfl
  | cons c rest =>
    have p : cMeth "TextReader" "peek" F_TextReader_peek 0 cxNil (some (RS pre (c :: rest)) :: r) = .ok (.dat (.str (stC [c]))) (some (RS pre (c :: rest)) :: r) := p
    have g := gNe_st (a := [c]) (b := []) (okc1 (okr c (by simp))) okc0
    have d : decide (([c] : Cd) = []) = false := decide_eq_false (by simp)
    rw [d] at g
    have f := fig_in (c := c)
    rw [show ∀ (a b : CE) (ρ : En), cAnd a b ρ = tAnd (a ρ) b from fun _ _ _ => rfl, show ∀ (a b : CE) (ρ : En), c2 gNe a b ρ = k2a (a ρ) gNe b from fun _ _ _ => rfl, p]
    simp -implicitDefEqProofs only [zR0, zR1, zR2, zR3, zR4, zR5, zR6, zR7, zR8, zR9, zR10, gAdd, gSub, gNeg, gNot, gLt, gLe, gGt, gGe, gLen, gAbs, gInt, gMax2, gMin2, gGcd, gList, gTuple, gAll, gAny, gPow, gMul, gFd, gMod, List.getElem?_cons_zero, List.getElem?_cons_succ, List.set_cons_zero, List.set_cons_succ, List.map_cons, List.map_nil, List.length_cons, List.length_nil, List.cons_append, List.nil_append, List.replicate_succ, List.replicate_zero, List.length_map, ↓cond_true, ↓cond_false, cond_true, cond_false, Option.map_some, beq_self_eq_true, List.contains_cons, List.contains_nil, Bool.or_false, Bool.false_or, Bool.or_true, Bool.and_true, Bool.true_and, Bool.not_true, Bool.not_false, Nat.reduceBEq, Nat.reduceAdd, Nat.reduceSub, Nat.reduceEqDiff, reduceCtorEq, Bool.false_eq_true, List.all_cons, List.all_nil, List.any_cons, List.any_nil, id, Int.reduceToNat, if_true, ite_true, if_false, eq_self, decide_true, decide_false, Option.map_none, forL_c, forL_n, g]
    rw [p]
    simp -implicitDefEqProofs only [zR0, zR1, zR2, zR3, zR4, zR5, zR6, zR7, zR8, zR9, zR10, gAdd, gSub, gNeg, gNot, gLt, gLe, gGt, gGe, gLen, gAbs, gInt, gMax2, gMin2, gGcd, gList, gTuple, gAll, gAny, gPow, gMul, gFd, gMod, List.getElem?_cons_zero, List.getElem?_cons_succ, List.set_cons_zero, List.set_cons_succ, List.map_cons, List.map_nil, List.length_cons, List.length_nil, List.cons_append, List.nil_append, List.replicate_succ, List.replicate_zero, List.length_map, ↓cond_true, ↓cond_false, cond_true, cond_false, Option.map_some, beq_self_eq_true, List.contains_cons, List.contains_nil, Bool.or_false, Bool.false_or, Bool.or_true, Bool.and_true, Bool.true_and, Bool.not_true, Bool.not_false, Nat.reduceBEq, Nat.reduceAdd, Nat.reduceSub, Nat.reduceEqDiff, reduceCtorEq, Bool.false_eq_true, List.all_cons, List.all_nil, List.any_cons, List.any_nil, id, Int.reduceToNat, if_true, ite_true, if_false, eq_self, decide_true, decide_false, Option.map_none, forL_c, forL_n, f]
    rfl
theorem fig_loop {r : En} : ∀ (ds : Cd) (pre rest : Cd) (n : Nat), AllDigits ds → StopD rest → (pre ++ (ds ++ rest)).length ≤ 100000 → OkC (pre ++ (ds ++ rest)) → ds.length ≤ n →
    whileL L_TextReader_figures_1 L_TextReader_figures_0 (n + 1) (some (RS pre (ds ++ rest)) :: r) = .nx (some (RS (pre ++ ds) rest) :: r)
  | [], pre, rest, n, _, hs, hl, ok, _ => by
    have t := fig_test (r := r) hl ok
    rw [List.append_nil]
    have e : hdD ([] ++ rest) = false := by
      cases rest with
      | nil => rfl
      | cons c rest => exact decide_eq_false (hs c rfl)
    rw [e] at t
    exact while_f t
  | c :: ds, pre, rest, n, hd, hs, hl, ok, hn => by
    rw [List.length_cons] at hn
    obtain ⟨m, rfl⟩ : ∃ m, n = m + 1 := ⟨n - 1, by omega⟩
    have t := fig_test (r := r) (rest := c :: (ds ++ rest)) hl ok
    have hc := hd.head
    rw [show hdD (c :: (ds ++ rest)) = true from decide_eq_true hc] at t
    have b : L_TextReader_figures_0 (some (RS pre (c :: (ds ++ rest))) :: r) = .nx (some (RS (pre ++ [c]) (ds ++ rest)) :: r) := bump
    have ea : pre ++ c :: (ds ++ rest) = pre ++ [c] ++ (ds ++ rest) := by simp
    have ih := fig_loop (r := r) ds (pre ++ [c]) rest m hd.tail hs (by rw [← ea]; exact hl) (by rw [← ea]; exact ok) (by omega)
    rw [List.cons_append, while_t t b, ih]
    simp
theorem mk13 {c : CS} {s : S} : mkF 1 3 [0] c [s] = finish [0] [s] (c [some s, none, none]) := rfl
theorem figures_spec {m : Nat} {pre rest : Cd} (hm : m < 10 ^ 200) (hs : StopD rest) (hl : (pre ++ (dg m ++ rest)).length ≤ 100000) (ok : OkC (pre ++ (dg m ++ rest))) :
    F_TextReader_figures [RS pre (dg m ++ rest)] = .ok (.dat (.int (m : Int))) [RS (pre ++ dg m) rest] := by
  have cl := ch_cls
  have dl := dg_len hm (by decide)
  have dn := dg_ne m
  have dl1 : 1 ≤ (dg m).length := by cases h : dg m with | nil => exact absurd h dn | cons a b => simp
  have w := fig_loop (r := [some (.dat (.int (pre.length : Int))), none]) (dg m) pre rest (2 ^ 40 - 1) (dg_all m) hs hl ok (by omega)
  rw [← wmax] at w
  have q : cQV (cqF "TextReader" "at" (cqN 0)) [some (RS pre (dg m ++ rest)), none, none] = .ok (.dat (.int (pre.length : Int))) [some (RS pre (dg m ++ rest)), none, none] := by
    unfold RS
    simp -implicitDefEqProofs only [zR0, zR1, zR2, zR3, zR4, zR5, zR6, zR7, zR8, zR9, zR10, gAdd, gSub, gNeg, gNot, gLt, gLe, gGt, gGe, gLen, gAbs, gInt, gMax2, gMin2, gGcd, gList, gTuple, gAll, gAny, gPow, gMul, gFd, gMod, List.getElem?_cons_zero, List.getElem?_cons_succ, List.set_cons_zero, List.set_cons_succ, List.map_cons, List.map_nil, List.length_cons, List.length_nil, List.cons_append, List.nil_append, List.replicate_succ, List.replicate_zero, List.length_map, ↓cond_true, ↓cond_false, cond_true, cond_false, Option.map_some, beq_self_eq_true, List.contains_cons, List.contains_nil, Bool.or_false, Bool.false_or, Bool.or_true, Bool.and_true, Bool.true_and, Bool.not_true, Bool.not_false, Nat.reduceBEq, Nat.reduceAdd, Nat.reduceSub, Nat.reduceEqDiff, reduceCtorEq, Bool.false_eq_true, List.all_cons, List.all_nil, List.any_cons, List.any_nil, id, Int.reduceToNat, if_true, ite_true, if_false, eq_self, decide_true, decide_false, Option.map_none, forL_c, forL_n, cSeq_r, kr1_0, kr2_0, cLc_r, zB0, zB1, rk_0, rq_at]
  have h1 : cbD (cQV (cqF "TextReader" "text" (cqN 0))) [some (RS (pre ++ dg m) rest), some (.dat (.int (pre.length : Int))), none] = .ok (.d (.str (stC (pre ++ dg m ++ rest)))) [some (RS (pre ++ dg m) rest), some (.dat (.int (pre.length : Int))), none] := by
    unfold RS
    simp -implicitDefEqProofs only [zR0, zR1, zR2, zR3, zR4, zR5, zR6, zR7, zR8, zR9, zR10, gAdd, gSub, gNeg, gNot, gLt, gLe, gGt, gGe, gLen, gAbs, gInt, gMax2, gMin2, gGcd, gList, gTuple, gAll, gAny, gPow, gMul, gFd, gMod, List.getElem?_cons_zero, List.getElem?_cons_succ, List.set_cons_zero, List.set_cons_succ, List.map_cons, List.map_nil, List.length_cons, List.length_nil, List.cons_append, List.nil_append, List.replicate_succ, List.replicate_zero, List.length_map, ↓cond_true, ↓cond_false, cond_true, cond_false, Option.map_some, beq_self_eq_true, List.contains_cons, List.contains_nil, Bool.or_false, Bool.false_or, Bool.or_true, Bool.and_true, Bool.true_and, Bool.not_true, Bool.not_false, Nat.reduceBEq, Nat.reduceAdd, Nat.reduceSub, Nat.reduceEqDiff, reduceCtorEq, Bool.false_eq_true, List.all_cons, List.all_nil, List.any_cons, List.any_nil, id, Int.reduceToNat, if_true, ite_true, if_false, eq_self, decide_true, decide_false, Option.map_none, forL_c, forL_n, cSeq_r, kr1_0, kr2_0, cLc_r, zB0, zB1, rk_0, rq_text]
  have h2 : cV 1 [some (RS (pre ++ dg m) rest), some (.dat (.int (pre.length : Int))), none] = .ok (.dat (.int (pre.length : Int))) [some (RS (pre ++ dg m) rest), some (.dat (.int (pre.length : Int))), none] := rfl
  have h3 : cQV (cqF "TextReader" "at" (cqN 0)) [some (RS (pre ++ dg m) rest), some (.dat (.int (pre.length : Int))), none] = .ok (.dat (.int ((pre ++ dg m).length : Int))) [some (RS (pre ++ dg m) rest), some (.dat (.int (pre.length : Int))), none] := by
    unfold RS
    simp -implicitDefEqProofs only [zR0, zR1, zR2, zR3, zR4, zR5, zR6, zR7, zR8, zR9, zR10, gAdd, gSub, gNeg, gNot, gLt, gLe, gGt, gGe, gLen, gAbs, gInt, gMax2, gMin2, gGcd, gList, gTuple, gAll, gAny, gPow, gMul, gFd, gMod, List.getElem?_cons_zero, List.getElem?_cons_succ, List.set_cons_zero, List.set_cons_succ, List.map_cons, List.map_nil, List.length_cons, List.length_nil, List.cons_append, List.nil_append, List.replicate_succ, List.replicate_zero, List.length_map, ↓cond_true, ↓cond_false, cond_true, cond_false, Option.map_some, beq_self_eq_true, List.contains_cons, List.contains_nil, Bool.or_false, Bool.false_or, Bool.or_true, Bool.and_true, Bool.true_and, Bool.not_true, Bool.not_false, Nat.reduceBEq, Nat.reduceAdd, Nat.reduceSub, Nat.reduceEqDiff, reduceCtorEq, Bool.false_eq_true, List.all_cons, List.all_nil, List.any_cons, List.any_nil, id, Int.reduceToNat, if_true, ite_true, if_false, eq_self, decide_true, decide_false, Option.map_none, forL_c, forL_n, cSeq_r, kr1_0, kr2_0, cLc_r, zB0, zB1, rk_0, rq_at]
  have e := cSl_2 (g := gSlT) h1 h2 h3 (res_d)
  have g : gSlT (.str (stC (pre ++ dg m ++ rest))) (some (pre.length : Int)) (some ((pre ++ dg m).length : Int)) = some (.dat (.str (stC (dg m)))) := by
    show (bif decide ((stC (pre ++ dg m ++ rest)).length ≤ sizeLine) then _ else _) = _
    rw [decide_eq_true (by rw [len_stC, List.append_assoc]; omega), cond_true]
    have := cut_ab (T := stC (pre ++ dg m ++ rest)) (a := pre.length) (b := (pre ++ dg m).length) (by rw [List.length_append]; omega) (by rw [len_stC, List.length_append, List.length_append]; omega)
    have hb : (pre ++ dg m).length - pre.length = (dg m).length := by rw [List.length_append]; omega
    rw [cds_stC, List.append_assoc, List.drop_left, hb, List.take_left] at this
    rw [List.append_assoc]
    exact congrArg (fun s => some (S.dat (.str s))) this
  rw [g] at e
  have z : decide ((stC (dg m)).length ≤ sizeLine) = true := decide_eq_true (by rw [len_stC]; omega)
  have d1 : decide ((1 : Int) ≤ ((stC (dg m)).length : Int)) = true := decide_eq_true (by rw [len_stC]; omega)
  have d2 : decide (((stC (dg m)).length : Int) ≤ 200) = true := decide_eq_true (by rw [len_stC]; omega)
  have okd : OkC (dg m) := (ok.app.2).app.1
  have z0 : ("0" : Str) = stC [48] := by refine cds_inj ?_; rw [cds_stC]; decide +kernel
  have gi : gIntT [.str (stC (dg m))] = some (.dat (.int (m : Int))) := by
    show (bif decide ((stC (dg m)).length ≤ 640) then (PySem.intText? (stC (dg m))).map _ else _) = _
    rw [decide_eq_true (by rw [len_stC]; omega), int_dg hm]
    rfl
  have tst : cIfS (cOr (c1 gNot (cChain gLe gLe (cK (.int 1)) (cB1 gLen (cbN 2)) (cK (.int 200)))) (cAnd (c2 gGt (cB1 gLen (cbN 2)) (cK (.int 1))) (c2 gEq (cB2 gIx (cbN 2) (cK (.int 0))) (cK (.str ("0" : Str)))))) ((fun _ => .bad)) (cNext) [some (RS (pre ++ dg m) rest), some (.dat (.int (pre.length : Int))), some (.dat (.str (stC (dg m))))] =
      .nx [some (RS (pre ++ dg m) rest), some (.dat (.int (pre.length : Int))), some (.dat (.str (stC (dg m))))] := by
    by_cases h2 : 1 < (dg m).length
    · have d3 : decide (((stC (dg m)).length : Int) > 1) = true := decide_eq_true (by rw [len_stC]; omega)
      have d3' : decide ((1 : Int) < ((stC (dg m)).length : Int)) = true := d3
      cases hq : dg m with
      | nil => exact absurd hq dn
      | cons a b =>
        have ha : a ≠ 48 := dg_lead hq (by intro e; rw [hq, e] at h2; simp at h2)
        have ix : (atI (stC (dg m)).cps.toList 0) = some a := by
          rw [show (stC (dg m)).cps.toList = dg m from cds_stC _, hq]
          exact atI_0
        have ge := gEq_st (a := [a]) (b := [48]) (okc1 (okd a (by rw [hq]; simp))) (okc1 (by decide))
        rw [decide_eq_false (by simpa using ha)] at ge
        have ge : gEq (.str ⟨#[a]⟩) (.str (stC [48])) = some (.dat (.bool false)) := ge
        have gx : gIx (.str (stC (dg m))) (.int 0) = some (.dat (.str ⟨#[a]⟩)) := by
          show (bif decide ((stC (dg m)).length ≤ sizeLine) then (atI (stC (dg m)).cps.toList 0).map _ else none) = _
          rw [z, ix]
          rfl
        rw [← hq, z0]
        simp -implicitDefEqProofs only [zR0, zR1, zR2, zR3, zR4, zR5, zR6, zR7, zR8, zR9, zR10, gAdd, gSub, gNeg, gNot, gLt, gLe, gGt, gGe, gLen, gAbs, gInt, gMax2, gMin2, gGcd, gList, gTuple, gAll, gAny, gPow, gMul, gFd, gMod, List.getElem?_cons_zero, List.getElem?_cons_succ, List.set_cons_zero, List.set_cons_succ, List.map_cons, List.map_nil, List.length_cons, List.length_nil, List.cons_append, List.nil_append, List.replicate_succ, List.replicate_zero, List.length_map, ↓cond_true, ↓cond_false, cond_true, cond_false, Option.map_some, beq_self_eq_true, List.contains_cons, List.contains_nil, Bool.or_false, Bool.false_or, Bool.or_true, Bool.and_true, Bool.true_and, Bool.not_true, Bool.not_false, Nat.reduceBEq, Nat.reduceAdd, Nat.reduceSub, Nat.reduceEqDiff, reduceCtorEq, Bool.false_eq_true, List.all_cons, List.all_nil, List.any_cons, List.any_nil, id, Int.reduceToNat, if_true, ite_true, if_false, eq_self, decide_true, decide_false, Option.map_none, forL_c, forL_n, z, d1, d2, d3, d3', gx, ge]
    · have d3 : decide (((stC (dg m)).length : Int) > 1) = false := decide_eq_false (by rw [len_stC]; omega)
      have d3' : decide ((1 : Int) < ((stC (dg m)).length : Int)) = false := d3
      simp -implicitDefEqProofs only [zR0, zR1, zR2, zR3, zR4, zR5, zR6, zR7, zR8, zR9, zR10, gAdd, gSub, gNeg, gNot, gLt, gLe, gGt, gGe, gLen, gAbs, gInt, gMax2, gMin2, gGcd, gList, gTuple, gAll, gAny, gPow, gMul, gFd, gMod, List.getElem?_cons_zero, List.getElem?_cons_succ, List.set_cons_zero, List.set_cons_succ, List.map_cons, List.map_nil, List.length_cons, List.length_nil, List.cons_append, List.nil_append, List.replicate_succ, List.replicate_zero, List.length_map, ↓cond_true, ↓cond_false, cond_true, cond_false, Option.map_some, beq_self_eq_true, List.contains_cons, List.contains_nil, Bool.or_false, Bool.false_or, Bool.or_true, Bool.and_true, Bool.true_and, Bool.not_true, Bool.not_false, Nat.reduceBEq, Nat.reduceAdd, Nat.reduceSub, Nat.reduceEqDiff, reduceCtorEq, Bool.false_eq_true, List.all_cons, List.all_nil, List.any_cons, List.any_nil, id, Int.reduceToNat, if_true, ite_true, if_false, eq_self, decide_true, decide_false, Option.map_none, forL_c, forL_n, z, d1, d2, d3, d3']
  unfold F_TextReader_figures M_TextReader_figures
  rw [mk13, cSeq_r, show ∀ (i : Nat) (c : CE) (ρ : En), cSet i c ρ = kSet (c ρ) i from fun _ _ _ => rfl, q]
  show finish [0] [_] ((O.nx [some (RS pre (dg m ++ rest)), some (.dat (.int (pre.length : Int))), none]).sq _) = _
  rw [sq_nx, cSeq_r, w, sq_nx, cSeq_r, show ∀ (i : Nat) (c : CE) (ρ : En), cSet i c ρ = kSet (c ρ) i from fun _ _ _ => rfl, e]
  show finish [0] [_] ((O.nx [some (RS (pre ++ dg m) rest), some (.dat (.int (pre.length : Int))), some (.dat (.str (stC (dg m))))]).sq _) = _
  rw [sq_nx, cSeq_r, tst, sq_nx]
  simp -implicitDefEqProofs only [zR0, zR1, zR2, zR3, zR4, zR5, zR6, zR7, zR8, zR9, zR10, gAdd, gSub, gNeg, gNot, gLt, gLe, gGt, gGe, gLen, gAbs, gInt, gMax2, gMin2, gGcd, gList, gTuple, gAll, gAny, gPow, gMul, gFd, gMod, List.getElem?_cons_zero, List.getElem?_cons_succ, List.set_cons_zero, List.set_cons_succ, List.map_cons, List.map_nil, List.length_cons, List.length_nil, List.cons_append, List.nil_append, List.replicate_succ, List.replicate_zero, List.length_map, ↓cond_true, ↓cond_false, cond_true, cond_false, Option.map_some, beq_self_eq_true, List.contains_cons, List.contains_nil, Bool.or_false, Bool.false_or, Bool.or_true, Bool.and_true, Bool.true_and, Bool.not_true, Bool.not_false, Nat.reduceBEq, Nat.reduceAdd, Nat.reduceSub, Nat.reduceEqDiff, reduceCtorEq, Bool.false_eq_true, List.all_cons, List.all_nil, List.any_cons, List.any_nil, id, Int.reduceToNat, if_true, ite_true, if_false, eq_self, decide_true, decide_false, Option.map_none, forL_c, forL_n, gi]
  try rfl
end Z
set_option maxHeartbeats 1000000
namespace Z
open PySem PySem.Spec PyProof.Rows L2
/-! ### texts and tuples, read -/
theorem mk22 {c : CS} {s t : S} : mkF 2 2 [0] c [s, t] = finish [0] [s, t] (c [some s, some t]) := rfl
theorem sign_spec {pre rest : Cd} {c : Nat} (hl : (pre ++ c :: rest).length ≤ 100000) (ok : OkC (pre ++ c :: rest)) : F_TextReader_sign [RS pre (c :: rest), .dat (.str (stC [c]))] = .ok (.dat .none) [RS (pre ++ [c]) rest, .dat (.str (stC [c]))] := by
  have p : cMeth "TextReader" "peek" F_TextReader_peek 0 cxNil [some (RS pre (c :: rest)), some (.dat (.str (stC [c])))] = .ok (.dat (.str (stC [c]))) [some (RS pre (c :: rest)), some (.dat (.str (stC [c])))] := peek_call hl
  have oc := okc1 (ok.app.2 c (by simp))
  have g := gNe_st (a := [c]) (b := [c]) oc oc
  rw [decide_eq_true rfl] at g
  have s1 : cIfS (c2 gNe (cMeth "TextReader" "peek" F_TextReader_peek 0 cxNil) (cV 1)) ((fun _ => .bad)) (cNext) [some (RS pre (c :: rest)), some (.dat (.str (stC [c])))] = .nx [some (RS pre (c :: rest)), some (.dat (.str (stC [c])))] := by
    rw [show ∀ (a : CE) (b d : CS) (ρ : En), cIfS a b d ρ = tIfS (a ρ) b d from fun _ _ _ _ => rfl, show ∀ (a b : CE) (ρ : En), c2 gNe a b ρ = k2a (a ρ) gNe b from fun _ _ _ => rfl, p]
    simp -implicitDefEqProofs only [zR0, zR1, zR2, zR3, zR4, zR5, zR6, zR7, zR8, zR9, zR10, gAdd, gSub, gNeg, gNot, gLt, gLe, gGt, gGe, gLen, gAbs, gInt, gMax2, gMin2, gGcd, gList, gTuple, gAll, gAny, gPow, gMul, gFd, gMod, List.getElem?_cons_zero, List.getElem?_cons_succ, List.set_cons_zero, List.set_cons_succ, List.map_cons, List.map_nil, List.length_cons, List.length_nil, List.cons_append, List.nil_append, List.replicate_succ, List.replicate_zero, List.length_map, ↓cond_true, ↓cond_false, cond_true, cond_false, Option.map_some, beq_self_eq_true, List.contains_cons, List.contains_nil, Bool.or_false, Bool.false_or, Bool.or_true, Bool.and_true, Bool.true_and, Bool.not_true, Bool.not_false, Nat.reduceBEq, Nat.reduceAdd, Nat.reduceSub, Nat.reduceEqDiff, reduceCtorEq, Bool.false_eq_true, List.all_cons, List.all_nil, List.any_cons, List.any_nil, id, Int.reduceToNat, if_true, ite_true, if_false, eq_self, decide_true, decide_false, Option.map_none, forL_c, forL_n, g]
  unfold F_TextReader_sign M_TextReader_sign
  rw [mk22, cSeq_r, s1, sq_nx, bump]
  rfl
def Stop (r : Cd) : Prop := ∀ c ∈ r.head?, c = 44 ∨ c = 41
theorem Stop.d {r : Cd} (h : Stop r) : StopD r := fun c hc => by have := h c hc; omega
theorem nt_head {pre : Cd} {m : Nat} {rest : Cd} (hm : m < 10 ^ 200) (hs : StopD rest) (hl : (pre ++ (dg m ++ rest)).length ≤ 100000) (ok : OkC (pre ++ (dg m ++ rest))) :
    cSet 1 (cMeth "TextReader" "figures" F_TextReader_figures 0 cxNil) [some (RS pre (dg m ++ rest)), none, none] = .nx [some (RS (pre ++ dg m) rest), some (.dat (.int (m : Int))), none] := by
  have e := figures_spec hm hs hl ok
  have ob : isOb "TextReader" "figures" (some (some (RS pre (dg m ++ rest)))) = true := rb_figures
  simp -implicitDefEqProofs only [zR0, zR1, zR2, zR3, zR4, zR5, zR6, zR7, zR8, zR9, zR10, gAdd, gSub, gNeg, gNot, gLt, gLe, gGt, gGe, gLen, gAbs, gInt, gMax2, gMin2, gGcd, gList, gTuple, gAll, gAny, gPow, gMul, gFd, gMod, List.getElem?_cons_zero, List.getElem?_cons_succ, List.set_cons_zero, List.set_cons_succ, List.map_cons, List.map_nil, List.length_cons, List.length_nil, List.cons_append, List.nil_append, List.replicate_succ, List.replicate_zero, List.length_map, ↓cond_true, ↓cond_false, cond_true, cond_false, Option.map_some, beq_self_eq_true, List.contains_cons, List.contains_nil, Bool.or_false, Bool.false_or, Bool.or_true, Bool.and_true, Bool.true_and, Bool.not_true, Bool.not_false, Nat.reduceBEq, Nat.reduceAdd, Nat.reduceSub, Nat.reduceEqDiff, reduceCtorEq, Bool.false_eq_true, List.all_cons, List.all_nil, List.any_cons, List.any_nil, id, Int.reduceToNat, if_true, ite_true, if_false, eq_self, decide_true, decide_false, Option.map_none, forL_c, forL_n, cSeq_r, kr1_0, kr2_0, cLc_r, zB0, zB1, ob, e]
/-- a number that is not negative -/
theorem nt_num {pre : Cd} {m : Nat} {rest : Cd} (hm : m < 10 ^ 200) (hs : Stop rest) (hl : (pre ++ (dg m ++ rest)).length ≤ 100000) (ok : OkC (pre ++ (dg m ++ rest))) :
    F_TextReader_number_or_text [RS pre (dg m ++ rest)] = .ok (.dat (.int (m : Int))) [RS (pre ++ dg m) rest] := by
  have e := nt_head hm hs.d hl ok
  have hl' : (pre ++ dg m ++ rest).length ≤ 100000 := by rw [List.append_assoc]; exact hl
  have ok' : OkC (pre ++ dg m ++ rest) := by rw [List.append_assoc]; exact ok
  have p := peek_call (r := [some (.dat (.int (m : Int))), none]) hl'
  have z : (":" : Str) = stC [58] := lit_st.1
  have g := gNe_st (a := rest.take 1) (b := [58]) (ok'.app.2.take 1) (okc1 (by decide))
  rw [decide_eq_false (by
    cases rest with
    | nil => simp
    | cons c r => have := hs c rfl; simp; omega)] at g
  have s1 : cIfS (c2 gNe (cMeth "TextReader" "peek" F_TextReader_peek 0 cxNil) (cK (.str (":" : Str)))) (cRet (cVm 1)) (cNext) [some (RS (pre ++ dg m) rest), some (.dat (.int (m : Int))), none] = .rt (.dat (.int (m : Int))) [some (RS (pre ++ dg m) rest), none, none] := by
    rw [show ∀ (a : CE) (b d : CS) (ρ : En), cIfS a b d ρ = tIfS (a ρ) b d from fun _ _ _ _ => rfl, show ∀ (a b : CE) (ρ : En), c2 gNe a b ρ = k2a (a ρ) gNe b from fun _ _ _ => rfl, p, z]
    simp -implicitDefEqProofs only [zR0, zR1, zR2, zR3, zR4, zR5, zR6, zR7, zR8, zR9, zR10, gAdd, gSub, gNeg, gNot, gLt, gLe, gGt, gGe, gLen, gAbs, gInt, gMax2, gMin2, gGcd, gList, gTuple, gAll, gAny, gPow, gMul, gFd, gMod, List.getElem?_cons_zero, List.getElem?_cons_succ, List.set_cons_zero, List.set_cons_succ, List.map_cons, List.map_nil, List.length_cons, List.length_nil, List.cons_append, List.nil_append, List.replicate_succ, List.replicate_zero, List.length_map, ↓cond_true, ↓cond_false, cond_true, cond_false, Option.map_some, beq_self_eq_true, List.contains_cons, List.contains_nil, Bool.or_false, Bool.false_or, Bool.or_true, Bool.and_true, Bool.true_and, Bool.not_true, Bool.not_false, Nat.reduceBEq, Nat.reduceAdd, Nat.reduceSub, Nat.reduceEqDiff, reduceCtorEq, Bool.false_eq_true, List.all_cons, List.all_nil, List.any_cons, List.any_nil, id, Int.reduceToNat, if_true, ite_true, if_false, eq_self, decide_true, decide_false, Option.map_none, forL_c, forL_n, g]
    try rfl
  unfold F_TextReader_number_or_text M_TextReader_number_or_text
  rw [mk13, cSeq_r, e, sq_nx, cSeq_r, s1]
  rfl
/-- a text -/
theorem nt_txt {pre : Cd} {z : Str} {rest : Cd} (hz : z.length ≤ 99) (hl : (pre ++ (dg z.length ++ 58 :: (cds z ++ rest))).length ≤ 100000) (ok : OkC (pre ++ (dg z.length ++ 58 :: (cds z ++ rest)))) :
    F_TextReader_number_or_text [RS pre (dg z.length ++ 58 :: (cds z ++ rest))] = .ok (.dat (.str z)) [RS (pre ++ (dg z.length ++ 58 :: cds z)) rest] := by
  have cl := ch_cls
  have hm : z.length < 10 ^ 200 := Nat.lt_of_le_of_lt hz (by decide +kernel)
  have e := nt_head (rest := 58 :: (cds z ++ rest)) hm (fun c hc => by cases hc; omega) hl ok
  have hl' : (pre ++ dg z.length ++ 58 :: (cds z ++ rest)).length ≤ 100000 := by rw [List.append_assoc]; exact hl
  have ok' : OkC (pre ++ dg z.length ++ 58 :: (cds z ++ rest)) := by rw [List.append_assoc]; exact ok
  have p : cMeth "TextReader" "peek" F_TextReader_peek 0 cxNil [some (RS (pre ++ dg z.length) (58 :: (cds z ++ rest))), some (.dat (.int (z.length : Int))), none] = .ok (.dat (.str (stC [58]))) [some (RS (pre ++ dg z.length) (58 :: (cds z ++ rest))), some (.dat (.int (z.length : Int))), none] := peek_call hl'
  have z0 : (":" : Str) = stC [58] := lit_st.1
  have g := gNe_st (a := [58]) (b := [58]) (okc1 (by decide)) (okc1 (by decide))
  rw [decide_eq_true rfl] at g
  have s1 : cIfS (c2 gNe (cMeth "TextReader" "peek" F_TextReader_peek 0 cxNil) (cK (.str (":" : Str)))) (cRet (cVm 1)) (cNext) [some (RS (pre ++ dg z.length) (58 :: (cds z ++ rest))), some (.dat (.int (z.length : Int))), none] = .nx [some (RS (pre ++ dg z.length) (58 :: (cds z ++ rest))), some (.dat (.int (z.length : Int))), none] := by
    rw [show ∀ (a : CE) (b d : CS) (ρ : En), cIfS a b d ρ = tIfS (a ρ) b d from fun _ _ _ _ => rfl, show ∀ (a b : CE) (ρ : En), c2 gNe a b ρ = k2a (a ρ) gNe b from fun _ _ _ => rfl, p, z0]
    simp -implicitDefEqProofs only [zR0, zR1, zR2, zR3, zR4, zR5, zR6, zR7, zR8, zR9, zR10, gAdd, gSub, gNeg, gNot, gLt, gLe, gGt, gGe, gLen, gAbs, gInt, gMax2, gMin2, gGcd, gList, gTuple, gAll, gAny, gPow, gMul, gFd, gMod, List.getElem?_cons_zero, List.getElem?_cons_succ, List.set_cons_zero, List.set_cons_succ, List.map_cons, List.map_nil, List.length_cons, List.length_nil, List.cons_append, List.nil_append, List.replicate_succ, List.replicate_zero, List.length_map, ↓cond_true, ↓cond_false, cond_true, cond_false, Option.map_some, beq_self_eq_true, List.contains_cons, List.contains_nil, Bool.or_false, Bool.false_or, Bool.or_true, Bool.and_true, Bool.true_and, Bool.not_true, Bool.not_false, Nat.reduceBEq, Nat.reduceAdd, Nat.reduceSub, Nat.reduceEqDiff, reduceCtorEq, Bool.false_eq_true, List.all_cons, List.all_nil, List.any_cons, List.any_nil, id, Int.reduceToNat, if_true, ite_true, if_false, eq_self, decide_true, decide_false, Option.map_none, forL_c, forL_n, g]
  -- the text
  obtain ⟨pre2, hp2⟩ : ∃ q, pre ++ dg z.length ++ [58] = q := ⟨_, rfl⟩
  have hT : pre ++ dg z.length ++ 58 :: (cds z ++ rest) = pre2 ++ (cds z ++ rest) := by rw [← hp2]; simp
  have hl2 : (pre2 ++ (cds z ++ rest)).length ≤ 100000 := by rw [← hT]; exact hl'
  have q1 : cQV (cqF "TextReader" "at" (cqN 0)) [some (RS pre2 (cds z ++ rest)), some (.dat (.int (z.length : Int))), none] = .ok (.dat (.int (pre2.length : Int))) [some (RS pre2 (cds z ++ rest)), some (.dat (.int (z.length : Int))), none] := by
    unfold RS
    simp -implicitDefEqProofs only [zR0, zR1, zR2, zR3, zR4, zR5, zR6, zR7, zR8, zR9, zR10, gAdd, gSub, gNeg, gNot, gLt, gLe, gGt, gGe, gLen, gAbs, gInt, gMax2, gMin2, gGcd, gList, gTuple, gAll, gAny, gPow, gMul, gFd, gMod, List.getElem?_cons_zero, List.getElem?_cons_succ, List.set_cons_zero, List.set_cons_succ, List.map_cons, List.map_nil, List.length_cons, List.length_nil, List.cons_append, List.nil_append, List.replicate_succ, List.replicate_zero, List.length_map, ↓cond_true, ↓cond_false, cond_true, cond_false, Option.map_some, beq_self_eq_true, List.contains_cons, List.contains_nil, Bool.or_false, Bool.false_or, Bool.or_true, Bool.and_true, Bool.true_and, Bool.not_true, Bool.not_false, Nat.reduceBEq, Nat.reduceAdd, Nat.reduceSub, Nat.reduceEqDiff, reduceCtorEq, Bool.false_eq_true, List.all_cons, List.all_nil, List.any_cons, List.any_nil, id, Int.reduceToNat, if_true, ite_true, if_false, eq_self, decide_true, decide_false, Option.map_none, forL_c, forL_n, cSeq_r, kr1_0, kr2_0, cLc_r, zB0, zB1, rk_0, rq_at]
  have q2 : c2 gAdd (cQV (cqF "TextReader" "at" (cqN 0))) (cV 1) [some (RS pre2 (cds z ++ rest)), some (.dat (.int (z.length : Int))), none] = .ok (.dat (.int ((pre2.length : Int) + (z.length : Int)))) [some (RS pre2 (cds z ++ rest)), some (.dat (.int (z.length : Int))), none] := by
    unfold RS
    simp -implicitDefEqProofs only [zR0, zR1, zR2, zR3, zR4, zR5, zR6, zR7, zR8, zR9, zR10, gAdd, gSub, gNeg, gNot, gLt, gLe, gGt, gGe, gLen, gAbs, gInt, gMax2, gMin2, gGcd, gList, gTuple, gAll, gAny, gPow, gMul, gFd, gMod, List.getElem?_cons_zero, List.getElem?_cons_succ, List.set_cons_zero, List.set_cons_succ, List.map_cons, List.map_nil, List.length_cons, List.length_nil, List.cons_append, List.nil_append, List.replicate_succ, List.replicate_zero, List.length_map, ↓cond_true, ↓cond_false, cond_true, cond_false, Option.map_some, beq_self_eq_true, List.contains_cons, List.contains_nil, Bool.or_false, Bool.false_or, Bool.or_true, Bool.and_true, Bool.true_and, Bool.not_true, Bool.not_false, Nat.reduceBEq, Nat.reduceAdd, Nat.reduceSub, Nat.reduceEqDiff, reduceCtorEq, Bool.false_eq_true, List.all_cons, List.all_nil, List.any_cons, List.any_nil, id, Int.reduceToNat, if_true, ite_true, if_false, eq_self, decide_true, decide_false, Option.map_none, forL_c, forL_n, cSeq_r, kr1_0, kr2_0, cLc_r, zB0, zB1, rk_0, rq_at]
  have q0 : cbD (cQV (cqF "TextReader" "text" (cqN 0))) [some (RS pre2 (cds z ++ rest)), some (.dat (.int (z.length : Int))), none] = .ok (.d (.str (stC (pre2 ++ (cds z ++ rest))))) [some (RS pre2 (cds z ++ rest)), some (.dat (.int (z.length : Int))), none] := by
    unfold RS
    simp -implicitDefEqProofs only [zR0, zR1, zR2, zR3, zR4, zR5, zR6, zR7, zR8, zR9, zR10, gAdd, gSub, gNeg, gNot, gLt, gLe, gGt, gGe, gLen, gAbs, gInt, gMax2, gMin2, gGcd, gList, gTuple, gAll, gAny, gPow, gMul, gFd, gMod, List.getElem?_cons_zero, List.getElem?_cons_succ, List.set_cons_zero, List.set_cons_succ, List.map_cons, List.map_nil, List.length_cons, List.length_nil, List.cons_append, List.nil_append, List.replicate_succ, List.replicate_zero, List.length_map, ↓cond_true, ↓cond_false, cond_true, cond_false, Option.map_some, beq_self_eq_true, List.contains_cons, List.contains_nil, Bool.or_false, Bool.false_or, Bool.or_true, Bool.and_true, Bool.true_and, Bool.not_true, Bool.not_false, Nat.reduceBEq, Nat.reduceAdd, Nat.reduceSub, Nat.reduceEqDiff, reduceCtorEq, Bool.false_eq_true, List.all_cons, List.all_nil, List.any_cons, List.any_nil, id, Int.reduceToNat, if_true, ite_true, if_false, eq_self, decide_true, decide_false, Option.map_none, forL_c, forL_n, cSeq_r, kr1_0, kr2_0, cLc_r, zB0, zB1, rk_0, rq_text]
  have e2 := cSl_2 (g := gSlT) q0 q1 q2 (res_d)
  have g2 : gSlT (.str (stC (pre2 ++ (cds z ++ rest)))) (some (pre2.length : Int)) (some ((pre2.length : Int) + (z.length : Int))) = some (.dat (.str z)) := by
    show (bif decide ((stC (pre2 ++ (cds z ++ rest))).length ≤ sizeLine) then _ else _) = _
    rw [decide_eq_true (by rw [len_stC]; omega), cond_true]
    have := cut_ab (T := stC (pre2 ++ (cds z ++ rest))) (a := pre2.length) (b := pre2.length + z.length) (by omega) (by rw [len_stC, List.length_append]; omega)
    rw [cds_stC, List.drop_left, Nat.add_sub_cancel_left, len_cds z, List.take_left, stC_cds] at this
    rw [len_cds z]
    exact congrArg (fun s => some (S.dat (.str s))) this
  rw [g2] at e2
  have zz : decide (z.length ≤ sizeLine) = true := decide_eq_true (by omega)
  have lg : decide ((z.length : Int).natAbs.log2 < 1920) = true := decide_eq_true (log_200 (by
    have : (z.length : Int).natAbs = z.length := rfl
    rw [this]; exact hm))
  have dl : (dg z.length).length ≤ 2 := dg_len (Nat.lt_of_le_of_lt hz (by decide)) (by decide)
  have l3 : decide ((Str.ofString (toString (z.length : Int))).length ≤ sizeLine) = true := decide_eq_true (by rw [nat_st, len_stC]; omega)
  have d3 : decide (((Str.ofString (toString (z.length : Int))).length : Int) > 2) = false := decide_eq_false (by rw [nat_st, len_stC]; omega)
  have d3' : decide ((2 : Int) < ((Str.ofString (toString (z.length : Int))).length : Int)) = false := d3
  have d4 : ((z.length : Int) != (z.length : Int)) = false := bne_self_eq_false _
  have s3 : cIfS (cOr (c2 gGt (cB1 gLen (cbD (cN gStr (caCons (cV 1) (caNil))))) (cK (.int 2))) (c2 gNe (cB1 gLen (cbN 2)) (cV 1))) ((fun _ => .bad)) (cNext) [some (RS pre2 (cds z ++ rest)), some (.dat (.int (z.length : Int))), some (.dat (.str z))] = .nx [some (RS pre2 (cds z ++ rest)), some (.dat (.int (z.length : Int))), some (.dat (.str z))] := by
    simp -implicitDefEqProofs only [zR0, zR1, zR2, zR3, zR4, zR5, zR6, zR7, zR8, zR9, zR10, gAdd, gSub, gNeg, gNot, gLt, gLe, gGt, gGe, gLen, gAbs, gInt, gMax2, gMin2, gGcd, gList, gTuple, gAll, gAny, gPow, gMul, gFd, gMod, List.getElem?_cons_zero, List.getElem?_cons_succ, List.set_cons_zero, List.set_cons_succ, List.map_cons, List.map_nil, List.length_cons, List.length_nil, List.cons_append, List.nil_append, List.replicate_succ, List.replicate_zero, List.length_map, ↓cond_true, ↓cond_false, cond_true, cond_false, Option.map_some, beq_self_eq_true, List.contains_cons, List.contains_nil, Bool.or_false, Bool.false_or, Bool.or_true, Bool.and_true, Bool.true_and, Bool.not_true, Bool.not_false, Nat.reduceBEq, Nat.reduceAdd, Nat.reduceSub, Nat.reduceEqDiff, reduceCtorEq, Bool.false_eq_true, List.all_cons, List.all_nil, List.any_cons, List.any_nil, id, Int.reduceToNat, if_true, ite_true, if_false, eq_self, decide_true, decide_false, Option.map_none, forL_c, forL_n, gStr, lg, l3, d3, d3', zz, d4]
  have s4 : cSetF 0 "TextReader" "at" (c2 gAdd (cQV (cqF "TextReader" "at" (cqN 0))) (cV 1)) [some (RS pre2 (cds z ++ rest)), some (.dat (.int (z.length : Int))), some (.dat (.str z))] = .nx [some (RS (pre2 ++ cds z) rest), some (.dat (.int (z.length : Int))), some (.dat (.str z))] := by
    have ra := RS_adv (pre := pre2) (a := cds z) (rest := rest) (n := (z.length : Int)) (by rw [len_cds])
    rw [← ra]
    unfold RS
    simp -implicitDefEqProofs only [zR0, zR1, zR2, zR3, zR4, zR5, zR6, zR7, zR8, zR9, zR10, gAdd, gSub, gNeg, gNot, gLt, gLe, gGt, gGe, gLen, gAbs, gInt, gMax2, gMin2, gGcd, gList, gTuple, gAll, gAny, gPow, gMul, gFd, gMod, List.getElem?_cons_zero, List.getElem?_cons_succ, List.set_cons_zero, List.set_cons_succ, List.map_cons, List.map_nil, List.length_cons, List.length_nil, List.cons_append, List.nil_append, List.replicate_succ, List.replicate_zero, List.length_map, ↓cond_true, ↓cond_false, cond_true, cond_false, Option.map_some, beq_self_eq_true, List.contains_cons, List.contains_nil, Bool.or_false, Bool.false_or, Bool.or_true, Bool.and_true, Bool.true_and, Bool.not_true, Bool.not_false, Nat.reduceBEq, Nat.reduceAdd, Nat.reduceSub, Nat.reduceEqDiff, reduceCtorEq, Bool.false_eq_true, List.all_cons, List.all_nil, List.any_cons, List.any_nil, id, Int.reduceToNat, if_true, ite_true, if_false, eq_self, decide_true, decide_false, Option.map_none, forL_c, forL_n, cSeq_r, kr1_0, kr2_0, cLc_r, zB0, zB1, rk_0, rq_at, rs_at]
  have fin : pre2 ++ cds z = pre ++ (dg z.length ++ 58 :: cds z) := by rw [← hp2]; simp
  unfold F_TextReader_number_or_text M_TextReader_number_or_text
  rw [mk13, cSeq_r, e, sq_nx, cSeq_r, s1, sq_nx, cSeq_r, bump, sq_nx, hp2, cSeq_r, show ∀ (i : Nat) (c : CE) (ρ : En), cSet i c ρ = kSet (c ρ) i from fun _ _ _ => rfl, e2]
  show finish [0] [_] ((O.nx [some (RS pre2 (cds z ++ rest)), some (.dat (.int (z.length : Int))), some (.dat (.str z))]).sq _) = _
  rw [sq_nx, cSeq_r, s3, sq_nx, cSeq_r, s4, sq_nx, fin]
  rfl
end Z
set_option maxHeartbeats 1000000
namespace Z
open PySem PySem.Spec PyProof.Rows L2
/-! ### things, read -/
open PySem.NumText
/-- the first sign of a written thing -/
def FirstC (c : Nat) : Prop := c = 45 ∨ c = 40 ∨ (48 ≤ c ∧ c ≤ 57)
theorem wr_first {n : Nat} {d : PyData} (h : Thg n d) : ∃ c r, wr d = c :: r ∧ FirstC c := by
  have dig : ∀ (m : Nat) (t : Cd), ∃ c r, dg m ++ t = c :: r ∧ (48 ≤ c ∧ c ≤ 57) := fun m t => by
    have h2 := dg_all m
    cases h : dg m with
    | nil => exact absurd h (dg_ne m)
    | cons a b => rw [h] at h2; exact ⟨a, b ++ t, rfl, h2.head⟩
  cases h with
  | int i h =>
    rw [wr]
    unfold sg10
    split
    · exact ⟨_, _, rfl, .inl rfl⟩
    · obtain ⟨c, r, e, hc⟩ := dig i.natAbs []
      rw [List.append_nil] at e
      exact ⟨c, r, e, .inr (.inr hc)⟩
  | str z h ok =>
    rw [wr]
    obtain ⟨c, r, e, hc⟩ := dig z.length (58 :: cds z)
    exact ⟨c, r, e, .inr (.inr hc)⟩
  | tup ds hl h =>
    rw [wr]
    exact ⟨_, _, rfl, .inr (.inl rfl)⟩
theorem mk23b {c : CS} {s t : S} : mkF 2 3 [0] c [s, t] = finish [0] [s, t] (c [some s, some t, none]) := rfl
/-- what a reader does with a thing -/
def Reads (F : Fn) (D : Int) (d : PyData) : Prop := ∀ pre rest : Cd, Stop rest → (pre ++ (wr d ++ rest)).length ≤ 100000 → OkC (pre ++ (wr d ++ rest)) → F [RS pre (wr d ++ rest), .dat (.int D)] = .ok (.dat d) [RS (pre ++ wr d) rest, .dat (.int D)]
theorem tIfS_e {a : CE} {b d : CS} {ρ : En} : cIfS a b d ρ = tIfS (a ρ) b d := rfl
theorem c2_e {g : PyData → PyData → Option S} {a b : CE} {ρ : En} : c2 g a b ρ = k2a (a ρ) g b := rfl
theorem paren_st : ("(" : Str) = stC [40] ∧ (")" : Str) = stC [41] ∧ ("," : Str) = stC [44] ∧ ("-" : Str) = stC [45] := ⟨lit_st.2.1, lit_st.2.2.1, lit_st.2.2.2, cds_inj (by rw [cds_stC]; decide +kernel)⟩
theorem peek_eq {pre rest : Cd} {c x : Nat} {r : En} (hl : (pre ++ c :: rest).length ≤ 100000) (ok : OkC (pre ++ c :: rest)) (hx : x < 0x110000) {y : Str} (hy : y = stC [x]) :
    c2 gEq (cMeth "TextReader" "peek" F_TextReader_peek 0 cxNil) (cK (.str y)) (some (RS pre (c :: rest)) :: r) = .ok (.dat (.bool (decide (c = x)))) (some (RS pre (c :: rest)) :: r) ∧ c2 gNe (cMeth "TextReader" "peek" F_TextReader_peek 0 cxNil) (cK (.str y)) (some (RS pre (c :: rest)) :: r) = .ok (.dat (.bool (!decide (c = x)))) (some (RS pre (c :: rest)) :: r) := by
  have p : cMeth "TextReader" "peek" F_TextReader_peek 0 cxNil (some (RS pre (c :: rest)) :: r) = .ok (.dat (.str (stC [c]))) (some (RS pre (c :: rest)) :: r) := peek_call hl
  have oc := okc1 (ok.app.2 c (by simp))
  have g1 := gEq_st (a := [c]) (b := [x]) oc (okc1 hx)
  have g2 := gNe_st (a := [c]) (b := [x]) oc (okc1 hx)
  have e : decide (([c] : Cd) = [x]) = decide (c = x) := decide_eq_decide.mpr (by simp)
  rw [e] at g1 g2
  subst hy
  constructor
  · rw [c2_e, p]
    simp -implicitDefEqProofs only [zR0, zR1, zR2, zR3, zR4, zR5, zR6, zR7, zR8, zR9, zR10, gAdd, gSub, gNeg, gNot, gLt, gLe, gGt, gGe, gLen, gAbs, gInt, gMax2, gMin2, gGcd, gList, gTuple, gAll, gAny, gPow, gMul, gFd, gMod, List.getElem?_cons_zero, List.getElem?_cons_succ, List.set_cons_zero, List.set_cons_succ, List.map_cons, List.map_nil, List.length_cons, List.length_nil, List.cons_append, List.nil_append, List.replicate_succ, List.replicate_zero, List.length_map, ↓cond_true, ↓cond_false, cond_true, cond_false, Option.map_some, beq_self_eq_true, List.contains_cons, List.contains_nil, Bool.or_false, Bool.false_or, Bool.or_true, Bool.and_true, Bool.true_and, Bool.not_true, Bool.not_false, Nat.reduceBEq, Nat.reduceAdd, Nat.reduceSub, Nat.reduceEqDiff, reduceCtorEq, Bool.false_eq_true, List.all_cons, List.all_nil, List.any_cons, List.any_nil, id, Int.reduceToNat, if_true, ite_true, if_false, eq_self, decide_true, decide_false, Option.map_none, forL_c, forL_n, g1]
  · rw [c2_e, p]
    simp -implicitDefEqProofs only [zR0, zR1, zR2, zR3, zR4, zR5, zR6, zR7, zR8, zR9, zR10, gAdd, gSub, gNeg, gNot, gLt, gLe, gGt, gGe, gLen, gAbs, gInt, gMax2, gMin2, gGcd, gList, gTuple, gAll, gAny, gPow, gMul, gFd, gMod, List.getElem?_cons_zero, List.getElem?_cons_succ, List.set_cons_zero, List.set_cons_succ, List.map_cons, List.map_nil, List.length_cons, List.length_nil, List.cons_append, List.nil_append, List.replicate_succ, List.replicate_zero, List.length_map, ↓cond_true, ↓cond_false, cond_true, cond_false, Option.map_some, beq_self_eq_true, List.contains_cons, List.contains_nil, Bool.or_false, Bool.false_or, Bool.or_true, Bool.and_true, Bool.true_and, Bool.not_true, Bool.not_false, Nat.reduceBEq, Nat.reduceAdd, Nat.reduceSub, Nat.reduceEqDiff, reduceCtorEq, Bool.false_eq_true, List.all_cons, List.all_nil, List.any_cons, List.any_nil, id, Int.reduceToNat, if_true, ite_true, if_false, eq_self, decide_true, decide_false, Option.map_none, forL_c, forL_n, g2]
theorem sign_call {pre rest : Cd} {c : Nat} {r : En} {y : Str} (hy : y = stC [c]) (hl : (pre ++ c :: rest).length ≤ 100000) (ok : OkC (pre ++ c :: rest)) : cDrop (cMeth "TextReader" "sign" F_TextReader_sign 0 (cxD (cK (.str y)) (cxNil))) (some (RS pre (c :: rest)) :: r) = .nx (some (RS (pre ++ [c]) rest) :: r) := by
  subst hy
  have e := sign_spec hl ok
  have ob : isOb "TextReader" "sign" (some (some (RS pre (c :: rest)))) = true := rb_sign
  simp -implicitDefEqProofs only [zR0, zR1, zR2, zR3, zR4, zR5, zR6, zR7, zR8, zR9, zR10, gAdd, gSub, gNeg, gNot, gLt, gLe, gGt, gGe, gLen, gAbs, gInt, gMax2, gMin2, gGcd, gList, gTuple, gAll, gAny, gPow, gMul, gFd, gMod, List.getElem?_cons_zero, List.getElem?_cons_succ, List.set_cons_zero, List.set_cons_succ, List.map_cons, List.map_nil, List.length_cons, List.length_nil, List.cons_append, List.nil_append, List.replicate_succ, List.replicate_zero, List.length_map, ↓cond_true, ↓cond_false, cond_true, cond_false, Option.map_some, beq_self_eq_true, List.contains_cons, List.contains_nil, Bool.or_false, Bool.false_or, Bool.or_true, Bool.and_true, Bool.true_and, Bool.not_true, Bool.not_false, Nat.reduceBEq, Nat.reduceAdd, Nat.reduceSub, Nat.reduceEqDiff, reduceCtorEq, Bool.false_eq_true, List.all_cons, List.all_nil, List.any_cons, List.any_nil, id, Int.reduceToNat, if_true, ite_true, if_false, eq_self, decide_true, decide_false, Option.map_none, forL_c, forL_n, cSeq_r, kr1_0, kr2_0, cLc_r, zB0, zB1, ob, e]
/-- the items of a tuple -/
theorem parts_loop {F : Fn} {D : Int} : ∀ (ds done : List PyData) (pre rest : Cd) (n : Nat), (∀ d ∈ ds, Reads F (D - 1) d ∧ ∃ k, Thg k d) → (pre ++ ((if done = [] then wrs ds else wrt ds) ++ 41 :: rest)).length ≤ 100000 → OkC (pre ++ ((if done = [] then wrs ds else wrt ds) ++ 41 :: rest)) → done.length + ds.length ≤ 5000 → ds.length ≤ n →
    ∃ pre', whileL (L_TextReader_parts_1 F) (L_TextReader_parts_0 F) (n + 1) [some (RS pre ((if done = [] then wrs ds else wrt ds) ++ 41 :: rest)), some (.dat (.int D)), some (.lst done)] = .nx [some (RS pre' (41 :: rest)), some (.dat (.int D)), some (.lst (done ++ ds))] ∧ pre' = pre ++ (if done = [] then wrs ds else wrt ds)
  | [], done, pre, rest, n, _, hl, ok, _, _ => by
    have e : (if done = [] then wrs [] else wrt []) = ([] : Cd) := by split <;> rfl
    rw [e] at hl ok ⊢
    have t := (peek_eq (r := [some (.dat (.int D)), some (.lst done)]) (c := 41) (x := 41) hl ok (by decide) paren_st.2.1).2
    rw [decide_eq_true rfl] at t
    refine ⟨pre, ?_, by rw [List.append_nil]⟩
    rw [List.append_nil]
    exact while_f t
  | d :: ds, done, pre, rest, n, hd, hl, ok, hb, hn => by
    have cl := ch_cls
    rw [List.length_cons] at hn hb
    obtain ⟨m, rfl⟩ : ∃ m, n = m + 1 := ⟨n - 1, by omega⟩
    obtain ⟨rd, k, tk⟩ := hd d (by simp)
    obtain ⟨c0, r0, ew, fc⟩ := wr_first tk
    have z : decide (done.length < sizeLine) = true := decide_eq_true (by omega)
    have ob : ∀ p r, isOb "TextReader" "thing" (some (some (RS p r))) = true := fun _ _ => rb_thing
    have ne : done ++ [d] ≠ [] := by simp
    have eI : (if done ++ [d] = [] then wrs ds else wrt ds) = wrt ds := if_neg ne
    have stp : Stop (wrt ds ++ 41 :: rest) := fun c hc => by
      cases ds with
      | nil => exact .inr (by have : some 41 = some c := hc; cases this; rfl)
      | cons e es => exact .inl (by have : some 44 = some c := hc; cases this; rfl)
    by_cases h0 : done = []
    · subst h0
      have eW : (if ([] : List PyData) = [] then wrs (d :: ds) else wrt (d :: ds)) = wr d ++ wrt ds := if_pos rfl
      rw [eW] at hl ok ⊢
      rw [List.append_assoc] at hl ok ⊢
      have hl1 := hl
      have ok1 := ok
      rw [ew, List.cons_append] at hl1 ok1
      have t := (peek_eq (r := [some (.dat (.int D)), some (.lst [])]) (c := c0) (x := 41) hl1 ok1 (by decide) paren_st.2.1).2
      rw [decide_eq_false (by unfold FirstC at fc; omega), ← List.cons_append, ← ew] at t
      have e1 := rd pre (wrt ds ++ 41 :: rest) stp hl ok
      have b : L_TextReader_parts_0 F [some (RS pre (wr d ++ (wrt ds ++ 41 :: rest))), some (.dat (.int D)), some (.lst [])] = .nx [some (RS (pre ++ wr d) (wrt ds ++ 41 :: rest)), some (.dat (.int D)), some (.lst [d])] := by
        have z : decide (([] : List PyData).length < sizeLine) = true := by decide
        unfold L_TextReader_parts_0
        rw [cSeq_r]
        simp -implicitDefEqProofs only [zR0, zR1, zR2, zR3, zR4, zR5, zR6, zR7, zR8, zR9, zR10, gAdd, gSub, gNeg, gNot, gLt, gLe, gGt, gGe, gLen, gAbs, gInt, gMax2, gMin2, gGcd, gList, gTuple, gAll, gAny, gPow, gMul, gFd, gMod, List.getElem?_cons_zero, List.getElem?_cons_succ, List.set_cons_zero, List.set_cons_succ, List.map_cons, List.map_nil, List.length_cons, List.length_nil, List.cons_append, List.nil_append, List.replicate_succ, List.replicate_zero, List.length_map, ↓cond_true, ↓cond_false, cond_true, cond_false, Option.map_some, beq_self_eq_true, List.contains_cons, List.contains_nil, Bool.or_false, Bool.false_or, Bool.or_true, Bool.and_true, Bool.true_and, Bool.not_true, Bool.not_false, Nat.reduceBEq, Nat.reduceAdd, Nat.reduceSub, Nat.reduceEqDiff, reduceCtorEq, Bool.false_eq_true, List.all_cons, List.all_nil, List.any_cons, List.any_nil, id, Int.reduceToNat, if_true, ite_true, if_false, eq_self, decide_true, decide_false, Option.map_none, forL_c, forL_n, cSeq_r, kr1_0, kr2_0, cLc_r, zB0, zB1, gTru, List.isEmpty_nil, ob, e1, z]
        all_goals rfl
      obtain ⟨pre', e2, hp⟩ := parts_loop (F := F) (D := D) ds [d] (pre ++ wr d) rest m (fun x hx => hd x (List.mem_cons_of_mem _ hx)) (by rw [if_neg (by simp), List.append_assoc]; exact hl) (by rw [if_neg (by simp), List.append_assoc]; exact ok) (by simp only [List.length_cons, List.length_nil] at *; omega) (by omega)
      rw [if_neg (by simp)] at e2 hp
      refine ⟨pre', ?_, by rw [hp, List.append_assoc]⟩
      exact (while_t (t := L_TextReader_parts_1 F) t b).trans e2
    · have eW : (if done = [] then wrs (d :: ds) else wrt (d :: ds)) = 44 :: (wr d ++ wrt ds) := if_neg h0
      rw [eW] at hl ok ⊢
      rw [List.cons_append, List.append_assoc] at hl ok ⊢
      have t := (peek_eq (r := [some (.dat (.int D)), some (.lst done)]) (c := 44) (x := 41) hl ok (by decide) paren_st.2.1).2
      rw [decide_eq_false (by decide)] at t
      have ea : pre ++ 44 :: (wr d ++ (wrt ds ++ 41 :: rest)) = pre ++ [44] ++ (wr d ++ (wrt ds ++ 41 :: rest)) := by simp
      have e1 := rd (pre ++ [44]) (wrt ds ++ 41 :: rest) stp (by rw [← ea]; exact hl) (by rw [← ea]; exact ok)
      have sc := sign_call (r := [some (.dat (.int D)), some (.lst done)]) paren_st.2.2.1 hl ok
      have em : done.isEmpty = false := by cases done with | nil => exact absurd rfl h0 | cons a b => rfl
      have b : L_TextReader_parts_0 F [some (RS pre (44 :: (wr d ++ (wrt ds ++ 41 :: rest)))), some (.dat (.int D)), some (.lst done)] = .nx [some (RS (pre ++ [44] ++ wr d) (wrt ds ++ 41 :: rest)), some (.dat (.int D)), some (.lst (done ++ [d]))] := by
        have s1 : cIfS (cB1 gTru (cbN 2)) (cDrop (cMeth "TextReader" "sign" F_TextReader_sign 0 (cxD (cK (.str ("," : Str))) (cxNil)))) (cNext) [some (RS pre (44 :: (wr d ++ (wrt ds ++ 41 :: rest)))), some (.dat (.int D)), some (.lst done)] = .nx [some (RS (pre ++ [44]) (wr d ++ (wrt ds ++ 41 :: rest))), some (.dat (.int D)), some (.lst done)] := by
          have s0 : cB1 gTru (cbN 2) [some (RS pre (44 :: (wr d ++ (wrt ds ++ 41 :: rest)))), some (.dat (.int D)), some (.lst done)] = .ok (.dat (.bool true)) [some (RS pre (44 :: (wr d ++ (wrt ds ++ 41 :: rest)))), some (.dat (.int D)), some (.lst done)] := by
            simp -implicitDefEqProofs only [zR0, zR1, zR2, zR3, zR4, zR5, zR6, zR7, zR8, zR9, zR10, gAdd, gSub, gNeg, gNot, gLt, gLe, gGt, gGe, gLen, gAbs, gInt, gMax2, gMin2, gGcd, gList, gTuple, gAll, gAny, gPow, gMul, gFd, gMod, List.getElem?_cons_zero, List.getElem?_cons_succ, List.set_cons_zero, List.set_cons_succ, List.map_cons, List.map_nil, List.length_cons, List.length_nil, List.cons_append, List.nil_append, List.replicate_succ, List.replicate_zero, List.length_map, ↓cond_true, ↓cond_false, cond_true, cond_false, Option.map_some, beq_self_eq_true, List.contains_cons, List.contains_nil, Bool.or_false, Bool.false_or, Bool.or_true, Bool.and_true, Bool.true_and, Bool.not_true, Bool.not_false, Nat.reduceBEq, Nat.reduceAdd, Nat.reduceSub, Nat.reduceEqDiff, reduceCtorEq, Bool.false_eq_true, List.all_cons, List.all_nil, List.any_cons, List.any_nil, id, Int.reduceToNat, if_true, ite_true, if_false, eq_self, decide_true, decide_false, Option.map_none, forL_c, forL_n, cSeq_r, kr1_0, kr2_0, cLc_r, gTru, em]
            all_goals rfl
          rw [tIfS_e, s0]
          exact sc
        unfold L_TextReader_parts_0
        rw [cSeq_r, s1, sq_nx]
        simp -implicitDefEqProofs only [zR0, zR1, zR2, zR3, zR4, zR5, zR6, zR7, zR8, zR9, zR10, gAdd, gSub, gNeg, gNot, gLt, gLe, gGt, gGe, gLen, gAbs, gInt, gMax2, gMin2, gGcd, gList, gTuple, gAll, gAny, gPow, gMul, gFd, gMod, List.getElem?_cons_zero, List.getElem?_cons_succ, List.set_cons_zero, List.set_cons_succ, List.map_cons, List.map_nil, List.length_cons, List.length_nil, List.cons_append, List.nil_append, List.replicate_succ, List.replicate_zero, List.length_map, ↓cond_true, ↓cond_false, cond_true, cond_false, Option.map_some, beq_self_eq_true, List.contains_cons, List.contains_nil, Bool.or_false, Bool.false_or, Bool.or_true, Bool.and_true, Bool.true_and, Bool.not_true, Bool.not_false, Nat.reduceBEq, Nat.reduceAdd, Nat.reduceSub, Nat.reduceEqDiff, reduceCtorEq, Bool.false_eq_true, List.all_cons, List.all_nil, List.any_cons, List.any_nil, id, Int.reduceToNat, if_true, ite_true, if_false, eq_self, decide_true, decide_false, Option.map_none, forL_c, forL_n, cSeq_r, kr1_0, kr2_0, cLc_r, zB0, zB1, ob, e1, z]
      obtain ⟨pre', e2, hp⟩ := parts_loop (F := F) (D := D) ds (done ++ [d]) (pre ++ [44] ++ wr d) rest m (fun x hx => hd x (List.mem_cons_of_mem _ hx)) (by rw [eI, List.append_assoc, ← ea]; exact hl) (by rw [eI, List.append_assoc, ← ea]; exact ok) (by rw [List.length_append, List.length_singleton]; omega) (by omega)
      rw [eI] at e2 hp
      refine ⟨pre', ?_, by rw [hp]; simp⟩
      refine (while_t (t := L_TextReader_parts_1 F) t b).trans (e2.trans ?_)
      rw [List.append_assoc]
      rfl
end Z
set_option maxHeartbeats 1000000
namespace Z
open PySem PySem.Spec PyProof.Rows L2
/-! ### thing, parts, read -/
theorem mk23p {F : Fn} {s t : S} : F_TextReader_parts F [s, t] = finish [0] [s, t] (M_TextReader_parts F [some s, some t, none]) := rfl
theorem thing_s {F : Nat → Fn} {k : Nat} {s t : S} : F_TextReader_thing (k + 1) [s, t] = finish [0] [s, t] (M_TextReader_thing (F_TextReader_thing k) [some s, some t, none]) := rfl
theorem parts_spec {F : Fn} {D : Int} {ds : List PyData} {pre rest : Cd} (h0 : D ≠ 0) (hd : ∀ d ∈ ds, Reads F (D - 1) d ∧ ∃ k, Thg k d) (hl : (pre ++ (wr (.tuple ds) ++ rest)).length ≤ 100000) (ok : OkC (pre ++ (wr (.tuple ds) ++ rest))) (hb : ds.length ≤ 1000) :
    F_TextReader_parts F [RS pre (wr (.tuple ds) ++ rest), .dat (.int D)] = .ok (.dat (.tuple ds)) [RS (pre ++ wr (.tuple ds)) rest, .dat (.int D)] := by
  have eW : wr (.tuple ds) = 40 :: (wrs ds ++ [41]) := by rw [wr]
  have eA : pre ++ (wr (.tuple ds) ++ rest) = pre ++ 40 :: (wrs ds ++ 41 :: rest) := by rw [eW]; simp
  have eB : pre ++ 40 :: (wrs ds ++ 41 :: rest) = pre ++ [40] ++ (wrs ds ++ 41 :: rest) := by simp
  have eC : wr (.tuple ds) ++ rest = 40 :: (wrs ds ++ 41 :: rest) := by rw [eW]; simp
  rw [eA] at hl ok
  have d0 : (D == 0) = false := beq_eq_false_iff_ne.mpr h0
  have sc := sign_call (r := [some (.dat (.int D)), none]) paren_st.1 hl ok
  obtain ⟨pre', w, hp⟩ := parts_loop (F := F) (D := D) ds [] (pre ++ [40]) rest (2 ^ 40 - 1) hd (by rw [if_pos rfl, ← eB]; exact hl) (by rw [if_pos rfl, ← eB]; exact ok) (by simp only [List.length_nil]; omega) (by omega)
  rw [if_pos rfl] at w hp
  rw [← wmax, List.nil_append] at w
  have hl2 : (pre' ++ 41 :: rest).length ≤ 100000 := by rw [hp, List.append_assoc, ← eB]; exact hl
  have ok2 : OkC (pre' ++ 41 :: rest) := by rw [hp, List.append_assoc, ← eB]; exact ok
  have sc2 := sign_call (r := [some (.dat (.int D)), some (.lst ds)]) paren_st.2.1 hl2 ok2
  have fin : pre' ++ [41] = pre ++ wr (.tuple ds) := by rw [hp, eW]; simp
  have s1 : cIfS (c2 gEq (cV 1) (cK (.int 0))) ((fun _ => .bad)) (cNext) [some (RS pre (40 :: (wrs ds ++ 41 :: rest))), some (.dat (.int D)), none] = .nx [some (RS pre (40 :: (wrs ds ++ 41 :: rest))), some (.dat (.int D)), none] := by
    simp -implicitDefEqProofs only [zR0, zR1, zR2, zR3, zR4, zR5, zR6, zR7, zR8, zR9, zR10, gAdd, gSub, gNeg, gNot, gLt, gLe, gGt, gGe, gLen, gAbs, gInt, gMax2, gMin2, gGcd, gList, gTuple, gAll, gAny, gPow, gMul, gFd, gMod, List.getElem?_cons_zero, List.getElem?_cons_succ, List.set_cons_zero, List.set_cons_succ, List.map_cons, List.map_nil, List.length_cons, List.length_nil, List.cons_append, List.nil_append, List.replicate_succ, List.replicate_zero, List.length_map, ↓cond_true, ↓cond_false, cond_true, cond_false, Option.map_some, beq_self_eq_true, List.contains_cons, List.contains_nil, Bool.or_false, Bool.false_or, Bool.or_true, Bool.and_true, Bool.true_and, Bool.not_true, Bool.not_false, Nat.reduceBEq, Nat.reduceAdd, Nat.reduceSub, Nat.reduceEqDiff, reduceCtorEq, Bool.false_eq_true, List.all_cons, List.all_nil, List.any_cons, List.any_nil, id, Int.reduceToNat, if_true, ite_true, if_false, eq_self, decide_true, decide_false, Option.map_none, forL_c, forL_n, d0]
  have s3 : cSet 2 (cLst (caNil)) [some (RS (pre ++ [40]) (wrs ds ++ 41 :: rest)), some (.dat (.int D)), none] = .nx [some (RS (pre ++ [40]) (wrs ds ++ 41 :: rest)), some (.dat (.int D)), some (.lst [])] := by
    simp -implicitDefEqProofs only [zR0, zR1, zR2, zR3, zR4, zR5, zR6, zR7, zR8, zR9, zR10, gAdd, gSub, gNeg, gNot, gLt, gLe, gGt, gGe, gLen, gAbs, gInt, gMax2, gMin2, gGcd, gList, gTuple, gAll, gAny, gPow, gMul, gFd, gMod, List.getElem?_cons_zero, List.getElem?_cons_succ, List.set_cons_zero, List.set_cons_succ, List.map_cons, List.map_nil, List.length_cons, List.length_nil, List.cons_append, List.nil_append, List.replicate_succ, List.replicate_zero, List.length_map, ↓cond_true, ↓cond_false, cond_true, cond_false, Option.map_some, beq_self_eq_true, List.contains_cons, List.contains_nil, Bool.or_false, Bool.false_or, Bool.or_true, Bool.and_true, Bool.true_and, Bool.not_true, Bool.not_false, Nat.reduceBEq, Nat.reduceAdd, Nat.reduceSub, Nat.reduceEqDiff, reduceCtorEq, Bool.false_eq_true, List.all_cons, List.all_nil, List.any_cons, List.any_nil, id, Int.reduceToNat, if_true, ite_true, if_false, eq_self, decide_true, decide_false, Option.map_none, forL_c, forL_n]
  rw [mk23p, eC]
  unfold M_TextReader_parts
  rw [cSeq_r, s1, sq_nx, cSeq_r, sc, sq_nx, cSeq_r, s3, sq_nx, cSeq_r, w, sq_nx, cSeq_r, sc2, sq_nx, fin]
  simp -implicitDefEqProofs only [zR0, zR1, zR2, zR3, zR4, zR5, zR6, zR7, zR8, zR9, zR10, gAdd, gSub, gNeg, gNot, gLt, gLe, gGt, gGe, gLen, gAbs, gInt, gMax2, gMin2, gGcd, gList, gTuple, gAll, gAny, gPow, gMul, gFd, gMod, List.getElem?_cons_zero, List.getElem?_cons_succ, List.set_cons_zero, List.set_cons_succ, List.map_cons, List.map_nil, List.length_cons, List.length_nil, List.cons_append, List.nil_append, List.replicate_succ, List.replicate_zero, List.length_map, ↓cond_true, ↓cond_false, cond_true, cond_false, Option.map_some, beq_self_eq_true, List.contains_cons, List.contains_nil, Bool.or_false, Bool.false_or, Bool.or_true, Bool.and_true, Bool.true_and, Bool.not_true, Bool.not_false, Nat.reduceBEq, Nat.reduceAdd, Nat.reduceSub, Nat.reduceEqDiff, reduceCtorEq, Bool.false_eq_true, List.all_cons, List.all_nil, List.any_cons, List.any_nil, id, Int.reduceToNat, if_true, ite_true, if_false, eq_self, decide_true, decide_false, Option.map_none, forL_c, forL_n]
  try rfl
theorem thing_leaf {d : PyData} {n k : Nat} {D : Int} (h : Thg n d) (ht : ∀ ds, d ≠ .tuple ds) (hk : 1 ≤ k) : Reads (F_TextReader_thing k) D d := by
  obtain ⟨m, rfl⟩ : ∃ m, k = m + 1 := ⟨k - 1, by omega⟩
  intro pre rest hs hl ok
  obtain ⟨c0, r0, ew, fc⟩ := wr_first h
  have hl1 := hl
  have ok1 := ok
  rw [ew, List.cons_append] at hl1 ok1
  have p1 := (peek_eq (r := [some (.dat (.int D)), none]) hl1 ok1 (x := 40) (by decide) paren_st.1).1
  have p2 := (peek_eq (r := [some (.dat (.int D)), none]) hl1 ok1 (x := 45) (by decide) paren_st.2.2.2).1
  rw [← List.cons_append, ← ew] at p1 p2
  rw [thing_s (F := F_TextReader_thing)]
  unfold M_TextReader_thing
  have n40 : c0 ≠ 40 := fun e => by
    subst e
    cases h with
    | int i h =>
      have ew : sg10 i = 40 :: r0 := by rw [← ew, wr]
      unfold sg10 at ew
      split at ew
      · have := (List.cons.inj ew).1
        omega
      · have := dg_all i.natAbs 40 (by rw [ew]; simp)
        omega
    | str z h ok =>
      have ew : dg z.length ++ 58 :: cds z = 40 :: r0 := by rw [← ew, wr]
      cases hq : dg z.length with
      | nil => exact dg_ne _ hq
      | cons a b =>
        rw [hq] at ew
        have e1 := (List.cons.inj ew).1
        have := dg_all z.length a (by rw [hq]; simp)
        omega
    | tup ds hl h => exact ht ds rfl
  rw [decide_eq_false n40] at p1
  have s1 : ∀ a : CS, cIfS (c2 gEq (cMeth "TextReader" "peek" F_TextReader_peek 0 cxNil) (cK (.str ("(" : Str)))) a (cNext) [some (RS pre (wr d ++ rest)), some (.dat (.int D)), none] = .nx [some (RS pre (wr d ++ rest)), some (.dat (.int D)), none] := fun a => by
    rw [tIfS_e, p1]
    simp -implicitDefEqProofs only [zR0, zR1, zR2, zR3, zR4, zR5, zR6, zR7, zR8, zR9, zR10, gAdd, gSub, gNeg, gNot, gLt, gLe, gGt, gGe, gLen, gAbs, gInt, gMax2, gMin2, gGcd, gList, gTuple, gAll, gAny, gPow, gMul, gFd, gMod, List.getElem?_cons_zero, List.getElem?_cons_succ, List.set_cons_zero, List.set_cons_succ, List.map_cons, List.map_nil, List.length_cons, List.length_nil, List.cons_append, List.nil_append, List.replicate_succ, List.replicate_zero, List.length_map, ↓cond_true, ↓cond_false, cond_true, cond_false, Option.map_some, beq_self_eq_true, List.contains_cons, List.contains_nil, Bool.or_false, Bool.false_or, Bool.or_true, Bool.and_true, Bool.true_and, Bool.not_true, Bool.not_false, Nat.reduceBEq, Nat.reduceAdd, Nat.reduceSub, Nat.reduceEqDiff, reduceCtorEq, Bool.false_eq_true, List.all_cons, List.all_nil, List.any_cons, List.any_nil, id, Int.reduceToNat, if_true, ite_true, if_false, eq_self, decide_true, decide_false, Option.map_none, forL_c, forL_n]
  rw [cSeq_r, s1, sq_nx]
  by_cases n45 : c0 = 45
  · -- a number below zero
    subst n45
    rw [decide_eq_true rfl] at p2
    obtain ⟨i, hi, rfl⟩ : ∃ i : Int, i.natAbs < 10 ^ 200 ∧ d = .int i := by
      cases h with
      | int i h => exact ⟨i, h, rfl⟩
      | str z h ok =>
        exfalso
        have ew : dg z.length ++ 58 :: cds z = 45 :: r0 := by rw [← ew, wr]
        cases hq : dg z.length with
        | nil => exact dg_ne _ hq
        | cons a b =>
          rw [hq] at ew
          have e1 := (List.cons.inj ew).1
          have := dg_all z.length a (by rw [hq]; simp)
          omega
      | tup ds hl h => exact absurd rfl (ht ds)
    have eW : wr (.int i) = sg10 i := by rw [wr]
    have i0 : i < 0 := by
      refine Classical.byContradiction fun hn => ?_
      rw [eW] at ew
      unfold sg10 at ew
      rw [if_neg hn] at ew
      have := dg_all i.natAbs 45 (by rw [ew]; simp)
      omega
    have eS : wr (.int i) = 45 :: dg i.natAbs := by rw [eW]; unfold sg10; rw [if_pos i0]
    rw [eS] at hl ok p2 ⊢
    have b := bump (pre := pre) (c := 45) (rest := dg i.natAbs ++ rest) (r := [some (.dat (.int D)), none])
    have eP : pre ++ 45 :: (dg i.natAbs ++ rest) = pre ++ [45] ++ (dg i.natAbs ++ rest) := by simp
    have f := figures_spec (pre := pre ++ [45]) hi hs.d (by rw [← eP]; exact hl) (by rw [← eP]; exact ok)
    have ob : isOb "TextReader" "figures" (some (some (RS (pre ++ [45]) (dg i.natAbs ++ rest)))) = true := rb_figures
    have d0 : ((i.natAbs : Int) == 0) = false := beq_eq_false_iff_ne.mpr (by omega)
    have en : -((i.natAbs : Nat) : Int) = i := by omega
    have s2 : cSeq (cSetF 0 "TextReader" "at" (c2 gAdd (cQV (cqF "TextReader" "at" (cqN 0))) (cK (.int 1)))) (cSeq (cSet 2 (cMeth "TextReader" "figures" F_TextReader_figures 0 cxNil)) (cSeq (cIfS (c2 gEq (cV 2) (cK (.int 0))) ((fun _ => .bad)) (cNext)) (cRet (c1 gNeg (cV 2))))) [some (RS pre (45 :: (dg i.natAbs ++ rest))), some (.dat (.int D)), none] = .rt (.dat (.int i)) [some (RS (pre ++ [45] ++ dg i.natAbs) rest), some (.dat (.int D)), some (.dat (.int (i.natAbs : Int)))] := by
      rw [cSeq_r, b, sq_nx]
      simp -implicitDefEqProofs only [zR0, zR1, zR2, zR3, zR4, zR5, zR6, zR7, zR8, zR9, zR10, gAdd, gSub, gNeg, gNot, gLt, gLe, gGt, gGe, gLen, gAbs, gInt, gMax2, gMin2, gGcd, gList, gTuple, gAll, gAny, gPow, gMul, gFd, gMod, List.getElem?_cons_zero, List.getElem?_cons_succ, List.set_cons_zero, List.set_cons_succ, List.map_cons, List.map_nil, List.length_cons, List.length_nil, List.cons_append, List.nil_append, List.replicate_succ, List.replicate_zero, List.length_map, ↓cond_true, ↓cond_false, cond_true, cond_false, Option.map_some, beq_self_eq_true, List.contains_cons, List.contains_nil, Bool.or_false, Bool.false_or, Bool.or_true, Bool.and_true, Bool.true_and, Bool.not_true, Bool.not_false, Nat.reduceBEq, Nat.reduceAdd, Nat.reduceSub, Nat.reduceEqDiff, reduceCtorEq, Bool.false_eq_true, List.all_cons, List.all_nil, List.any_cons, List.any_nil, id, Int.reduceToNat, if_true, ite_true, if_false, eq_self, decide_true, decide_false, Option.map_none, forL_c, forL_n, cSeq_r, kr1_0, kr2_0, cLc_r, zB0, zB1, ob, f, d0, en]
    rw [cSeq_r, tIfS_e, p2]
    have s3 : ∀ (a b : CS) (ρ : En), tIfS (.ok (.dat (.bool true)) ρ) a b = a ρ := fun _ _ _ => rfl
    rw [s3, List.cons_append, s2]
    have eQ : pre ++ [45] ++ dg i.natAbs = pre ++ 45 :: dg i.natAbs := by simp
    rw [eQ]
    rfl
  · rw [decide_eq_false n45] at p2
    have s2 : ∀ a : CS, cIfS (c2 gEq (cMeth "TextReader" "peek" F_TextReader_peek 0 cxNil) (cK (.str ("-" : Str)))) a (cNext) [some (RS pre (wr d ++ rest)), some (.dat (.int D)), none] = .nx [some (RS pre (wr d ++ rest)), some (.dat (.int D)), none] := fun a => by
      rw [tIfS_e, p2]
      simp -implicitDefEqProofs only [zR0, zR1, zR2, zR3, zR4, zR5, zR6, zR7, zR8, zR9, zR10, gAdd, gSub, gNeg, gNot, gLt, gLe, gGt, gGe, gLen, gAbs, gInt, gMax2, gMin2, gGcd, gList, gTuple, gAll, gAny, gPow, gMul, gFd, gMod, List.getElem?_cons_zero, List.getElem?_cons_succ, List.set_cons_zero, List.set_cons_succ, List.map_cons, List.map_nil, List.length_cons, List.length_nil, List.cons_append, List.nil_append, List.replicate_succ, List.replicate_zero, List.length_map, ↓cond_true, ↓cond_false, cond_true, cond_false, Option.map_some, beq_self_eq_true, List.contains_cons, List.contains_nil, Bool.or_false, Bool.false_or, Bool.or_true, Bool.and_true, Bool.true_and, Bool.not_true, Bool.not_false, Nat.reduceBEq, Nat.reduceAdd, Nat.reduceSub, Nat.reduceEqDiff, reduceCtorEq, Bool.false_eq_true, List.all_cons, List.all_nil, List.any_cons, List.any_nil, id, Int.reduceToNat, if_true, ite_true, if_false, eq_self, decide_true, decide_false, Option.map_none, forL_c, forL_n]
    rw [cSeq_r, s2, sq_nx]
    have nt : F_TextReader_number_or_text [RS pre (wr d ++ rest)] = .ok (.dat d) [RS (pre ++ wr d) rest] := by
      cases h with
      | int i h =>
        have eW : wr (.int i) = dg i.natAbs := by
          rw [wr]
          unfold sg10
          split
          · rename_i hn
            exfalso
            rw [wr] at ew
            unfold sg10 at ew
            rw [if_pos hn] at ew
            exact n45 (List.cons.inj ew).1.symm
          · rfl
        have i0 : 0 ≤ i := by
          refine Classical.byContradiction fun hn => ?_
          rw [wr] at ew
          unfold sg10 at ew
          rw [if_pos (by omega)] at ew
          exact n45 (List.cons.inj ew).1.symm
        rw [eW] at hl ok ⊢
        have := nt_num h hs hl ok
        have en : ((i.natAbs : Nat) : Int) = i := by omega
        rw [en] at this
        exact this
      | str z h ok2 =>
        have eW : wr (.str z) = dg z.length ++ 58 :: cds z := by rw [wr]
        have eX : dg z.length ++ 58 :: cds z ++ rest = dg z.length ++ 58 :: (cds z ++ rest) := by simp
        rw [eW, eX] at hl ok
        rw [eW, eX]
        exact nt_txt h hl ok
      | tup ds hl h => exact absurd rfl (ht ds)
    have ob : isOb "TextReader" "number_or_text" (some (some (RS pre (wr d ++ rest)))) = true := rb_nt
    simp -implicitDefEqProofs only [zR0, zR1, zR2, zR3, zR4, zR5, zR6, zR7, zR8, zR9, zR10, gAdd, gSub, gNeg, gNot, gLt, gLe, gGt, gGe, gLen, gAbs, gInt, gMax2, gMin2, gGcd, gList, gTuple, gAll, gAny, gPow, gMul, gFd, gMod, List.getElem?_cons_zero, List.getElem?_cons_succ, List.set_cons_zero, List.set_cons_succ, List.map_cons, List.map_nil, List.length_cons, List.length_nil, List.cons_append, List.nil_append, List.replicate_succ, List.replicate_zero, List.length_map, ↓cond_true, ↓cond_false, cond_true, cond_false, Option.map_some, beq_self_eq_true, List.contains_cons, List.contains_nil, Bool.or_false, Bool.false_or, Bool.or_true, Bool.and_true, Bool.true_and, Bool.not_true, Bool.not_false, Nat.reduceBEq, Nat.reduceAdd, Nat.reduceSub, Nat.reduceEqDiff, reduceCtorEq, Bool.false_eq_true, List.all_cons, List.all_nil, List.any_cons, List.any_nil, id, Int.reduceToNat, if_true, ite_true, if_false, eq_self, decide_true, decide_false, Option.map_none, forL_c, forL_n, cSeq_r, kr1_0, kr2_0, cLc_r, zB0, zB1, ob, nt]
    try rfl
theorem thing_spec : ∀ (n : Nat) {d : PyData}, Thg n d → ∀ (k : Nat) (D : Int), n + 1 ≤ k → (n : Int) ≤ D → Reads (F_TextReader_thing k) D d := by
  intro n
  induction n with
  | zero =>
    intro d h k D hk hD
    exact thing_leaf h (fun ds e => by subst e; cases h) hk
  | succ n ih =>
    intro d h k D hk hD
    cases h with
    | int i h => exact thing_leaf (.int (n := 0) i h) (fun ds e => by cases e) (by omega)
    | str z h ok => exact thing_leaf (.str (n := 0) z h ok) (fun ds e => by cases e) (by omega)
    | tup ds hl h =>
      obtain ⟨m, rfl⟩ : ∃ m, k = m + 1 := ⟨k - 1, by omega⟩
      intro pre rest hs hlen hok
      have e := parts_spec (F := F_TextReader_thing m) (D := D) (ds := ds) (by omega) (fun d hd => ⟨ih (h d hd) m (D - 1) (by omega) (by omega), n, h d hd⟩) hlen hok hl
      have eW : wr (.tuple ds) ++ rest = 40 :: (wrs ds ++ [41] ++ rest) := by rw [wr]; simp
      have hl2 := hlen
      have ok2 := hok
      rw [eW] at hl2 ok2
      have p := (peek_eq (r := [some (.dat (.int D)), none]) hl2 ok2 (x := 40) (by decide) paren_st.1).1
      rw [decide_eq_true rfl, ← eW] at p
      have ob : isOb "TextReader" "parts" (some (some (RS pre (wr (.tuple ds) ++ rest)))) = true := rb_parts
      rw [thing_s (F := F_TextReader_thing)]
      unfold M_TextReader_thing
      have s1 : cIfS (c2 gEq (cMeth "TextReader" "peek" F_TextReader_peek 0 cxNil) (cK (.str ("(" : Str)))) (cRet (cMeth "TextReader" "parts" (F_TextReader_parts (F_TextReader_thing m)) 0 (cxD (cV 1) (cxNil)))) (cNext) [some (RS pre (wr (.tuple ds) ++ rest)), some (.dat (.int D)), none] = .rt (.dat (.tuple ds)) [some (RS (pre ++ wr (.tuple ds)) rest), some (.dat (.int D)), none] := by
        rw [tIfS_e, p]
        simp -implicitDefEqProofs only [zR0, zR1, zR2, zR3, zR4, zR5, zR6, zR7, zR8, zR9, zR10, gAdd, gSub, gNeg, gNot, gLt, gLe, gGt, gGe, gLen, gAbs, gInt, gMax2, gMin2, gGcd, gList, gTuple, gAll, gAny, gPow, gMul, gFd, gMod, List.getElem?_cons_zero, List.getElem?_cons_succ, List.set_cons_zero, List.set_cons_succ, List.map_cons, List.map_nil, List.length_cons, List.length_nil, List.cons_append, List.nil_append, List.replicate_succ, List.replicate_zero, List.length_map, ↓cond_true, ↓cond_false, cond_true, cond_false, Option.map_some, beq_self_eq_true, List.contains_cons, List.contains_nil, Bool.or_false, Bool.false_or, Bool.or_true, Bool.and_true, Bool.true_and, Bool.not_true, Bool.not_false, Nat.reduceBEq, Nat.reduceAdd, Nat.reduceSub, Nat.reduceEqDiff, reduceCtorEq, Bool.false_eq_true, List.all_cons, List.all_nil, List.any_cons, List.any_nil, id, Int.reduceToNat, if_true, ite_true, if_false, eq_self, decide_true, decide_false, Option.map_none, forL_c, forL_n, cSeq_r, kr1_0, kr2_0, cLc_r, zB0, zB1, ob, e]
      rw [cSeq_r, s1]
      rfl
/-- a written thing, read -/
theorem read_spec {d : PyData} (h : Thg 40 d) (hl : (wr d).length ≤ 100000) (ok : OkC (wr d)) : F_read [.dat (.str (stC (wr d)))] = .ok (.dat d) [.dat (.str (stC (wr d)))] := by
  have cl := ch_cls
  have t := thing_spec 40 h 45 40 (by decide) (by decide) [] [] (fun c hc => by cases hc) (by simpa using hl) (by simpa using ok)
  rw [List.append_nil, List.nil_append] at t
  have i0 : F_TextReader___init__ [.obj (some "TextReader") .nil, .dat (.str (stC (wr d)))] = .ok (.dat .none) [RS [] (wr d), .dat (.str (stC (wr d)))] := by
    unfold F_TextReader___init__ M_TextReader___init__
    rw [show ∀ (c : CS) (a b : S), mkF 2 2 [0] c [a, b] = finish [0] [a, b] (c [some a, some b]) from fun _ _ _ => rfl, cSeq_r]
    with_unfolding_all rfl
  have z : decide ((stC (wr d)).length ≤ sizeLine) = true := decide_eq_true (by rw [len_stC]; omega)
  have ob : isOb "TextReader" "thing" (some (some (RS [] (wr d)))) = true := rb_thing
  have nh : (RS [] (wr d)).nh = true := rfl
  have mk : ∀ {c : CS} {s : S}, mkF 1 3 [] c [s] = finish [] [s] (c [some s, none, none]) := rfl
  have k1 : ∀ r : En, kqN (some (some (RS (wr d) []))) 1 r = .at 1 [] r := fun _ => rfl
  have q1 : ∀ (x : Option S) (r : En), qf "TextReader" "at" (.at 1 []) (x :: some (RS (wr d) []) :: r) = .dat (.int ((wr d).length : Int)) (x :: some (RS (wr d) []) :: r) := fun x r => by with_unfolding_all rfl
  have ln : ((stC (wr d)).length : Int) = ((wr d).length : Int) := by rw [len_stC]
  have d1 : (((wr d).length : Int) != ((wr d).length : Int)) = false := bne_self_eq_false _
  have d2 : (((wr d).length : Int) == ((wr d).length : Int)) = true := beq_self_eq_true _
  unfold F_read M_read
  rw [mk, cSeq_r]
  simp -implicitDefEqProofs only [zR0, zR1, zR2, zR3, zR4, zR5, zR6, zR7, zR8, zR9, zR10, gAdd, gSub, gNeg, gNot, gLt, gLe, gGt, gGe, gLen, gAbs, gInt, gMax2, gMin2, gGcd, gList, gTuple, gAll, gAny, gPow, gMul, gFd, gMod, List.getElem?_cons_zero, List.getElem?_cons_succ, List.set_cons_zero, List.set_cons_succ, List.map_cons, List.map_nil, List.length_cons, List.length_nil, List.cons_append, List.nil_append, List.replicate_succ, List.replicate_zero, List.length_map, ↓cond_true, ↓cond_false, cond_true, cond_false, Option.map_some, beq_self_eq_true, List.contains_cons, List.contains_nil, Bool.or_false, Bool.false_or, Bool.or_true, Bool.and_true, Bool.true_and, Bool.not_true, Bool.not_false, Nat.reduceBEq, Nat.reduceAdd, Nat.reduceSub, Nat.reduceEqDiff, reduceCtorEq, Bool.false_eq_true, List.all_cons, List.all_nil, List.any_cons, List.any_nil, id, Int.reduceToNat, if_true, ite_true, if_false, eq_self, decide_true, decide_false, Option.map_none, forL_c, forL_n, zB0, zB1, i0, nh]
  rw [cSeq_r]
  simp -implicitDefEqProofs only [zR0, zR1, zR2, zR3, zR4, zR5, zR6, zR7, zR8, zR9, zR10, gAdd, gSub, gNeg, gNot, gLt, gLe, gGt, gGe, gLen, gAbs, gInt, gMax2, gMin2, gGcd, gList, gTuple, gAll, gAny, gPow, gMul, gFd, gMod, List.getElem?_cons_zero, List.getElem?_cons_succ, List.set_cons_zero, List.set_cons_succ, List.map_cons, List.map_nil, List.length_cons, List.length_nil, List.cons_append, List.nil_append, List.replicate_succ, List.replicate_zero, List.length_map, ↓cond_true, ↓cond_false, cond_true, cond_false, Option.map_some, beq_self_eq_true, List.contains_cons, List.contains_nil, Bool.or_false, Bool.false_or, Bool.or_true, Bool.and_true, Bool.true_and, Bool.not_true, Bool.not_false, Nat.reduceBEq, Nat.reduceAdd, Nat.reduceSub, Nat.reduceEqDiff, reduceCtorEq, Bool.false_eq_true, List.all_cons, List.all_nil, List.any_cons, List.any_nil, id, Int.reduceToNat, if_true, ite_true, if_false, eq_self, decide_true, decide_false, Option.map_none, forL_c, forL_n, zB0, zB1, ob, t]
  rw [cSeq_r]
  simp -implicitDefEqProofs only [zR0, zR1, zR2, zR3, zR4, zR5, zR6, zR7, zR8, zR9, zR10, gAdd, gSub, gNeg, gNot, gLt, gLe, gGt, gGe, gLen, gAbs, gInt, gMax2, gMin2, gGcd, gList, gTuple, gAll, gAny, gPow, gMul, gFd, gMod, List.getElem?_cons_zero, List.getElem?_cons_succ, List.set_cons_zero, List.set_cons_succ, List.map_cons, List.map_nil, List.length_cons, List.length_nil, List.cons_append, List.nil_append, List.replicate_succ, List.replicate_zero, List.length_map, ↓cond_true, ↓cond_false, cond_true, cond_false, Option.map_some, beq_self_eq_true, List.contains_cons, List.contains_nil, Bool.or_false, Bool.false_or, Bool.or_true, Bool.and_true, Bool.true_and, Bool.not_true, Bool.not_false, Nat.reduceBEq, Nat.reduceAdd, Nat.reduceSub, Nat.reduceEqDiff, reduceCtorEq, Bool.false_eq_true, List.all_cons, List.all_nil, List.any_cons, List.any_nil, id, Int.reduceToNat, if_true, ite_true, if_false, eq_self, decide_true, decide_false, Option.map_none, forL_c, forL_n, zB0, zB1, k1, q1, z, ln, d1, d2]
  try rfl
end Z
set_option maxHeartbeats 1000000
namespace Z
open PySem PySem.Spec PyProof.Rows L2
/-! ### things, drawn -/
/-- a comprehension that changes what it reads -/
theorem lcL_thr {vs : List Nat} {g : CG} {ct ce : CE} (Q : PyData → Prop) (I : En → Prop)
    (step : ∀ d ρ, I ρ → ∃ ρa ρb ρc s, g d (wipeE ρ vs) = some ρa ∧ ct ρa = .ok (.dat (.bool true)) ρb ∧ ce ρb = .ok s ρc ∧ Q s.d ∧ I ρc) :
    ∀ (ds acc : List PyData) (ρ : En), I ρ → acc.length + ds.length ≤ sizeLine → ∃ es ρ', lcL vs g ct ce ds ρ acc = .ok (acc ++ es) ρ' ∧ I ρ' ∧ es.length = ds.length ∧ ∀ e ∈ es, Q e
  | [], acc, ρ, h, _ => ⟨[], ρ, by rw [lcL_nil, List.append_nil], h, rfl, fun _ h => by cases h⟩
  | d :: ds, acc, ρ, h, hl => by
    obtain ⟨ρa, ρb, ρc, s, h1, h2, h3, h4, h5⟩ := step d ρ h
    have hz : decide (acc.length < sizeLine) = true := decide_eq_true (by simp only [List.length_cons] at hl; omega)
    obtain ⟨es, ρ', e, i, l, q⟩ := lcL_thr Q I step ds (acc ++ [s.d]) ρc h5 (by simp only [List.length_append, List.length_cons, List.length_nil] at *; omega)
    refine ⟨s.d :: es, ρ', ?_, i, by rw [List.length_cons, List.length_cons, l], fun x hx => ?_⟩
    · rw [lcL_c, h1, ml1_0, h2, ml2_t, h3, ml3_0, hz, cond_true, e, List.append_assoc]
      rfl
    · rcases List.mem_cons.mp hx with rfl | hx
      · exact h4
      · exact q x hx
theorem sg10_ok (i : Int) : ∀ c ∈ sg10 i, c < 0x110000 := by
  have d := dg_all i.natAbs
  intro c hc
  unfold sg10 at hc
  split at hc
  · rcases List.mem_cons.mp hc with rfl | hc
    · decide
    · have := d c hc; omega
  · have := d c hc; omega
theorem dg_ok (m : Nat) : OkC (dg m) := fun c hc => by have := dg_all m c hc; omega
def chD (c : Nat) : PyData := .str (stC [c])
theorem chs_of : ∀ {es : List PyData}, (∀ e ∈ es, ∃ c, c < 128 ∧ e = chD c) → ∃ cs : Cd, es = cs.map chD ∧ ∀ c ∈ cs, c < 128
  | [], _ => ⟨[], rfl, fun _ h => by cases h⟩
  | e :: es, h => by
    obtain ⟨c, hc, rfl⟩ := h e (by simp)
    obtain ⟨cs, rfl, k⟩ := chs_of (es := es) fun x hx => h x (List.mem_cons_of_mem _ hx)
    refine ⟨c :: cs, rfl, fun x hx => ?_⟩
    rcases List.mem_cons.mp hx with rfl | hx
    · exact hc
    · exact k x hx
theorem join_ch : ∀ {cs : Cd}, cds (Str.join ("" : Str) (cs.map fun c => stC [c])) = cs
  | [] => rfl
  | [c] => by
    show cds (stC [c]) = _
    rw [cds_stC]
  | c :: e :: cs => by
    have ih := join_ch (cs := e :: cs)
    show cds (stC [c] ++ ("" : Str) ++ Str.join ("" : Str) ((e :: cs).map fun c => stC [c])) = _
    rw [cds_app, cds_app, cds_stC, ih]
    have e1 : cds ("" : Str) = [] := by decide +kernel
    rw [e1]
    rfl
theorem ch_join {cs : Cd} (h : cs.length ≤ 1000) : gJoin (.str ("" : Str)) (.list (cs.map chD)) = some (.dat (.str (stC cs))) := by
  have e : cs.map chD = (cs.map fun c => stC [c]).map .str := by rw [List.map_map]; rfl
  have s : ∀ cs : Cd, ((cs.map fun c => stC [c]).map (·.length)).sum = cs.length := fun cs => by
    induction cs with
    | nil => rfl
    | cons c cs ih =>
      rw [List.map_cons, List.map_cons, List.sum_cons, ih, len_stC]
      simp; omega
  have z : ("" : Str).length = 0 := by decide +kernel
  rw [e, gJoin_t (by rw [s, z]; omega), ← stC_cds (Str.join _ _), join_ch]
theorem pick_ch {r : Int} (h0 : 0 ≤ r) (h1 : r < 11) : ∃ c, c < 128 ∧ gIx (.str ("0123:,()-a " : Str)) (.int r) = some (.dat (chD c)) := by
  have : r = 0 ∨ r = 1 ∨ r = 2 ∨ r = 3 ∨ r = 4 ∨ r = 5 ∨ r = 6 ∨ r = 7 ∨ r = 8 ∨ r = 9 ∨ r = 10 := by omega
  have e : ∀ c x : Nat, c < 128 → (bif decide (("0123:,()-a " : Str).length ≤ sizeLine) then (atI ("0123:,()-a " : Str).cps.toList (x : Int)) else none) = some c → ∃ c, c < 128 ∧ gIx (.str ("0123:,()-a " : Str)) (.int (x : Int)) = some (.dat (chD c)) := fun c x hc h => by
    refine ⟨c, hc, ?_⟩
    show (bif decide (("0123:,()-a " : Str).length ≤ sizeLine) then (atI ("0123:,()-a " : Str).cps.toList (x : Int)).map _ else none) = _
    cases hd : decide (("0123:,()-a " : Str).length ≤ sizeLine) with
    | false => rw [hd] at h; cases h
    | true =>
      rw [hd, cond_true] at h
      rw [cond_true, h]
      rfl
  rcases this with rfl | rfl | rfl | rfl | rfl | rfl | rfl | rfl | rfl | rfl | rfl
  · exact e 48 0 (by decide) (by decide +kernel)
  · exact e 49 1 (by decide) (by decide +kernel)
  · exact e 50 2 (by decide) (by decide +kernel)
  · exact e 51 3 (by decide) (by decide +kernel)
  · exact e 58 4 (by decide) (by decide +kernel)
  · exact e 44 5 (by decide) (by decide +kernel)
  · exact e 40 6 (by decide) (by decide +kernel)
  · exact e 41 7 (by decide) (by decide +kernel)
  · exact e 45 8 (by decide) (by decide +kernel)
  · exact e 97 9 (by decide) (by decide +kernel)
  · exact e 32 10 (by decide) (by decide +kernel)
/-- a drawn thing -/
structure DT (n B : Nat) (d : PyData) : Prop where
  th : Thg n d
  len : (wr d).length ≤ B
  ok : OkC (wr d)
theorem Thg.mono {n : Nat} {d : PyData} (h : Thg n d) : ∀ {m : Nat}, n ≤ m → Thg m d := by
  induction h with
  | int i h => intro m _; exact .int i h
  | str z h ok => intro m _; exact .str z h ok
  | tup ds hl h ih =>
    intro m hm
    obtain ⟨k, rfl⟩ : ∃ k, m = k + 1 := ⟨m - 1, by omega⟩
    exact .tup ds hl fun d hd => ih d hd (by omega)
theorem DT.mono {n m B C : Nat} {d : PyData} (h : DT n B d) (hn : n ≤ m) (hB : B ≤ C) : DT m C d := ⟨h.th.mono hn, Nat.le_trans h.len hB, h.ok⟩
theorem DT.int {n B : Nat} {i : Int} (h : i.natAbs < 10 ^ 60) (hB : 61 ≤ B) : DT n B (.int i) :=
  ⟨.int i (Nat.lt_of_lt_of_le h (Nat.pow_le_pow_right (by decide) (by decide))), by
    have := sg10_len h (by decide)
    show (sg10 i).length ≤ B
    omega, sg10_ok i⟩
theorem DT.str {n B : Nat} {c : Cd} (h : c.length ≤ 99) (hk : OkC c) (hB : 105 ≤ B) : DT n B (.str (stC c)) := by
  have e : wr (.str (stC c)) = dg c.length ++ 58 :: c := by rw [wr, len_stC, cds_stC]
  refine ⟨.str _ (by rw [len_stC]; exact h) (ok_st hk), ?_, ?_⟩
  · rw [e, List.length_append, List.length_cons]
    have : (dg c.length).length ≤ 2 := dg_len (by omega) (by decide)
    omega
  · rw [e]
    intro x hx
    rcases List.mem_append.mp hx with hx | hx
    · exact dg_ok _ x hx
    · rcases List.mem_cons.mp hx with rfl | hx
      · decide
      · exact hk x hx
theorem wrt_bd {B : Nat} : ∀ {ds : List PyData}, (∀ d ∈ ds, (wr d).length ≤ B ∧ OkC (wr d)) → (wrt ds).length ≤ ds.length * (B + 1) ∧ OkC (wrt ds)
  | [], _ => ⟨Nat.zero_le _, okc0⟩
  | d :: ds, h => by
    obtain ⟨i1, i2⟩ := wrt_bd (ds := ds) fun x hx => h x (List.mem_cons_of_mem _ hx)
    obtain ⟨h1, h2⟩ := h d (by simp)
    have e : wrt (d :: ds) = 44 :: (wr d ++ wrt ds) := by rw [wrt]
    rw [e]
    refine ⟨?_, fun x hx => ?_⟩
    · rw [List.length_cons, List.length_append, List.length_cons, Nat.add_mul]
      omega
    · rcases List.mem_cons.mp hx with rfl | hx
      · decide
      · rcases List.mem_append.mp hx with hx | hx
        · exact h2 x hx
        · exact i2 x hx
theorem wrs_bd {B : Nat} : ∀ {ds : List PyData}, (∀ d ∈ ds, (wr d).length ≤ B ∧ OkC (wr d)) → (wrs ds).length ≤ ds.length * (B + 1) ∧ OkC (wrs ds)
  | [], _ => ⟨Nat.zero_le _, okc0⟩
  | d :: ds, h => by
    obtain ⟨i1, i2⟩ := wrt_bd (ds := ds) fun x hx => h x (List.mem_cons_of_mem _ hx)
    obtain ⟨h1, h2⟩ := h d (by simp)
    have e : wrs (d :: ds) = wr d ++ wrt ds := by rw [wrs]
    rw [e]
    refine ⟨?_, fun x hx => ?_⟩
    · rw [List.length_append, List.length_cons, Nat.add_mul]
      omega
    · rcases List.mem_append.mp hx with hx | hx
      · exact h2 x hx
      · exact i2 x hx
theorem DT.tup {n B C : Nat} {ds : List PyData} (hl : ds.length ≤ 1000) (h : ∀ d ∈ ds, DT n B d) (hC : ds.length * (B + 1) + 2 ≤ C) : DT (n + 1) C (.tuple ds) := by
  obtain ⟨h1, h2⟩ := wrs_bd (B := B) fun d hd => ⟨(h d hd).len, (h d hd).ok⟩
  have e : wr (.tuple ds) = 40 :: (wrs ds ++ [41]) := by rw [wr]
  refine ⟨.tup ds hl fun d hd => (h d hd).th, ?_, ?_⟩
  · rw [e, List.length_cons, List.length_append, List.length_singleton]
    omega
  · rw [e]
    intro x hx
    rcases List.mem_cons.mp hx with rfl | hx
    · decide
    · rcases List.mem_append.mp hx with hx | hx
      · exact h2 x hx
      · rw [List.mem_singleton.mp hx]; decide
theorem mk24s {c : CS} {s t : S} : mkF 2 4 [0] c [s, t] = finish [0] [s, t] (c [some s, some t, none, none]) := rfl
theorem thing_zero {k : Nat} : F_u_law_thing (k + 1) = mkF 2 4 [0] (M_u_law_thing (F_u_law_thing k)) := rfl
def TI (n r : Int) (ρ : En) : Prop := ∃ l x, ρ = [some (.lst l), some (.dat (.int n)), some (.dat (.int r)), x] ∧ PotOk l
theorem txt_lc {l : List PyData} {n r : Int} (hp : PotOk l) : ∃ (cs : Cd) (l' : List PyData), cLc [3] (ciRange1 (caCons (cCall F_u_law_next (cxS 0 (cxD (cK (.int 13)) (cxNil)))) (caNil))) (cgName 3) (cK (.bool true)) (cB2 gIx (cbD (cK (.str ("0123:,()-a " : Str)))) (cCall F_u_law_next (cxS 0 (cxD (cK (.int 11)) (cxNil))))) [some (.lst l), some (.dat (.int n)), some (.dat (.int r)), none] =
    .ok (.lst (cs.map chD)) [some (.lst l'), some (.dat (.int n)), some (.dat (.int r)), none] ∧ PotOk l' ∧ cs.length ≤ 99 ∧ OkC cs := by
  obtain ⟨a, l1, e1, a0, a1, k1⟩ := next_spec hp (m := 13) (by decide) (by decide)
  have cl := ch_cls
  obtain ⟨v, hv⟩ : ∃ v : Nat, a = v := ⟨a.toNat, by omega⟩
  subst hv
  obtain ⟨es, ρ', e2, ⟨l2, x, rfl, k2⟩, ln, q⟩ := lcL_thr (vs := [3]) (g := cgName 3) (ct := cK (.bool true)) (ce := cB2 gIx (cbD (cK (.str ("0123:,()-a " : Str)))) (cCall F_u_law_next (cxS 0 (cxD (cK (.int 11)) (cxNil))))) (fun e => ∃ c, c < 128 ∧ e = chD c) (TI n r) (fun d ρ h => by
    obtain ⟨l, x, rfl, k⟩ := h
    obtain ⟨b, l3, e3, b0, b1, k3⟩ := next_spec k (m := 11) (by decide) (by decide)
    obtain ⟨c, hc, e4⟩ := pick_ch b0 b1
    refine ⟨[some (.lst l), some (.dat (.int n)), some (.dat (.int r)), some (.dat d)], [some (.lst l), some (.dat (.int n)), some (.dat (.int r)), some (.dat d)], [some (.lst l3), some (.dat (.int n)), some (.dat (.int r)), some (.dat d)], .dat (chD c), rfl, rfl, ?_, ⟨c, hc, rfl⟩, l3, _, rfl, k3⟩
    simp -implicitDefEqProofs only [zR0, zR1, zR2, zR3, zR4, zR5, zR6, zR7, zR8, zR9, zR10, gAdd, gSub, gNeg, gNot, gLt, gLe, gGt, gGe, gLen, gAbs, gInt, gMax2, gMin2, gGcd, gList, gTuple, gAll, gAny, gPow, gMul, gFd, gMod, List.getElem?_cons_zero, List.getElem?_cons_succ, List.set_cons_zero, List.set_cons_succ, List.map_cons, List.map_nil, List.length_cons, List.length_nil, List.cons_append, List.nil_append, List.replicate_succ, List.replicate_zero, List.length_map, ↓cond_true, ↓cond_false, cond_true, cond_false, Option.map_some, beq_self_eq_true, List.contains_cons, List.contains_nil, Bool.or_false, Bool.false_or, Bool.or_true, Bool.and_true, Bool.true_and, Bool.not_true, Bool.not_false, Nat.reduceBEq, Nat.reduceAdd, Nat.reduceSub, Nat.reduceEqDiff, reduceCtorEq, Bool.false_eq_true, List.all_cons, List.all_nil, List.any_cons, List.any_nil, id, Int.reduceToNat, if_true, ite_true, if_false, eq_self, decide_true, decide_false, Option.map_none, forL_c, forL_n, cSeq_r, kr1_0, kr2_0, cLc_r, e3, e4]) (rangeL 0 v) [] [some (.lst l1), some (.dat (.int n)), some (.dat (.int r)), none] ⟨l1, _, rfl, k1⟩ (by rw [rangeL_length, List.length_nil]; omega)
  obtain ⟨cs, rfl, hc⟩ := chs_of q
  rw [rangeL_length, List.length_map] at ln
  refine ⟨cs, l2, ?_, k2, by omega, fun x hx => by have := hc x hx; omega⟩
  have sm : Sml (v : Int) := by unfold Sml; omega
  have tn : (v : Int).toNat = v := rfl
  rw [cLc_r]
  simp -implicitDefEqProofs only [zR0, zR1, zR2, zR3, zR4, zR5, zR6, zR7, zR8, zR9, zR10, gAdd, gSub, gNeg, gNot, gLt, gLe, gGt, gGe, gLen, gAbs, gInt, gMax2, gMin2, gGcd, gList, gTuple, gAll, gAny, gPow, gMul, gFd, gMod, List.getElem?_cons_zero, List.getElem?_cons_succ, List.set_cons_zero, List.set_cons_succ, List.map_cons, List.map_nil, List.length_cons, List.length_nil, List.cons_append, List.nil_append, List.replicate_succ, List.replicate_zero, List.length_map, ↓cond_true, ↓cond_false, cond_true, cond_false, Option.map_some, beq_self_eq_true, List.contains_cons, List.contains_nil, Bool.or_false, Bool.false_or, Bool.or_true, Bool.and_true, Bool.true_and, Bool.not_true, Bool.not_false, Nat.reduceBEq, Nat.reduceAdd, Nat.reduceSub, Nat.reduceEqDiff, reduceCtorEq, Bool.false_eq_true, List.all_cons, List.all_nil, List.any_cons, List.any_nil, id, Int.reduceToNat, if_true, ite_true, if_false, eq_self, decide_true, decide_false, Option.map_none, forL_c, forL_n, e1, kr1_s sm, tn]
  rw [e2, ml5_0]
  rfl
theorem things_lc {F : Fn} {l : List PyData} {n r : Int} {m B : Nat} (hF : ∀ l, PotOk l → ∃ d l', F [.lst l, .dat (.int (n - 1))] = .ok (.dat d) [.lst l', .dat (.int (n - 1))] ∧ PotOk l' ∧ DT m B d) (hp : PotOk l) :
    ∃ (ds l' : List PyData), cLc [3] (ciRange1 (caCons (cCall F_u_law_next (cxS 0 (cxD (cK (.int 5)) (cxNil)))) (caNil))) (cgName 3) (cK (.bool true)) (cCall F (cxS 0 (cxD (c2 gSub (cV 1) (cK (.int 1))) (cxNil)))) [some (.lst l), some (.dat (.int n)), some (.dat (.int r)), none] =
    .ok (.lst ds) [some (.lst l'), some (.dat (.int n)), some (.dat (.int r)), none] ∧ PotOk l' ∧ ds.length ≤ 4 ∧ ∀ d ∈ ds, DT m B d := by
  obtain ⟨a, l1, e1, a0, a1, k1⟩ := next_spec hp (m := 5) (by decide) (by decide)
  have cl := ch_cls
  obtain ⟨v, hv⟩ : ∃ v : Nat, a = v := ⟨a.toNat, by omega⟩
  subst hv
  obtain ⟨es, ρ', e2, ⟨l2, x, rfl, k2⟩, ln, q⟩ := lcL_thr (vs := [3]) (g := cgName 3) (ct := cK (.bool true)) (ce := cCall F (cxS 0 (cxD (c2 gSub (cV 1) (cK (.int 1))) (cxNil)))) (DT m B) (TI n r) (fun d ρ h => by
    obtain ⟨l, x, rfl, k⟩ := h
    obtain ⟨c, l3, e3, k3, hc⟩ := hF l k
    refine ⟨[some (.lst l), some (.dat (.int n)), some (.dat (.int r)), some (.dat d)], [some (.lst l), some (.dat (.int n)), some (.dat (.int r)), some (.dat d)], [some (.lst l3), some (.dat (.int n)), some (.dat (.int r)), some (.dat d)], .dat c, rfl, rfl, ?_, hc, l3, _, rfl, k3⟩
    simp -implicitDefEqProofs only [zR0, zR1, zR2, zR3, zR4, zR5, zR6, zR7, zR8, zR9, zR10, gAdd, gSub, gNeg, gNot, gLt, gLe, gGt, gGe, gLen, gAbs, gInt, gMax2, gMin2, gGcd, gList, gTuple, gAll, gAny, gPow, gMul, gFd, gMod, List.getElem?_cons_zero, List.getElem?_cons_succ, List.set_cons_zero, List.set_cons_succ, List.map_cons, List.map_nil, List.length_cons, List.length_nil, List.cons_append, List.nil_append, List.replicate_succ, List.replicate_zero, List.length_map, ↓cond_true, ↓cond_false, cond_true, cond_false, Option.map_some, beq_self_eq_true, List.contains_cons, List.contains_nil, Bool.or_false, Bool.false_or, Bool.or_true, Bool.and_true, Bool.true_and, Bool.not_true, Bool.not_false, Nat.reduceBEq, Nat.reduceAdd, Nat.reduceSub, Nat.reduceEqDiff, reduceCtorEq, Bool.false_eq_true, List.all_cons, List.all_nil, List.any_cons, List.any_nil, id, Int.reduceToNat, if_true, ite_true, if_false, eq_self, decide_true, decide_false, Option.map_none, forL_c, forL_n, cSeq_r, kr1_0, kr2_0, cLc_r, e3]) (rangeL 0 v) [] [some (.lst l1), some (.dat (.int n)), some (.dat (.int r)), none] ⟨l1, _, rfl, k1⟩ (by rw [rangeL_length, List.length_nil]; omega)
  rw [rangeL_length] at ln
  refine ⟨es, l2, ?_, k2, by omega, q⟩
  have sm : Sml (v : Int) := by unfold Sml; omega
  have tn : (v : Int).toNat = v := rfl
  rw [cLc_r]
  simp -implicitDefEqProofs only [zR0, zR1, zR2, zR3, zR4, zR5, zR6, zR7, zR8, zR9, zR10, gAdd, gSub, gNeg, gNot, gLt, gLe, gGt, gGe, gLen, gAbs, gInt, gMax2, gMin2, gGcd, gList, gTuple, gAll, gAny, gPow, gMul, gFd, gMod, List.getElem?_cons_zero, List.getElem?_cons_succ, List.set_cons_zero, List.set_cons_succ, List.map_cons, List.map_nil, List.length_cons, List.length_nil, List.cons_append, List.nil_append, List.replicate_succ, List.replicate_zero, List.length_map, ↓cond_true, ↓cond_false, cond_true, cond_false, Option.map_some, beq_self_eq_true, List.contains_cons, List.contains_nil, Bool.or_false, Bool.false_or, Bool.or_true, Bool.and_true, Bool.true_and, Bool.not_true, Bool.not_false, Nat.reduceBEq, Nat.reduceAdd, Nat.reduceSub, Nat.reduceEqDiff, reduceCtorEq, Bool.false_eq_true, List.all_cons, List.all_nil, List.any_cons, List.any_nil, id, Int.reduceToNat, if_true, ite_true, if_false, eq_self, decide_true, decide_false, Option.map_none, forL_c, forL_n, e1, kr1_s sm, tn]
  rw [e2, ml5_0]
  rfl
theorem pw1 : decide (CPow 10 60) = true := by decide
theorem pw2 : ((10 : Int) ^ (60 : Nat)) = 1000000000000000000000000000000000000000000000000000000000000 := by decide
theorem dt_big {n B : Nat} {b c : Int} (b0 : 0 ≤ b) (b1 : b < 1000000000000000000000000000000000000000000000000000000000000) (c0 : 0 ≤ c) (c1 : c < 1000000000000000000000000000000000000000000000000000000000000) (hB : 61 ≤ B) : DT n B (.int (b - c)) := by
  refine DT.int ?_ hB
  have e : (10 : Nat) ^ 60 = 1000000000000000000000000000000000000000000000000000000000000 := by decide
  rw [e]
  omega
theorem dt_small {n B : Nat} {b : Int} (b0 : 0 ≤ b) (b1 : b < 30) (hB : 61 ≤ B) : DT n B (.int (b - 9)) := by
  refine DT.int ?_ hB
  have e : (10 : Nat) ^ 60 = 1000000000000000000000000000000000000000000000000000000000000 := by decide
  rw [e]
  omega
def LB : Nat → Nat
  | 0 => 110
  | n + 1 => 4 * (LB n + 1) + 2
theorem LB_ge : ∀ n, 110 ≤ LB n
  | 0 => Nat.le_refl _
  | n + 1 => by have := LB_ge n; show 110 ≤ 4 * (LB n + 1) + 2; omega
theorem draw_spec : ∀ (n k : Nat) (l : List PyData), n + 1 ≤ k → PotOk l → ∃ d l', F_u_law_thing k [.lst l, .dat (.int n)] = .ok (.dat d) [.lst l', .dat (.int n)] ∧ PotOk l' ∧ DT n (LB n) d := by
  intro n
  induction n with
  | zero =>
    intro k l hk hp
    obtain ⟨k, rfl⟩ : ∃ m, k = m + 1 := ⟨k - 1, by omega⟩
    obtain ⟨a, l1, e1, a0, a1, k1⟩ := next_spec hp (m := 6) (by decide) (by decide)
    rw [thing_zero]
    unfold M_u_law_thing
    by_cases h0 : a = 0
    · subst h0
      obtain ⟨b, l2, e2, b0, b1, k2⟩ := next_spec k1 (m := 1000000000000000000000000000000000000000000000000000000000000) (by decide) (by decide)
      obtain ⟨c, l3, e3, c0, c1, k3⟩ := next_spec k2 (m := 1000000000000000000000000000000000000000000000000000000000000) (by decide) (by decide)
      refine ⟨.int (b - c), l3, ?_, k3, dt_big b0 b1 c0 c1 (by decide)⟩
      rw [mk24s, cSeq_r]
      simp -implicitDefEqProofs only [zR0, zR1, zR2, zR3, zR4, zR5, zR6, zR7, zR8, zR9, zR10, gAdd, gSub, gNeg, gNot, gLt, gLe, gGt, gGe, gLen, gAbs, gInt, gMax2, gMin2, gGcd, gList, gTuple, gAll, gAny, gPow, gMul, gFd, gMod, List.getElem?_cons_zero, List.getElem?_cons_succ, List.set_cons_zero, List.set_cons_succ, List.map_cons, List.map_nil, List.length_cons, List.length_nil, List.cons_append, List.nil_append, List.replicate_succ, List.replicate_zero, List.length_map, ↓cond_true, ↓cond_false, cond_true, cond_false, Option.map_some, beq_self_eq_true, List.contains_cons, List.contains_nil, Bool.or_false, Bool.false_or, Bool.or_true, Bool.and_true, Bool.true_and, Bool.not_true, Bool.not_false, Nat.reduceBEq, Nat.reduceAdd, Nat.reduceSub, Nat.reduceEqDiff, reduceCtorEq, Bool.false_eq_true, List.all_cons, List.all_nil, List.any_cons, List.any_nil, id, Int.reduceToNat, if_true, ite_true, if_false, eq_self, decide_true, decide_false, Option.map_none, forL_c, forL_n, e1]
      simp -implicitDefEqProofs only [zR0, zR1, zR2, zR3, zR4, zR5, zR6, zR7, zR8, zR9, zR10, gAdd, gSub, gNeg, gNot, gLt, gLe, gGt, gGe, gLen, gAbs, gInt, gMax2, gMin2, gGcd, gList, gTuple, gAll, gAny, gPow, gMul, gFd, gMod, List.getElem?_cons_zero, List.getElem?_cons_succ, List.set_cons_zero, List.set_cons_succ, List.map_cons, List.map_nil, List.length_cons, List.length_nil, List.cons_append, List.nil_append, List.replicate_succ, List.replicate_zero, List.length_map, ↓cond_true, ↓cond_false, cond_true, cond_false, Option.map_some, beq_self_eq_true, List.contains_cons, List.contains_nil, Bool.or_false, Bool.false_or, Bool.or_true, Bool.and_true, Bool.true_and, Bool.not_true, Bool.not_false, Nat.reduceBEq, Nat.reduceAdd, Nat.reduceSub, Nat.reduceEqDiff, reduceCtorEq, Bool.false_eq_true, List.all_cons, List.all_nil, List.any_cons, List.any_nil, id, Int.reduceToNat, if_true, ite_true, if_false, eq_self, decide_true, decide_false, Option.map_none, forL_c, forL_n, cSeq_r, kr1_0, kr2_0, cLc_r, pw1, pw2, e2, e3]
    · have d0 : (a == 0) = false := beq_eq_false_iff_ne.mpr h0
      obtain ⟨b, l2, e2, b0, b1, k2⟩ := next_spec k1 (m := 30) (by decide) (by decide)
      refine ⟨.int (b - 9), l2, ?_, k2, dt_small b0 b1 (by decide)⟩
      rw [mk24s, cSeq_r]
      simp -implicitDefEqProofs only [zR0, zR1, zR2, zR3, zR4, zR5, zR6, zR7, zR8, zR9, zR10, gAdd, gSub, gNeg, gNot, gLt, gLe, gGt, gGe, gLen, gAbs, gInt, gMax2, gMin2, gGcd, gList, gTuple, gAll, gAny, gPow, gMul, gFd, gMod, List.getElem?_cons_zero, List.getElem?_cons_succ, List.set_cons_zero, List.set_cons_succ, List.map_cons, List.map_nil, List.length_cons, List.length_nil, List.cons_append, List.nil_append, List.replicate_succ, List.replicate_zero, List.length_map, ↓cond_true, ↓cond_false, cond_true, cond_false, Option.map_some, beq_self_eq_true, List.contains_cons, List.contains_nil, Bool.or_false, Bool.false_or, Bool.or_true, Bool.and_true, Bool.true_and, Bool.not_true, Bool.not_false, Nat.reduceBEq, Nat.reduceAdd, Nat.reduceSub, Nat.reduceEqDiff, reduceCtorEq, Bool.false_eq_true, List.all_cons, List.all_nil, List.any_cons, List.any_nil, id, Int.reduceToNat, if_true, ite_true, if_false, eq_self, decide_true, decide_false, Option.map_none, forL_c, forL_n, e1]
      by_cases h1 : a = 1
      · have t1 : (a == 1) = true := beq_iff_eq.mpr h1
        simp -implicitDefEqProofs only [zR0, zR1, zR2, zR3, zR4, zR5, zR6, zR7, zR8, zR9, zR10, gAdd, gSub, gNeg, gNot, gLt, gLe, gGt, gGe, gLen, gAbs, gInt, gMax2, gMin2, gGcd, gList, gTuple, gAll, gAny, gPow, gMul, gFd, gMod, List.getElem?_cons_zero, List.getElem?_cons_succ, List.set_cons_zero, List.set_cons_succ, List.map_cons, List.map_nil, List.length_cons, List.length_nil, List.cons_append, List.nil_append, List.replicate_succ, List.replicate_zero, List.length_map, ↓cond_true, ↓cond_false, cond_true, cond_false, Option.map_some, beq_self_eq_true, List.contains_cons, List.contains_nil, Bool.or_false, Bool.false_or, Bool.or_true, Bool.and_true, Bool.true_and, Bool.not_true, Bool.not_false, Nat.reduceBEq, Nat.reduceAdd, Nat.reduceSub, Nat.reduceEqDiff, reduceCtorEq, Bool.false_eq_true, List.all_cons, List.all_nil, List.any_cons, List.any_nil, id, Int.reduceToNat, if_true, ite_true, if_false, eq_self, decide_true, decide_false, Option.map_none, forL_c, forL_n, cSeq_r, kr1_0, kr2_0, cLc_r, d0, t1, e2]
      · have d1 : (a == 1) = false := beq_eq_false_iff_ne.mpr h1
        simp -implicitDefEqProofs only [zR0, zR1, zR2, zR3, zR4, zR5, zR6, zR7, zR8, zR9, zR10, gAdd, gSub, gNeg, gNot, gLt, gLe, gGt, gGe, gLen, gAbs, gInt, gMax2, gMin2, gGcd, gList, gTuple, gAll, gAny, gPow, gMul, gFd, gMod, List.getElem?_cons_zero, List.getElem?_cons_succ, List.set_cons_zero, List.set_cons_succ, List.map_cons, List.map_nil, List.length_cons, List.length_nil, List.cons_append, List.nil_append, List.replicate_succ, List.replicate_zero, List.length_map, ↓cond_true, ↓cond_false, cond_true, cond_false, Option.map_some, beq_self_eq_true, List.contains_cons, List.contains_nil, Bool.or_false, Bool.false_or, Bool.or_true, Bool.and_true, Bool.true_and, Bool.not_true, Bool.not_false, Nat.reduceBEq, Nat.reduceAdd, Nat.reduceSub, Nat.reduceEqDiff, reduceCtorEq, Bool.false_eq_true, List.all_cons, List.all_nil, List.any_cons, List.any_nil, id, Int.reduceToNat, if_true, ite_true, if_false, eq_self, decide_true, decide_false, Option.map_none, forL_c, forL_n, cSeq_r, kr1_0, kr2_0, cLc_r, d0, d1, e2]
  | succ n ih =>
    intro k l hk hp
    obtain ⟨k, rfl⟩ : ∃ m, k = m + 1 := ⟨k - 1, by omega⟩
    obtain ⟨a, l1, e1, a0, a1, k1⟩ := next_spec hp (m := 6) (by decide) (by decide)
    have nn : (((n + 1 : Nat) : Int) == 0) = false := beq_eq_false_iff_ne.mpr (by omega)
    have LBn := LB_ge (n + 1)
    rw [thing_zero]
    unfold M_u_law_thing
    by_cases h0 : a = 0
    · subst h0
      obtain ⟨b, l2, e2, b0, b1, k2⟩ := next_spec k1 (m := 1000000000000000000000000000000000000000000000000000000000000) (by decide) (by decide)
      obtain ⟨c, l3, e3, c0, c1, k3⟩ := next_spec k2 (m := 1000000000000000000000000000000000000000000000000000000000000) (by decide) (by decide)
      refine ⟨.int (b - c), l3, ?_, k3, dt_big b0 b1 c0 c1 (by omega)⟩
      rw [mk24s, cSeq_r]
      simp -implicitDefEqProofs only [zR0, zR1, zR2, zR3, zR4, zR5, zR6, zR7, zR8, zR9, zR10, gAdd, gSub, gNeg, gNot, gLt, gLe, gGt, gGe, gLen, gAbs, gInt, gMax2, gMin2, gGcd, gList, gTuple, gAll, gAny, gPow, gMul, gFd, gMod, List.getElem?_cons_zero, List.getElem?_cons_succ, List.set_cons_zero, List.set_cons_succ, List.map_cons, List.map_nil, List.length_cons, List.length_nil, List.cons_append, List.nil_append, List.replicate_succ, List.replicate_zero, List.length_map, ↓cond_true, ↓cond_false, cond_true, cond_false, Option.map_some, beq_self_eq_true, List.contains_cons, List.contains_nil, Bool.or_false, Bool.false_or, Bool.or_true, Bool.and_true, Bool.true_and, Bool.not_true, Bool.not_false, Nat.reduceBEq, Nat.reduceAdd, Nat.reduceSub, Nat.reduceEqDiff, reduceCtorEq, Bool.false_eq_true, List.all_cons, List.all_nil, List.any_cons, List.any_nil, id, Int.reduceToNat, if_true, ite_true, if_false, eq_self, decide_true, decide_false, Option.map_none, forL_c, forL_n, e1]
      simp -implicitDefEqProofs only [zR0, zR1, zR2, zR3, zR4, zR5, zR6, zR7, zR8, zR9, zR10, gAdd, gSub, gNeg, gNot, gLt, gLe, gGt, gGe, gLen, gAbs, gInt, gMax2, gMin2, gGcd, gList, gTuple, gAll, gAny, gPow, gMul, gFd, gMod, List.getElem?_cons_zero, List.getElem?_cons_succ, List.set_cons_zero, List.set_cons_succ, List.map_cons, List.map_nil, List.length_cons, List.length_nil, List.cons_append, List.nil_append, List.replicate_succ, List.replicate_zero, List.length_map, ↓cond_true, ↓cond_false, cond_true, cond_false, Option.map_some, beq_self_eq_true, List.contains_cons, List.contains_nil, Bool.or_false, Bool.false_or, Bool.or_true, Bool.and_true, Bool.true_and, Bool.not_true, Bool.not_false, Nat.reduceBEq, Nat.reduceAdd, Nat.reduceSub, Nat.reduceEqDiff, reduceCtorEq, Bool.false_eq_true, List.all_cons, List.all_nil, List.any_cons, List.any_nil, id, Int.reduceToNat, if_true, ite_true, if_false, eq_self, decide_true, decide_false, Option.map_none, forL_c, forL_n, cSeq_r, kr1_0, kr2_0, cLc_r, pw1, pw2, e2, e3]
    · have d0 : (a == 0) = false := beq_eq_false_iff_ne.mpr h0
      by_cases h1 : a = 1
      · have t1 : (a == 1) = true := beq_iff_eq.mpr h1
        obtain ⟨b, l2, e2, b0, b1, k2⟩ := next_spec k1 (m := 30) (by decide) (by decide)
        refine ⟨.int (b - 9), l2, ?_, k2, dt_small b0 b1 (by omega)⟩
        rw [mk24s, cSeq_r]
        simp -implicitDefEqProofs only [zR0, zR1, zR2, zR3, zR4, zR5, zR6, zR7, zR8, zR9, zR10, gAdd, gSub, gNeg, gNot, gLt, gLe, gGt, gGe, gLen, gAbs, gInt, gMax2, gMin2, gGcd, gList, gTuple, gAll, gAny, gPow, gMul, gFd, gMod, List.getElem?_cons_zero, List.getElem?_cons_succ, List.set_cons_zero, List.set_cons_succ, List.map_cons, List.map_nil, List.length_cons, List.length_nil, List.cons_append, List.nil_append, List.replicate_succ, List.replicate_zero, List.length_map, ↓cond_true, ↓cond_false, cond_true, cond_false, Option.map_some, beq_self_eq_true, List.contains_cons, List.contains_nil, Bool.or_false, Bool.false_or, Bool.or_true, Bool.and_true, Bool.true_and, Bool.not_true, Bool.not_false, Nat.reduceBEq, Nat.reduceAdd, Nat.reduceSub, Nat.reduceEqDiff, reduceCtorEq, Bool.false_eq_true, List.all_cons, List.all_nil, List.any_cons, List.any_nil, id, Int.reduceToNat, if_true, ite_true, if_false, eq_self, decide_true, decide_false, Option.map_none, forL_c, forL_n, e1]
        simp -implicitDefEqProofs only [zR0, zR1, zR2, zR3, zR4, zR5, zR6, zR7, zR8, zR9, zR10, gAdd, gSub, gNeg, gNot, gLt, gLe, gGt, gGe, gLen, gAbs, gInt, gMax2, gMin2, gGcd, gList, gTuple, gAll, gAny, gPow, gMul, gFd, gMod, List.getElem?_cons_zero, List.getElem?_cons_succ, List.set_cons_zero, List.set_cons_succ, List.map_cons, List.map_nil, List.length_cons, List.length_nil, List.cons_append, List.nil_append, List.replicate_succ, List.replicate_zero, List.length_map, ↓cond_true, ↓cond_false, cond_true, cond_false, Option.map_some, beq_self_eq_true, List.contains_cons, List.contains_nil, Bool.or_false, Bool.false_or, Bool.or_true, Bool.and_true, Bool.true_and, Bool.not_true, Bool.not_false, Nat.reduceBEq, Nat.reduceAdd, Nat.reduceSub, Nat.reduceEqDiff, reduceCtorEq, Bool.false_eq_true, List.all_cons, List.all_nil, List.any_cons, List.any_nil, id, Int.reduceToNat, if_true, ite_true, if_false, eq_self, decide_true, decide_false, Option.map_none, forL_c, forL_n, cSeq_r, kr1_0, kr2_0, cLc_r, d0, t1, e2]
      · have d1 : (a == 1) = false := beq_eq_false_iff_ne.mpr h1
        by_cases h4 : a < 4
        · have d4 : decide (a < 4) = true := decide_eq_true h4
          obtain ⟨cs, l2, e2, k2, hc, ok⟩ := txt_lc (n := ((n + 1 : Nat) : Int)) (r := a) k1
          refine ⟨.str (stC cs), l2, ?_, k2, DT.str hc ok (by omega)⟩
          rw [mk24s, cSeq_r]
          simp -implicitDefEqProofs only [zR0, zR1, zR2, zR3, zR4, zR5, zR6, zR7, zR8, zR9, zR10, gAdd, gSub, gNeg, gNot, gLt, gLe, gGt, gGe, gLen, gAbs, gInt, gMax2, gMin2, gGcd, gList, gTuple, gAll, gAny, gPow, gMul, gFd, gMod, List.getElem?_cons_zero, List.getElem?_cons_succ, List.set_cons_zero, List.set_cons_succ, List.map_cons, List.map_nil, List.length_cons, List.length_nil, List.cons_append, List.nil_append, List.replicate_succ, List.replicate_zero, List.length_map, ↓cond_true, ↓cond_false, cond_true, cond_false, Option.map_some, beq_self_eq_true, List.contains_cons, List.contains_nil, Bool.or_false, Bool.false_or, Bool.or_true, Bool.and_true, Bool.true_and, Bool.not_true, Bool.not_false, Nat.reduceBEq, Nat.reduceAdd, Nat.reduceSub, Nat.reduceEqDiff, reduceCtorEq, Bool.false_eq_true, List.all_cons, List.all_nil, List.any_cons, List.any_nil, id, Int.reduceToNat, if_true, ite_true, if_false, eq_self, decide_true, decide_false, Option.map_none, forL_c, forL_n, e1]
          rw [cSeq_r]
          simp -implicitDefEqProofs only [zR0, zR1, zR2, zR3, zR4, zR5, zR6, zR7, zR8, zR9, zR10, gAdd, gSub, gNeg, gNot, gLt, gLe, gGt, gGe, gLen, gAbs, gInt, gMax2, gMin2, gGcd, gList, gTuple, gAll, gAny, gPow, gMul, gFd, gMod, List.getElem?_cons_zero, List.getElem?_cons_succ, List.set_cons_zero, List.set_cons_succ, List.map_cons, List.map_nil, List.length_cons, List.length_nil, List.cons_append, List.nil_append, List.replicate_succ, List.replicate_zero, List.length_map, ↓cond_true, ↓cond_false, cond_true, cond_false, Option.map_some, beq_self_eq_true, List.contains_cons, List.contains_nil, Bool.or_false, Bool.false_or, Bool.or_true, Bool.and_true, Bool.true_and, Bool.not_true, Bool.not_false, Nat.reduceBEq, Nat.reduceAdd, Nat.reduceSub, Nat.reduceEqDiff, reduceCtorEq, Bool.false_eq_true, List.all_cons, List.all_nil, List.any_cons, List.any_nil, id, Int.reduceToNat, if_true, ite_true, if_false, eq_self, decide_true, decide_false, Option.map_none, forL_c, forL_n, d0]
          rw [cSeq_r]
          simp -implicitDefEqProofs only [zR0, zR1, zR2, zR3, zR4, zR5, zR6, zR7, zR8, zR9, zR10, gAdd, gSub, gNeg, gNot, gLt, gLe, gGt, gGe, gLen, gAbs, gInt, gMax2, gMin2, gGcd, gList, gTuple, gAll, gAny, gPow, gMul, gFd, gMod, List.getElem?_cons_zero, List.getElem?_cons_succ, List.set_cons_zero, List.set_cons_succ, List.map_cons, List.map_nil, List.length_cons, List.length_nil, List.cons_append, List.nil_append, List.replicate_succ, List.replicate_zero, List.length_map, ↓cond_true, ↓cond_false, cond_true, cond_false, Option.map_some, beq_self_eq_true, List.contains_cons, List.contains_nil, Bool.or_false, Bool.false_or, Bool.or_true, Bool.and_true, Bool.true_and, Bool.not_true, Bool.not_false, Nat.reduceBEq, Nat.reduceAdd, Nat.reduceSub, Nat.reduceEqDiff, reduceCtorEq, Bool.false_eq_true, List.all_cons, List.all_nil, List.any_cons, List.any_nil, id, Int.reduceToNat, if_true, ite_true, if_false, eq_self, decide_true, decide_false, Option.map_none, forL_c, forL_n, d1, nn]
          rw [cSeq_r]
          simp -implicitDefEqProofs only [zR0, zR1, zR2, zR3, zR4, zR5, zR6, zR7, zR8, zR9, zR10, gAdd, gSub, gNeg, gNot, gLt, gLe, gGt, gGe, gLen, gAbs, gInt, gMax2, gMin2, gGcd, gList, gTuple, gAll, gAny, gPow, gMul, gFd, gMod, List.getElem?_cons_zero, List.getElem?_cons_succ, List.set_cons_zero, List.set_cons_succ, List.map_cons, List.map_nil, List.length_cons, List.length_nil, List.cons_append, List.nil_append, List.replicate_succ, List.replicate_zero, List.length_map, ↓cond_true, ↓cond_false, cond_true, cond_false, Option.map_some, beq_self_eq_true, List.contains_cons, List.contains_nil, Bool.or_false, Bool.false_or, Bool.or_true, Bool.and_true, Bool.true_and, Bool.not_true, Bool.not_false, Nat.reduceBEq, Nat.reduceAdd, Nat.reduceSub, Nat.reduceEqDiff, reduceCtorEq, Bool.false_eq_true, List.all_cons, List.all_nil, List.any_cons, List.any_nil, id, Int.reduceToNat, if_true, ite_true, if_false, eq_self, decide_true, decide_false, Option.map_none, forL_c, forL_n, d4, cJoin_r, e2, kJoin2_ll, ch_join (cs := cs) (by omega)]
        · have d4 : decide (a < 4) = false := decide_eq_false h4
          have nm : ((n + 1 : Nat) : Int) - 1 = (n : Int) := by omega
          obtain ⟨ds, l2, e2, k2, hc, hd⟩ := things_lc (F := F_u_law_thing k) (n := ((n + 1 : Nat) : Int)) (r := a) (m := n) (B := LB n) (fun l hl => by
            rw [nm]
            exact ih k l (by omega) hl) k1
          refine ⟨.tuple ds, l2, ?_, k2, DT.tup (by omega) hd (by
            show _ ≤ 4 * (LB n + 1) + 2
            have := Nat.mul_le_mul_right (LB n + 1) hc
            omega)⟩
          rw [mk24s, cSeq_r]
          simp -implicitDefEqProofs only [zR0, zR1, zR2, zR3, zR4, zR5, zR6, zR7, zR8, zR9, zR10, gAdd, gSub, gNeg, gNot, gLt, gLe, gGt, gGe, gLen, gAbs, gInt, gMax2, gMin2, gGcd, gList, gTuple, gAll, gAny, gPow, gMul, gFd, gMod, List.getElem?_cons_zero, List.getElem?_cons_succ, List.set_cons_zero, List.set_cons_succ, List.map_cons, List.map_nil, List.length_cons, List.length_nil, List.cons_append, List.nil_append, List.replicate_succ, List.replicate_zero, List.length_map, ↓cond_true, ↓cond_false, cond_true, cond_false, Option.map_some, beq_self_eq_true, List.contains_cons, List.contains_nil, Bool.or_false, Bool.false_or, Bool.or_true, Bool.and_true, Bool.true_and, Bool.not_true, Bool.not_false, Nat.reduceBEq, Nat.reduceAdd, Nat.reduceSub, Nat.reduceEqDiff, reduceCtorEq, Bool.false_eq_true, List.all_cons, List.all_nil, List.any_cons, List.any_nil, id, Int.reduceToNat, if_true, ite_true, if_false, eq_self, decide_true, decide_false, Option.map_none, forL_c, forL_n, e1]
          rw [cSeq_r]
          simp -implicitDefEqProofs only [zR0, zR1, zR2, zR3, zR4, zR5, zR6, zR7, zR8, zR9, zR10, gAdd, gSub, gNeg, gNot, gLt, gLe, gGt, gGe, gLen, gAbs, gInt, gMax2, gMin2, gGcd, gList, gTuple, gAll, gAny, gPow, gMul, gFd, gMod, List.getElem?_cons_zero, List.getElem?_cons_succ, List.set_cons_zero, List.set_cons_succ, List.map_cons, List.map_nil, List.length_cons, List.length_nil, List.cons_append, List.nil_append, List.replicate_succ, List.replicate_zero, List.length_map, ↓cond_true, ↓cond_false, cond_true, cond_false, Option.map_some, beq_self_eq_true, List.contains_cons, List.contains_nil, Bool.or_false, Bool.false_or, Bool.or_true, Bool.and_true, Bool.true_and, Bool.not_true, Bool.not_false, Nat.reduceBEq, Nat.reduceAdd, Nat.reduceSub, Nat.reduceEqDiff, reduceCtorEq, Bool.false_eq_true, List.all_cons, List.all_nil, List.any_cons, List.any_nil, id, Int.reduceToNat, if_true, ite_true, if_false, eq_self, decide_true, decide_false, Option.map_none, forL_c, forL_n, d0]
          rw [cSeq_r]
          simp -implicitDefEqProofs only [zR0, zR1, zR2, zR3, zR4, zR5, zR6, zR7, zR8, zR9, zR10, gAdd, gSub, gNeg, gNot, gLt, gLe, gGt, gGe, gLen, gAbs, gInt, gMax2, gMin2, gGcd, gList, gTuple, gAll, gAny, gPow, gMul, gFd, gMod, List.getElem?_cons_zero, List.getElem?_cons_succ, List.set_cons_zero, List.set_cons_succ, List.map_cons, List.map_nil, List.length_cons, List.length_nil, List.cons_append, List.nil_append, List.replicate_succ, List.replicate_zero, List.length_map, ↓cond_true, ↓cond_false, cond_true, cond_false, Option.map_some, beq_self_eq_true, List.contains_cons, List.contains_nil, Bool.or_false, Bool.false_or, Bool.or_true, Bool.and_true, Bool.true_and, Bool.not_true, Bool.not_false, Nat.reduceBEq, Nat.reduceAdd, Nat.reduceSub, Nat.reduceEqDiff, reduceCtorEq, Bool.false_eq_true, List.all_cons, List.all_nil, List.any_cons, List.any_nil, id, Int.reduceToNat, if_true, ite_true, if_false, eq_self, decide_true, decide_false, Option.map_none, forL_c, forL_n, d1, nn]
          rw [cSeq_r]
          simp -implicitDefEqProofs only [zR0, zR1, zR2, zR3, zR4, zR5, zR6, zR7, zR8, zR9, zR10, gAdd, gSub, gNeg, gNot, gLt, gLe, gGt, gGe, gLen, gAbs, gInt, gMax2, gMin2, gGcd, gList, gTuple, gAll, gAny, gPow, gMul, gFd, gMod, List.getElem?_cons_zero, List.getElem?_cons_succ, List.set_cons_zero, List.set_cons_succ, List.map_cons, List.map_nil, List.length_cons, List.length_nil, List.cons_append, List.nil_append, List.replicate_succ, List.replicate_zero, List.length_map, ↓cond_true, ↓cond_false, cond_true, cond_false, Option.map_some, beq_self_eq_true, List.contains_cons, List.contains_nil, Bool.or_false, Bool.false_or, Bool.or_true, Bool.and_true, Bool.true_and, Bool.not_true, Bool.not_false, Nat.reduceBEq, Nat.reduceAdd, Nat.reduceSub, Nat.reduceEqDiff, reduceCtorEq, Bool.false_eq_true, List.all_cons, List.all_nil, List.any_cons, List.any_nil, id, Int.reduceToNat, if_true, ite_true, if_false, eq_self, decide_true, decide_false, Option.map_none, forL_c, forL_n, d4]
          simp -implicitDefEqProofs only [zR0, zR1, zR2, zR3, zR4, zR5, zR6, zR7, zR8, zR9, zR10, gAdd, gSub, gNeg, gNot, gLt, gLe, gGt, gGe, gLen, gAbs, gInt, gMax2, gMin2, gGcd, gList, gTuple, gAll, gAny, gPow, gMul, gFd, gMod, List.getElem?_cons_zero, List.getElem?_cons_succ, List.set_cons_zero, List.set_cons_succ, List.map_cons, List.map_nil, List.length_cons, List.length_nil, List.cons_append, List.nil_append, List.replicate_succ, List.replicate_zero, List.length_map, ↓cond_true, ↓cond_false, cond_true, cond_false, Option.map_some, beq_self_eq_true, List.contains_cons, List.contains_nil, Bool.or_false, Bool.false_or, Bool.or_true, Bool.and_true, Bool.true_and, Bool.not_true, Bool.not_false, Nat.reduceBEq, Nat.reduceAdd, Nat.reduceSub, Nat.reduceEqDiff, reduceCtorEq, Bool.false_eq_true, List.all_cons, List.all_nil, List.any_cons, List.any_nil, id, Int.reduceToNat, if_true, ite_true, if_false, eq_self, decide_true, decide_false, Option.map_none, forL_c, forL_n, e2]
end Z
set_option maxHeartbeats 1000000
namespace Z
open PySem PySem.Spec PyProof.Rows L2
theorem rangeL_lt {v : Nat} {x : PyData} (h : x ∈ rangeL 0 v) : ∃ i : Nat, i < v ∧ x = .int (i : Int) := by
  unfold rangeL at h
  obtain ⟨i, hi, rfl⟩ := List.mem_map.mp h
  exact ⟨i, List.mem_range.mp hi, by simp⟩
theorem DT.wrap {n B : Nat} {k : Int} {d : PyData} (h : DT n B d) (hk : k.natAbs < 10 ^ 60) (hB : 61 ≤ B) : DT (n + 1) (B + 64) (.tuple [.int k, d]) := by
  have hi : DT n B (.int k) := DT.int hk hB
  have t : DT (n + 1) _ (.tuple [.int k, d]) := DT.tup (B := B) (by show 2 ≤ 1000; decide) (fun x hx => by
    rcases List.mem_cons.mp hx with rfl | hx
    · exact hi
    · rw [List.mem_singleton.mp hx]; exact h) (Nat.le_refl _)
  refine ⟨t.th, ?_, t.ok⟩
  have e : wr (.tuple [.int k, d]) = 40 :: ((sg10 k ++ 44 :: (wr d ++ [])) ++ [41]) := by rw [wr, wrs, wrt, wrt, wr]
  have l1 := sg10_len hk (by decide)
  have l2 := h.len
  rw [e]
  simp only [List.length_cons, List.length_append, List.length_nil]
  omega
theorem wrap_loop {a0 a1 a4 a5 : Option S} {d : PyData} (v : Nat) (hv : v ≤ 6) (h : DT 3 (LB 3) d) : ∃ d' x3, forL (cgName 3) L_law_0 (rangeL 0 v) [a0, a1, some (.dat d), none, a4, a5] = .nx [a0, a1, some (.dat d'), x3, a4, a5] ∧ DT 9 (LB 3 + 400) d' := by
  obtain ⟨ρ', e, d', n, x3, rfl, hn, k⟩ := forL_nx (g := cgName 3) (body := L_law_0)
    (fun ds ρ => ∃ (d : PyData) (n : Nat) (x3 : Option S), ρ = [a0, a1, some (.dat d), x3, a4, a5] ∧ (n + ds.length ≤ 6 ∧ ∀ x ∈ ds, ∃ k : Int, x = .int k ∧ k.natAbs < 10 ^ 60) ∧ DT (3 + n) (LB 3 + 64 * n) d)
    (fun x ds ρ hI => by
      obtain ⟨d, n, x3, rfl, ⟨hn, hx⟩, k⟩ := hI
      obtain ⟨i, rfl, hi⟩ := hx x (by simp)
      rw [List.length_cons] at hn
      refine ⟨_, _, rfl, ?_, .tuple [.int i, d], n + 1, some (.dat (.int i)), rfl, ⟨by omega, fun y hy => hx y (by simp [hy])⟩, (k.wrap hi (by have := LB_ge 3; omega)).mono (by omega) (by omega)⟩
      unfold L_law_0
      simp -implicitDefEqProofs only [zR0, zR1, zR2, zR3, zR4, zR5, zR6, zR7, zR8, zR9, zR10, gAdd, gSub, gNeg, gNot, gLt, gLe, gGt, gGe, gLen, gAbs, gInt, gMax2, gMin2, gGcd, gList, gTuple, gAll, gAny, gPow, gMul, gFd, gMod, List.getElem?_cons_zero, List.getElem?_cons_succ, List.set_cons_zero, List.set_cons_succ, List.map_cons, List.map_nil, List.length_cons, List.length_nil, List.cons_append, List.nil_append, List.replicate_succ, List.replicate_zero, List.length_map, ↓cond_true, ↓cond_false, cond_true, cond_false, Option.map_some, beq_self_eq_true, List.contains_cons, List.contains_nil, Bool.or_false, Bool.false_or, Bool.or_true, Bool.and_true, Bool.true_and, Bool.not_true, Bool.not_false, Nat.reduceBEq, Nat.reduceAdd, Nat.reduceSub, Nat.reduceEqDiff, reduceCtorEq, Bool.false_eq_true, List.all_cons, List.all_nil, List.any_cons, List.any_nil, id, Int.reduceToNat, if_true, ite_true, if_false, eq_self, decide_true, decide_false, Option.map_none, forL_c, forL_n, cSeq_r, kr1_0, kr2_0, cLc_r]) (rangeL 0 v) [a0, a1, some (.dat d), none, a4, a5] ⟨d, 0, none, rfl, ⟨by rw [rangeL_length]; omega, fun x hx => by
        obtain ⟨i, hi, rfl⟩ := rangeL_lt hx
        refine ⟨_, rfl, ?_⟩
        have : (6 : Nat) ≤ 10 ^ 60 := by decide
        omega⟩, h⟩
  exact ⟨d', x3, e, k.mono (by omega) (by omega)⟩
theorem one_step {a0 a1 a2 a3 x5 : Option S} {d : PyData} (h : DT 9 8000 d) : L_law_1 [a0, a1, a2, a3, some (.dat d), x5] = .nx [a0, a1, a2, a3, some (.dat d), some (.dat (.str (stC (wr d))))] := by
  have e1 := write_spec 19 (h.th.mono (by decide)) (by have := h.len; omega)
  have e2 := written_spec 19 (h.th.mono (by decide)) (by have := h.len; omega)
  have e3 := same_spec 19 (h.th.mono (by decide))
  have e4 := read_spec (h.th.mono (by decide)) (by have := h.len; omega) h.ok
  have g : gNe (.str (stC (wr d))) (.str (stC (wr d))) = some (.dat (.bool false)) := by
    rw [gNe_st h.ok h.ok, decide_eq_true rfl]
    rfl
  have gi : gIsi "str" (.str (stC (wr d))) = some (.dat (.bool true)) := rfl
  unfold L_law_1
  rw [cSeq_r]
  simp -implicitDefEqProofs only [zR0, zR1, zR2, zR3, zR4, zR5, zR6, zR7, zR8, zR9, zR10, gAdd, gSub, gNeg, gNot, gLt, gLe, gGt, gGe, gLen, gAbs, gInt, gMax2, gMin2, gGcd, gList, gTuple, gAll, gAny, gPow, gMul, gFd, gMod, List.getElem?_cons_zero, List.getElem?_cons_succ, List.set_cons_zero, List.set_cons_succ, List.map_cons, List.map_nil, List.length_cons, List.length_nil, List.cons_append, List.nil_append, List.replicate_succ, List.replicate_zero, List.length_map, ↓cond_true, ↓cond_false, cond_true, cond_false, Option.map_some, beq_self_eq_true, List.contains_cons, List.contains_nil, Bool.or_false, Bool.false_or, Bool.or_true, Bool.and_true, Bool.true_and, Bool.not_true, Bool.not_false, Nat.reduceBEq, Nat.reduceAdd, Nat.reduceSub, Nat.reduceEqDiff, reduceCtorEq, Bool.false_eq_true, List.all_cons, List.all_nil, List.any_cons, List.any_nil, id, Int.reduceToNat, if_true, ite_true, if_false, eq_self, decide_true, decide_false, Option.map_none, forL_c, forL_n, e1]
  simp -implicitDefEqProofs only [zR0, zR1, zR2, zR3, zR4, zR5, zR6, zR7, zR8, zR9, zR10, gAdd, gSub, gNeg, gNot, gLt, gLe, gGt, gGe, gLen, gAbs, gInt, gMax2, gMin2, gGcd, gList, gTuple, gAll, gAny, gPow, gMul, gFd, gMod, List.getElem?_cons_zero, List.getElem?_cons_succ, List.set_cons_zero, List.set_cons_succ, List.map_cons, List.map_nil, List.length_cons, List.length_nil, List.cons_append, List.nil_append, List.replicate_succ, List.replicate_zero, List.length_map, ↓cond_true, ↓cond_false, cond_true, cond_false, Option.map_some, beq_self_eq_true, List.contains_cons, List.contains_nil, Bool.or_false, Bool.false_or, Bool.or_true, Bool.and_true, Bool.true_and, Bool.not_true, Bool.not_false, Nat.reduceBEq, Nat.reduceAdd, Nat.reduceSub, Nat.reduceEqDiff, reduceCtorEq, Bool.false_eq_true, List.all_cons, List.all_nil, List.any_cons, List.any_nil, id, Int.reduceToNat, if_true, ite_true, if_false, eq_self, decide_true, decide_false, Option.map_none, forL_c, forL_n, cSeq_r, kr1_0, kr2_0, cLc_r, gi, e2, g, e3, e4]
theorem pw3 : decide (CPow 10 19) = true := by decide
theorem pw4 : ((10 : Int) ^ (19 : Nat)) = 10000000000000000000 := by decide
theorem mw1 : decide (CMulW 1000000000000000000000000000000000000000000000000000000000000 1000000000000000000000000000000000000000000000000000000000000) = true := by decide
theorem mw2 : decide (CMulW 1000000000000000000000000000000000000000000000000000000000000000000000000000000000000000000000000000000000000000000000000 1000000000000000000000000000000000000000000000000000000000000) = true := by decide
theorem mw3 : decide (CMulW 1000000000000000000000000000000000000000000000000000000000000000000000000000000000000000000000000000000000000000000000000000000000000000000000000000000000000000000000000000000000000 10000000000000000000) = true := by decide
theorem pm1 : ((1000000000000000000000000000000000000000000000000000000000000 : Int) * 1000000000000000000000000000000000000000000000000000000000000) = 1000000000000000000000000000000000000000000000000000000000000000000000000000000000000000000000000000000000000000000000000 := by decide
theorem pm2 : ((1000000000000000000000000000000000000000000000000000000000000000000000000000000000000000000000000000000000000000000000000 : Int) * 1000000000000000000000000000000000000000000000000000000000000) = 1000000000000000000000000000000000000000000000000000000000000000000000000000000000000000000000000000000000000000000000000000000000000000000000000000000000000000000000000000000000000 := by decide
theorem pm3 : ((1000000000000000000000000000000000000000000000000000000000000000000000000000000000000000000000000000000000000000000000000000000000000000000000000000000000000000000000000000000000000 : Int) * 10000000000000000000) = 10000000000000000000000000000000000000000000000000000000000000000000000000000000000000000000000000000000000000000000000000000000000000000000000000000000000000000000000000000000000000000000000000000000 := by decide
theorem law_true : LawTrue F_law := by
  intro ns _ _
  obtain ⟨l, e0, hp⟩ := pot_spec ns
  obtain ⟨d, l1, e1, k1, h1⟩ := draw_spec 3 8 l (by decide) hp
  obtain ⟨r, l2, e2, r0, r1, k2⟩ := next_spec k1 (m := 2) (by decide) (by decide)
  obtain ⟨v, hv, v6⟩ : ∃ v : Nat, atI [PyData.int 0, .int 6] r = some (.int (v : Int)) ∧ v ≤ 6 := by
    have : r = 0 ∨ r = 1 := by omega
    rcases this with rfl | rfl
    · exact ⟨0, rfl, by decide⟩
    · exact ⟨6, rfl, by decide⟩
  obtain ⟨d', x3, e3, h3⟩ := wrap_loop (a0 := some (.dat (.list (ns.map .int)))) (a1 := some (.lst l2)) (a4 := none) (a5 := none) v v6 h1
  have sm : Sml (v : Int) := by unfold Sml; omega
  have tn : (v : Int).toNat = v := rfl
  obtain ⟨X, hXe⟩ : ∃ X : Cd, X = List.replicate 99 120 := ⟨_, rfl⟩
  have eX : Txt.mul ("x" : Str) 99 = stC X := by rw [hXe]; decide +kernel
  have gX : gMulT (.str ("x" : Str)) (.int 99) = some (.dat (.str (stC X))) := by
    show (bif mulOkB ("x" : Str) 99 then some (S.dat (.str (Txt.mul ("x" : Str) 99))) else none) = _
    rw [show mulOkB ("x" : Str) 99 = true by decide +kernel, cond_true, eX]
  have hX : DT 9 8000 (.tuple [.str (stC X), .int (-1)]) := DT.tup (n := 8) (B := 200) (by show 2 ≤ 1000; decide) (fun x hx => by
    rcases List.mem_cons.mp hx with rfl | hx
    · exact DT.str (by rw [hXe]; simp) (fun c hc => by rw [hXe] at hc; rw [List.eq_of_mem_replicate hc]; decide) (by decide)
    · rw [List.mem_singleton.mp hx]
      exact DT.int (by decide) (by decide)) (by show 2 * (200 + 1) + 2 ≤ 8000; decide)
  have hT : DT 9 8000 (.int 10000000000000000000000000000000000000000000000000000000000000000000000000000000000000000000000000000000000000000000000000000000000000000000000000000000000000000000000000000000000000000000000000000000) := ⟨.int _ (by decide), by
    have := sg10_len (i := 10000000000000000000000000000000000000000000000000000000000000000000000000000000000000000000000000000000000000000000000000000000000000000000000000000000000000000000000000000000000000000000000000000000) (n := 200) (by decide) (by decide)
    show (sg10 10000000000000000000000000000000000000000000000000000000000000000000000000000000000000000000000000000000000000000000000000000000000000000000000000000000000000000000000000000000000000000000000000000000).length ≤ _
    omega, sg10_ok _⟩
  obtain ⟨ρ', e5, x4, x5, rfl, _⟩ := forL_nx (g := cgName 4) (body := L_law_1)
    (fun ds ρ => ∃ x4 x5 : Option S, ρ = [some (.dat (.list (ns.map .int))), some (.lst l2), some (.dat d'), x3, x4, x5] ∧ ∀ d ∈ ds, DT 9 8000 d)
    (fun x ds ρ hI => by
      obtain ⟨x4, x5, rfl, hx⟩ := hI
      exact ⟨_, _, rfl, one_step (hx x (by simp)), some (.dat x), _, rfl, fun y hy => hx y (by simp [hy])⟩) [d', .tuple [.str (stC X), .int (-1)], .int 10000000000000000000000000000000000000000000000000000000000000000000000000000000000000000000000000000000000000000000000000000000000000000000000000000000000000000000000000000000000000000000000000000000] [some (.dat (.list (ns.map .int))), some (.lst l2), some (.dat d'), x3, none, none] ⟨none, none, rfl, fun y hy => by
        rcases List.mem_cons.mp hy with rfl | hy
        · exact h3.mono (Nat.le_refl _) (by decide)
        · rcases List.mem_cons.mp hy with rfl | hy
          · exact hX
          · rw [List.mem_singleton.mp hy]; exact hT⟩
  have mk : ∀ {c : CS} {s : S}, mkF 1 6 [] c [s] = finish [] [s] (c [some s, none, none, none, none, none]) := rfl
  have e1 : F_u_law_thing 8 [.lst l, .dat (.int 3)] = .ok (.dat d) [.lst l1, .dat (.int 3)] := e1
  unfold F_law M_law
  rw [mk, cSeq_r]
  simp -implicitDefEqProofs only [zR0, zR1, zR2, zR3, zR4, zR5, zR6, zR7, zR8, zR9, zR10, gAdd, gSub, gNeg, gNot, gLt, gLe, gGt, gGe, gLen, gAbs, gInt, gMax2, gMin2, gGcd, gList, gTuple, gAll, gAny, gPow, gMul, gFd, gMod, List.getElem?_cons_zero, List.getElem?_cons_succ, List.set_cons_zero, List.set_cons_succ, List.map_cons, List.map_nil, List.length_cons, List.length_nil, List.cons_append, List.nil_append, List.replicate_succ, List.replicate_zero, List.length_map, ↓cond_true, ↓cond_false, cond_true, cond_false, Option.map_some, beq_self_eq_true, List.contains_cons, List.contains_nil, Bool.or_false, Bool.false_or, Bool.or_true, Bool.and_true, Bool.true_and, Bool.not_true, Bool.not_false, Nat.reduceBEq, Nat.reduceAdd, Nat.reduceSub, Nat.reduceEqDiff, reduceCtorEq, Bool.false_eq_true, List.all_cons, List.all_nil, List.any_cons, List.any_nil, id, Int.reduceToNat, if_true, ite_true, if_false, eq_self, decide_true, decide_false, Option.map_none, forL_c, forL_n, e0]
  rw [cSeq_r]
  simp -implicitDefEqProofs only [zR0, zR1, zR2, zR3, zR4, zR5, zR6, zR7, zR8, zR9, zR10, gAdd, gSub, gNeg, gNot, gLt, gLe, gGt, gGe, gLen, gAbs, gInt, gMax2, gMin2, gGcd, gList, gTuple, gAll, gAny, gPow, gMul, gFd, gMod, List.getElem?_cons_zero, List.getElem?_cons_succ, List.set_cons_zero, List.set_cons_succ, List.map_cons, List.map_nil, List.length_cons, List.length_nil, List.cons_append, List.nil_append, List.replicate_succ, List.replicate_zero, List.length_map, ↓cond_true, ↓cond_false, cond_true, cond_false, Option.map_some, beq_self_eq_true, List.contains_cons, List.contains_nil, Bool.or_false, Bool.false_or, Bool.or_true, Bool.and_true, Bool.true_and, Bool.not_true, Bool.not_false, Nat.reduceBEq, Nat.reduceAdd, Nat.reduceSub, Nat.reduceEqDiff, reduceCtorEq, Bool.false_eq_true, List.all_cons, List.all_nil, List.any_cons, List.any_nil, id, Int.reduceToNat, if_true, ite_true, if_false, eq_self, decide_true, decide_false, Option.map_none, forL_c, forL_n, e1]
  rw [cSeq_r]
  simp -implicitDefEqProofs only [zR0, zR1, zR2, zR3, zR4, zR5, zR6, zR7, zR8, zR9, zR10, gAdd, gSub, gNeg, gNot, gLt, gLe, gGt, gGe, gLen, gAbs, gInt, gMax2, gMin2, gGcd, gList, gTuple, gAll, gAny, gPow, gMul, gFd, gMod, List.getElem?_cons_zero, List.getElem?_cons_succ, List.set_cons_zero, List.set_cons_succ, List.map_cons, List.map_nil, List.length_cons, List.length_nil, List.cons_append, List.nil_append, List.replicate_succ, List.replicate_zero, List.length_map, ↓cond_true, ↓cond_false, cond_true, cond_false, Option.map_some, beq_self_eq_true, List.contains_cons, List.contains_nil, Bool.or_false, Bool.false_or, Bool.or_true, Bool.and_true, Bool.true_and, Bool.not_true, Bool.not_false, Nat.reduceBEq, Nat.reduceAdd, Nat.reduceSub, Nat.reduceEqDiff, reduceCtorEq, Bool.false_eq_true, List.all_cons, List.all_nil, List.any_cons, List.any_nil, id, Int.reduceToNat, if_true, ite_true, if_false, eq_self, decide_true, decide_false, Option.map_none, forL_c, forL_n, e2, hv, kr1_s sm, tn, e3]
  rw [cSeq_r]
  simp -implicitDefEqProofs only [zR0, zR1, zR2, zR3, zR4, zR5, zR6, zR7, zR8, zR9, zR10, gAdd, gSub, gNeg, gNot, gLt, gLe, gGt, gGe, gLen, gAbs, gInt, gMax2, gMin2, gGcd, gList, gTuple, gAll, gAny, gPow, gMul, gFd, gMod, List.getElem?_cons_zero, List.getElem?_cons_succ, List.set_cons_zero, List.set_cons_succ, List.map_cons, List.map_nil, List.length_cons, List.length_nil, List.cons_append, List.nil_append, List.replicate_succ, List.replicate_zero, List.length_map, ↓cond_true, ↓cond_false, cond_true, cond_false, Option.map_some, beq_self_eq_true, List.contains_cons, List.contains_nil, Bool.or_false, Bool.false_or, Bool.or_true, Bool.and_true, Bool.true_and, Bool.not_true, Bool.not_false, Nat.reduceBEq, Nat.reduceAdd, Nat.reduceSub, Nat.reduceEqDiff, reduceCtorEq, Bool.false_eq_true, List.all_cons, List.all_nil, List.any_cons, List.any_nil, id, Int.reduceToNat, if_true, ite_true, if_false, eq_self, decide_true, decide_false, Option.map_none, forL_c, forL_n, pw1, pw2, pw3, pw4, pm1, pm2, pm3, mw1, mw2, mw3, gX, e5]
  exact ⟨_, rfl⟩
end Z
namespace Z
open PySem PySem.Spec PyProof.Rows L2
section
end
/-! ### what the top has written -/
theorem all_mk {l : PySem.W.OpenLaw} {w : World} {K : PySem.W.Frag} {h : Heap} {mg : Str → Option Value} {fa f0 f1 f2 f3 f4 f5 f6 f7 f8 f9 f10 f11 f12 f13 f14 f15 f16 C_TextReader : Addr} (X : K.In h) (G : h.Ns mainGlobals mg) (hfa : mg "law" = some (.ref fa))
    {od0 an0 od1 an1 od2 an2 od3 an3 od4 an4 od5 an5 od6 an6 od7 an7 od8 an8 od9 an9 od10 an10 od11 an11 od12 an12 od13 an13 od14 an14 od15 an15 od16 an16 : Option Addr} {sl0 sl1 sl2 sl3 sl4 sl5 sl6 sl7 sl8 sl9 sl10 sl11 sl12 sl13 sl14 sl15 sl16 : Array (Option Value)} {oc0 kV0 dc0 pm0 cd0 ct0 oc1 kV1 dc1 pm1 cd1 ct1 oc2 kV2 dc2 pm2 cd2 ct2 oc3 kV3 dc3 pm3 cd3 ct3 oc4 kV4 dc4 pm4 cd4 ct4 oc5 kV5 dc5 pm5 cd5 ct5 oc6 kV6 dc6 pm6 cd6 ct6 oc7 kV7 dc7 pm7 cd7 ct7 oc8 kV8 dc8 pm8 cd8 ct8 oc9 kV9 dc9 pm9 cd9 ct9 oc10 kV10 dc10 pm10 cd10 ct10 oc11 kV11 dc11 pm11 cd11 ct11 oc12 kV12 dc12 pm12 cd12 ct12 oc13 kV13 dc13 pm13 cd13 ct13 oc14 kV14 dc14 pm14 cd14 ct14 oc15 kV15 dc15 pm15 cd15 ct15 oc16 kV16 dc16 pm16 cd16 ct16 : Value}
    (aC_TextReader : PySem.W.nsIn K mainGlobals "TextReader" = some (some (.ref C_TextReader))) (pg_TextReader : PySem.W.plainGet K C_TextReader Str.empty = true) (hd_TextReader : PySem.W.hasDictIn K C_TextReader = true) (po_TextReader : PySem.W.plainOver K C_TextReader = true) (sa_TextReader : PySem.W.findIn K (.ref C_TextReader) "__setattr__" = some (some (.builtin "object.__setattr__"))) (mk_TextReader : PySem.W.makesIn K C_TextReader = true) (kc_TextReader : PySem.W.keepIn K (.ref C_TextReader) = true)
    (nf_TextReader_at : PySem.W.findIn K (.ref C_TextReader) "at" = some none)
    (nf_TextReader_text : PySem.W.findIn K (.ref C_TextReader) "text" = some none)
    (a0 : PySem.W.nsIn K mainGlobals "is_number" = some (some (.ref f0))) (l0 : K.lookup f0 = some ⟨oc0, od0, .func (PySem.W.fnOf "is_number" "is_number" (defArgs s_is_number) (defBody s_is_number) (defScope s_is_number) .none kV0 dc0 pm0 an0 cd0 ct0), sl0⟩) (c0 : PySem.W.codeIn K cd0 "is_number" = true) (k0 : PySem.W.keepIn K (.ref f0) = true)
    (a1 : PySem.W.nsIn K mainGlobals "write" = some (some (.ref f1))) (l1 : K.lookup f1 = some ⟨oc1, od1, .func (PySem.W.fnOf "write" "write" (defArgs s_write) (defBody s_write) (defScope s_write) .none kV1 dc1 pm1 an1 cd1 ct1), sl1⟩) (c1 : PySem.W.codeIn K cd1 "write" = true) (k1 : PySem.W.keepIn K (.ref f1) = true)
    (a2 : PySem.W.nsIn K mainGlobals "_law_pot" = some (some (.ref f2))) (l2 : K.lookup f2 = some ⟨oc2, od2, .func (PySem.W.fnOf "_law_pot" "_law_pot" (defArgs s_u_law_pot) (defBody s_u_law_pot) (defScope s_u_law_pot) .none kV2 dc2 pm2 an2 cd2 ct2), sl2⟩) (c2 : PySem.W.codeIn K cd2 "_law_pot" = true) (k2 : PySem.W.keepIn K (.ref f2) = true)
    (a3 : PySem.W.nsIn K mainGlobals "_law_next" = some (some (.ref f3))) (l3 : K.lookup f3 = some ⟨oc3, od3, .func (PySem.W.fnOf "_law_next" "_law_next" (defArgs s_u_law_next) (defBody s_u_law_next) (defScope s_u_law_next) .none kV3 dc3 pm3 an3 cd3 ct3), sl3⟩) (c3 : PySem.W.codeIn K cd3 "_law_next" = true) (k3 : PySem.W.keepIn K (.ref f3) = true)
    (a4 : PySem.W.nsIn K mainGlobals "_law_is_int" = some (some (.ref f4))) (l4 : K.lookup f4 = some ⟨oc4, od4, .func (PySem.W.fnOf "_law_is_int" "_law_is_int" (defArgs s_u_law_is_int) (defBody s_u_law_is_int) (defScope s_u_law_is_int) .none kV4 dc4 pm4 an4 cd4 ct4), sl4⟩) (c4 : PySem.W.codeIn K cd4 "_law_is_int" = true) (k4 : PySem.W.keepIn K (.ref f4) = true)
    (a5 : PySem.W.nsIn K mainGlobals "_law_same" = some (some (.ref f5))) (l5 : K.lookup f5 = some ⟨oc5, od5, .func (PySem.W.fnOf "_law_same" "_law_same" (defArgs s_u_law_same) (defBody s_u_law_same) (defScope s_u_law_same) .none kV5 dc5 pm5 an5 cd5 ct5), sl5⟩) (c5 : PySem.W.codeIn K cd5 "_law_same" = true) (k5 : PySem.W.keepIn K (.ref f5) = true)
    (a6 : PySem.W.nsIn K mainGlobals "_law_thing" = some (some (.ref f6))) (l6 : K.lookup f6 = some ⟨oc6, od6, .func (PySem.W.fnOf "_law_thing" "_law_thing" (defArgs s_u_law_thing) (defBody s_u_law_thing) (defScope s_u_law_thing) .none kV6 dc6 pm6 an6 cd6 ct6), sl6⟩) (c6 : PySem.W.codeIn K cd6 "_law_thing" = true) (k6 : PySem.W.keepIn K (.ref f6) = true)
    (a7 : PySem.W.nsIn K mainGlobals "_law_written" = some (some (.ref f7))) (l7 : K.lookup f7 = some ⟨oc7, od7, .func (PySem.W.fnOf "_law_written" "_law_written" (defArgs s_u_law_written) (defBody s_u_law_written) (defScope s_u_law_written) .none kV7 dc7 pm7 an7 cd7 ct7), sl7⟩) (c7 : PySem.W.codeIn K cd7 "_law_written" = true) (k7 : PySem.W.keepIn K (.ref f7) = true)
    (a8 : PySem.W.findIn K (.ref C_TextReader) "__init__" = some (some (.ref f8))) (i8 : PySem.W.isFn K (.ref f8) = true) (l8 : K.lookup f8 = some ⟨oc8, od8, .func (PySem.W.fnOf "__init__" "TextReader.__init__" (defArgs s_TextReader___init__) (defBody s_TextReader___init__) (defScope s_TextReader___init__) .none kV8 dc8 pm8 an8 cd8 ct8), sl8⟩) (c8 : PySem.W.codeIn K cd8 "TextReader.__init__" = true) (k8 : PySem.W.keepIn K (.ref f8) = true)
    (a9 : PySem.W.findIn K (.ref C_TextReader) "peek" = some (some (.ref f9))) (i9 : PySem.W.isFn K (.ref f9) = true) (l9 : K.lookup f9 = some ⟨oc9, od9, .func (PySem.W.fnOf "peek" "TextReader.peek" (defArgs s_TextReader_peek) (defBody s_TextReader_peek) (defScope s_TextReader_peek) .none kV9 dc9 pm9 an9 cd9 ct9), sl9⟩) (c9 : PySem.W.codeIn K cd9 "TextReader.peek" = true) (k9 : PySem.W.keepIn K (.ref f9) = true)
    (a10 : PySem.W.findIn K (.ref C_TextReader) "figures" = some (some (.ref f10))) (i10 : PySem.W.isFn K (.ref f10) = true) (l10 : K.lookup f10 = some ⟨oc10, od10, .func (PySem.W.fnOf "figures" "TextReader.figures" (defArgs s_TextReader_figures) (defBody s_TextReader_figures) (defScope s_TextReader_figures) .none kV10 dc10 pm10 an10 cd10 ct10), sl10⟩) (c10 : PySem.W.codeIn K cd10 "TextReader.figures" = true) (k10 : PySem.W.keepIn K (.ref f10) = true)
    (a11 : PySem.W.findIn K (.ref C_TextReader) "sign" = some (some (.ref f11))) (i11 : PySem.W.isFn K (.ref f11) = true) (l11 : K.lookup f11 = some ⟨oc11, od11, .func (PySem.W.fnOf "sign" "TextReader.sign" (defArgs s_TextReader_sign) (defBody s_TextReader_sign) (defScope s_TextReader_sign) .none kV11 dc11 pm11 an11 cd11 ct11), sl11⟩) (c11 : PySem.W.codeIn K cd11 "TextReader.sign" = true) (k11 : PySem.W.keepIn K (.ref f11) = true)
    (a12 : PySem.W.findIn K (.ref C_TextReader) "number_or_text" = some (some (.ref f12))) (i12 : PySem.W.isFn K (.ref f12) = true) (l12 : K.lookup f12 = some ⟨oc12, od12, .func (PySem.W.fnOf "number_or_text" "TextReader.number_or_text" (defArgs s_TextReader_number_or_text) (defBody s_TextReader_number_or_text) (defScope s_TextReader_number_or_text) .none kV12 dc12 pm12 an12 cd12 ct12), sl12⟩) (c12 : PySem.W.codeIn K cd12 "TextReader.number_or_text" = true) (k12 : PySem.W.keepIn K (.ref f12) = true)
    (a13 : PySem.W.findIn K (.ref C_TextReader) "parts" = some (some (.ref f13))) (i13 : PySem.W.isFn K (.ref f13) = true) (l13 : K.lookup f13 = some ⟨oc13, od13, .func (PySem.W.fnOf "parts" "TextReader.parts" (defArgs s_TextReader_parts) (defBody s_TextReader_parts) (defScope s_TextReader_parts) .none kV13 dc13 pm13 an13 cd13 ct13), sl13⟩) (c13 : PySem.W.codeIn K cd13 "TextReader.parts" = true) (k13 : PySem.W.keepIn K (.ref f13) = true)
    (a14 : PySem.W.findIn K (.ref C_TextReader) "thing" = some (some (.ref f14))) (i14 : PySem.W.isFn K (.ref f14) = true) (l14 : K.lookup f14 = some ⟨oc14, od14, .func (PySem.W.fnOf "thing" "TextReader.thing" (defArgs s_TextReader_thing) (defBody s_TextReader_thing) (defScope s_TextReader_thing) .none kV14 dc14 pm14 an14 cd14 ct14), sl14⟩) (c14 : PySem.W.codeIn K cd14 "TextReader.thing" = true) (k14 : PySem.W.keepIn K (.ref f14) = true)
    (a15 : PySem.W.nsIn K mainGlobals "read" = some (some (.ref f15))) (l15 : K.lookup f15 = some ⟨oc15, od15, .func (PySem.W.fnOf "read" "read" (defArgs s_read) (defBody s_read) (defScope s_read) .none kV15 dc15 pm15 an15 cd15 ct15), sl15⟩) (c15 : PySem.W.codeIn K cd15 "read" = true) (k15 : PySem.W.keepIn K (.ref f15) = true)
    (a16 : PySem.W.nsIn K mainGlobals "law" = some (some (.ref f16))) (l16 : K.lookup f16 = some ⟨oc16, od16, .func (PySem.W.fnOf "law" "law" (defArgs s_law) (defBody s_law) (defScope s_law) .none kV16 dc16 pm16 an16 cd16 ct16), sl16⟩) (c16 : PySem.W.codeIn K cd16 "law" = true) (k16 : PySem.W.keepIn K (.ref f16) = true)
    (z_abs : PySem.W.nsIn K mainGlobals "abs" = some none)
    (z_all : PySem.W.nsIn K mainGlobals "all" = some none)
    (z_bool : PySem.W.nsIn K mainGlobals "bool" = some none)
    (z_int : PySem.W.nsIn K mainGlobals "int" = some none)
    (z_isinstance : PySem.W.nsIn K mainGlobals "isinstance" = some none)
    (z_len : PySem.W.nsIn K mainGlobals "len" = some none)
    (z_list : PySem.W.nsIn K mainGlobals "list" = some none)
    (z_range : PySem.W.nsIn K mainGlobals "range" = some none)
    (z_str : PySem.W.nsIn K mainGlobals "str" = some none)
    (z_tuple : PySem.W.nsIn K mainGlobals "tuple" = some none)
    {t_DEEPEST : Tok} (m_DEEPEST : PySem.W.nsIn K mainGlobals "DEEPEST" = some (some (.int 40 t_DEEPEST)))
    {t_FIGURES : Tok} (m_FIGURES : PySem.W.nsIn K mainGlobals "FIGURES" = some (some (.str ("0123456789" : Str) t_FIGURES)))
    {t_MOST_FIGURES : Tok} (m_MOST_FIGURES : PySem.W.nsIn K mainGlobals "MOST_FIGURES" = some (some (.int 200 t_MOST_FIGURES)))
    {t_MOST_LENGTH_FIGURES : Tok} (m_MOST_LENGTH_FIGURES : PySem.W.nsIn K mainGlobals "MOST_LENGTH_FIGURES" = some (some (.int 2 t_MOST_LENGTH_FIGURES))) :
    ∃ fd : FuncData, (∀ (s : Shared) (v : Value), BindsTo s fd ⟨[v], []⟩ [("_law_script", v)]) ∧ ∀ base : Heap, K.In base → base.Ns mainGlobals mg → FnOk l.prog w K mg base (L2.CX l.prog w) 96 fa fd ["_law_script"] (spLaw K) := by
  have e := hfa.symm.trans (PySem.W.mg_of X G a16)
  cases e
  let xcl : Str → Value := fun z => .none
  have T : Tx K mg xcl := ⟨PySem.W.mg_none_of X G z_abs, PySem.W.mg_none_of X G z_all, PySem.W.mg_none_of X G z_bool, PySem.W.mg_none_of X G z_int, PySem.W.mg_none_of X G z_isinstance, PySem.W.mg_none_of X G z_len, PySem.W.mg_none_of X G z_list, PySem.W.mg_none_of X G z_range, PySem.W.mg_none_of X G z_str, PySem.W.mg_none_of X G z_tuple, const_int (PySem.W.mg_of X G m_DEEPEST), const_str (PySem.W.mg_of X G m_FIGURES), const_int (PySem.W.mg_of X G m_MOST_FIGURES), const_int (PySem.W.mg_of X G m_MOST_LENGTH_FIGURES), fun _ _ => FldOk.mk aC_TextReader ⟨pg_TextReader, hd_TextReader, po_TextReader, sa_TextReader⟩ nf_TextReader_at, fun _ _ => FldOk.mk aC_TextReader ⟨pg_TextReader, hd_TextReader, po_TextReader, sa_TextReader⟩ nf_TextReader_text⟩
  have U0 := fun_mk (st := s_is_number) l0 c0 k0
  have b0 := U0.binds (ps := ["thing"]) fun _ _ _ _ _ _ us hl => match us, hl with | [_], _ => rfl
  have U1 := fun_mk (st := s_write) l1 c1 k1
  have b1 := U1.binds (ps := ["thing"]) fun _ _ _ _ _ _ us hl => match us, hl with | [_], _ => rfl
  have U2 := fun_mk (st := s_u_law_pot) l2 c2 k2
  have b2 := U2.binds (ps := ["_law_script"]) fun _ _ _ _ _ _ us hl => match us, hl with | [_], _ => rfl
  have U3 := fun_mk (st := s_u_law_next) l3 c3 k3
  have b3 := U3.binds (ps := ["_law_pot_here", "_law_limit"]) fun _ _ _ _ _ _ us hl => match us, hl with | [_, _], _ => rfl
  have U4 := fun_mk (st := s_u_law_is_int) l4 c4 k4
  have b4 := U4.binds (ps := ["_law_value"]) fun _ _ _ _ _ _ us hl => match us, hl with | [_], _ => rfl
  have U5 := fun_mk (st := s_u_law_same) l5 c5 k5
  have b5 := U5.binds (ps := ["_law_found", "_law_value"]) fun _ _ _ _ _ _ us hl => match us, hl with | [_, _], _ => rfl
  have U6 := fun_mk (st := s_u_law_thing) l6 c6 k6
  have b6 := U6.binds (ps := ["_law_pot_here", "_law_depth"]) fun _ _ _ _ _ _ us hl => match us, hl with | [_, _], _ => rfl
  have U7 := fun_mk (st := s_u_law_written) l7 c7 k7
  have b7 := U7.binds (ps := ["_law_thing_here"]) fun _ _ _ _ _ _ us hl => match us, hl with | [_], _ => rfl
  have U8 := fun_mk (st := s_TextReader___init__) l8 c8 k8
  have b8 := U8.binds (ps := ["self", "text"]) fun _ _ _ _ _ _ us hl => match us, hl with | [_, _], _ => rfl
  have U9 := fun_mk (st := s_TextReader_peek) l9 c9 k9
  have b9 := U9.binds (ps := ["self"]) fun _ _ _ _ _ _ us hl => match us, hl with | [_], _ => rfl
  have U10 := fun_mk (st := s_TextReader_figures) l10 c10 k10
  have b10 := U10.binds (ps := ["self"]) fun _ _ _ _ _ _ us hl => match us, hl with | [_], _ => rfl
  have U11 := fun_mk (st := s_TextReader_sign) l11 c11 k11
  have b11 := U11.binds (ps := ["self", "wanted"]) fun _ _ _ _ _ _ us hl => match us, hl with | [_, _], _ => rfl
  have U12 := fun_mk (st := s_TextReader_number_or_text) l12 c12 k12
  have b12 := U12.binds (ps := ["self"]) fun _ _ _ _ _ _ us hl => match us, hl with | [_], _ => rfl
  have U13 := fun_mk (st := s_TextReader_parts) l13 c13 k13
  have b13 := U13.binds (ps := ["self", "depth"]) fun _ _ _ _ _ _ us hl => match us, hl with | [_, _], _ => rfl
  have U14 := fun_mk (st := s_TextReader_thing) l14 c14 k14
  have b14 := U14.binds (ps := ["self", "depth"]) fun _ _ _ _ _ _ us hl => match us, hl with | [_, _], _ => rfl
  have U15 := fun_mk (st := s_read) l15 c15 k15
  have b15 := U15.binds (ps := ["text"]) fun _ _ _ _ _ _ us hl => match us, hl with | [_], _ => rfl
  have U16 := fun_mk (st := s_law) l16 c16 k16
  have b16 := U16.binds (ps := ["_law_script"]) fun _ _ _ _ _ _ us hl => match us, hl with | [_], _ => rfl
  refine ⟨PySem.W.fnOf "law" "law" (defArgs s_law) (defBody s_law) (defScope s_law) .none kV16 dc16 pm16 an16 cd16 ct16, fun s v => .of_eq rfl, fun base _ _ => ?_⟩
  have G0 := ok_is_number (P := l.prog) (w := w) (base := base) (xc := xcl) T  U0 (PySem.W.mg_of X G a0) b0
  have G1 := ok_write (P := l.prog) (w := w) (base := base) (xc := xcl) T G0 U1 (PySem.W.mg_of X G a1) b1
  have G2 := ok_u_law_pot (P := l.prog) (w := w) (base := base) (xc := xcl) T  U2 (PySem.W.mg_of X G a2) b2
  have G3 := ok_u_law_next (P := l.prog) (w := w) (base := base) (xc := xcl) T  U3 (PySem.W.mg_of X G a3) b3
  have G4 := ok_u_law_is_int (P := l.prog) (w := w) (base := base) (xc := xcl) T  U4 (PySem.W.mg_of X G a4) b4
  have G5 := ok_u_law_same (P := l.prog) (w := w) (base := base) (xc := xcl) T G4 U5 (PySem.W.mg_of X G a5) b5
  have G6 := ok_u_law_thing (P := l.prog) (w := w) (base := base) (xc := xcl) T G3 U6 (PySem.W.mg_of X G a6) b6
  have G7 := ok_u_law_written (P := l.prog) (w := w) (base := base) (xc := xcl) T  U7 (PySem.W.mg_of X G a7) b7
  have V8 := ok_TextReader___init__ (P := l.prog) (w := w) (mg := mg) (base := base) (xc := xcl) T  U8
  have G8 := HasC.mk aC_TextReader (PySem.W.mg_of X G aC_TextReader) ⟨mk_TextReader, a8, i8, kc_TextReader⟩ V8 b8
  have V9 := ok_TextReader_peek (P := l.prog) (w := w) (mg := mg) (base := base) (xc := xcl) T  U9
  have G9 := HasM.mk aC_TextReader ⟨pg_TextReader, hd_TextReader, po_TextReader, sa_TextReader⟩ ⟨a9, i9, k9⟩ V9 b9
  have V10 := ok_TextReader_figures (P := l.prog) (w := w) (mg := mg) (base := base) (xc := xcl) T G9 U10
  have G10 := HasM.mk aC_TextReader ⟨pg_TextReader, hd_TextReader, po_TextReader, sa_TextReader⟩ ⟨a10, i10, k10⟩ V10 b10
  have V11 := ok_TextReader_sign (P := l.prog) (w := w) (mg := mg) (base := base) (xc := xcl) T G9 U11
  have G11 := HasM.mk aC_TextReader ⟨pg_TextReader, hd_TextReader, po_TextReader, sa_TextReader⟩ ⟨a11, i11, k11⟩ V11 b11
  have V12 := ok_TextReader_number_or_text (P := l.prog) (w := w) (mg := mg) (base := base) (xc := xcl) T G10 G9 U12
  have G12 := HasM.mk aC_TextReader ⟨pg_TextReader, hd_TextReader, po_TextReader, sa_TextReader⟩ ⟨a12, i12, k12⟩ V12 b12
  have V14 := ok_TextReader_thing (P := l.prog) (w := w) (mg := mg) (base := base) (xc := xcl) T G10 G12 G9 G11 aC_TextReader ⟨pg_TextReader, hd_TextReader, po_TextReader, sa_TextReader⟩ ⟨a14, i14, k14⟩ ⟨a13, i13, k13⟩ b14 b13 U13 U14 45
  have G14 := HasM.mk aC_TextReader ⟨pg_TextReader, hd_TextReader, po_TextReader, sa_TextReader⟩ ⟨a14, i14, k14⟩ V14 b14
  have G15 := ok_read (P := l.prog) (w := w) (base := base) (xc := xcl) T G8 G14 U15 (PySem.W.mg_of X G a15) b15
  have G16 := ok_law (P := l.prog) (w := w) (base := base) (xc := xcl) T G3 G2 (G5 20) (G6 8) (G7 20) G15 (G1 20) U16 (PySem.W.mg_of X G a16) b16
  exact G16.imp fun vs H Q E p => law_imp law_true vs H Q E p
end Z
open PySem PySem.W PyProof.Rows
set_option maxRecDepth 100000 in
set_option maxHeartbeats 0 in
theorem PySem.Challenge.cw_roomyway_k32_write_and_read_holds : PySem.Challenge.rw_roomyway_k32_write_and_read.Holds := by
  w_on; o_law; k_head; (case hw => w_witness2)
  k_fill
  refine Z.z_walk (l := PySem.Challenge.rw_roomyway_k32_write_and_read) (k := 96) (x := "_law_script") rfl rfl ⟨rfl, by decide, by decide⟩ (fun w h Y => PySem.W.kIn_of Y) ?F
  case F =>
    intro w mg fa h KX G hmg
    refine' Z.all_mk KX G hmg ?aC_TextReader ?pg_TextReader ?hd_TextReader ?po_TextReader ?sa_TextReader ?mk_TextReader ?kc_TextReader ?nf_TextReader_at ?nf_TextReader_text ?a0 ?l0 ?c0 ?k0 ?a1 ?l1 ?c1 ?k1 ?a2 ?l2 ?c2 ?k2 ?a3 ?l3 ?c3 ?k3 ?a4 ?l4 ?c4 ?k4 ?a5 ?l5 ?c5 ?k5 ?a6 ?l6 ?c6 ?k6 ?a7 ?l7 ?c7 ?k7 ?a8 ?i8 ?l8 ?c8 ?k8 ?a9 ?i9 ?l9 ?c9 ?k9 ?a10 ?i10 ?l10 ?c10 ?k10 ?a11 ?i11 ?l11 ?c11 ?k11 ?a12 ?i12 ?l12 ?c12 ?k12 ?a13 ?i13 ?l13 ?c13 ?k13 ?a14 ?i14 ?l14 ?c14 ?k14 ?a15 ?l15 ?c15 ?k15 ?a16 ?l16 ?c16 ?k16 ?z_abs ?z_all ?z_bool ?z_int ?z_isinstance ?z_len ?z_list ?z_range ?z_str ?z_tuple ?m_DEEPEST ?m_FIGURES ?m_MOST_FIGURES ?m_MOST_LENGTH_FIGURES
    (case aC_TextReader => k_is); (case pg_TextReader => k_is); (case hd_TextReader => k_is); (case po_TextReader => k_is); (case sa_TextReader => k_is); (case mk_TextReader => k_is); (case kc_TextReader => k_is); (case nf_TextReader_at => k_is); (case nf_TextReader_text => k_is); (case a0 => k_is); (case l0 => k_is); (case c0 => k_is); (case k0 => k_is); (case a1 => k_is); (case l1 => k_is); (case c1 => k_is); (case k1 => k_is); (case a2 => k_is); (case l2 => k_is); (case c2 => k_is); (case k2 => k_is); (case a3 => k_is); (case l3 => k_is); (case c3 => k_is); (case k3 => k_is); (case a4 => k_is); (case l4 => k_is); (case c4 => k_is); (case k4 => k_is); (case a5 => k_is); (case l5 => k_is); (case c5 => k_is); (case k5 => k_is); (case a6 => k_is); (case l6 => k_is); (case c6 => k_is); (case k6 => k_is); (case a7 => k_is); (case l7 => k_is); (case c7 => k_is); (case k7 => k_is); (case a8 => k_is); (case i8 => k_is); (case l8 => k_is); (case c8 => k_is); (case k8 => k_is); (case a9 => k_is); (case i9 => k_is); (case l9 => k_is); (case c9 => k_is); (case k9 => k_is); (case a10 => k_is); (case i10 => k_is); (case l10 => k_is); (case c10 => k_is); (case k10 => k_is); (case a11 => k_is); (case i11 => k_is); (case l11 => k_is); (case c11 => k_is); (case k11 => k_is); (case a12 => k_is); (case i12 => k_is); (case l12 => k_is); (case c12 => k_is); (case k12 => k_is); (case a13 => k_is); (case i13 => k_is); (case l13 => k_is); (case c13 => k_is); (case k13 => k_is); (case a14 => k_is); (case i14 => k_is); (case l14 => k_is); (case c14 => k_is); (case k14 => k_is); (case a15 => k_is); (case l15 => k_is); (case c15 => k_is); (case k15 => k_is); (case a16 => k_is); (case l16 => k_is); (case c16 => k_is); (case k16 => k_is); (case z_abs => k_is); (case z_all => k_is); (case z_bool => k_is); (case z_int => k_is); (case z_isinstance => k_is); (case z_len => k_is); (case z_list => k_is); (case z_range => k_is); (case z_str => k_is); (case z_tuple => k_is); (case m_DEEPEST => k_is); (case m_FIGURES => k_is); (case m_MOST_FIGURES => k_is); (case m_MOST_LENGTH_FIGURES => k_is)
