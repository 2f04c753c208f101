import PyProof.Rows.All
import Wide.All
import OpenK.AllK
import Wide.FinOn
import HandS.ForMost
import HandS.Deep
import HandS.Conv
import HandS.TupAny
import HandS.TupMul
import KE.KeyNested
import KE.KDictKeyed
import KE.SortData
import HandS.SetFor
import HandS.SetIn
import HandS.IsInst
import HandS.Style
import HandS.Zip
import HandS.Strs
import KE.GoesEnum
import KE.KDictZip
import KE.GoesZip
import HandS.WordsExc
import HandS.Small
import HandS.ExcOwn
import PySem.Challenge.RW_strongboxes_k95_whole_stronger_has_a_pap
import HandS.NoneIn
import HandS.TryOnly
set_option Elab.async false
set_option linter.all false
set_option maxRecDepth 100000
set_option maxHeartbeats 4000000
/-! Immutable data on the abstract heap: a value v is the data k (NestedKey) in H. -/
namespace SB
open PySem L2

abbrev Dt := NestedKey

mutual
inductive Nd (H : Hp) : V → Dt → Prop
  | non : Nd H .non .none
  | int (i : Int) : Nd H (.int i) (.num i)
  | str (x : Str) : Nd H (.str x) (.text x)
  | tup {a : Addr} {xs : List V} {ks : List Dt} : H a = some (.tup xs) → NdAll H xs ks → Nd H (.ref a) (.tup ks)
inductive NdAll (H : Hp) : List V → List Dt → Prop
  | nil : NdAll H [] []
  | cons {v : V} {vs : List V} {k : Dt} {ks : List Dt} : Nd H v k → NdAll H vs ks → NdAll H (v :: vs) (k :: ks)
end

/-- tuples stay -/
def Tx (H H' : Hp) : Prop := ∀ a xs, H a = some (.tup xs) → H' a = some (.tup xs)
theorem Tx.refl (H : Hp) : Tx H H := fun _ _ h => h
theorem Tx.trans {H H1 H2 : Hp} (a : Tx H H1) (b : Tx H1 H2) : Tx H H2 := fun x o h => b x o (a x o h)
theorem tx_of {H H' : Hp} (e : Same H H') : Tx H H' := fun a xs h => e a _ h
/-- what is no tuple may change -/
theorem Tx.upd {H : Hp} {p : Addr} {o : HO} (h : ∀ xs, H p ≠ some (.tup xs)) : Tx H (upd H p o) := fun a xs e => by
  by_cases q : a = p
  · subst q; exact absurd e (h xs)
  · rw [upd_ne q]; exact e
theorem Tx.lst {H : Hp} {p : Addr} {o : HO} {ys : List V} (h : H p = some (.lst ys)) : Tx H (L2.upd H p o) := Tx.upd fun xs e => by rw [h] at e; cases e
theorem same_new {H : Hp} {p : Addr} {o : HO} (h : H p = none) : Same H (upd H p o) := fun a u e => by
  rw [upd_ne (ne_of_none e h)]; exact e
/-- an object that the first heap does not know may change -/
theorem same_mut {H H' : Hp} {p : Addr} {o : HO} (e : Same H H') (h : H p = none) : Same H (upd H' p o) := fun a u ha => by
  rw [upd_ne (ne_of_none ha h)]; exact e a u ha
theorem same_back {H H' : Hp} {p : Addr} (e : Same H H') (h : H' p = none) : H p = none := e.free h

mutual
theorem Nd.mono {H H' : Hp} (e : Tx H H') : ∀ (k : Dt) (v : V), Nd H v k → Nd H' v k
  | .none, _, h => by cases h; exact .non
  | .num i, _, h => by cases h; exact .int i
  | .text x, _, h => by cases h; exact .str x
  | .tup ks, _, h => by
    cases h with
    | tup h1 h2 => exact .tup (e _ _ h1) (NdAll.mono e ks _ h2)
theorem NdAll.mono {H H' : Hp} (e : Tx H H') : ∀ (ks : List Dt) (vs : List V), NdAll H vs ks → NdAll H' vs ks
  | [], _, h => by cases h; exact .nil
  | k :: ks, _, h => by
    cases h with
    | cons h1 h2 => exact .cons (Nd.mono e k _ h1) (NdAll.mono e ks _ h2)
end
theorem Nd.up {H H' : Hp} {v : V} {k : Dt} (h : Nd H v k) (e : Same H H') : Nd H' v k := Nd.mono (tx_of e) k v h
theorem NdAll.up {H H' : Hp} {vs : List V} {ks : List Dt} (h : NdAll H vs ks) (e : Same H H') : NdAll H' vs ks := NdAll.mono (tx_of e) ks vs h
theorem Nd.tx {H H' : Hp} {v : V} {k : Dt} (h : Nd H v k) (e : Tx H H') : Nd H' v k := Nd.mono e k v h
theorem NdAll.tx {H H' : Hp} {vs : List V} {ks : List Dt} (h : NdAll H vs ks) (e : Tx H H') : NdAll H' vs ks := NdAll.mono e ks vs h
theorem NdAll.len {H : Hp} : ∀ {vs : List V} {ks : List Dt}, NdAll H vs ks → vs.length = ks.length
  | _, _, .nil => rfl
  | _, _, .cons _ t => by simp [NdAll.len t]
theorem NdAll.get {H : Hp} : ∀ {vs : List V} {ks : List Dt} {i : Nat} {k : Dt}, NdAll H vs ks → ks[i]? = some k → ∃ v, vs[i]? = some v ∧ Nd H v k
  | _, _, i, _, .nil, e => by simp at e
  | _, _, 0, _, .cons r _, e => by simp at e; subst e; exact ⟨_, rfl, r⟩
  | _, _, i + 1, _, .cons _ t, e => by
    obtain ⟨v, h1, h2⟩ := NdAll.get t (by simpa using e)
    exact ⟨v, by simpa using h1, h2⟩
theorem NdAll.getV {H : Hp} : ∀ {vs : List V} {ks : List Dt} {i : Nat} {v : V}, NdAll H vs ks → vs[i]? = some v → ∃ k, ks[i]? = some k ∧ Nd H v k
  | _, _, i, _, .nil, e => by simp at e
  | _, _, 0, _, .cons r _, e => by simp at e; subst e; exact ⟨_, rfl, r⟩
  | _, _, i + 1, _, .cons _ t, e => by
    obtain ⟨v, h1, h2⟩ := NdAll.getV t (by simpa using e)
    exact ⟨v, by simpa using h1, h2⟩
theorem NdAll.app {H : Hp} : ∀ {vs us : List V} {ks js : List Dt}, NdAll H vs ks → NdAll H us js → NdAll H (vs ++ us) (ks ++ js)
  | _, _, _, _, .nil, s => s
  | _, _, _, _, .cons r t, s => .cons r (NdAll.app t s)
theorem NdAll.one {H : Hp} {v : V} {k : Dt} (h : Nd H v k) : NdAll H [v] [k] := .cons h .nil
theorem NdAll.take {H : Hp} : ∀ {vs : List V} {ks : List Dt} (n : Nat), NdAll H vs ks → NdAll H (vs.take n) (ks.take n)
  | _, _, 0, _ => .nil
  | _, _, _ + 1, .nil => .nil
  | _, _, n + 1, .cons r t => .cons r (NdAll.take n t)
theorem NdAll.drop {H : Hp} : ∀ {vs : List V} {ks : List Dt} (n : Nat), NdAll H vs ks → NdAll H (vs.drop n) (ks.drop n)
  | _, _, 0, r => r
  | _, _, _ + 1, .nil => .nil
  | _, _, n + 1, .cons _ t => NdAll.drop n t
theorem NdAll.set {H : Hp} {v : V} {k : Dt} (r : Nd H v k) : ∀ {vs : List V} {ks : List Dt} (n : Nat), NdAll H vs ks → NdAll H (vs.set n v) (ks.set n k)
  | _, _, _, .nil => .nil
  | _, _, 0, .cons _ t => .cons r t
  | _, _, n + 1, .cons q t => .cons q (NdAll.set r n t)
theorem NdAll.dropLast {H : Hp} {vs : List V} {ks : List Dt} (h : NdAll H vs ks) : NdAll H vs.dropLast ks.dropLast := by
  rw [List.dropLast_eq_take, List.dropLast_eq_take, h.len]; exact h.take _
theorem NdAll.rev {H : Hp} : ∀ {vs : List V} {ks : List Dt}, NdAll H vs ks → NdAll H vs.reverse ks.reverse
  | _, _, .nil => .nil
  | _, _, .cons r t => by
    rw [List.reverse_cons, List.reverse_cons]
    exact (NdAll.rev t).app (.one r)
theorem NdAll.rep {H : Hp} {vs : List V} {ks : List Dt} (h : NdAll H vs ks) : ∀ n, NdAll H (List.replicate n vs).flatten (List.replicate n ks).flatten
  | 0 => .nil
  | n + 1 => by
    rw [List.replicate_succ, List.replicate_succ, List.flatten_cons, List.flatten_cons]
    exact h.app (NdAll.rep h n)
/-- ints -/
def nums (l : List Int) : List Dt := l.map .num
theorem nd_ints {H : Hp} : ∀ (l : List Int), NdAll H (l.map V.int) (nums l)
  | [] => .nil
  | i :: l => .cons (.int i) (nd_ints l)
theorem NdAll.ints {H : Hp} : ∀ (l : List Int) (vs : List V), NdAll H vs (nums l) → vs = l.map V.int
  | [], _, h => by cases h; rfl
  | i :: l, _, h => by
    cases h with
    | cons r t => cases r; rw [NdAll.ints l _ t]; rfl
def txts (l : List Str) : List Dt := l.map .text
theorem nd_strs {H : Hp} : ∀ (l : List Str), NdAll H (l.map V.str) (txts l)
  | [] => .nil
  | i :: l => .cons (.str i) (nd_strs l)
theorem NdAll.strs {H : Hp} : ∀ (l : List Str) (vs : List V), NdAll H vs (txts l) → vs = l.map V.str
  | [], _, h => by cases h; rfl
  | i :: l, _, h => by
    cases h with
    | cons r t => cases r; rw [NdAll.strs l _ t]; rfl
theorem Nd.int_inv {H : Hp} {v : V} {i : Int} (h : Nd H v (.num i)) : v = .int i := by cases h; rfl
theorem Nd.str_inv {H : Hp} {v : V} {x : Str} (h : Nd H v (.text x)) : v = .str x := by cases h; rfl
theorem Nd.non_inv {H : Hp} {v : V} (h : Nd H v .none) : v = .non := by cases h; rfl
theorem Nd.tup_inv {H : Hp} {v : V} {ks : List Dt} (h : Nd H v (.tup ks)) : ∃ a xs, v = .ref a ∧ H a = some (.tup xs) ∧ NdAll H xs ks := by
  cases h with
  | tup h1 h2 => exact ⟨_, _, rfl, h1, h2⟩
theorem Nd.isNone {H : Hp} {v : V} {k : Dt} (h : Nd H v k) : decide (v = .non) = decide (k = .none) := by
  cases h with
  | non => rfl
  | int i => rw [decide_eq_false (by intro z; cases z), decide_eq_false (by intro z; cases z)]
  | str i => rw [decide_eq_false (by intro z; cases z), decide_eq_false (by intro z; cases z)]
  | tup h1 h2 => rw [decide_eq_false (by intro z; cases z), decide_eq_false (by intro z; cases z)]

/-! ### as PyData -/
mutual
theorem Nd.dp {K : PySem.W.Frag} {H : Hp} : ∀ (k : Dt) (v : V), Nd H v k → Dp K H v k.data
  | .none, _, h => by cases h; exact .non
  | .num i, _, h => by cases h; exact .int i
  | .text x, _, h => by cases h; exact .str x
  | .tup ks, _, h => by
    cases h with
    | tup h1 h2 => exact .tup (SqT.of h1) (NdAll.dp ks _ h2)
theorem NdAll.dp {K : PySem.W.Frag} {H : Hp} : ∀ (ks : List Dt) (vs : List V), NdAll H vs ks → DpAll K H vs (NestedKey.datas ks)
  | [], _, h => by cases h; exact .nil
  | k :: ks, _, h => by
    cases h with
    | cons h1 h2 => exact .cons (Nd.dp k _ h1) (NdAll.dp ks _ h2)
end
mutual
theorem eqv_data : ∀ (a b : Dt), PyData.eqv a.data b.data = NestedKey.beq a b
  | .none, b => by cases b <;> simp [NestedKey.data, PyData.eqv, NestedKey.beq]
  | .num i, b => by
    cases b with
    | num j =>
      simp only [NestedKey.data, PyData.eqv, NestedKey.beq]
      by_cases e : i = j
      · subst e; simp
      · rw [decide_eq_false e]; exact beq_eq_false_iff_ne.mpr e
    | _ => simp [NestedKey.data, PyData.eqv, NestedKey.beq]
  | .text x, b => by
    cases b with
    | text y =>
      simp only [NestedKey.data, PyData.eqv, NestedKey.beq]
      try rfl
    | _ => simp [NestedKey.data, PyData.eqv, NestedKey.beq]
  | .tup xs, b => by
    cases b with
    | tup ys =>
      simp only [NestedKey.data, PyData.eqv, NestedKey.beq]
      exact eqv_datas xs ys
    | _ => simp [NestedKey.data, PyData.eqv, NestedKey.beq]
theorem eqv_datas : ∀ (a b : List Dt), PyData.eqvAll (NestedKey.datas a) (NestedKey.datas b) = NestedKey.beqAll a b
  | [], [] => rfl
  | [], _ :: _ => rfl
  | _ :: _, [] => rfl
  | a :: as, b :: bs => by
    simp only [NestedKey.datas, PyData.eqvAll, NestedKey.beqAll]
    rw [eqv_data a b, eqv_datas as bs]
end
theorem beq_dec (a b : Dt) : NestedKey.beq a b = decide (a = b) := (NestedKey.decide_eq a b).symm
mutual
/-- its texts are texts that Python has -/
def okT : Dt → Bool
  | .text x => PyData.strOk x
  | .tup ks => okTs ks
  | .none => true
  | .num _ => true
def okTs : List Dt → Bool
  | [] => true
  | k :: ks => okT k && okTs ks
end
mutual
theorem canLay_data : ∀ a : Dt, okT a = true → a.data.canLay0 = true
  | .none, _ => by simp [NestedKey.data, PyData.canLay0]
  | .num i, _ => by simp [NestedKey.data, PyData.canLay0]
  | .text x, h => by
    simp only [okT] at h
    simp [NestedKey.data, PyData.canLay0, h]
  | .tup xs, h => by
    simp only [okT] at h
    simp only [NestedKey.data, PyData.canLay0]; exact canLay_datas xs h
theorem canLay_datas : ∀ a : List Dt, okTs a = true → PyData.canLayAll0 (NestedKey.datas a) = true
  | [], _ => by simp [NestedKey.datas, PyData.canLayAll0]
  | a :: as, h => by
    simp only [okTs, Bool.and_eq_true] at h
    simp [NestedKey.datas, PyData.canLayAll0, canLay_data a h.1, canLay_datas as h.2]
end
theorem okTs_app : ∀ (a b : List Dt), okTs (a ++ b) = (okTs a && okTs b)
  | [], b => by simp [okTs]
  | x :: a, b => by simp [okTs, okTs_app a b, Bool.and_assoc]
theorem okTs_of {ks : List Dt} (h : ∀ k ∈ ks, okT k = true) : okTs ks = true := by
  induction ks with
  | nil => rfl
  | cons k ks ih =>
    simp only [okTs, Bool.and_eq_true]
    exact ⟨h k List.mem_cons_self, ih fun j hj => h j (List.mem_cons_of_mem _ hj)⟩
theorem okTs_nums (l : List Int) : okTs (nums l) = true := okTs_of fun k hk => by
  obtain ⟨i, _, rfl⟩ := List.mem_map.mp hk
  rfl
theorem depthAll_le {ks : List Dt} {n : Nat} (h : ∀ k ∈ ks, k.depth ≤ n) : NestedKey.depthAll ks ≤ n := by
  induction ks with
  | nil => simp [NestedKey.depthAll]
  | cons k ks ih =>
    simp only [NestedKey.depthAll]
    have h1 := h k List.mem_cons_self
    have h2 := ih fun j hj => h j (List.mem_cons_of_mem _ hj)
    omega
theorem depthAll_nums (l : List Int) : NestedKey.depthAll (nums l) ≤ 0 := depthAll_le fun k hk => by
  obtain ⟨i, _, rfl⟩ := List.mem_map.mp hk
  simp [NestedKey.depth]
mutual
theorem depth_data : ∀ a : Dt, a.data.depth = a.depth
  | .none => by simp [NestedKey.data, PyData.depth, NestedKey.depth]
  | .num i => by simp [NestedKey.data, PyData.depth, NestedKey.depth]
  | .text x => by simp [NestedKey.data, PyData.depth, NestedKey.depth]
  | .tup xs => by simp only [NestedKey.data, PyData.depth, NestedKey.depth]; rw [depth_datas xs]
theorem depth_datas : ∀ a : List Dt, PyData.depthAll (NestedKey.datas a) = NestedKey.depthAll a
  | [] => by simp [NestedKey.datas, PyData.depthAll, NestedKey.depthAll]
  | a :: as => by simp [NestedKey.datas, PyData.depthAll, NestedKey.depthAll, depth_data a, depth_datas as]
end
theorem shaped_data {a : Dt} (o : okT a = true) (h : a.depth ≤ 60) : SeqAt.shaped a.data = true := by
  show (a.data.canLay0 && decide (a.data.depth ≤ 64)) = true
  rw [canLay_data a o, depth_data, Bool.true_and]
  exact decide_eq_true (by omega)
theorem shaped_list {as : List Dt} (o : okTs as = true) (h : NestedKey.depthAll as ≤ 60) : SeqAt.shaped (.list (NestedKey.datas as)) = true := by
  show (PyData.canLay0 (.list (NestedKey.datas as)) && decide (PyData.depth (.list (NestedKey.datas as)) ≤ 64)) = true
  rw [Bool.and_eq_true]
  refine ⟨by simp only [PyData.canLay0]; exact canLay_datas as o, decide_eq_true ?_⟩
  simp only [PyData.depth]
  rw [depth_datas]
  omega
end SB
set_option maxRecDepth 100000
set_option maxHeartbeats 4000000
/-! What readings evaluate to, over data. -/
namespace SB
open PySem L2

inductive SV where
  | d (k : Dt) | v (x : V) | u
def Sv (H : Hp) (v : V) : SV → Prop
  | .d k => Nd H v k
  | .v x => v = x
  | .u => True
theorem Sv.tx {H H' : Hp} {v : V} : ∀ {s : SV}, Sv H v s → Tx H H' → Sv H' v s
  | .d _, h, e => Nd.tx h e
  | .v _, h, _ => h
  | .u, _, _ => trivial
def So (H : Hp) (o : Option V) : SV → Prop
  | .d k => ∃ v, o = some v ∧ Nd H v k
  | .v x => o = some x
  | .u => True
theorem So.tx {H H' : Hp} {o : Option V} : ∀ {s : SV}, So H o s → Tx H H' → So H' o s
  | .d _, ⟨v, e, h⟩, x => ⟨v, e, h.tx x⟩
  | .v _, h, _ => h
  | .u, _, _ => trivial
theorem So.of {H : Hp} {v : V} : ∀ {s : SV}, Sv H v s → So H (some v) s
  | .d _, h => ⟨v, rfl, h⟩
  | .v _, h => congrArg some h
  | .u, _ => trivial
inductive SvAll (H : Hp) : List V → List SV → Prop
  | nil : SvAll H [] []
  | cons {v : V} {vs : List V} {s : SV} {ss : List SV} : Sv H v s → SvAll H vs ss → SvAll H (v :: vs) (s :: ss)
theorem SvAll.tx {H H' : Hp} (e : Tx H H') : ∀ {vs : List V} {ss : List SV}, SvAll H vs ss → SvAll H' vs ss
  | _, _, .nil => .nil
  | _, _, .cons r t => .cons (r.tx e) (SvAll.tx e t)
theorem SvAll.len {H : Hp} : ∀ {vs : List V} {ss : List SV}, SvAll H vs ss → vs.length = ss.length
  | _, _, .nil => rfl
  | _, _, .cons _ t => by simp [SvAll.len t]
/-- the slots -/
inductive Slots (H : Hp) : L2.St → List SV → Prop
  | nil : Slots H [] []
  | cons {o : Option V} {σ : L2.St} {s : SV} {ss : List SV} : So H o s → Slots H σ ss → Slots H (o :: σ) (s :: ss)
theorem Slots.tx {H H' : Hp} (e : Tx H H') : ∀ {σ : L2.St} {ss : List SV}, Slots H σ ss → Slots H' σ ss
  | _, _, .nil => .nil
  | _, _, .cons r t => .cons (r.tx e) (Slots.tx e t)
theorem Slots.up {H H' : Hp} {σ : L2.St} {ss : List SV} (h : Slots H σ ss) (e : Same H H') : Slots H' σ ss := h.tx (tx_of e)
theorem Slots.set {H : Hp} {v : V} {s : SV} (r : Sv H v s) : ∀ {σ : L2.St} {ss : List SV} (i : Nat), Slots H σ ss → Slots H (σ.set i (some v)) (ss.set i s)
  | _, _, _, .nil => .nil
  | _, _, 0, .cons _ t => .cons (.of r) t
  | _, _, i + 1, .cons q t => .cons q (Slots.set r i t)
theorem Slots.none {H : Hp} : ∀ {σ : L2.St} {ss : List SV} (i : Nat), Slots H σ ss → Slots H (σ.set i Option.none) (ss.set i .u)
  | _, _, _, .nil => .nil
  | _, _, 0, .cons _ t => .cons trivial t
  | _, _, i + 1, .cons q t => .cons q (Slots.none i t)
theorem Slots.get {H : Hp} : ∀ {σ : L2.St} {ss : List SV} {i : Nat} {s : SV}, Slots H σ ss → ss[i]? = some s → ∃ o, σ[i]? = some o ∧ So H o s
  | _, _, i, _, .nil, e => by simp at e
  | _, _, 0, _, .cons r _, e => by simp at e; subst e; exact ⟨_, rfl, r⟩
  | _, _, i + 1, _, .cons _ t, e => by
    obtain ⟨v, h1, h2⟩ := Slots.get t (by simpa using e)
    exact ⟨v, by simpa using h1, h2⟩
theorem Slots.len {H : Hp} : ∀ {σ : L2.St} {ss : List SV}, Slots H σ ss → σ.length = ss.length
  | _, _, .nil => rfl
  | _, _, .cons _ t => by simp [Slots.len t]
def wipeS (ss : List SV) : List Nat → List SV
  | [] => ss
  | v :: vs => (wipeS ss vs).set v .u
theorem Slots.wipe {H : Hp} {σ : L2.St} {ss : List SV} (h : Slots H σ ss) : ∀ vs : List Nat, Slots H (L2.wipe σ vs) (wipeS ss vs)
  | [] => h
  | v :: vs => (Slots.wipe h vs).none v
theorem slots_rep {H : Hp} : ∀ n : Nat, Slots H (List.replicate n Option.none) (List.replicate n .u)
  | 0 => .nil
  | n + 1 => .cons trivial (slots_rep n)
theorem slots_start {H : Hp} (N : List Str) : ∀ {vs : List V} {ss : List SV}, SvAll H vs ss → Slots H (L2.start N vs) (ss ++ List.replicate (N.length - ss.length) .u) := by
  intro vs ss h
  unfold L2.start
  rw [h.len]
  generalize N.length - ss.length = n
  induction h with
  | nil => exact slots_rep n
  | cons r t ih => exact .cons (.of r) ih
theorem wipe_set {σ : L2.St} {o : Option V} {i : Nat} : ∀ {vs : List Nat}, i ∈ vs → wipe (σ.set i o) vs = wipe σ vs
  | v :: vs, h => by
    show (wipe (σ.set i o) vs).set v Option.none = (wipe σ vs).set v Option.none
    by_cases hv : i ∈ vs
    · rw [wipe_set hv]
    · have e : i = v := by
        rcases List.mem_cons.mp h with e | e
        · exact e
        · exact absurd e hv
      subst e
      have k : ∀ (us : List Nat) (τ : L2.St), i ∉ us → wipe (τ.set i o) us = (wipe τ us).set i o := by
        intro us
        induction us with
        | nil => intro τ _; rfl
        | cons u us ih =>
          intro τ hn
          have h1 : u ≠ i := fun e => hn (by rw [e]; exact List.mem_cons_self)
          show (wipe (τ.set i o) us).set u Option.none = ((wipe τ us).set u Option.none).set i o
          rw [ih τ fun m => hn (List.mem_cons_of_mem _ m), List.set_comm _ _ (Ne.symm h1)]
      rw [k vs σ hv, List.set_set]

theorem wipe_wipe (σ : L2.St) (vs : List Nat) : wipe (wipe σ vs) vs = wipe σ vs := by
  have k : ∀ us : List Nat, (∀ u ∈ us, u ∈ vs) → wipe (wipe σ us) vs = wipe σ vs := by
    intro us
    induction us with
    | nil => intro _; rfl
    | cons u us ih =>
      intro h
      show wipe ((wipe σ us).set u Option.none) vs = wipe σ vs
      rw [wipe_set (h u List.mem_cons_self)]
      exact ih fun x hx => h x (List.mem_cons_of_mem _ hx)
  exact k vs fun _ h => h
/-! ### judgements -/
def Ev (te : TE) (σ : L2.St) (H : Hp) (R : Dt → Prop) : Prop := ∀ H1, Same H H1 → ∀ Q : VK, (∀ v H2 k, Same H1 H2 → Nd H2 v k → R k → Q v H2) → te σ H1 Q
/-- data known | a value known -/
def Ed (te : TE) (σ : L2.St) (H : Hp) (s : SV) : Prop := ∀ H1, Same H H1 → ∀ Q : VK, (∀ v H2, Same H1 H2 → Sv H2 v s → Q v H2) → te σ H1 Q
/-- a new list of data -/
def El (te : TE) (σ : L2.St) (H : Hp) (R : List Dt → Prop) : Prop := ∀ H1, Same H H1 → ∀ Q : VK, (∀ p xs H2 ks, H1 p = none → Same H1 H2 → H2 p = some (.lst xs) → NdAll H2 xs ks → R ks → Q (.ref p) H2) → te σ H1 Q
def Eb (tt : TT) (σ : L2.St) (H : Hp) (b : Bool) : Prop := ∀ H1, Same H H1 → ∀ Q : Bool → Hp → Prop, (∀ H2, Same H1 H2 → Q b H2) → tt σ H1 Q
def Ea (ta : TA) (σ : L2.St) (H : Hp) (ss : List SV) : Prop := ∀ H1, Same H H1 → ∀ Q : List V → Hp → Prop, (∀ vs H2, Same H1 H2 → SvAll H2 vs ss → Q vs H2) → ta σ H1 Q
def Eo (to : TO) (σ : L2.St) (H : Hp) (o : Option Int) : Prop := ∀ H1, Same H H1 → ∀ Q : Option Int → Hp → Prop, (∀ H2, Same H1 H2 → Q o H2) → to σ H1 Q
section
variable {K : PySem.W.Frag} {σ : L2.St} {H H' : Hp} {ta tb te tx : TE} {t u : TT} {k k' : Dt} {ks js : List Dt} {ss : List SV} {s : SV} {i j : Int} {b : Bool} {r : R2}
theorem Ev.up {R : Dt → Prop} (h : Ev te σ H R) (e : Same H H') : Ev te σ H' R := fun H1 a Q q => h H1 (e.trans a) Q q
theorem Ed.up (h : Ed te σ H s) (e : Same H H') : Ed te σ H' s := fun H1 a Q q => h H1 (e.trans a) Q q
theorem El.up {R : List Dt → Prop} (h : El te σ H R) (e : Same H H') : El te σ H' R := fun H1 a Q q => h H1 (e.trans a) Q q
theorem Eb.up (h : Eb t σ H b) (e : Same H H') : Eb t σ H' b := fun H1 a Q q => h H1 (e.trans a) Q q
theorem Ea.up {ta : TA} (h : Ea ta σ H ss) (e : Same H H') : Ea ta σ H' ss := fun H1 a Q q => h H1 (e.trans a) Q q
theorem Ed.ev (h : Ed te σ H (.d k)) : Ev te σ H (· = k) := fun H1 e Q q => h H1 e Q fun v H2 e2 h2 => q v H2 k e2 h2 rfl
theorem Ev.ed (h : Ev te σ H (· = k)) : Ed te σ H (.d k) := fun H1 e Q q => h H1 e Q fun v H2 k' e2 h2 hk => q v H2 e2 (by subst hk; exact h2)
theorem Ev.imp {R R' : Dt → Prop} (h : Ev te σ H R) (i : ∀ k, R k → R' k) : Ev te σ H R' := fun H1 e Q q => h H1 e Q fun v H2 k e2 h2 hk => q v H2 k e2 h2 (i k hk)
theorem Ed.is (h : Ed te σ H (.d k)) (e : k = k') : Ed te σ H (.d k') := by rw [← e]; exact h
theorem Eb.is {b' : Bool} (h : Eb t σ H b) (e : b = b') : Eb t σ H b' := by rw [← e]; exact h

/-! leaves -/
theorem ed_var {n : Nat} {k : Dt} (hs : Slots H σ ss) (h : ss[n]? = some (.d k) := by rfl) : Ed (tVar n) σ H (.d k) := fun H1 e _ q => by
  obtain ⟨o, h1, v, h2, h3⟩ := hs.get h
  exact ⟨v, by rw [h1, h2], q v H1 (.refl _) (h3.up e)⟩
theorem ev_var {n : Nat} {x : V} (hs : Slots H σ ss) (h : ss[n]? = some (.v x) := by rfl) : Ed (tVar n) σ H (.v x) := fun H1 e _ q => by
  obtain ⟨o, h1, h2⟩ := hs.get h
  exact ⟨x, by rw [h1]; exact congrArg some h2, q x H1 (.refl _) rfl⟩
theorem ed_int : Ed (tC (.int i)) σ H (.d (.num i)) := fun H1 _ _ q => q _ H1 (.refl _) (.int i)
theorem ed_str {x : Str} : Ed (tC (.str x)) σ H (.d (.text x)) := fun H1 _ _ q => q _ H1 (.refl _) (.str x)
theorem ed_non : Ed (tC .non) σ H (.d .none) := fun H1 _ _ q => q _ H1 (.refl _) .non
theorem ev_c {x : V} : Ed (tC x) σ H (.v x) := fun H1 _ _ q => q _ H1 (.refl _) rfl
theorem ea_nil : Ea tNil σ H [] := fun H1 _ _ q => q [] H1 (.refl _) .nil
theorem ea_cons {tr : TA} (h : Ed ta σ H s) (hr : Ea tr σ H ss) : Ea (tCons ta tr) σ H (s :: ss) := fun H1 e _ q =>
  h H1 e _ fun v H2 e2 h2 => hr H2 (e.trans e2) _ fun vs H3 e3 h3 => q (v :: vs) H3 (e2.trans e3) (.cons (h2.tx (tx_of e3)) h3)
def ds (ks : List Dt) : List SV := ks.map .d
theorem svall_ds {H : Hp} : ∀ {vs : List V} {ks : List Dt}, SvAll H vs (ds ks) → NdAll H vs ks
  | _, [], h => by cases h; exact .nil
  | _, k :: ks, h => by
    cases h with
    | cons r t => exact .cons r (svall_ds t)
theorem size_ok {n : Nat} (h : n ≤ 100000) : n ≤ sizeLine := Nat.le_trans h (by decide)
theorem size_lt {n : Nat} (h : n < 100000) : n < sizeLine := Nat.lt_of_lt_of_le h (by decide)
theorem ed_tup {ta : TA} (ks : List Dt) (h : Ea ta σ H (ds ks)) (hl : ks.length ≤ 100000 := by decide) : Ed (tTup ta) σ H (.d (.tup ks)) := fun H1 e _ q =>
  h H1 e _ fun vs H2 e2 h2 => ⟨size_ok (by rw [(svall_ds h2).len]; exact hl), fun p hp => q _ _ (e2.trans (same_new hp)) (Nd.tup upd_same ((svall_ds h2).up (same_new hp)))⟩
theorem el_lst {ta : TA} (ks : List Dt) (h : Ea ta σ H (ds ks)) (hl : ks.length ≤ 100000 := by decide) : El (tLst ta) σ H (· = ks) := fun H1 e _ q =>
  h H1 e _ fun vs H2 e2 h2 => ⟨size_ok (by rw [(svall_ds h2).len]; exact hl), fun p hp => q p vs _ ks (same_back e2 hp) (e2.trans (same_new hp)) upd_same ((svall_ds h2).up (same_new hp)) rfl⟩

/-! operators on ints -/
theorem ed_op {g : Int → Int → Int} (ha : Ed ta σ H (.d (.num i))) (hb : Ed tb σ H (.d (.num j))) (hr : ∀ (H : Hp) (Q : VK), Q (.int (g i j)) H → r (.int i) (.int j) H Q) : Ed (tOp r ta tb) σ H (.d (.num (g i j))) := fun H1 e Q q =>
  ha H1 e _ fun v H2 e2 h2 => hb H2 (e.trans e2) _ fun v' H3 e3 h3 => by
    cases h2; cases h3
    exact hr H3 Q (q _ H3 (e2.trans e3) (.int _))
theorem eb_op {g : Int → Int → Bool} (ha : Ed ta σ H (.d (.num i))) (hb : Ed tb σ H (.d (.num j))) (hr : ∀ (H : Hp) (Q : VK), Q (.bl (g i j)) H → r (.int i) (.int j) H Q) : Ed (tOp r ta tb) σ H (.v (.bl (g i j))) := fun H1 e Q q =>
  ha H1 e _ fun v H2 e2 h2 => hb H2 (e.trans e2) _ fun v' H3 e3 h3 => by
    cases h2; cases h3
    exact hr H3 Q (q _ H3 (e2.trans e3) rfl)
def rAddX (K : PySem.W.Frag) : R2 := fun x y H Q => (rI0 (fun i j => .int (i + j)) x y H Q ∨ rCatA K x y H Q) ∨ rCat x y H Q
theorem ed_add (ha : Ed ta σ H (.d (.num i))) (hb : Ed tb σ H (.d (.num j))) : Ed (tOp (rAddX K) ta tb) σ H (.d (.num (i + j))) := ed_op (g := fun i j => i + j) ha hb fun H Q q => .inl (.inl ⟨i, j, rfl, rfl, q⟩)
theorem ed_sub (ha : Ed ta σ H (.d (.num i))) (hb : Ed tb σ H (.d (.num j))) : Ed (tOp (rI0 fun i j => .int (i - j)) ta tb) σ H (.d (.num (i - j))) := ed_op (g := fun i j => i - j) ha hb fun H Q q => ⟨i, j, rfl, rfl, q⟩
theorem ed_neg (ha : Ed ta σ H (.d (.num i))) : Ed (tUn (rU fun i => .int (-i)) ta) σ H (.d (.num (-i))) := fun H1 e Q q =>
  ha H1 e _ fun v H2 e2 h2 => by
    cases h2
    exact ⟨i, rfl, q _ H2 e2 (.int _)⟩
theorem eb_lt (ha : Ed ta σ H (.d (.num i))) (hb : Ed tb σ H (.d (.num j))) : Ed (tOp (rI0 fun i j => .bl (decide (i < j))) ta tb) σ H (.v (.bl (decide (i < j)))) := eb_op (g := fun i j => decide (i < j)) ha hb fun H Q q => ⟨i, j, rfl, rfl, q⟩
theorem eb_le (ha : Ed ta σ H (.d (.num i))) (hb : Ed tb σ H (.d (.num j))) : Ed (tOp (rI0 fun i j => .bl (decide (i ≤ j))) ta tb) σ H (.v (.bl (decide (i ≤ j)))) := eb_op (g := fun i j => decide (i ≤ j)) ha hb fun H Q q => ⟨i, j, rfl, rfl, q⟩
theorem eb_gt (ha : Ed ta σ H (.d (.num i))) (hb : Ed tb σ H (.d (.num j))) : Ed (tOp (rI0 fun i j => .bl (decide (j < i))) ta tb) σ H (.v (.bl (decide (j < i)))) := eb_op (g := fun i j => decide (j < i)) ha hb fun H Q q => ⟨i, j, rfl, rfl, q⟩
theorem eb_ge (ha : Ed ta σ H (.d (.num i))) (hb : Ed tb σ H (.d (.num j))) : Ed (tOp (rI0 fun i j => .bl (decide (j ≤ i))) ta tb) σ H (.v (.bl (decide (j ≤ i)))) := eb_op (g := fun i j => decide (j ≤ i)) ha hb fun H Q q => ⟨i, j, rfl, rfl, q⟩
/-! == of flat things, of data -/
def flatD : Dt → Bool
  | .tup _ => false
  | _ => true
theorem flat_eq {v w : V} (h : Nd H v k) (h' : Nd H w k') (f : flatD k = true) (f' : flatD k' = true) : scal v w = true ∧ decide (v = w) = decide (k = k') := by
  cases h with
  | non =>
    cases h' with
    | non => exact ⟨rfl, rfl⟩
    | int j => exact ⟨rfl, by rw [decide_eq_false (by intro z; cases z), decide_eq_false (by intro z; cases z)]⟩
    | str y => exact ⟨rfl, by rw [decide_eq_false (by intro z; cases z), decide_eq_false (by intro z; cases z)]⟩
    | tup _ _ => cases f'
  | int i =>
    cases h' with
    | non => exact ⟨rfl, by rw [decide_eq_false (by intro z; cases z), decide_eq_false (by intro z; cases z)]⟩
    | int j =>
      refine ⟨rfl, ?_⟩
      by_cases e : i = j
      · subst e; rw [decide_eq_true rfl, decide_eq_true rfl]
      · rw [decide_eq_false (by intro z; cases z; exact e rfl), decide_eq_false (by intro z; cases z; exact e rfl)]
    | str y => exact ⟨rfl, by rw [decide_eq_false (by intro z; cases z), decide_eq_false (by intro z; cases z)]⟩
    | tup _ _ => cases f'
  | str x =>
    cases h' with
    | non => exact ⟨rfl, by rw [decide_eq_false (by intro z; cases z), decide_eq_false (by intro z; cases z)]⟩
    | int j => exact ⟨rfl, by rw [decide_eq_false (by intro z; cases z), decide_eq_false (by intro z; cases z)]⟩
    | str y =>
      refine ⟨rfl, ?_⟩
      by_cases e : x = y
      · subst e; rw [decide_eq_true rfl, decide_eq_true rfl]
      · rw [decide_eq_false (by intro z; cases z; exact e rfl), decide_eq_false (by intro z; cases z; exact e rfl)]
    | tup _ _ => cases f'
  | tup _ _ => cases f
def rEqX (K : PySem.W.Frag) : R2 := fun x y H Q => rEq x y H Q ∨ rEqD K x y H Q
def rNeX (K : PySem.W.Frag) : R2 := fun x y H Q => rNe x y H Q ∨ rNeD K x y H Q
theorem eb_eq (ha : Ed ta σ H (.d k)) (hb : Ed tb σ H (.d k')) (f : flatD k = true := by rfl) (f' : flatD k' = true := by rfl) : Ed (tOp (rEqX K) ta tb) σ H (.v (.bl (decide (k = k')))) := fun H1 e Q q =>
  ha H1 e _ fun v H2 e2 h2 => hb H2 (e.trans e2) _ fun v' H3 e3 h3 => by
    obtain ⟨h4, h5⟩ := flat_eq (h2.tx (tx_of e3)) h3 f f'
    exact .inl ⟨h4, q _ H3 (e2.trans e3) (by show V.bl _ = V.bl _; rw [h5])⟩
theorem eb_ne (ha : Ed ta σ H (.d k)) (hb : Ed tb σ H (.d k')) (f : flatD k = true := by rfl) (f' : flatD k' = true := by rfl) : Ed (tOp (rNeX K) ta tb) σ H (.v (.bl (!decide (k = k')))) := fun H1 e Q q =>
  ha H1 e _ fun v H2 e2 h2 => hb H2 (e.trans e2) _ fun v' H3 e3 h3 => by
    obtain ⟨h4, h5⟩ := flat_eq (h2.tx (tx_of e3)) h3 f f'
    exact .inl ⟨h4, q _ H3 (e2.trans e3) (by show V.bl _ = V.bl _; rw [h5])⟩
theorem eb_neD (ha : Ed ta σ H (.d k)) (hb : Ed tb σ H (.d k')) (f : okT k = true) (f' : okT k' = true) (g : k.depth ≤ 60) (g' : k'.depth ≤ 60) : Ed (tOp (rNeX K) ta tb) σ H (.v (.bl (!decide (k = k')))) := fun H1 e Q q =>
  ha H1 e _ fun v H2 e2 h2 => hb H2 (e.trans e2) _ fun v' H3 e3 h3 => .inr ⟨k.data, k'.data, Nd.dp k v (h2.tx (tx_of e3)), Nd.dp k' v' h3, shaped_data f g, shaped_data f' g', q _ H3 (e2.trans e3) (by show V.bl _ = V.bl _; rw [eqv_data, beq_dec])⟩

/-! None -/
theorem eb_isN (ha : Ed ta σ H (.d k)) : Ed (tIsN ta) σ H (.v (.bl (decide (k = .none)))) := fun H1 e Q q =>
  ha H1 e _ fun v H2 e2 h2 => q _ H2 e2 (by show V.bl _ = V.bl _; rw [h2.isNone])
theorem eb_notN (ha : Ed ta σ H (.d k)) : Ed (tNotN ta) σ H (.v (.bl (!decide (k = .none)))) := fun H1 e Q q =>
  ha H1 e _ fun v H2 e2 h2 => q _ H2 e2 (by show V.bl _ = V.bl _; rw [h2.isNone])

/-! tests -/
theorem et_test (h : Ed te σ H (.v (.bl b))) : Eb (tTest te) σ H b := fun H1 e _ q => h H1 e _ fun v H2 e2 h2 => ⟨b, h2, q H2 e2⟩
theorem et_B (h : Ed te σ H (.v (.bl b))) : Eb (tB te) σ H b := fun H1 e _ q => h H1 e _ fun v H2 e2 h2 => ⟨b, h2, q H2 e2⟩
theorem et_and {a b : Bool} (h1 : Eb t σ H a) (h2 : a = true → Eb u σ H b) : Eb (tAnd t u) σ H (a && b) := fun H1 e Q q => h1 H1 e _ fun H2 e2 => by
  cases a with
  | true => exact h2 rfl H2 (e.trans e2) Q fun H3 e3 => q H3 (e2.trans e3)
  | false => exact q H2 e2
theorem et_or {a b : Bool} (h1 : Eb t σ H a) (h2 : a = false → Eb u σ H b) : Eb (tOr t u) σ H (a || b) := fun H1 e Q q => h1 H1 e _ fun H2 e2 => by
  cases a with
  | true => exact q H2 e2
  | false => exact h2 rfl H2 (e.trans e2) Q fun H3 e3 => q H3 (e2.trans e3)
theorem et_not {a : Bool} (h1 : Eb t σ H a) : Eb (tNot t) σ H (!a) := fun H1 e _ q => h1 H1 e _ fun H2 e2 => q H2 e2
theorem eb_andV {a b : Bool} (h1 : Ed ta σ H (.v (.bl a))) (h2 : a = true → Ed tb σ H (.v (.bl b))) : Ed (tAndV ta tb) σ H (.v (.bl (a && b))) := fun H1 e Q q => h1 H1 e _ fun v H2 e2 hv => ⟨a, hv, by
  cases a with
  | true => exact h2 rfl H2 (e.trans e2) Q fun v' H3 e3 h3 => q v' H3 (e2.trans e3) h3
  | false => exact q _ H2 e2 rfl⟩
theorem eb_orV {a b : Bool} (h1 : Ed ta σ H (.v (.bl a))) (h2 : a = false → Ed tb σ H (.v (.bl b))) : Ed (tOrV ta tb) σ H (.v (.bl (a || b))) := fun H1 e Q q => h1 H1 e _ fun v H2 e2 hv => ⟨a, hv, by
  cases a with
  | true => exact q _ H2 e2 rfl
  | false => exact h2 rfl H2 (e.trans e2) Q fun v' H3 e3 h3 => q v' H3 (e2.trans e3) h3⟩

/-! subscripts, slices, + of tuples -/
theorem atI_nd {H : Hp} {vs : List V} (h : NdAll H vs ks) (hk : atI ks i = some k) : ∃ v, atI vs i = some v ∧ Nd H v k := by
  unfold atI at hk ⊢
  rw [h.len]
  cases e : ixN ks.length i with
  | none => rw [e] at hk; cases hk
  | some n =>
    rw [e] at hk
    exact h.get hk
theorem ed_ix (ha : Ed ta σ H (.d (.tup ks))) (hb : Ed tb σ H (.d (.num i))) (hk : atI ks i = some k) : Ed (tOp (rIx K) ta tb) σ H (.d k) := fun H1 e Q q =>
  ha H1 e _ fun v H2 e2 h2 => hb H2 (e.trans e2) _ fun v' H3 e3 h3 => by
    obtain ⟨a, xs, rfl, h4, h5⟩ := (Nd.up h2 e3).tup_inv
    cases h3
    obtain ⟨z, h6, h7⟩ := atI_nd h5 hk
    exact .inr (.inl ⟨a, xs, i, z, rfl, rfl, SqT.of h4, h6, q z H3 (e2.trans e3) h7⟩)
/-- an item of a list that stands at p -/
theorem ed_ixL {p : Addr} {xs : List V} (ha : Ed ta σ H (.v (.ref p))) (hb : Ed tb σ H (.d (.num i))) (hp : H p = some (.lst xs)) {v : V} (hv : atI xs i = some v) : Ed (tOp (rIx K) ta tb) σ H (.v v) := fun H1 e Q q =>
  ha H1 e _ fun v1 H2 e2 h2 => hb H2 (e.trans e2) _ fun v' H3 e3 h3 => by
    cases h2; cases h3
    exact .inl ⟨p, xs, i, v, rfl, rfl, SqL.of (((e.trans e2).trans e3) _ _ hp), hv, q v H3 (e2.trans e3) rfl⟩
theorem ed_ixLd {p : Addr} {xs : List V} (ha : Ed ta σ H (.v (.ref p))) (hb : Ed tb σ H (.d (.num i))) (hp : H p = some (.lst xs)) (hn : NdAll H xs ks) (hk : atI ks i = some k) : Ed (tOp (rIx K) ta tb) σ H (.d k) := fun H1 e Q q =>
  ha H1 e _ fun v1 H2 e2 h2 => hb H2 (e.trans e2) _ fun v' H3 e3 h3 => by
    cases h2; cases h3
    obtain ⟨z, h6, h7⟩ := atI_nd hn hk
    exact .inl ⟨p, xs, i, z, rfl, rfl, SqL.of (((e.trans e2).trans e3) _ _ hp), h6, q z H3 (e2.trans e3) (h7.up ((e.trans e2).trans e3))⟩
def cutD (ks : List Dt) (lo hi : Option Int) : List Dt := (ks.drop (HT.sIx ks.length 0 lo)).take (HT.sIx ks.length ks.length hi - HT.sIx ks.length 0 lo)
theorem eo_none : Eo tNoPart σ H none := fun H1 _ _ q => q H1 (.refl _)
theorem eo_some (h : Ed te σ H (.d (.num i))) : Eo (tPart te) σ H (some i) := fun H1 e Q q => h H1 e _ fun v H2 e2 h2 => by
  cases h2
  exact ⟨i, rfl, q H2 e2⟩
theorem cutV_nd {vs : List V} (h : NdAll H vs ks) (lo hi : Option Int) : NdAll H (cutV vs lo hi) (cutD ks lo hi) := by
  unfold cutV cutD
  rw [h.len]
  exact (h.drop _).take _
def rSlX (K : PySem.W.Frag) : V → Option Int → Option Int → Hp → VK → Prop := fun x lo hi H Q => rSlA K x lo hi H Q ∨ rSlL K x lo hi H Q
theorem ed_sl {tl th : TO} {lo hi : Option Int} (ha : Ed ta σ H (.d (.tup ks))) (hl : Eo tl σ H lo) (hh : Eo th σ H hi) : Ed (tSl (rSlX K) ta tl th) σ H (.d (.tup (cutD ks lo hi))) := fun H1 e Q q =>
  ha H1 e _ fun v H2 e2 h2 => hl H2 (e.trans e2) _ fun H3 e3 => hh H3 ((e.trans e2).trans e3) _ fun H4 e4 => by
    obtain ⟨a, xs, rfl, h4, h5⟩ := (Nd.up h2 (e3.trans e4)).tup_inv
    refine .inl ⟨a, xs, rfl, SqT.of h4, fun hw => ?_, fun hw p hp => ?_⟩
    · refine q _ H4 ((e2.trans e3).trans e4) ?_
      have h6 := cutV_nd h5 lo hi
      have e6 : cutV xs lo hi = xs := by
        unfold cutV
        rw [hw.1, hw.2]
        simp
      rw [e6] at h6
      exact .tup h4 h6
    · exact q _ _ (((e2.trans e3).trans e4).trans (same_new hp)) (.tup upd_same ((cutV_nd h5 lo hi).up (same_new hp)))
theorem el_sl {tl th : TO} {lo hi : Option Int} {p : Addr} {xs : List V} (ha : Ed ta σ H (.v (.ref p))) (hp : H p = some (.lst xs)) (hn : NdAll H xs ks) (hl : Eo tl σ H lo) (hh : Eo th σ H hi) : El (tSl (rSlX K) ta tl th) σ H (· = cutD ks lo hi) := fun H1 e Q q =>
  ha H1 e _ fun v H2 e2 h2 => hl H2 (e.trans e2) _ fun H3 e3 => hh H3 ((e.trans e2).trans e3) _ fun H4 e4 => by
    cases h2
    have e5 := ((e.trans e2).trans e3).trans e4
    exact .inr ⟨p, xs, rfl, SqL.of (e5 _ _ hp), fun r hr => q r _ _ _ (same_back ((e2.trans e3).trans e4) hr) (((e2.trans e3).trans e4).trans (same_new hr)) upd_same ((cutV_nd (hn.up e5) lo hi).up (same_new hr)) rfl⟩
theorem ed_cat (ha : Ed ta σ H (.d (.tup ks))) (hb : Ed tb σ H (.d (.tup js))) (hz : ks.length + js.length ≤ 100000) : Ed (tOp (rAddX K) ta tb) σ H (.d (.tup (ks ++ js))) := fun H1 e Q q =>
  ha H1 e _ fun v H2 e2 h2 => hb H2 (e.trans e2) _ fun v' H3 e3 h3 => by
    obtain ⟨a, xs, rfl, h4, h5⟩ := (Nd.up h2 e3).tup_inv
    obtain ⟨b, ys, rfl, h6, h7⟩ := Nd.tup_inv h3
    refine .inl (.inr ⟨a, b, xs, ys, rfl, rfl, SqT.of h4, SqT.of h6, size_ok (by rw [h5.len, h7.len]; exact hz), fun z => ?_, fun _ z => ?_, fun _ _ p hp => ?_⟩)
    · subst z
      cases h5
      exact q _ H3 (e2.trans e3) h3
    · subst z
      cases h7
      rw [List.append_nil] at q
      exact q _ H3 (e2.trans e3) (.tup h4 h5)
    · exact q _ _ ((e2.trans e3).trans (same_new hp)) (.tup upd_same ((h5.app h7).up (same_new hp)))
/-- + of two lists -/
theorem el_cat {R R' : List Dt → Prop} {n m : Nat} (ha : El ta σ H R) (hb : El tb σ H R') (hn : ∀ ks, R ks → ks.length ≤ n) (hm : ∀ ks, R' ks → ks.length ≤ m) (hz : n + m ≤ 100000) : El (tOp (rAddX K) ta tb) σ H fun ks => ∃ a b, R a ∧ R' b ∧ ks = a ++ b := fun H1 e Q q =>
  ha H1 e _ fun p xs H2 ks hp e2 h2 h3 hk => hb H2 (e.trans e2) _ fun p' ys H3 js hp' e3 h4 h5 hj => by
    have h6 := e3 _ _ h2
    refine .inr ⟨p, p', xs, ys, rfl, rfl, h6, h4, size_ok (by have a1 := hn ks hk; have a2 := hm js hj; rw [h3.len, h5.len]; omega), fun r hr => ?_⟩
    exact q r _ _ _ (same_back (e2.trans e3) hr) ((e2.trans e3).trans (same_new hr)) upd_same ((NdAll.app (h3.up e3) h5).up (same_new hr)) ⟨ks, js, hk, hj, rfl⟩

/-! x in t, t a tuple of flat things -/
theorem eqV_nd {v w : V} (h : Nd H v k) (h' : Nd H w k') (f : flatD k = true) (f' : flatD k' = true) : flatV v = true ∧ flatV w = true ∧ eqV v w = decide (k = k') := by
  cases h with
  | non =>
    cases h' with
    | non => exact ⟨rfl, rfl, rfl⟩
    | int j => exact ⟨rfl, rfl, by rw [decide_eq_false (by intro z; cases z)]; rfl⟩
    | str y => exact ⟨rfl, rfl, by rw [decide_eq_false (by intro z; cases z)]; rfl⟩
    | tup _ _ => cases f'
  | int i =>
    cases h' with
    | non => exact ⟨rfl, rfl, by rw [decide_eq_false (by intro z; cases z)]; rfl⟩
    | int j =>
      refine ⟨rfl, rfl, ?_⟩
      by_cases e : i = j
      · subst e; simp [eqV]
      · rw [decide_eq_false (by intro z; cases z; exact e rfl)]; simp [eqV, e]
    | str y => exact ⟨rfl, rfl, by rw [decide_eq_false (by intro z; cases z)]; rfl⟩
    | tup _ _ => cases f'
  | str x =>
    cases h' with
    | non => exact ⟨rfl, rfl, by rw [decide_eq_false (by intro z; cases z)]; rfl⟩
    | int j => exact ⟨rfl, rfl, by rw [decide_eq_false (by intro z; cases z)]; rfl⟩
    | str y =>
      refine ⟨rfl, rfl, ?_⟩
      by_cases e : x = y
      · subst e; simp [eqV]
      · rw [decide_eq_false (by intro z; cases z; exact e rfl)]; simp [eqV, e]
    | tup _ _ => cases f'
  | tup _ _ => cases f
theorem inV_nd {v : V} (h : Nd H v k) (f : flatD k = true) : ∀ {vs : List V} {ks : List Dt}, NdAll H vs ks → (∀ j ∈ ks, flatD j = true) → flatV v = true ∧ vs.all flatV = true ∧ inV v vs = decide (k ∈ ks)
  | _, _, .nil, _ => ⟨(eqV_nd h h f f).1, rfl, by simp [inV]⟩
  | _, _, .cons (v := w) (k := j) r t, g => by
    obtain ⟨h1, h2, h3⟩ := inV_nd h f t fun j' hj => g j' (List.mem_cons_of_mem _ hj)
    obtain ⟨h4, h5, h6⟩ := eqV_nd r h (g j List.mem_cons_self) f
    refine ⟨h1, by rw [List.all_cons, h4, h2]; rfl, ?_⟩
    unfold inV at h3 ⊢
    rw [List.any_cons, h6, h3]
    by_cases e : j = k
    · subst e; simp
    · have e' : ¬ k = j := fun z => e z.symm
      simp [e, e']
def rInX (K : PySem.W.Frag) (neg : Bool) : R2 := rIn K neg
theorem eb_inT (ha : Ed ta σ H (.d k)) (hb : Ed tb σ H (.d (.tup ks))) (f : flatD k = true) (g : ∀ j ∈ ks, flatD j = true) : Ed (tOp (rIn K false) ta tb) σ H (.v (.bl (decide (k ∈ ks)))) := fun H1 e Q q =>
  ha H1 e _ fun v H2 e2 h2 => hb H2 (e.trans e2) _ fun v' H3 e3 h3 => by
    obtain ⟨a, xs, rfl, h4, h5⟩ := Nd.tup_inv h3
    obtain ⟨h6, h7, h8⟩ := inV_nd (Nd.up h2 e3) f h5 g
    exact ⟨a, xs, rfl, .inr (SqT.of h4), h6, h7, q _ H3 (e2.trans e3) (by show V.bl _ = V.bl _; rw [if_neg Bool.false_ne_true, h8])⟩
theorem eb_notInT (ha : Ed ta σ H (.d k)) (hb : Ed tb σ H (.d (.tup ks))) (f : flatD k = true) (g : ∀ j ∈ ks, flatD j = true) : Ed (tOp (rIn K true) ta tb) σ H (.v (.bl (!decide (k ∈ ks)))) := fun H1 e Q q =>
  ha H1 e _ fun v H2 e2 h2 => hb H2 (e.trans e2) _ fun v' H3 e3 h3 => by
    obtain ⟨a, xs, rfl, h4, h5⟩ := Nd.tup_inv h3
    obtain ⟨h6, h7, h8⟩ := inV_nd (Nd.up h2 e3) f h5 g
    exact ⟨a, xs, rfl, .inr (SqT.of h4), h6, h7, q _ H3 (e2.trans e3) (by show V.bl _ = V.bl _; rw [if_pos rfl, h8])⟩

/-! built-ins -/
def rLen (K : PySem.W.Frag) : List V → Hp → VK → Prop := fun xs H Q => ∃ x n, xs = [x] ∧ LenV K x H n ∧ Q (.int n) H
theorem ed_len (ha : Ed ta σ H (.d (.tup ks))) : Ed (tCB (rLen K) (tCons ta tNil)) σ H (.d (.num (ks.length : Int))) := fun H1 e Q q =>
  ha H1 e _ fun v H2 e2 h2 => by
    obtain ⟨a, xs, rfl, h4, h5⟩ := Nd.tup_inv h2
    exact ⟨.ref a, ks.length, rfl, .inr ⟨xs, SqT.of h4, h5.len.symm⟩, q _ H2 e2 (.int _)⟩
theorem ed_lenL {p : Addr} {xs : List V} (ha : Ed ta σ H (.v (.ref p))) (hp : H p = some (.lst xs)) : Ed (tCB (rLen K) (tCons ta tNil)) σ H (.d (.num (xs.length : Int))) := fun H1 e Q q =>
  ha H1 e _ fun v H2 e2 h2 => by
    cases h2
    exact ⟨.ref p, xs.length, rfl, .inl ⟨xs, SqL.of ((e.trans e2) _ _ hp), rfl⟩, q _ H2 e2 (.int _)⟩
theorem ed_lenN {R : List Dt → Prop} (ha : El ta σ H R) : Ev (tCB (rLen K) (tCons ta tNil)) σ H fun k => ∃ ks, R ks ∧ k = .num (ks.length : Int) := fun H1 e Q q =>
  ha H1 e _ fun p xs H2 ks hp e2 h2 h3 hk => ⟨.ref p, xs.length, rfl, .inl ⟨xs, SqL.of h2, rfl⟩, q _ H2 _ e2 (.int _) ⟨ks, hk, by rw [h3.len]⟩⟩
theorem ed_int0 (ha : Ed ta σ H (.v (.bl b))) : Ed (tCB (fun xs H Q => (∃ i, xs = [.int i] ∧ Q (.int i) H) ∨ ∃ k, xs = [.bl k] ∧ Q (.int (if k then 1 else 0)) H) (tCons ta tNil)) σ H (.d (.num (if b then 1 else 0))) := fun H1 e Q q =>
  ha H1 e _ fun v H2 e2 h2 => by
    cases h2
    exact .inr ⟨b, rfl, q _ H2 e2 (.int _)⟩
theorem ed_min2 (ha : Ed ta σ H (.d (.num i))) (hb : Ed tb σ H (.d (.num j))) : Ed (tCB (fun xs H Q => ∃ i j, xs = [.int i, .int j] ∧ Q (.int (if j < i then j else i)) H) (tCons ta (tCons tb tNil))) σ H (.d (.num (if j < i then j else i))) := fun H1 e Q q =>
  ha H1 e _ fun v H2 e2 h2 => hb H2 (e.trans e2) _ fun v' H3 e3 h3 => by
    cases h2; cases h3
    exact ⟨i, j, rfl, q _ H3 (e2.trans e3) (.int _)⟩
theorem ed_max2 (ha : Ed ta σ H (.d (.num i))) (hb : Ed tb σ H (.d (.num j))) : Ed (tCB (fun xs H Q => ∃ i j, xs = [.int i, .int j] ∧ Q (.int (if j > i then j else i)) H) (tCons ta (tCons tb tNil))) σ H (.d (.num (if j > i then j else i))) := fun H1 e Q q =>
  ha H1 e _ fun v H2 e2 h2 => hb H2 (e.trans e2) _ fun v' H3 e3 h3 => by
    cases h2; cases h3
    exact ⟨i, j, rfl, q _ H3 (e2.trans e3) (.int _)⟩
/-- tuple(a new list) -/
def rTupOf (K : PySem.W.Frag) : List V → Hp → VK → Prop := fun xs H Q => ∃ p ys, xs = [.ref p] ∧ ((SqL K H p ys ∧ ∀ l, H l = none → Q (.ref l) (upd H l (.tup ys))) ∨ (SqT K H p ys ∧ Q (.ref p) H))
theorem ev_tupOf {R : List Dt → Prop} (ha : El ta σ H R) : Ev (tCB (rTupOf K) (tCons ta tNil)) σ H fun k => ∃ ks, R ks ∧ k = .tup ks := fun H1 e Q q =>
  ha H1 e _ fun p xs H2 ks hp e2 h2 h3 hk => ⟨p, xs, rfl, .inl ⟨SqL.of h2, fun l hl => q _ _ _ (e2.trans (same_new hl)) (.tup upd_same (h3.up (same_new hl))) ⟨ks, hk, rfl⟩⟩⟩
theorem ed_tupL {p : Addr} {xs : List V} (ha : Ed ta σ H (.v (.ref p))) (hp : H p = some (.lst xs)) (hn : NdAll H xs ks) : Ed (tCB (rTupOf K) (tCons ta tNil)) σ H (.d (.tup ks)) := fun H1 e Q q =>
  ha H1 e _ fun v H2 e2 h2 => by
    cases h2
    exact ⟨p, xs, rfl, .inl ⟨SqL.of ((e.trans e2) _ _ hp), fun l hl => q _ _ (e2.trans (same_new hl)) (.tup upd_same (hn.up ((e.trans e2).trans (same_new hl))))⟩⟩
/-- list(a tuple) -/
def rLstOf (K : PySem.W.Frag) : List V → Hp → VK → Prop := fun xs H Q => ∃ p ys, xs = [.ref p] ∧ (SqL K H p ys ∨ SqT K H p ys) ∧ ∀ l, H l = none → Q (.ref l) (upd H l (.lst ys))
theorem el_list (ha : Ed ta σ H (.d (.tup ks))) : El (tCB (rLstOf K) (tCons ta tNil)) σ H (· = ks) := fun H1 e Q q =>
  ha H1 e _ fun v H2 e2 h2 => by
    obtain ⟨a, xs, rfl, h4, h5⟩ := Nd.tup_inv h2
    exact ⟨a, xs, rfl, .inr (SqT.of h4), fun l hl => q l xs _ ks (same_back e2 hl) (e2.trans (same_new hl)) upd_same (h5.up (same_new hl)) rfl⟩
theorem el_listL {p : Addr} {xs : List V} (ha : Ed ta σ H (.v (.ref p))) (hp : H p = some (.lst xs)) (hn : NdAll H xs ks) : El (tCB (rLstOf K) (tCons ta tNil)) σ H (· = ks) := fun H1 e Q q =>
  ha H1 e _ fun v H2 e2 h2 => by
    cases h2
    exact ⟨p, xs, rfl, .inl (SqL.of ((e.trans e2) _ _ hp)), fun l hl => q l xs _ ks (same_back e2 hl) (e2.trans (same_new hl)) upd_same (hn.up ((e.trans e2).trans (same_new hl))) rfl⟩
/-- list(range(n)), tuple(range(n)) -/
def rangeD (n : Int) : List Int := (List.range n.toNat).map fun m : Nat => (m : Int)
theorem rgV_nd (n : Int) : NdAll H (rgV 0 n) (nums (rangeD n)) := by
  have e : rgV 0 n = (rangeD n).map V.int := by
    unfold rgV rangeD
    rw [List.map_map, Int.sub_zero]
    apply List.map_congr_left
    intro m _
    show V.int (0 + (m : Int)) = V.int (m : Int)
    rw [Int.zero_add]
  rw [e]
  exact nd_ints _
theorem el_listRg {n : Int} (ha : Ed ta σ H (.d (.num n))) (h0 : 0 ≤ n) (h1 : n ≤ 100000) : El (tLstRg (tRg1 ta)) σ H (· = nums (rangeD n)) := fun H1 e Q q =>
  ha H1 e _ fun v H2 e2 h2 => by
    cases h2
    exact ⟨n, rfl, RgOk.of_le (by omega) (by omega) (by omega) (by omega), fun l hl => q l _ _ _ (same_back e2 hl) (e2.trans (same_new hl)) upd_same (rgV_nd n) rfl⟩
theorem ed_tupRg {n : Int} (ha : Ed ta σ H (.d (.num n))) (h0 : 0 ≤ n) (h1 : n ≤ 100000) : Ed (tTupRg (tRg1 ta)) σ H (.d (.tup (nums (rangeD n)))) := fun H1 e Q q =>
  ha H1 e _ fun v H2 e2 h2 => by
    cases h2
    exact ⟨n, rfl, RgOk.of_le (by omega) (by omega) (by omega) (by omega), fun l hl => q _ _ (e2.trans (same_new hl)) (.tup upd_same (rgV_nd n))⟩
theorem mem_rangeD {n x : Int} : x ∈ rangeD n ↔ 0 ≤ x ∧ x < n := by
  unfold rangeD
  rw [List.mem_map]
  constructor
  · rintro ⟨m, hm, rfl⟩
    have := List.mem_range.mp hm
    omega
  · intro h
    exact ⟨x.toNat, List.mem_range.mpr (by omega), by omega⟩

/-! promises of defs that only make -/
/-- data out | a new list of data out | a truth out -/
def spD (A : List SV → (Dt → Prop) → Prop) : Sp := fun vs H Q _ => ∃ ss R, A ss R ∧ SvAll H vs ss ∧ ∀ v H' k, Same H H' → Nd H' v k → R k → Q v H'
def spL (A : List SV → (List Dt → Prop) → Prop) : Sp := fun vs H Q _ => ∃ ss R, A ss R ∧ SvAll H vs ss ∧ ∀ p xs H' ks, H p = none → Same H H' → H' p = some (.lst xs) → NdAll H' xs ks → R ks → Q (.ref p) H'
theorem ev_call {A : List SV → (Dt → Prop) → Prop} {R : Dt → Prop} {ta : TA} {E : XK} (h : Ea ta σ H ss) (hA : A ss R) : Ev (tCall (spD A) [] E ta) σ H R := fun H1 e Q q =>
  h H1 e _ fun vs H2 e2 h2 => ⟨ss, R, hA, by rw [List.append_nil]; exact h2, fun v H3 k e3 h3 hk => q v H3 k (e2.trans e3) h3 hk⟩
theorem ed_call {A : List SV → (Dt → Prop) → Prop} {ta : TA} {E : XK} (h : Ea ta σ H ss) (hA : A ss (· = k)) : Ed (tCall (spD A) [] E ta) σ H (.d k) := (ev_call h hA).ed
theorem el_call {A : List SV → (List Dt → Prop) → Prop} {R : List Dt → Prop} {ta : TA} {E : XK} (h : Ea ta σ H ss) (hA : A ss R) : El (tCall (spL A) [] E ta) σ H R := fun H1 e Q q =>
  h H1 e _ fun vs H2 e2 h2 => ⟨ss, R, hA, by rw [List.append_nil]; exact h2, fun p xs H3 ks hp e3 h3 h4 hk => q p xs H3 ks (same_back e2 hp) (e2.trans e3) h3 h4 hk⟩
theorem El.imp {R R' : List Dt → Prop} (h : El te σ H R) (i : ∀ k, R k → R' k) : El te σ H R' := fun H1 e Q q => h H1 e Q fun p xs H2 ks hp e2 h2 h3 hk => q p xs H2 ks hp e2 h2 h3 (i ks hk)

/-! statements -/
variable {D : Ends} {tu tw : TS} {g : TG}
theorem s_set {n : Nat} {R : Dt → Prop} (hs : Slots H σ ss) (h : Ev te σ H R) (q : ∀ k σ' H1, R k → Same H H1 → Slots H1 σ' (ss.set n (.d k)) → D.nx σ' H1) : tAsg te (gName n) D σ H :=
  h H (.refl H) _ fun v H1 k e h1 hk => q k _ H1 hk e ((hs.up e).set (s := .d k) h1 n)
theorem s_setD {n : Nat} (hs : Slots H σ ss) (h : Ed te σ H s) (q : ∀ σ' H1, Same H H1 → Slots H1 σ' (ss.set n s) → D.nx σ' H1) : tAsg te (gName n) D σ H :=
  h H (.refl H) _ fun v H1 e h1 => q _ H1 e ((hs.up e).set h1 n)
theorem s_setL {n : Nat} {R : List Dt → Prop} (hs : Slots H σ ss) (h : El te σ H R) (q : ∀ p xs ks σ' H1, R ks → H p = none → Same H H1 → H1 p = some (.lst xs) → NdAll H1 xs ks → Slots H1 σ' (ss.set n (.v (.ref p))) → D.nx σ' H1) : tAsg te (gName n) D σ H :=
  h H (.refl H) _ fun p xs H1 ks hp e h1 h2 hk => q p xs ks _ H1 hk hp e h1 h2 ((hs.up e).set (s := .v (.ref p)) (show V.ref p = V.ref p from rfl) n)
theorem s_if (h : Eb t σ H b) (h1 : b = true → ∀ H1, Same H H1 → tu D σ H1) (h2 : b = false → ∀ H1, Same H H1 → tw D σ H1) : tIfS t tu tw D σ H := h H (.refl H) _ fun H1 e => by
  cases b with
  | true => exact h1 rfl H1 e
  | false => exact h2 rfl H1 e
theorem s_ret {R : Dt → Prop} (h : Ev te σ H R) (q : ∀ v H1 k, Same H H1 → Nd H1 v k → R k → D.rt v H1) : tRet te D σ H := h H (.refl H) _ q
theorem s_retD (h : Ed te σ H s) (q : ∀ v H1, Same H H1 → Sv H1 v s → D.rt v H1) : tRet te D σ H := h H (.refl H) _ q
theorem s_retL {R : List Dt → Prop} (h : El te σ H R) (q : ∀ p xs H1 ks, H p = none → Same H H1 → H1 p = some (.lst xs) → NdAll H1 xs ks → R ks → D.rt (.ref p) H1) : tRet te D σ H := h H (.refl H) _ q
/-- a target takes an item of data -/
def Tg (K : PySem.W.Frag) (g : TG) (vs : List Nat) (ss : List SV) (k : Dt) (ss' : List SV) : Prop := ∀ (H : Hp) (σ : L2.St) (v : V), Slots H σ ss → Nd H v k → ∀ Q : L2.St → Hp → Prop, (∀ σ', Slots H σ' ss' → wipe σ' vs = wipe σ vs → Q σ' H) → g v σ H Q
theorem tg_name {n : Nat} {vs : List Nat} {ss : List SV} {k : Dt} (hn : n ∈ vs) : Tg K (gName n) vs ss k (ss.set n (.d k)) := fun H σ v hs h Q q => q _ (hs.set (s := .d k) h n) (wipe_set hn)
theorem tg_tup2 {n m : Nat} {vs : List Nat} {ss : List SV} {k1 k2 : Dt} (hn : n ∈ vs) (hm : m ∈ vs) : Tg K (gTup K 2 (gCons (gName n) (gCons (gName m) gNil))) vs ss (.tup [k1, k2]) ((ss.set n (.d k1)).set m (.d k2)) := fun H σ v hs h Q q => by
  obtain ⟨a, xs, rfl, h4, h5⟩ := h.tup_inv
  cases h5 with
  | cons r1 t1 =>
    cases t1 with
    | cons r2 t2 =>
      cases t2
      exact ⟨a, _, rfl, SqT.of h4, rfl, _, _, rfl, _, _, rfl, rfl, q _ ((hs.set (s := .d k1) r1 n).set (s := .d k2) r2 m) (by rw [wipe_set hm, wipe_set hn])⟩
theorem tg_tup3 {n m l : Nat} {vs : List Nat} {ss : List SV} {k1 k2 k3 : Dt} (hn : n ∈ vs) (hm : m ∈ vs) (hl : l ∈ vs) : Tg K (gTup K 3 (gCons (gName n) (gCons (gName m) (gCons (gName l) gNil)))) vs ss (.tup [k1, k2, k3]) (((ss.set n (.d k1)).set m (.d k2)).set l (.d k3)) := fun H σ v hs h Q q => by
  obtain ⟨a, xs, rfl, h4, h5⟩ := h.tup_inv
  cases h5 with
  | cons r1 t1 =>
    cases t1 with
    | cons r2 t2 =>
      cases t2 with
      | cons r3 t3 =>
        cases t3
        exact ⟨a, _, rfl, SqT.of h4, rfl, _, _, rfl, _, _, rfl, _, _, rfl, rfl, q _ (((hs.set (s := .d k1) r1 n).set (s := .d k2) r2 m).set (s := .d k3) r3 l) (by rw [wipe_set hl, wipe_set hm, wipe_set hn])⟩
theorem s_unp3 {n m l : Nat} {k1 k2 k3 : Dt} (hs : Slots H σ ss) (h : Ed te σ H (.d (.tup [k1, k2, k3]))) (q : ∀ σ' H1, Same H H1 → Slots H1 σ' (((ss.set n (.d k1)).set m (.d k2)).set l (.d k3)) → D.nx σ' H1) : tAsg te (gTup K 3 (gCons (gName n) (gCons (gName m) (gCons (gName l) gNil)))) D σ H :=
  h H (.refl H) _ fun v H1 e h1 => tg_tup3 (K := K) (vs := [n, m, l]) (by simp) (by simp) (by simp) H1 σ v (hs.up e) h1 _ fun σ' hs' _ => q σ' H1 e hs'
theorem s_unp5 {n1 n2 n3 n4 n5 : Nat} {k1 k2 k3 k4 k5 : Dt} (hs : Slots H σ ss) (h : Ed te σ H (.d (.tup [k1, k2, k3, k4, k5]))) (q : ∀ σ' H1, Same H H1 → Slots H1 σ' (((((ss.set n1 (.d k1)).set n2 (.d k2)).set n3 (.d k3)).set n4 (.d k4)).set n5 (.d k5)) → D.nx σ' H1) :
    tAsg te (gTup K 5 (gCons (gName n1) (gCons (gName n2) (gCons (gName n3) (gCons (gName n4) (gCons (gName n5) gNil)))))) D σ H :=
  h H (.refl H) _ fun v H1 e h1 => by
    obtain ⟨a, xs, rfl, h4, h5⟩ := Nd.tup_inv h1
    cases h5 with
    | cons r1 t1 =>
      cases t1 with
      | cons r2 t2 =>
        cases t2 with
        | cons r3 t3 =>
          cases t3 with
          | cons r4 t4 =>
            cases t4 with
            | cons r5 t5 =>
              cases t5
              exact ⟨a, _, rfl, SqT.of h4, rfl, _, _, rfl, _, _, rfl, _, _, rfl, _, _, rfl, _, _, rfl, rfl, q _ H1 e ((((((hs.up e).set (s := .d k1) r1 n1).set (s := .d k2) r2 n2).set (s := .d k3) r3 n3).set (s := .d k4) r4 n4).set (s := .d k5) r5 n5)⟩
theorem s_unp2 {n m : Nat} {k1 k2 : Dt} (hs : Slots H σ ss) (h : Ed te σ H (.d (.tup [k1, k2]))) (q : ∀ σ' H1, Same H H1 → Slots H1 σ' ((ss.set n (.d k1)).set m (.d k2)) → D.nx σ' H1) : tAsg te (gTup K 2 (gCons (gName n) (gCons (gName m) gNil))) D σ H :=
  h H (.refl H) _ fun v H1 e h1 => tg_tup2 (K := K) (vs := [n, m]) (by simp) (by simp) H1 σ v (hs.up e) h1 _ fun σ' hs' _ => q σ' H1 e hs'

/-! lists of one's own -/
/-- l.append(e), l at p holds data ks -/
theorem s_app {p : Addr} {xs : List V} {T : String} (hp : H p = some (.lst xs)) (hn : NdAll H xs ks) (ho : Ed ta σ H (.v (.ref p))) {R : Dt → Prop} (h : Ev te σ H R) (hz : ks.length < 100000)
    (q : ∀ v k H1, R k → Same H H1 → Nd H1 v k → NdAll (upd H1 p (.lst (xs ++ [v]))) (xs ++ [v]) (ks ++ [k]) → D.nx σ (upd H1 p (.lst (xs ++ [v])))) : tDrop (tBM K "list" rAppend ta (tCons te tNil)) D σ H := ho H (.refl H) _ fun v0 H1 e1 h0 => by
  cases h0
  refine ⟨.inl ⟨rfl, xs, SqL.of (e1 _ _ hp)⟩, h H1 e1 _ fun v H2 k e2 h2 hk => ?_⟩
  have e3 := e1.trans e2
  refine ⟨p, xs, v, rfl, rfl, e3 _ _ hp, size_lt (by rw [hn.len]; exact hz), q v k H2 hk e3 h2 ?_⟩
  exact NdAll.tx (.app (hn.up e3) (.one h2)) (Tx.lst (e3 _ _ hp))
/-- l.extend(a new list) -/
theorem s_ext {p : Addr} {xs : List V} (hp : H p = some (.lst xs)) (hn : NdAll H xs ks) (ho : Ed ta σ H (.v (.ref p))) {R : List Dt → Prop} (h : El te σ H R) (hz : ∀ js, R js → ks.length + js.length ≤ 100000)
    (q : ∀ ys js H1, R js → Same H H1 → NdAll (upd H1 p (.lst (xs ++ ys))) (xs ++ ys) (ks ++ js) → D.nx σ (upd H1 p (.lst (xs ++ ys)))) : tDrop (tBM K "list" rExtend ta (tCons te tNil)) D σ H := ho H (.refl H) _ fun v0 H1 e1 h0 => by
  cases h0
  refine ⟨.inl ⟨rfl, xs, SqL.of (e1 _ _ hp)⟩, h H1 e1 _ fun b ys H2 js hb e2 h2 h3 hj => ?_⟩
  have e3 := e1.trans e2
  refine ⟨p, b, xs, ys, rfl, rfl, e3 _ _ hp, h2, size_ok (by rw [hn.len, h3.len]; exact hz js hj), q ys js H2 hj e3 ?_⟩
  exact NdAll.tx (.app (hn.up e3) h3) (Tx.lst (e3 _ _ hp))

/-! loops -/
/-- for x in a tuple -/
theorem s_forT (h : Ed te σ H (.d (.tup ks))) (q : ∀ H1, Same H H1 → ∃ P : Nat → L2.St → Hp → Prop, P 0 σ H1 ∧ (∀ i σ' H', P i σ' H' → Tx H1 H') ∧
    (∀ i k v σ' H', ks[i]? = some k → P i σ' H' → Nd H' v k → g v σ' H' fun σ2 H2 => tu { D with nx := P (i + 1), ct := P (i + 1), bk := D.nx } σ2 H2) ∧ ∀ σ' H', P ks.length σ' H' → D.nx σ' H') : tFor (iTup K te) g tu D σ H :=
  h H (.refl H) _ fun v H1 e h1 => by
    obtain ⟨a, xs, rfl, h4, h5⟩ := Nd.tup_inv h1
    obtain ⟨P, h0, hq, hs, hd⟩ := q H1 e
    refine ⟨a, rfl, ⟨xs, SqT.of h4⟩, for_tup (K := K) (a := a) (xs := xs) P h0 (fun i σ' H' _ p => SqT.of (hq i σ' H' p _ _ h4)) (fun i x σ' H' hi p => ?_) (fun σ' H' p => hd σ' H' (by rw [h5.len] at p; exact p))⟩
    obtain ⟨k, hk, h6⟩ := h5.getV hi
    exact hs i k x σ' H' hk p (h6.tx (hq i σ' H' p))
/-- for x in a list at p, which stays -/
theorem s_forL {p : Addr} {xs : List V} (h : Ed te σ H (.v (.ref p))) (hp : H p = some (.lst xs)) (hn : NdAll H xs ks) (q : ∀ H1, Same H H1 → ∃ P : Nat → L2.St → Hp → Prop, P 0 σ H1 ∧ (∀ i σ' H', P i σ' H' → Tx H1 H' ∧ H' p = some (.lst xs)) ∧
    (∀ i k v σ' H', ks[i]? = some k → P i σ' H' → Nd H' v k → g v σ' H' fun σ2 H2 => tu { D with nx := P (i + 1), ct := P (i + 1), bk := D.nx } σ2 H2) ∧ ∀ σ' H', P ks.length σ' H' → D.nx σ' H') : tFor (iList K te) g tu D σ H :=
  h H (.refl H) _ fun v H1 e h1 => by
    cases h1
    obtain ⟨P, h0, hq, hs, hd⟩ := q H1 e
    have h4 := e _ _ hp
    refine ⟨p, rfl, ⟨xs, SqL.of h4⟩, for_list (K := K) (a := p) (xs := xs) P h0 (fun i σ' H' _ w => SqL.of (hq i σ' H' w).2) (fun i x σ' H' hi w => ?_) (fun σ' H' w => hd σ' H' (by rw [hn.len] at w; exact w))⟩
    obtain ⟨k, hk, h6⟩ := hn.getV hi
    exact hs i k x σ' H' hk w ((h6.up e).tx (hq i σ' H' w).1)
/-- for x in a new list -/
theorem s_forN {R : List Dt → Prop} (h : El te σ H R) (q : ∀ p xs ks H1, R ks → H p = none → Same H H1 → H1 p = some (.lst xs) → NdAll H1 xs ks → ∃ P : Nat → L2.St → Hp → Prop, P 0 σ H1 ∧ (∀ i σ' H', P i σ' H' → Tx H1 H' ∧ H' p = some (.lst xs)) ∧
    (∀ i k v σ' H', ks[i]? = some k → P i σ' H' → Nd H' v k → g v σ' H' fun σ2 H2 => tu { D with nx := P (i + 1), ct := P (i + 1), bk := D.nx } σ2 H2) ∧ ∀ σ' H', P ks.length σ' H' → D.nx σ' H') : tFor (iList K te) g tu D σ H :=
  h H (.refl H) _ fun p xs H1 ks hp e h4 hn hk => by
    obtain ⟨P, h0, hq, hs, hd⟩ := q p xs ks H1 hk hp e h4 hn
    refine ⟨p, rfl, ⟨xs, SqL.of h4⟩, for_list (K := K) (a := p) (xs := xs) P h0 (fun i σ' H' _ w => SqL.of (hq i σ' H' w).2) (fun i x σ' H' hi w => ?_) (fun σ' H' w => hd σ' H' (by rw [hn.len] at w; exact w))⟩
    obtain ⟨k, hk, h6⟩ := hn.getV hi
    exact hs i k x σ' H' hk w (h6.tx (hq i σ' H' w).1)

/-! comprehensions whose items are data -/
def Cw (H1 : Hp) (Dl : Addr) (out : List Dt) (H' : Hp) : Prop := Same H1 H' ∧ ∃ ys, H' Dl = some (.lst ys) ∧ NdAll H' ys out
theorem cw_turn {H1 : Hp} {Dl : Addr} {out : List Dt} {σ2 : L2.St} {Hc : Hp} {f : Bool} {kv : Dt} (hD : H1 Dl = none) (c : Cw H1 Dl out Hc) (hz : out.length < 50000) (ht : Eb t σ2 Hc f) (he : f = true → Ed te σ2 Hc (.d kv)) :
    t σ2 Hc fun b H3 => if b = true then te σ2 H3 fun y H4 => ∃ acc, H4 Dl = some (.lst acc) ∧ acc.length < sizeLine ∧ Cw H1 Dl (if f = true then out ++ [kv] else out) (upd H4 Dl (.lst (acc ++ [y]))) else Cw H1 Dl (if f = true then out ++ [kv] else out) H3 := by
  obtain ⟨c1, ys, c2, c3⟩ := c
  refine ht Hc (.refl _) _ fun H3 e3 => ?_
  cases f with
  | true =>
    show te σ2 H3 _
    refine he rfl H3 e3 _ fun y H4 e4 h4 => ⟨ys, e4 _ _ (e3 _ _ c2), size_lt (by rw [c3.len]; omega), same_mut ((c1.trans e3).trans e4) hD, ys ++ [y], upd_same, ?_⟩
    exact NdAll.tx (.app (c3.up (e3.trans e4)) (.one h4)) (Tx.lst (e4 _ _ (e3 _ _ c2)))
  | false => exact ⟨c1.trans e3, ys, e3 _ _ c2, c3.up e3⟩
def outOf (f : Dt → Bool) (v : Dt → Dt) (ks : List Dt) : List Dt := (ks.filter f).map v
theorem outOf_len (f : Dt → Bool) (v : Dt → Dt) (ks : List Dt) : (outOf f v ks).length ≤ ks.length := by
  unfold outOf
  rw [List.length_map]
  exact List.length_filter_le _ _
theorem take_succ {α : Type} : ∀ {l : List α} {i : Nat} {x : α}, l[i]? = some x → l.take (i + 1) = l.take i ++ [x]
  | [], i, x, h => by simp at h
  | a :: l, 0, x, h => by
    have e : a = x := Option.some.inj h
    subst e; rfl
  | a :: l, i + 1, x, h => by
    have ih := take_succ (l := l) (i := i) (x := x) h
    show a :: l.take (i + 1) = a :: l.take i ++ [x]
    rw [ih]; rfl
theorem outOf_succ {f : Dt → Bool} {v : Dt → Dt} {i : Nat} (h : ks[i]? = some k) : (if f k = true then outOf f v (ks.take i) ++ [v k] else outOf f v (ks.take i)) = outOf f v (ks.take (i + 1)) := by
  rw [take_succ h]
  unfold outOf
  rw [List.filter_append, List.map_append, List.filter_cons]
  cases f k with
  | true => rfl
  | false => simp
/-- over a tuple -/
theorem el_lcT {vs : List Nat} (hs : Slots H σ ss) (f : Dt → Bool) (w : Dt → Dt) (h : Ed te σ H (.d (.tup ks))) (hz : ks.length < 50000) (ss' : Dt → List SV) (ht : ∀ k ∈ ks, Tg K g vs (wipeS ss vs) k (ss' k))
    (hb : ∀ k ∈ ks, ∀ σ2 H2, Same H H2 → Slots H2 σ2 (ss' k) → Eb t σ2 H2 (f k)) (he : ∀ k ∈ ks, f k = true → ∀ σ2 H2, Same H H2 → Slots H2 σ2 (ss' k) → Ed tx σ2 H2 (.d (w k))) :
    El (tLc (iTup K te) g t tx vs) σ H (· = outOf f w ks) := fun H0 e0 Q q => h H0 e0 _ fun v H1 e h1 => by
  obtain ⟨a, xs, rfl, h4, h5⟩ := Nd.tup_inv h1
  refine ⟨a, rfl, ⟨xs, SqT.of h4⟩, fun Dl hD => lc_tup (K := K) (a := a) (xs := xs) (fun i H' => Cw H1 Dl (outOf f w (ks.take i)) H') ⟨same_new hD, [], upd_same, .nil⟩ (fun i H' _ c => SqT.of (c.1 _ _ h4)) (fun i x H' hi c => ?_) (fun H' c => ?_)⟩
  · obtain ⟨k, hk, h6⟩ := h5.getV hi
    have hm : k ∈ ks := List.mem_of_getElem? hk
    have e1 := (e0.trans e).trans c.1
    have hi' : i < ks.length := (List.getElem?_eq_some_iff.mp hk).1
    refine ht k hm H' _ x ((hs.wipe vs).up e1) (h6.up c.1) _ fun σ' hs' hw => ⟨by rw [hw]; exact wipe_wipe _ _, ?_⟩
    show _
    have := cw_turn (t := t) (te := tx) (σ2 := σ') (f := f k) (kv := w k) hD c (Nat.lt_of_le_of_lt (outOf_len _ _ _) (by rw [List.length_take]; omega)) (hb k hm σ' H' e1 hs') (fun hf => he k hm hf σ' H' e1 hs')
    rw [outOf_succ hk] at this
    exact this
  · rw [h5.len, List.take_length] at c
    obtain ⟨c1, ys, c2, c3⟩ := c
    exact q Dl ys H' _ (same_back e hD) (e.trans c1) c2 c3 rfl
end
end SB
set_option maxRecDepth 100000
set_option maxHeartbeats 4000000
/-! Dicts whose keys are nested tuples; sorted(..) of such a dict. -/
namespace SB
open PySem L2 PyProof.Rows

section
variable {X : Cx} {pins : List (Addr × Obj)} {σ : L2.St} {H : Hp} {s : Shared}
mutual
theorem nd_is (I : Inv X pins σ H s) : ∀ (k : Dt) (v : V) (u : Value), Nd H v k → RelV v u → NestedIs s.heap k u
  | .none, _, _, h, r => by cases h; cases r; exact .none
  | .num i, _, _, h, r => by cases h; obtain ⟨t, rfl⟩ := r; exact .int _ _
  | .text x, _, _, h, r => by cases h; obtain ⟨t, rfl⟩ := r; exact .text _ _
  | .tup ks, _, _, h, r => by
    cases h with
    | tup h1 h2 =>
      cases r
      obtain ⟨its, rv, ⟨o, ho, hc, n, hd⟩, _⟩ := I.tuple (SqT.of h1)
      exact .tup ho hc hd (nd_iss I ks _ its h2 rv)
theorem nd_iss (I : Inv X pins σ H s) : ∀ (ks : List Dt) (vs : List V) (us : List Value), NdAll H vs ks → Vals vs us → NestedAll s.heap ks us
  | [], _, _, h, r => by cases h; cases r; exact .nil
  | k :: ks, _, _, h, r => by
    cases h with
    | cons h1 h2 =>
      cases r with
      | cons r1 r2 => exact .cons (nd_is I k _ _ h1 r1) (nd_iss I ks _ _ h2 r2)
end
end

/-- the dict's object by its entries (key, where the key stands, value) -/
def NRaw (P : Program) (w : World) (h : Heap) (d : Addr) (xs : List (Dt × Addr × Value)) : Prop := xs.length ≤ sizeLine ∧ (d == sysModules) = false ∧
  ∃ o es ep, h.get? d = some o ∧ o.ExactDict ∧ o.data = .dict es ep ∧ es.toList = xs.map (entryOfKey (nestedKind P w)) ∧ (xs.map (·.1)).Nodup
def NDict (P : Program) (w : World) (d : Addr) (xs : List (Dt × Addr × Value)) : HO := .ext fun h => NRaw P w h d xs
theorem nraw_at {P : Program} {w : World} {h h' : Heap} {d : Addr} {xs : List (Dt × Addr × Value)} (R : NRaw P w h d xs) (k : ∀ o, h.get? d = some o → h'.get? d = some o) : NRaw P w h' d xs := by
  obtain ⟨z, y, o, es, ep, e, c⟩ := R
  exact ⟨z, y, o, es, ep, k o e, c⟩
theorem ndict_new {P : Program} {w : World} {H : Hp} {h : Heap} {d : Addr} {xs : List (Dt × Addr × Value)} (R : NRaw P w h d xs) : ObjOk P w H h d (NDict P w d xs) := by
  obtain ⟨_, _, o, _, _, e, _⟩ := id R
  exact ⟨R, ⟨o, e⟩, fun h1 h2 q k => nraw_at q k⟩
/-- the dict at d: its keys in order -/
def DictAt (P : Program) (w : World) (H : Hp) (d : Addr) (ks : List Dt) : Prop := ∃ xs : List (Dt × Addr × Value), H d = some (NDict P w d xs) ∧ xs.map (·.1) = ks ∧ ∀ x ∈ xs, Nd H (.ref x.2.1) x.1 ∧ x.1.depth ≤ 8
theorem DictAt.move {P : Program} {w : World} {H H' : Hp} {d : Addr} {ks : List Dt} (h : DictAt P w H d ks) (t : Tx H H') (e : ∀ o, H d = some o → H' d = some o) : DictAt P w H' d ks := by
  obtain ⟨xs, h1, h2, h3⟩ := h
  exact ⟨xs, e _ h1, h2, fun x hx => ⟨(h3 x hx).1.tx t, (h3 x hx).2⟩⟩
theorem DictAt.up {P : Program} {w : World} {H H' : Hp} {d : Addr} {ks : List Dt} (h : DictAt P w H d ks) (e : Same H H') : DictAt P w H' d ks := h.move (tx_of e) fun o => e d o
theorem DictAt.noTup {P : Program} {w : World} {H : Hp} {d : Addr} {ks : List Dt} (h : DictAt P w H d ks) : ∀ xs, H d ≠ some (.tup xs) := by
  obtain ⟨xs, h1, _⟩ := h
  intro ys e
  rw [h1] at e
  cases e
section
variable {X : Cx} {pins : List (Addr × Obj)} {σ : L2.St} {H : Hp} {s : Shared}
theorem dict_of (I : Inv X pins σ H s) {d : Addr} {ks : List Dt} (h : DictAt X.prog X.w H d ks) : ks.length ≤ sizeLine ∧ (d == sysModules) = false ∧ ∃ xs, s.heap.DictOfH (nestedKind X.prog X.w) d xs ∧ xs.map (·.1) = ks ∧ ks.Nodup ∧ H d = some (NDict X.prog X.w d xs) ∧ ∀ x ∈ xs, Nd H (.ref x.2.1) x.1 ∧ x.1.depth ≤ 8 := by
  obtain ⟨xs, h1, h2, h3⟩ := h
  obtain ⟨⟨z, y, o, es, ep, e1, e2, e3, e4, e5⟩, _, _⟩ := (show ObjOk X.prog X.w H s.heap d (NDict X.prog X.w d xs) from I.hok d _ h1)
  refine ⟨by rw [← h2, List.length_map]; exact z, y, xs, ⟨o, es, ep, e1, e2, e3, e4, fun x hx => ?_, e5⟩, h2, by rw [← h2]; exact e5, h1, h3⟩
  exact ⟨nd_is I x.1 _ _ (h3 x hx).1 rfl, (h3 x hx).2⟩
theorem atKey_mem {K : Type} [DecidableEq K] (xs : List (K × Addr × Value)) (k : K) : (atKey xs k).isSome = decide (k ∈ xs.map (·.1)) := by
  rw [← any_pairsH, Bool.eq_iff_iff]
  simp only [List.any_eq_true, decide_eq_true_eq, List.mem_map]
  constructor
  · rintro ⟨x, hx, e⟩
    obtain ⟨y, hy, rfl⟩ := List.mem_map.mp hx
    exact ⟨y, hy, e⟩
  · rintro ⟨y, hy, e⟩
    exact ⟨(y.1, y.2.2), List.mem_map.mpr ⟨y, hy, rfl⟩, e⟩
def rInN (P : Program) (w : World) (neg : Bool) : R2 := fun x y H Q => ∃ (a d : Addr) (ks : List Dt) (k : Dt), x = .ref a ∧ y = .ref d ∧ DictAt P w H d ks ∧ Nd H (.ref a) k ∧ k.depth ≤ 8 ∧ Q (.bl (if neg then !decide (k ∈ ks) else decide (k ∈ ks))) H
theorem op_inN (hu : X.A.units + 64 < cLine) : OpR X (compareOp .In) (rInN X.prog X.w false) := by
  intro pins s σ H x y v u Q I rx ry h
  obtain ⟨a, d, ks, k, rfl, rfl, hd, hk, hk8, q⟩ := h
  cases rx; cases ry
  obtain ⟨_, lo, xs, dd, e, nd, _⟩ := dict_of I hd
  refine wpAny_in_heap (knd := nestedKind X.prog X.w) (show X.A.in1.units + 8 < cLine by rw [Around.in1_units]; omega) ⟨nd_is I k _ _ hk rfl, hk8⟩ lo dd ?_
  refine ⟨.bl _, H, I.tok _, rfl, ?_⟩
  rw [atKey_mem, e]
  exact q
theorem op_notInN (hu : X.A.units + 64 < cLine) : OpR X (compareOp .NotIn) (rInN X.prog X.w true) := by
  intro pins s σ H x y v u Q I rx ry h
  obtain ⟨a, d, ks, k, rfl, rfl, hd, hk, hk8, q⟩ := h
  cases rx; cases ry
  obtain ⟨_, lo, xs, dd, e, nd, _⟩ := dict_of I hd
  refine wpAny_notIn_heap (knd := nestedKind X.prog X.w) (show X.A.in1.units + 8 < cLine by rw [Around.in1_units]; omega) ⟨nd_is I k _ _ hk rfl, hk8⟩ lo dd ?_
  refine ⟨.bl _, H, I.tok _, rfl, ?_⟩
  rw [atKey_mem, e]
  exact q
/-- {} that is to hold such keys -/
def tDNewN (P : Program) (w : World) : TE := fun _ H Q => ∀ p, H p = none → Q (.ref p) (upd H p (NDict P w p []))
theorem pe_dnewN {pos : Pos} : PE X (.Dict [] [] pos) (tDNewN X.prog X.w) := ⟨fun _ s _ H _ I h =>
  wpAny_Dict_empty ⟨.ref s.heap.objs.size, _, I.laid (a := s.heap.objs.size) (o := NDict X.prog X.w s.heap.objs.size []) (t' := s.toks) (fun _ _ q => Heap.get?_push_of_some _ q) (Nat.le_refl _)
    (ndict_new ⟨Nat.zero_le _, beq_eq_false_iff_ne.mpr (Nat.ne_of_gt I.big), _, #[], 0, Heap.get?_push_size _ rfl, ⟨rfl, rfl, rfl⟩, rfl, rfl, List.nodup_nil⟩), rfl, h _ (I.hok.fresh (Nat.le_refl _))⟩⟩
theorem dictAt_new {P : Program} {w : World} {H : Hp} {p : Addr} : DictAt P w (upd H p (NDict P w p [])) p [] := ⟨[], upd_same, rfl, fun _ h => by cases h⟩
/-- d[k] = True, k not there -/
def rSetN (P : Program) (w : World) : TSet := fun o i v H Q => ∃ (d a : Addr) (ks : List Dt) (k : Dt), o = .ref d ∧ i = .ref a ∧ v = .bl true ∧ DictAt P w H d ks ∧ Nd H (.ref a) k ∧ k.depth ≤ 8 ∧ k ∉ ks ∧ ks.length < sizeLine ∧
  ∀ ob, DictAt P w (upd H d ob) d (ks ++ [k]) → Tx H (upd H d ob) → Q (upd H d ob)
theorem set_nd (hu : X.A.units + 64 < cLine) : PSet X (rSetN X.prog X.w) := by
  intro pins s σ H o i v ov iv u Q I ro ri rv h
  obtain ⟨d, a, ks, k, rfl, rfl, rfl, hd, hk, hk8, hn, hz, q⟩ := h
  cases ro; cases ri; cases rv
  obtain ⟨hl, lo, xs, dd, e, nd, hH, hx⟩ := dict_of I hd
  have hlen : xs.length = ks.length := by rw [← e, List.length_map]
  refine wpAny_setItem_heap (knd := nestedKind X.prog X.w) (hsz := by omega) (show X.A.in1.units + 8 < cLine by rw [Around.in1_units]; omega) ⟨nd_is I k _ _ hk rfl, hk8⟩ dd fun h' dd' hs => ?_
  have no : (xs.any fun x => decide (x.1 = k)) = false := by
    rw [List.any_eq_false]
    intro x hx'
    simp only [decide_eq_true_eq]
    intro z
    exact hn (by rw [← e, ← z]; exact List.mem_map.mpr ⟨x, hx', rfl⟩)
  have es : storedH xs k a (.bool true) = xs ++ [(k, a, .bool true)] := by
    unfold storedH
    cases hf : atKey xs k with
    | none => first | rfl | simp [hf]
    | some p =>
      have : (atKey xs k).isSome = true := by rw [hf]; rfl
      rw [atKey_mem] at this
      exact absurd (of_decide_eq_true this) (by rw [e]; exact hn)
  rw [es] at dd'
  obtain ⟨ob, es', ep, h1, h2, h3, h4, _, h5⟩ := dd'
  have new : NRaw X.prog X.w h' d (xs ++ [(k, a, .bool true)]) := ⟨by rw [List.length_append]; show xs.length + 1 ≤ _; omega, lo, ob, es', ep, h1, h2, h3, h4, h5⟩
  have tx : Tx H (upd H d (NDict X.prog X.w d (xs ++ [(k, a, .bool true)]))) := Tx.upd fun ys z => by rw [hH] at z; cases z
  refine ⟨_, d_write (t' := s.toks + (nestedKind X.prog X.w).draws k) I (by rw [hH]; exact True.intro) hs ⟨ob, h1⟩ (ndict_new (H := upd H d (NDict X.prog X.w d (xs ++ [(k, a, .bool true)]))) new), q _ ⟨_, upd_same, ?_, fun x hx' => ?_⟩ tx⟩
  · rw [List.map_append, e]; rfl
  · rcases List.mem_append.mp hx' with z | z
    · exact ⟨(hx x z).1.tx tx, (hx x z).2⟩
    · have : x = (k, a, .bool true) := by simpa using z
      subst this
      exact ⟨hk.tx tx, hk8⟩
/-! sorted(d): the keys in some order -/
def caseD (k : Dt) : Prop := ∃ (a b : Int) (l : List Int), k = .tup [.num a, .num b, .tup (nums l)]
theorem alike_case {k k' : Dt} (h : caseD k) (h' : caseD k') : PySem.W.alike k.data k'.data = true := by
  obtain ⟨a, b, l, rfl⟩ := h
  obtain ⟨a', b', l', rfl⟩ := h'
  have e : ∀ l : List Int, NestedKey.datas (nums l) = l.map .int := by
    intro l
    induction l with
    | nil => rfl
    | cons x l ih => show PyData.int x :: NestedKey.datas (nums l) = _; rw [ih]; rfl
  simp only [NestedKey.data, NestedKey.datas, PySem.W.alike, PySem.W.alikeAll, e, PySem.W.alike_ints, Bool.and_true]
def rSortedN (P : Program) (w : World) : List V → Hp → VK → Prop := fun vs H Q => ∃ (d : Addr) (ks : List Dt), vs = [.ref d] ∧ DictAt P w H d ks ∧ (∀ k ∈ ks, caseD k) ∧
  ∀ (p : Addr) (xs : List V) (js : List Dt), H p = none → js.Perm ks → NdAll (upd H p (.lst xs)) xs js → Q (.ref p) (upd H p (.lst xs))
end
section
variable {X : Cx} {pins : List (Addr × Obj)} {σ : L2.St} {H : Hp} {s : Shared}
/-- the items gathered: sorted(..)'s rest -/
def sortedRest (items : List Value) : Sem PySem.Fin := newList items >>= fun l => holding [l] (call (.builtin "list.sort") [l] []) >>= fun _ => ret l
theorem ndall_each {H : Hp} : ∀ {ks : List Dt} {ys : List V} {vs : List Value}, NdAll H ys ks → Vals ys vs → PySem.W.EachIs (fun v k => ∃ x, RelV x v ∧ Nd H x k) vs ks
  | _, _, _, .nil, .nil => .nil
  | _, _, _, .cons h t, .cons r q => .cons ⟨_, r, h⟩ (ndall_each t q)
theorem each_ndall {H : Hp} : ∀ {ks : List Dt} {vs : List Value}, PySem.W.EachIs (fun v k => ∃ x, RelV x v ∧ Nd H x k) vs ks → ∃ ys, Vals ys vs ∧ NdAll H ys ks
  | _, _, .nil => ⟨[], .nil, .nil⟩
  | _, _, .cons ⟨x, r, h⟩ t => by
    obtain ⟨ys, h1, h2⟩ := each_ndall t
    exact ⟨x :: ys, .cons r h1, .cons h h2⟩
theorem each_reads (I : Inv X pins σ H s) : ∀ {ks : List Dt} {ys : List V} {vs : List Value}, NdAll H ys ks → Vals ys vs → PySem.W.EachIs (fun v k => ∃ as, Reads s.heap v (NestedKey.data k) as) vs ks
  | _, _, _, .nil, .nil => .nil
  | _, _, _, .cons h t, .cons r q => .cons (Dp.reads I _ _ _ (Nd.dp (K := X.K) _ _ h) r) (each_reads I t q)
theorem sorted_rest {ks : List Dt} {ys : List V} {vs : List Value} {A' : Around} {E : Value → Shared → Prop} {Q : VK} (I : Inv X pins σ H s) (hn : NdAll H ys ks) (rv : Vals ys vs) (hal : PySem.W.AllAlike (ks.map NestedKey.data)) (hk : PySem.W.Sortable (ks.map NestedKey.data))
    (hu : ∀ k ∈ ks, A'.units + 2 + k.depth < cLine) (hz : ks.length ≤ sizeLine) (hdp : True)
    (q : ∀ (p : Addr) (xs : List V) (js : List Dt), H p = none → js.Perm ks → NdAll (upd H p (.lst xs)) xs js → Q (.ref p) (upd H p (.lst xs))) :
    wpAny (model X.prog X.w) A' (sortedRest vs) (fun f s' => ∃ u, f = .done (.ret u) ∧ EP X pins σ Q u s') E s := by
  have l1 : vs.length = ks.length := by rw [← rv.length, hn.len]
  unfold sortedRest
  refine wpAny_bind (wpAny_newList ?_ (by omega))
  have hoL : (s.heap.push (seqObj "list" vs.toArray 0)).get? s.heap.objs.size = some (seqObj "list" vs.toArray 0) := Heap.get?_push_size _ rfl
  show wpAny _ _ _ _ _ { s with heap := s.heap.push (seqObj "list" vs.toArray 0) }
  have er := each_reads I hn rv
  have er' : PySem.W.EachIs (fun v k => ∃ as, Reads (PySem.W.sortingHeap (s.heap.push (seqObj "list" vs.toArray 0)) s.heap.objs.size vs) v (NestedKey.data k) as) vs ks := er.mono fun _ _ ⟨as, r⟩ => ⟨as, PyProof.Rows.Reads.keeps (fun b o e => by
    have hb : b < s.heap.objs.size := Heap.lt_size e
    exact PySem.W.sortingHeap_old (Nat.ne_of_lt hb) (Heap.get?_push_of_some _ e)) r⟩
  refine wpAny_bind (wpAny_holding (wpAny_call_entry PyProof.Rows.slot_list_sort ⟨_, hoL, rfl⟩ PyProof.Rows.entry_list_sort
    (PySem.W.list_sort_vals (s := { s with heap := s.heap.push (seqObj "list" vs.toArray 0) }) (κ := PySem.W.dataKind (PySem.W.sortingHeap (s.heap.push (seqObj "list" vs.toArray 0)) s.heap.objs.size vs) (ks.map NestedKey.data)) hoL
      (PySem.W.SortsAt.data (s := { s with heap := PySem.W.sortingHeap (s.heap.push (seqObj "list" vs.toArray 0)) s.heap.objs.size vs }) (PySem.W.each_map (R := fun v d => ∃ as, Reads (PySem.W.sortingHeap (s.heap.push (seqObj "list" vs.toArray 0)) s.heap.objs.size vs) v d as) NestedKey.data er') hal hk ?hub) (by omega) ⟨.none, rfl, ?fin⟩) (PyProof.Rows.args_list_sort _)))
  case hub =>
    intro d hd
    obtain ⟨k, hk', rfl⟩ := List.mem_map.mp hd
    have := hu k hk'
    rw [depth_data]
    simp only [Around.in1_units]
    omega
  case fin =>
    have eo := PySem.W.sortVals_data (h' := PySem.W.sortingHeap (s.heap.push (seqObj "list" vs.toArray 0)) s.heap.objs.size vs) (R := fun v k => ∃ x, RelV x v ∧ Nd H x k) (enc := NestedKey.data) false (ndall_each hn rv) er' hal
    obtain ⟨xs, rx, hx⟩ := each_ndall eo
    have hfree : H s.heap.objs.size = none := I.hok.fresh (Nat.le_refl _)
    obtain ⟨e', he'⟩ := PyProof.Rows.sortedHeap_at (vs := vs) (out := (PySem.W.sortVals (PySem.W.dataKind (PySem.W.sortingHeap (s.heap.push (seqObj "list" vs.toArray 0)) s.heap.objs.size vs) (ks.map NestedKey.data)) false vs vs).toArray) hoL
    have pm := List.mergeSort_perm ks (PySem.W.dataLe false NestedKey.data)
    have lx : xs.length ≤ sizeLine := by rw [hx.len, pm.length_eq]; exact hz
    refine wpAny_pure ⟨_, rfl, .ref s.heap.objs.size, upd H s.heap.objs.size (.lst xs), I.laid (t' := s.toks) (fun b u e => ?_) (Nat.le_refl _) ?_, rfl, q _ xs _ hfree pm (hx.tx (tx_of (same_new hfree)))⟩
    · have hb : b < s.heap.objs.size := Heap.lt_size e
      rw [PyProof.Rows.sortedHeap_old (Nat.ne_of_lt hb) (by rw [size_push']; exact Nat.lt_succ_of_lt hb)]
      exact Heap.get?_push_of_some _ e
    · exact ⟨lx, _, e', rx, he'⟩
theorem allAlike_of {ks : List Dt} (h : ∀ k ∈ ks, ∀ k' ∈ ks, PySem.W.alike k.data k'.data = true) : PySem.W.AllAlike (ks.map NestedKey.data) := by
  intro d hd d' hd'
  obtain ⟨k, hk, rfl⟩ := List.mem_map.mp hd
  obtain ⟨k', hk', rfl⟩ := List.mem_map.mp hd'
  exact h k hk k' hk'
theorem cr_sortedN (hc : X.calm = true) (hu : X.A.units + 64 < cLine) : CallR X (.builtin "sorted") (rSortedN X.prog X.w) := by
  intro pins s σ H xs us Q I r q
  obtain ⟨d, ks, rfl, hd, hcs, q⟩ := q
  obtain ⟨u, rfl, rx⟩ := vals1 r
  cases rx
  obtain ⟨z, lo, xs, ⟨o, es, ep, ho, hx, hdt, he, his, hn⟩, e, nd, hH, hkx⟩ := dict_of I hd
  have l1 : es.size = xs.length := size_of_entries he
  have l2 : xs.length = ks.length := by rw [← e, List.length_map]
  refine Calls.call_function_entry PyProof.Rows.kind_sorted PyProof.Rows.plain_sorted PyProof.Rows.entry_sorted (PyProof.Rows.args_sorted1 _) ?_
  unfold Builtin.«sorted»
  refine wpAny_bind (m := checkCount "sorted" 1 1 _) (wpAny_pure ?_)
  refine wpAny_bind (PySem.W.kdu_collect (A := X.A.in1) (kdl_raw lo hx hdt) (I.ok.hd hc) ho (by omega) fun h' tk acc hk it => ?_)
  have ea : acc.toList = (xs.map fun x => x.2.1).map Value.ref := by
    rw [List.map_map]
    have hl : acc.toList.length = xs.length := by rw [Array.length_toList, it.1]; exact l1
    apply List.ext_getElem?
    intro j
    rw [List.getElem?_map]
    cases hj : acc.toList[j]? with
    | none =>
      have h1 := List.getElem?_eq_none_iff.mp hj
      rw [List.getElem?_eq_none (by omega)]
      all_goals rfl
    | some v =>
      obtain ⟨en, hen, hv⟩ := it.2 j v (by rw [← Array.getElem?_toList]; exact hj)
      have qe := entry_at he j
      rw [hen] at qe
      cases hb : xs[j]? with
      | none =>
        rw [hb] at qe
        exact nomatch (show some en = none from qe)
      | some b =>
        rw [hb] at qe
        have e2 : en = entryOfKey (nestedKind X.prog X.w) b := Option.some.inj qe
        rw [hv, e2]
        all_goals rfl
  have I1 : Inv X pins σ H { s with heap := h', toks := tk } := I.kept hk
  have hnd : NdAll H ((xs.map fun x => x.2.1).map V.ref) ks := by
    rw [← e]
    clear ea it he hn his l1 l2 e nd hH q hd hcs
    induction xs with
    | nil => exact .nil
    | cons x xs ih => exact .cons (hkx x List.mem_cons_self).1 (ih fun y hy => hkx y (List.mem_cons_of_mem _ hy))
  have rv : Vals ((xs.map fun x => x.2.1).map V.ref) acc.toList := by rw [ea]; exact vals_refs _
  refine sorted_rest (A' := X.A.in1) I1 hnd rv (allAlike_of fun k hk k' hk' => alike_case (hcs k hk) (hcs k' hk')) (.inl fun dd hdd => ?_) (fun k hk => ?_) z trivial q
  · obtain ⟨k, hk, rfl⟩ := List.mem_map.mp hdd
    obtain ⟨a, b, l, rfl⟩ := hcs k hk
    exact ⟨_, _, rfl⟩
  · obtain ⟨x, hx', rfl⟩ := List.mem_map.mp (by rw [← e] at hk; exact hk)
    have := (hkx x hx').2
    rw [Around.in1_units]
    omega
end
end SB
set_option maxRecDepth 100000
set_option maxHeartbeats 8000000
/-! set(xs) of a list or a tuple, whatever its items are: by a family J of what the set is after i items. -/
namespace SB
open PySem L2 PyProof.Rows
section
variable {P : Program} {w : World} {A : Around} {E : Value → Shared → Prop}

/-- the loop that puts what an iterator gives into the set at S -/
theorem set_loop {I S : Addr} {fp wr : List Addr} {n : Nat} {Pv : Nat → Value → Prop} {St : Nat → Heap → Prop} (W : Walks P w A.in1 I fp wr n Pv St) (hS : S ∉ fp) (J : Nat → Heap → Prop)
    (stay : ∀ i h h', J i h → (∀ o, h.get? S = some o → h'.get? S = some o) → J i h')
    (step : ∀ i v (s : Shared) (B : Around) (F : Value → Shared → Prop) (Q : Bool → Shared → Prop), i < n → Pv i v → J i s.heap → (∀ h' tk b, Heap.SameBut S s.heap h' → J (i + 1) h' → Q b { s with heap := h', toks := tk }) → wpAny (model P w) B (setAdd S v) Q F s) :
    ∀ (k i : Nat) (s : Shared) (R : Result → Shared → Prop), n - i = k → i ≤ n → St i s.heap → J i s.heap →
      (∀ h' tk, (∀ b o, b ∉ S :: wr → s.heap.get? b = some o → h'.get? b = some o) → J n h' → R (.ok (.ret .none)) { s with heap := h', toks := tk }) →
      codeAny (model P w) A (.builtin "set.update.loop" ⟨[.ref S, .ref I], []⟩) R s := by
  have hSw : S ∉ wr := fun z => hS (W.sub _ z)
  intro k
  induction k with
  | zero =>
    intro i s R hk hi st j hR
    obtain rfl : i = n := by omega
    refine codeAny_builtin F.entry_set_update_loop ?_
    rw [Around.under_plainId F.plain_set_update_loop _]
    show wpAny (model P w) A.in1 (pyNext (.ref I) >>= _) _ _ s
    refine wpAny_bind (W.done s _ _ st fun h' tk keep => ?_)
    refine wpAny_pure (hR h' tk (fun b o hb e => keep b o (fun z => hb (List.mem_cons_of_mem _ z)) e) (stay _ _ _ j fun o e => keep S o hSw e))
  | succ k ih =>
    intro i s R hk hi st j hR
    have hlt : i < n := by omega
    refine codeAny_builtin F.entry_set_update_loop ?_
    rw [Around.under_plainId F.plain_set_update_loop _]
    show wpAny (model P w) A.in1 (pyNext (.ref I) >>= _) _ _ s
    refine wpAny_bind (W.item i s _ _ hlt st fun v h1 tk1 pv st1 keep => ?_)
    have j1 : J i h1 := stay _ _ _ j fun o e => keep S o hSw e
    show wpAny (model P w) A.in1 (holding [v] (setAdd S v) >>= _) _ _ { s with heap := h1, toks := tk1 }
    refine wpAny_bind (wpAny_holding (step i v { s with heap := h1, toks := tk1 } _ _ _ hlt pv j1 fun h2 tk2 b sb j2 => ?_))
    refine wpAny_pure ⟨plainId_quiet F.plain_set_update_loop _, ih (i + 1) { s with heap := h2, toks := tk2 } R (by omega) hlt (W.frame _ _ _ st1 fun b' hb o e => ?_) j2 fun h3 tk3 keep3 j3 => ?_⟩
    · exact (sb.2 b' fun z => hS (by rw [← z]; exact hb)).trans e
    · refine hR h3 tk3 (fun b' o hb e => keep3 b' o hb ?_) j3
      exact (sb.2 b' fun z => hb (by rw [z]; exact List.mem_cons_self)).trans (keep b' o (fun z => hb (List.mem_cons_of_mem _ z)) e)

/-- the set as it is made -/
def newSetObj (w : World) : Obj := { cls := .type "set", dict := none, data := .set #[] 0 (.fresh 0 0 (!w.params.followText "set-order")) }
/-- a sequence's object, as set() looks at it -/
structure SeqFor (T : String) : Prop where
  s1 : isSubtype (.type T) (.type "set") = pure false
  s2 : isSubtype (.type T) (.type "frozenset") = pure false
  s3 : (Value.type T == Value.type "dict") = false
theorem seq_list : SeqFor "list" := ⟨PySem.F.sub_list_set, PySem.F.sub_list_frozenset, by decide⟩
theorem seq_tuple : SeqFor "tuple" := ⟨PySem.F.sub_tuple_set, PySem.F.sub_tuple_frozenset, by decide⟩

theorem set_init {s : Shared} {T : String} {l S : Addr} {n : Nat} {Pv : Nat → Value → Prop} (hT : SeqFor T) (J : Nat → Heap → Prop) {R : PySem.Fin → Shared → Prop} {od : Option Addr} {items : Array Value} {nl : Nat} {sl : Array (Option Value)} (hS : s.heap.get? S = some { cls := .type "set", dict := none, data := .set #[] 0 (.fresh 0 0 (!w.params.followText "set-order")) }) (hol : s.heap.get? l = some { cls := .type T, dict := od, data := .seq items nl, slots := sl })
    (it : ∀ {Q : Value → Shared → Prop} {B : Around} {F : Value → Shared → Prop}, (∀ (h1 : Heap) (I : Addr) (fp wr : List Addr) (St : Nat → Heap → Prop), (∀ b o, s.heap.get? b = some o → h1.get? b = some o) → S ∉ fp → (∀ b ∈ wr, s.heap.objs.size ≤ b) →
      (∀ C : Around, C.handled = none → Walks P w C I fp wr n Pv St) → St 0 h1 → Q (.ref I) { s with heap := h1 }) → wpAny (model P w) B (pyIter (.ref l)) Q F s)
    (hh : A.handled = none) (stay : ∀ i h h', J i h → (∀ o, h.get? S = some o → h'.get? S = some o) → J i h')
    (step : ∀ i v (s : Shared) (B : Around) (F : Value → Shared → Prop) (Q : Bool → Shared → Prop), i < n → Pv i v → J i s.heap → (∀ h' tk b, Heap.SameBut S s.heap h' → J (i + 1) h' → Q b { s with heap := h', toks := tk }) → wpAny (model P w) B (setAdd S v) Q F s)
    (j0 : J 0 s.heap) (hR : ∀ h' tk, (∀ b o, b ≠ S → s.heap.get? b = some o → h'.get? b = some o) → J n h' → R (.done (.ret .none)) { s with heap := h', toks := tk }) :
    wpAny (model P w) A (Builtin.«set.__init__» ⟨[.ref S, .ref l], []⟩) R E s := by
  have h1 := hT.s1
  have h2 := hT.s2
  have h3 := hT.s3
  unfold Builtin.«set.__init__» noKeywords Builtin.Frozenset.updateFrom
  generalize hPI : pyIter = PI
  wp_walk
  subst hPI
  refine it fun h1 I fp wr St k1 hSf hwr hW st => ?_
  refine wpAny_bind (wpAny_runValue ?_)
  have hh' : A.in1.handled = none := by simp [hh]
  refine set_loop (hW _ hh') hSf J stay step (n - 0) 0 { s with heap := h1 } _ rfl (Nat.zero_le _) st (stay _ _ _ j0 fun o e => k1 _ _ e) fun h' tk keep j => ?_
  refine wpAny_pure ?_
  show wpAny (model P w) A (ret Value.none) R E _
  refine wpAny_pure (hR h' tk (fun b o hb e => keep b o (fun z => ?_) (k1 _ _ e)) j)
  rcases List.mem_cons.mp z with z | z
  · exact hb z
  · exact absurd (Heap.lt_size e) (Nat.not_lt_of_le (hwr b z))

/-- set(l), l at an object of the type T whose walk is known -/
theorem call_set_by {s : Shared} {T : String} {l : Addr} {n : Nat} {Pv : Nat → Value → Prop} (hT : SeqFor T) (J : Nat → Heap → Prop) {Q : Value → Shared → Prop} {od : Option Addr} {items : Array Value} {nl : Nat} {sl : Array (Option Value)}
    (hol : s.heap.get? l = some { cls := .type T, dict := od, data := .seq items nl, slots := sl })
    (it : ∀ (s1 : Shared), s1.heap = s.heap.push (newSetObj w) → ∀ {Q : Value → Shared → Prop} {B : Around} {F : Value → Shared → Prop}, (∀ (h1 : Heap) (I : Addr) (fp wr : List Addr) (St : Nat → Heap → Prop), (∀ b o, s1.heap.get? b = some o → h1.get? b = some o) → s.heap.objs.size ∉ fp → (∀ b ∈ wr, s1.heap.objs.size ≤ b) →
      (∀ C : Around, C.handled = none → Walks P w C I fp wr n Pv St) → St 0 h1 → Q (.ref I) { s1 with heap := h1 }) → wpAny (model P w) B (pyIter (.ref l)) Q F s1)
    (hh : A.handled = none) (stay : ∀ i h h', J i h → (∀ o, h.get? s.heap.objs.size = some o → h'.get? s.heap.objs.size = some o) → J i h')
    (step : ∀ i v (s1 : Shared) (B : Around) (F : Value → Shared → Prop) (Q : Bool → Shared → Prop), i < n → Pv i v → J i s1.heap → (∀ h' tk b, Heap.SameBut s.heap.objs.size s1.heap h' → J (i + 1) h' → Q b { s1 with heap := h', toks := tk }) → wpAny (model P w) B (setAdd s.heap.objs.size v) Q F s1)
    (j0 : ∀ h : Heap, h.get? s.heap.objs.size = some (newSetObj w) → J 0 h) (hR : ∀ h' tk, (∀ b o, s.heap.get? b = some o → h'.get? b = some o) → J n h' → Q (.ref s.heap.objs.size) { s with heap := h', toks := tk }) :
    wpAny (model P w) A (call (.type "set") [.ref l]) Q E s := by
  obtain ⟨c, tl, hmro⟩ := PySem.F.called_set.mro
  have hmade := PySem.F.called_set.made
  have hsub := PySem.F.called_set.sub
  have h1 := PySem.F.called_set.notType
  have h2 := PySem.F.called_set.canCreate
  have hct := PySem.F.typeCall_set_1 (.ref l)
  refine wpAny_call (codeAny_of_tree ?_)
  show wpAny _ _ (callAny (.type "set") _) _ _ _
  refine wpAny_pure ⟨Code.quiet_builtin _ (by decide +kernel), codeAny_builtin PySem.F.entry_type_call ?_⟩
  rw [Around.under_plain (weight_type_call_type "set" [.ref l] []) rfl]
  repeat (any_goals (first | assumption | wp_step))
  refine codeAny_mono (code_set_led1 (.ref l) (E := E) (Q₁ := fun ob s1 => ob = .ref s.heap.objs.size ∧ s1 = { s with heap := s.heap.push (newSetObj w) }) ⟨rfl, rfl⟩) fun r s1 hr => ?_
  cases r with
  | error e => exact hr
  | ok fl =>
    cases fl with
    | ret ob =>
      obtain ⟨rfl, rfl⟩ := hr
      have hS : (s.heap.push (newSetObj w)).get? s.heap.objs.size = some { cls := .type "set", dict := none, data := .set #[] 0 (.fresh 0 0 (!w.params.followText "set-order")) } := Heap.get?_push_size _ rfl
      have hTy : Shared.TypeIs { s with heap := s.heap.push (newSetObj w) } (.ref s.heap.objs.size) "set" := ⟨_, hS, rfl⟩
      have hli := PySem.F.called_set.init.lookup
      have hbi := PySem.F.called_set.init.bind (.ref s.heap.objs.size)
      repeat (any_goals (first | assumption | wp_step))
      refine codeAny_mono (codeAny_call_builtin (R := wants (fun r s2 => r = .none ∧ Q (.ref s.heap.objs.size) s2) E) PySem.F.called_set.init.plain PySem.F.entry_set_init (check_set_init_1 hTy ?_)) fun r2 s2 hr2 => ?_
      · refine set_init (s := { s with heap := s.heap.push (newSetObj w) }) hT J hS (Heap.get?_push_of_some _ hol) (fun {Q B F} h => it _ rfl h) (by simp [hh]) stay step (j0 _ hS) fun h' tk keep j => ?_
        exact ⟨rfl, hR h' tk (fun b o e => keep b o (Nat.ne_of_lt (Heap.lt_size e)) (Heap.get?_push_of_some _ e)) j⟩
      · cases r2 with
        | error e => exact hr2
        | ok f2 =>
          cases f2 with
          | ret r =>
            obtain ⟨rfl, q⟩ := hr2
            repeat (any_goals (first | assumption | wp_step))
          | _ => exact hr2.elim
    | _ => exact hr.elim
end
end SB
set_option maxRecDepth 100000
set_option maxHeartbeats 8000000
/-! Sets of the ints 0, 1, 2, 3: the table is known whole. -/
namespace SB
open PySem L2 PyProof.Rows

def four (S : Nat → Bool) : List Nat := (List.range 4).filter S
def with1 (S : Nat → Bool) (k : Nat) : Nat → Bool := fun j => S j || j == k
theorem four_eq (S : Nat → Bool) : four S = (if S 0 then [0] else []) ++ ((if S 1 then [1] else []) ++ ((if S 2 then [2] else []) ++ (if S 3 then [3] else []))) := by
  unfold four
  show List.filter S [0, 1, 2, 3] = _
  simp only [List.filter]
  cases S 0 <;> cases S 1 <;> cases S 2 <;> cases S 3 <;> rfl
theorem four_mem {S : Nat → Bool} {k : Nat} : k ∈ four S ↔ k < 4 ∧ S k = true := by
  unfold four
  rw [List.mem_filter, List.mem_range]
theorem insert_list {α : Type} (xs : Array α) (p : Nat) (y : α) (hp : p ≤ xs.size) : (SetTable.insertAt xs p y).toList = xs.toList.take p ++ y :: xs.toList.drop p := by
  unfold SetTable.insertAt
  simp only [Array.toList_append, Array.toList_push, Array.toList_extract, List.extract_eq_drop_take, List.drop_zero, Nat.sub_zero, List.append_assoc, List.cons_append, List.nil_append]
  rw [List.take_of_length_le (l := List.drop p xs.toList) (by rw [List.length_drop, Array.length_toList]; exact Nat.le_refl _)]
theorem four_cases (Pr : (Nat → Bool) → Prop) (S : Nat → Bool) (ext : ∀ S S' : Nat → Bool, (∀ j, j < 4 → S j = S' j) → Pr S → Pr S') (h : ∀ b0 b1 b2 b3 : Bool, Pr (fun j => match j with | 0 => b0 | 1 => b1 | 2 => b2 | 3 => b3 | _ => false)) : Pr S := by
  refine ext _ S (fun j hj => ?_) (h (S 0) (S 1) (S 2) (S 3))
  match j, hj with
  | 0, _ => rfl
  | 1, _ => rfl
  | 2, _ => rfl
  | 3, _ => rfl
theorem four_ext {S S' : Nat → Bool} (h : ∀ j, j < 4 → S j = S' j) : four S = four S' := by
  rw [four_eq, four_eq, h 0 (by omega), h 1 (by omega), h 2 (by omega), h 3 (by omega)]
/-- where the new one goes -/
theorem put_four (S : Nat → Bool) (k : Nat) (hk : k < 4) (hS : S k = false) (t : SetTable) (m : t.mask = 7) (d : t.dummies = #[]) (pl : t.place = (four S).toArray) :
    t.freeSlot (k : Int) = some (k, false) ∧ SetTable.below t.place k ≤ (four S).length ∧ t.put k = ({ t with place := (four (with1 S k)).toArray }, SetTable.below t.place k) ∧
      (four S).take (SetTable.below t.place k) ++ k :: (four S).drop (SetTable.below t.place k) = four (with1 S k) := by
  obtain ⟨mask, place, dummies, finger, led, moves, plain⟩ := t
  simp only at m d pl
  subst m d
  have e1 := four_eq S
  have e2 := four_eq (with1 S k)
  unfold with1 at e2
  simp only [pl, e1]
  unfold with1
  rw [e2]
  clear e1 e2 pl
  match k, hk with
  | 0, _ =>
    rw [hS]
    generalize S 1 = b1; generalize S 2 = b2; generalize S 3 = b3
    cases b1 <;> cases b2 <;> cases b3 <;> exact ⟨by kernel_rfl, by decide +kernel, by kernel_rfl, by kernel_rfl⟩
  | 1, _ =>
    rw [hS]
    generalize S 0 = b1; generalize S 2 = b2; generalize S 3 = b3
    cases b1 <;> cases b2 <;> cases b3 <;> exact ⟨by kernel_rfl, by decide +kernel, by kernel_rfl, by kernel_rfl⟩
  | 2, _ =>
    rw [hS]
    generalize S 0 = b1; generalize S 1 = b2; generalize S 3 = b3
    cases b1 <;> cases b2 <;> cases b3 <;> exact ⟨by kernel_rfl, by decide +kernel, by kernel_rfl, by kernel_rfl⟩
  | 3, _ =>
    rw [hS]
    generalize S 0 = b1; generalize S 1 = b2; generalize S 2 = b3
    cases b1 <;> cases b2 <;> cases b3 <;> exact ⟨by kernel_rfl, by decide +kernel, by kernel_rfl, by kernel_rfl⟩

/-- the set of the ints of S at a -/
def SmallE (e : Int × Value) : Prop := ∃ k : Nat, k < 4 ∧ e.1 = (k : Int) ∧ ∃ tk, e.2 = .int (k : Int) tk
structure SetC (w : World) (h : Heap) (a : Addr) (S : Nat → Bool) : Prop where
  ex : ∃ o es ep t, h.get? a = some o ∧ o.ExactSet ∧ o.data = .set es ep t ∧ (∀ e ∈ es.toList, SmallE e) ∧ es.toList.map (·.1) = (four S).map (fun k : Nat => (k : Int)) ∧ t.mask = 7 ∧ t.dummies = #[] ∧ t.plain = true ∧ t.place = (four S).toArray ∧ (w.params.followText "set-order" = true ∨ t.led = true)
theorem SetC.at {w : World} {h h' : Heap} {a : Addr} {S : Nat → Bool} (R : SetC w h a S) (k : ∀ o, h.get? a = some o → h'.get? a = some o) : SetC w h' a S := by
  obtain ⟨o, es, ep, t, ho, r⟩ := R.ex
  exact ⟨o, es, ep, t, k o ho, r⟩
theorem SetC.congr {w : World} {h : Heap} {a : Addr} {S S' : Nat → Bool} (R : SetC w h a S) (e : ∀ j, j < 4 → S j = S' j) : SetC w h a S' := by
  obtain ⟨o, es, ep, t, ho, h1, h2, h3, h4, h5, h6, h7, h8, h9⟩ := R.ex
  exact ⟨o, es, ep, t, ho, h1, h2, h3, by rw [h4, four_ext e], h5, h6, h7, by rw [h8, four_ext e], h9⟩
theorem four_len (S : Nat → Bool) : (four S).length ≤ 4 := by
  unfold four
  exact Nat.le_trans (List.length_filter_le _ _) (by simp)
theorem setC_new {w : World} {h : Heap} {a : Addr} (e : h.get? a = some (newSetObj w)) : SetC w h a (fun _ => false) :=
  ⟨_, #[], 0, _, e, ⟨rfl, rfl, rfl⟩, rfl, (fun e he => by simp at he), (by rfl), rfl, rfl, rfl, rfl, by
    show _ ∨ (!w.params.followText "set-order") = true
    cases w.params.followText "set-order"
    · exact .inr rfl
    · exact .inl rfl⟩
theorem hash_small (k : Nat) (hk : k < 4) : hashInt (k : Int) = (k : Int) := by
  match k, hk with
  | 0, _ => decide +kernel
  | 1, _ => decide +kernel
  | 2, _ => decide +kernel
  | 3, _ => decide +kernel
theorem small_elems {P : Program} {w : World} {l : List (Int × Value)} (g : ∀ e ∈ l, SmallE e) : ElemsOf (intKind P w) l := fun e he => by
  obtain ⟨k, hk, h1, tk, h2⟩ := g e he
  refine ⟨⟨(k : Int), by rw [h2]; exact intKind_is P w _ tk, ?_⟩, by rw [h2]; rfl⟩
  rw [h1]
  exact (hash_small k hk).symm
theorem small_find {P : Program} {w : World} {S : Nat → Bool} {k : Nat} (hk : k < 4) : ∀ {l : List (Int × Value)} {ks : List Nat}, (∀ e ∈ l, SmallE e) → l.map (·.1) = ks.map (fun k : Nat => (k : Int)) → ((l.findIdx? fun e => (intKind P w).is (k : Int) e.2).isSome = decide (k ∈ ks))
  | [], ks, _, e => by
    cases ks with
    | nil => rfl
    | cons _ _ => cases e
  | x :: l, ks, g, e => by
    cases ks with
    | nil => cases e
    | cons y ks =>
      have ih := small_find (P := P) (w := w) (S := S) (k := k) hk (l := l) (ks := ks) (fun e he => g e (List.mem_cons_of_mem _ he)) (by simpa using (List.cons.inj e).2)
      obtain ⟨j, hj, h1, tk, h2⟩ := g x List.mem_cons_self
      have e1 : (j : Int) = (y : Int) := by rw [← h1]; exact (List.cons.inj e).1
      have e2 : j = y := by omega
      subst e2
      rw [List.findIdx?_cons]
      by_cases q : k = j
      · subst q
        have : (intKind P w).is (k : Int) x.2 = true := by rw [h2]; exact intKind_is P w _ tk
        rw [if_pos this]
        simp
      · have hn : (intKind P w).is (k : Int) x.2 = false := by
          rw [h2]
          show (((j : Nat) : Int) == ((k : Nat) : Int)) = false
          exact beq_eq_false_iff_ne.mpr (by omega)
        rw [if_neg (by rw [hn]; exact Bool.false_ne_true), Option.isSome_map, ih]
        simp [q]
section
variable {P : Program} {w : World} {A : Around} {E : Value → Shared → Prop} {s : Shared} {a : Addr} {S : Nat → Bool}
theorem setC_add_hashed {k : Nat} {tk : Tok} {Q : Bool → Shared → Prop} (hk : k < 4) (R : SetC w s.heap a S)
    (hQ : ∀ h', Heap.SameBut a s.heap h' → SetC w h' a (with1 S k) → Q (!S k) { s with heap := h' }) :
    wpAny (model P w) A (setAddHashed a (.int (k : Int) tk) (k : Int)) Q E s := by
  obtain ⟨o, es, ep, t, ho, hex, hd, g, hm, m7, dm, hp, pl, hl⟩ := R.ex
  have hsz : es.size = (four S).length := by
    have := congrArg List.length hm
    simpa using this
  have h4 := four_len S
  have hf : t.fits es.size = true := by
    simp only [SetTable.fits, SetTable.fill, pl, m7, dm, Bool.and_eq_true, beq_iff_eq, decide_eq_true_eq]
    exact ⟨by simp [hsz], by simp; omega⟩
  have hel : ElemsOf (intKind P w) es.toList := small_elems g
  have hb : es.size < scanBound := by show es.size < 4096; omega
  have hsc : (Value.int (k : Int) tk).scannable = true := rfl
  unfold setAddHashed setAddHashedIn
  refine wpAny_holding (wpAny_bind (wpAny_setState_of ho hd hf ?_))
  dsimp only
  rw [byScan_of hsc hb hel]
  simp only [↓reduceIte]
  unfold setAddByScan
  refine wpAny_bind (wpAny_bind (wpAny_rule ?_))
  have eh : (intKind P w).hash (k : Int) = (k : Int) := hash_small k hk
  have scan : ∀ {Q' : ScanMet → Shared → Prop}, Q' (match es.toList.findIdx? (fun e => (intKind P w).is (k : Int) e.2) with | some j => .found (0 + j) | none => .absent) s → wpAny (model P w) A (setScan a (.int (k : Int) tk) (k : Int) true es) Q' E s := fun {Q'} q => by
    have := wpAny_setScan_of (knd := intKind P w) (k := (k : Int)) (x := .int (k : Int) tk) (adding := true) (A := A) (E := E) (Q := Q') (intKind_is P w _ tk) ho hd hf hel q
    rw [eh] at this
    exact this
  refine wpAny_bind (scan ?_)
  have sm := small_find (P := P) (w := w) (S := S) hk g hm
  have sk : decide (k ∈ four S) = S k := by
    cases q : S k with
    | true => exact decide_eq_true (four_mem.mpr ⟨hk, q⟩)
    | false => exact decide_eq_false fun z => by rw [(four_mem.mp z).2] at q; cases q
  rw [sk] at sm
  cases hfi : es.toList.findIdx? (fun e => (intKind P w).is (k : Int) e.2) with
  | some j =>
    rw [hfi] at sm
    have hSk : S k = true := sm.symm
    dsimp only
    refine wpAny_pure (wpAny_pure ?_)
    have q := hQ s.heap (Heap.SameBut.refl a s.heap) (R.congr fun j hj => by
      unfold with1
      by_cases e : j = k
      · subst e; rw [hSk]; rfl
      · have e' : (j == k) = false := beq_eq_false_iff_ne.mpr e
        rw [e', Bool.or_false])
    rw [hSk] at q
    exact q
  | none =>
    rw [hfi] at sm
    have hSk : S k = false := sm.symm
    dsimp only
    obtain ⟨f1, f2, f3, f4⟩ := put_four S k hk hSk t m7 dm pl
    have hp1 : (SetTable.insertAt es (SetTable.below t.place k) ((k : Int), Value.int (k : Int) tk)).toList = es.toList.take (SetTable.below t.place k) ++ ((k : Int), Value.int (k : Int) tk) :: es.toList.drop (SetTable.below t.place k) := insert_list _ _ _ (by omega)
    have hsz1 : (SetTable.insertAt es (SetTable.below t.place k) ((k : Int), Value.int (k : Int) tk)).size = es.size + 1 := by
      have := congrArg List.length hp1
      simp only [Array.length_toList, List.length_append, List.length_take, List.length_cons, List.length_drop] at this
      omega
    have hl1 : (four (with1 S k)).length = (four S).length + 1 := by
      have := congrArg List.length f4
      simp only [List.length_append, List.length_take, List.length_cons, List.length_drop] at this
      omega
    have h41 := four_len (with1 S k)
    have hf1 : ({ t with place := (four (with1 S k)).toArray } : SetTable).fits (es.size + 1) = true := by
      simp only [SetTable.fits, SetTable.fill, m7, dm, Bool.and_eq_true, beq_iff_eq, decide_eq_true_eq]
      exact ⟨by simp [hsz, hl1], by simp; omega⟩
    have lay : layNew t es (k : Int) (.int (k : Int) tk) = (SetTable.insertAt es (SetTable.below t.place k) ((k : Int), Value.int (k : Int) tk), { t with place := (four (with1 S k)).toArray }, false, false) := by
      unfold layNew
      rw [f1]
      simp only [f3, hsz1, SetTable.orStandIn, hf1, if_true, Bool.not_true]
    rw [lay]
    dsimp only
    refine wpAny_bind (wpAny_pure ?_)
    rw [hp]
    simp only [if_true]
    rw [hashByValue_scannable 8 hsc]
    refine wpAny_bind (wpAny_pure ?_)
    simp only [plainKind, if_true]
    refine wpAny_bind (wpAny_storeSet_of ho hd ?_ (by rw [hsz1, sizeLine_eq]; omega))
    have full : ({ t with place := (four (with1 S k)).toArray, plain := true } : SetTable).tooFull = false := by
      simp only [SetTable.tooFull, SetTable.fill, m7, dm]
      exact decide_eq_false (by simp; omega)
    rw [full]
    simp only [Bool.and_false, Bool.false_eq_true, if_false]
    refine wpAny_pure (wpAny_pure ?_)
    have q := hQ _ (Heap.SameBut.update s.heap a (Obj.putSet (SetTable.insertAt es (SetTable.below t.place k) ((k : Int), Value.int (k : Int) tk)) { t with place := (four (with1 S k)).toArray, plain := true })) ⟨_, _, _, _, store_at ho hd, hex, rfl, fun e he => ?_, ?_, m7, dm, rfl, rfl, hl⟩
    · rw [hSk] at q
      exact q
    · rw [hp1] at he
      rcases List.mem_append.mp he with z | z
      · exact g e (List.mem_of_mem_take z)
      · rcases List.mem_cons.mp z with z | z
        · rw [z]; exact ⟨k, hk, rfl, tk, rfl⟩
        · exact g e (List.mem_of_mem_drop z)
    · rw [hp1, List.map_append, List.map_cons, List.map_take, List.map_drop, hm, ← f4, List.map_append, List.map_cons, List.map_take, List.map_drop]
theorem setC_add {k : Nat} {tk : Tok} {Q : Bool → Shared → Prop} (hk : k < 4) (R : SetC w s.heap a S)
    (hQ : ∀ h' tk' b, Heap.SameBut a s.heap h' → SetC w h' a (with1 S k) → Q b { s with heap := h', toks := tk' }) : wpAny (model P w) A (setAdd a (.int (k : Int) tk)) Q E s := by
  unfold setAdd
  refine wpAny_holding (wpAny_bind ((intKind P w).pyHash (k := (k : Int)) (intKind_is _ _ _ _) ?_))
  have eh : (intKind P w).hash (k : Int) = (k : Int) := hash_small k hk
  rw [eh]
  exact setC_add_hashed (s := { s with toks := s.toks + 1 }) hk R fun h' sb r => hQ h' _ _ sb r
end
end SB
set_option maxRecDepth 100000
set_option maxHeartbeats 8000000
namespace SB
open PySem L2 PyProof.Rows
theorem entry_set_or : entryFor table "set.__or__" = some Builtin.«frozenset.__or__» := entryFor_alias (id' := "frozenset.__or__") (by kernel_rfl) rfl (by decide +kernel) (by kernel_rfl)
section
variable {P : Program} {w : World} {A : Around} {E : Value → Shared → Prop} {s : Shared} {a b r : Addr} {S T : Nat → Bool}
theorem four_nil {S : Nat → Bool} (h : four S = []) : ∀ j, j < 4 → S j = false := fun j hj => by
  cases q : S j with
  | false => rfl
  | true =>
    have := four_mem.mpr ⟨hj, q⟩
    rw [h] at this
    cases this
/-- the parts of a small set's state -/
theorem SetC.parts (R : SetC w s.heap a S) : ∃ o es ep t, s.heap.get? a = some o ∧ o.ExactSet ∧ o.data = .set es ep t ∧ (∀ e ∈ es.toList, SmallE e) ∧ es.toList.map (·.1) = (four S).map (fun k : Nat => (k : Int)) ∧ t.mask = 7 ∧ t.dummies = #[] ∧ t.plain = true ∧ t.place = (four S).toArray ∧
    (w.params.followText "set-order" = true ∨ t.led = true) ∧ es.size = (four S).length ∧ t.fits es.size = true := by
  obtain ⟨o, es, ep, t, ho, hex, hd, g, hm, m7, dm, hp, pl, hl⟩ := R.ex
  have hsz : es.size = (four S).length := by
    have := congrArg List.length hm
    simpa using this
  have h4 := four_len S
  refine ⟨o, es, ep, t, ho, hex, hd, g, hm, m7, dm, hp, pl, hl, hsz, ?_⟩
  simp only [SetTable.fits, SetTable.fill, pl, m7, dm, Bool.and_eq_true, beq_iff_eq, decide_eq_true_eq]
  exact ⟨by simp [hsz], by simp; omega⟩
theorem room_none {t : SetTable} (m7 : t.mask = 7) (h : t.fill + n ≤ 4) : t.roomFor n = none := by
  unfold SetTable.roomFor
  rw [m7, if_neg (by omega)]
theorem setRoom_none {n : Nat} {Q : Unit → Shared → Prop} (R : SetC w s.heap a S) (h : (four S).length + n ≤ 4) (hQ : Q () s) : wpAny (model P w) A (setRoomFor a n) Q E s := by
  obtain ⟨o, es, ep, t, ho, hex, hd, g, hm, m7, dm, hp, pl, hl, hsz, hf⟩ := R.parts
  unfold setRoomFor
  refine wpAny_bind (wpAny_setState_of ho hd hf ?_)
  have e : t.roomFor n = none := room_none m7 (by simp only [SetTable.fill, pl, dm]; simp; omega)
  dsimp only
  rw [e]
  exact wpAny_pure hQ
theorem setMerge_fresh {each : Sem Unit} {Q : Unit → Shared → Prop} (hr : SetC w s.heap r fun _ => false) (R : SetC w s.heap a S) (hne : r ≠ a) (hQ : ∀ h', Heap.SameBut r s.heap h' → SetC w h' r S → Q () { s with heap := h' }) :
    wpAny (model P w) A (setMerge r a each) Q E s := by
  obtain ⟨o, es, ep, t, ho, hex, hd, g, hm, m7, dm, hp, pl, hl, hsz, hf⟩ := R.parts
  obtain ⟨o', es', ep', t', ho', hex', hd', g', hm', m7', dm', hp', pl', hl', hsz', hf'⟩ := hr.parts
  have hne' : (r == a) = false := beq_eq_false_iff_ne.mpr hne
  have h4 := four_len S
  have z0 : four (fun _ => false) = [] := by rfl
  unfold setMerge
  rw [hne']
  simp only [Bool.false_eq_true, if_false]
  refine wpAny_bind (wpAny_setState_of ho hd hf ?_)
  dsimp only
  by_cases hemp : es.isEmpty = true
  · rw [if_pos hemp]
    refine wpAny_pure ?_
    have := hQ s.heap (Heap.SameBut.refl _ _) (hr.congr fun j hj => ?_)
    · exact this
    · have hl0 : four S = [] := by
        have : es.size = 0 := by simpa [Array.isEmpty] using hemp
        exact List.eq_nil_of_length_eq_zero (by omega)
      exact (four_nil hl0 j hj).symm
  · rw [if_neg hemp]
    refine wpAny_bind (setRoom_none hr (by rw [z0, hsz]; simpa using h4) ?_)
    refine wpAny_bind (wpAny_setState_of ho' hd' hf' ?_)
    have road : t'.road t = .slotForSlot := by
      unfold SetTable.road
      rw [show t'.fill = 0 from by simp only [SetTable.fill, pl', dm', z0]; rfl, m7, m7', dm]
      rfl
    dsimp only
    rw [road]
    dsimp only
    refine wpAny_storeSet_of ho' hd' ?_ (by rw [hsz, sizeLine_eq]; omega)
    refine hQ _ (Heap.SameBut.update _ _ _) ⟨_, _, _, _, store_at ho' hd', hex', rfl, g, hm, m7, dm, ?_, pl, ?_⟩
    · show (t'.plain && t.plain) = true
      rw [hp, hp']; rfl
    · rcases hl with z | z
      · exact .inl z
      · rcases hl' with z' | z'
        · exact .inl z'
        · exact .inr (by show (t'.led && t.led) = true; rw [z, z']; rfl)
theorem four_one {k : Nat} (hk : k < 4) : four (fun j => j == k) = [k] := by
  match k, hk with
  | 0, _ => rfl
  | 1, _ => rfl
  | 2, _ => rfl
  | 3, _ => rfl
/-- merging a set of one int -/
theorem setMerge_one {k : Nat} {each : Sem Unit} {Q : Unit → Shared → Prop} (hk : k < 4) (hr : SetC w s.heap r S) (R : SetC w s.heap b fun j => j == k) (hne : r ≠ b) (hsm : (four S).length ≤ 3)
    (heach : ∀ (s' : Shared) (Q' : Unit → Shared → Prop), (∀ o, s.heap.get? b = some o → s'.heap.get? b = some o) → Q' () s' → wpAny (model P w) A each Q' E s')
    (hQ : ∀ h', Heap.SameBut r s.heap h' → SetC w h' r (fun j => S j || j == k) → Q () { s with heap := h' }) :
    wpAny (model P w) A (setMerge r b each) Q E s := by
  by_cases h0 : four S = []
  · refine setMerge_fresh (hr.congr fun j hj => four_nil h0 j hj) R hne fun h' sb c => hQ h' sb (c.congr fun j hj => ?_)
    rw [four_nil h0 j hj, Bool.false_or]
  obtain ⟨o, es, ep, t, ho, hex, hd, g, hm, m7, dm, hp, pl, hl, hsz, hf⟩ := R.parts
  obtain ⟨o', es', ep', t', ho', hex', hd', g', hm', m7', dm', hp', pl', hl', hsz', hf'⟩ := hr.parts
  have hne' : (r == b) = false := beq_eq_false_iff_ne.mpr hne
  have f1 := four_one hk
  rw [f1] at hm hsz
  obtain ⟨e, he⟩ : ∃ e, es = #[e] := by
    have h1 : es.toList.length = 1 := by rw [Array.length_toList, hsz]; rfl
    obtain ⟨e, he⟩ := List.length_eq_one_iff.mp h1
    exact ⟨e, by rw [← Array.toArray_toList (xs := es), he]⟩
  subst he
  obtain ⟨k', hk', e1, tk, e2⟩ := g e (by simp)
  have ek : k' = k := by
    have : e.1 = (k : Int) := by simpa using hm
    omega
  subst ek
  obtain ⟨e0, v0⟩ := e
  simp only at e1 e2
  subst e1 e2
  have lt0 : 0 < (four S).length := by
    cases q : four S with
    | nil => exact absurd q h0
    | cons _ _ => simp
  unfold setMerge
  rw [hne']
  simp only [Bool.false_eq_true, if_false]
  refine wpAny_bind (wpAny_setState_of ho hd hf ?_)
  dsimp only
  rw [if_neg (by simp)]
  refine wpAny_bind (setRoom_none hr (by show _ + 1 ≤ 4; omega) ?_)
  refine wpAny_bind (wpAny_setState_of ho' hd' hf' ?_)
  have road : t'.road t = .oneByOne := by
    unfold SetTable.road
    have : t'.fill ≠ 0 := by simp only [SetTable.fill, pl', dm']; simp; omega
    rw [if_pos (bne_iff_ne.mpr this)]
  dsimp only
  rw [road]
  dsimp only
  have walk : ∀ {Q' : Array (Int × Value) → Shared → Prop}, Q' #[((k' : Int), Value.int (k' : Int) tk)] s → wpAny (model P w) A (setWalkUnseen b [r] (some r)) Q' E s := fun {Q'} q => by
    unfold setWalkUnseen
    refine wpAny_bind (wpAny_setState_of ho hd hf ?_)
    refine wpAny_bind (wpAny_byText ?_)
    dsimp only
    rw [if_pos (by simp)]
    refine wpAny_bind ?_
    refine wpAny_setState_of ho hd hf ?_
    refine wpAny_bind (wpAny_byText ?_)
    cases hbt : w.params.followText "set-order" with
    | true =>
      rw [if_pos rfl]
      refine wpAny_bind (wpAny_askSetting (wpAny_pure ?_))
      have one : ∀ (f : Nat → Nat) (x : Int × Value), pickOrder f #[x] = #[x] := fun f x => by
        have p := pick_perm f #[x]
        have l := p.length_eq
        rw [Array.length_toList, Array.length_toList] at l
        have p' : (pickOrder f #[x]).toList = [x] := List.perm_singleton.mp p
        rw [← Array.toArray_toList (xs := pickOrder f #[x]), p']
      rw [one]
      exact q
    | false =>
      rw [if_neg Bool.false_ne_true]
      refine wp_if_neg (fun z => ?_) ?_
      · have z' : (!t.plain && decide (1 > 1)) = true := z
        rw [hp] at z'
        cases z'
      · refine wpAny_bind ?_
        refine wp_if_neg (fun z => ?_) (wpAny_pure (wpAny_pure q))
        have z' : (!t.led && decide (1 > 1)) = true := z
        rw [show decide (1 > 1) = false from rfl, Bool.and_false] at z'
        cases z'
  refine wpAny_bind (walk ?_)
  refine wpAny_bind ?_
  rw [← Array.forIn_toList]
  show wpAny _ _ (forIn [((k' : Int), Value.int (k' : Int) tk)] _ _) _ _ _
  rw [List.forIn_cons]
  refine wpAny_bind (wpAny_bind (wpAny_holding (setC_add_hashed hk hr fun h' sb c => ?_)))
  refine wpAny_bind (heach { s with heap := h' } _ (fun o e => (sb.2 b (Ne.symm hne)).trans e) ?_)
  refine wpAny_bind (wpAny_setState_of (s := { s with heap := h' }) ((sb.2 b (Ne.symm hne)).trans ho) hd hf ?_)
  dsimp only
  rw [if_neg (by simp)]
  refine wpAny_pure ?_
  dsimp only
  rw [List.forIn_nil]
  exact wpAny_pure (wpAny_pure (hQ h' sb c))
theorem setC_or {k : Nat} {Q : Value → Shared → Prop} (hk : k < 4) (R : SetC w s.heap a S) (R' : SetC w s.heap b fun j => j == k) (hab : a ≠ b) (hsm : (four S).length ≤ 3)
    (hQ : ∀ h', SetC w h' s.heap.objs.size (fun j => S j || j == k) → (∀ c o, s.heap.get? c = some o → h'.get? c = some o) → Q (.ref s.heap.objs.size) { s with heap := h' }) :
    wpAny (model P w) A (call (.builtin "set.__or__") [.ref a, .ref b]) (fun v s' => v ≠ .notImplemented ∧ Q v s') E s := by
  obtain ⟨o, es, ep, t, ho, ⟨hc1, hc2, hc3⟩, hd, _⟩ := R.ex
  obtain ⟨o', es', ep', t', ho', ⟨hc1', hc2', hc3'⟩, hd', _, _, _, _, _, _, _, hsz', hf'⟩ := R'.parts
  have hTa : s.TypeIs (.ref a) "set" := ⟨o, ho, hc1⟩
  refine wpAny_call_entry PySem.F.slot_set_or hTa entry_set_or ?_ (PySem.F.args_set_or_2 _ _)
  obtain ⟨oc, odd, odt, osl⟩ := o
  obtain ⟨oc', odd', odt', osl'⟩ := o'
  simp only at hd hd' hc1 hc2 hc3 hc1' hc2' hc3'
  subst hd hd' hc1 hc2 hc3 hc1' hc2' hc3'
  have hss := sub_set_self
  have hal : a < s.heap.objs.size := Heap.lt_size ho
  have hbl : b < s.heap.objs.size := Heap.lt_size ho'
  unfold Builtin.«frozenset.__or__»
  wp_walk
  try simp only [Bool.false_eq_true, if_false]
  wp_walk
  refine wpAny_askSetting (wpAny_pure ?_)
  simp only [if_true, newObj]
  refine wpAny_bind (wpAny_alloc (wpAny_pure ?_))
  have hS : (s.heap.push (newSetObj w)).get? s.heap.objs.size = some (newSetObj w) := Heap.get?_push_size _ rfl
  have kp : ∀ c o, s.heap.get? c = some o → (s.heap.push (newSetObj w)).get? c = some o := fun c o e => Heap.get?_push_of_some _ e
  refine wpAny_bind (m := Builtin.Frozenset.addrOf _) (wpAny_pure ?_)
  refine wpAny_bind ?_
  show wpAny (model P w) A.in1 (setMerge s.heap.objs.size a) _ E { s with heap := s.heap.push (newSetObj w) }
  refine setMerge_fresh (s := { s with heap := s.heap.push (newSetObj w) }) (setC_new hS) (R.at (kp a)) (Nat.ne_of_gt hal) fun h1 sb1 c1 => ?_
  refine wpAny_pure ?_
  have hne : (Value.ref b != Value.ref a) = true := by
    rw [bne_iff_ne]
    intro z
    injection z with z
    exact hab z.symm
  rw [if_pos hne]
  refine wpAny_bind (m := Builtin.Frozenset.addrOf _) (wpAny_pure ?_)
  have k1 : ∀ c o, s.heap.get? c = some o → h1.get? c = some o := fun c o e => (sb1.2 c (Nat.ne_of_lt (Heap.lt_size e))).trans (kp c o e)
  have hb1 := k1 _ _ ho'
  refine wpAny_bind (wpAny_holding ?_)
  unfold Builtin.Frozenset.updateFrom
  wp_walk
  have hc0 : (t'.place.size != es'.size || decide (t'.fill > t'.mask)) = false := by
    simp only [SetTable.fits, Bool.and_eq_true, beq_iff_eq, decide_eq_true_eq] at hf'
    simp [hf'.1, Nat.not_lt.mpr hf'.2]
  rw [hc0]
  simp only [Bool.false_eq_true, if_false]
  refine wpAny_pure (wpAny_pure ?_)
  refine setMerge_one (s := { s with heap := h1 }) hk c1 (R'.at (k1 b)) (Nat.ne_of_gt hbl) hsm (fun s' Q' e q => ?_) fun h2 sb2 c2 => ?_
  · unfold Builtin.Frozenset.unchanged
    refine wpAny_bind (wpAny_setEpoch_of (e _ hb1) rfl hf' ?_)
    rw [if_neg (by simp)]
    exact wpAny_pure q
  · refine wpAny_pure (wpAny_pure ⟨_, rfl, (fun z => nomatch z), hQ h2 c2 fun c o e => ?_⟩)
    exact (sb2.2 c (Nat.ne_of_lt (Heap.lt_size e))).trans (k1 c o e)
end
end SB
set_option maxRecDepth 100000
set_option maxHeartbeats 8000000
/-! Small sets over the abstract heap: set(xs), a set display, |, sorted(s). -/
namespace SB
open PySem L2 PyProof.Rows
def SetCO (w : World) (a : Addr) (S : Nat → Bool) : HO := .ext fun h => SetC w h a S
theorem setCO_new {w : World} {P : Program} {H : Hp} {h : Heap} {a : Addr} {S : Nat → Bool} (R : SetC w h a S) : ObjOk P w H h a (SetCO w a S) := by
  obtain ⟨o, _, _, _, ho, _⟩ := R.ex
  exact ⟨R, ⟨o, ho⟩, fun h1 h2 p k => SetC.at p k⟩
section
variable {X : Cx} {pins : List (Addr × Obj)} {σ : L2.St} {H : Hp} {s : Shared} {a b : Addr} {S : Nat → Bool}
theorem setCO_get (I : Inv X pins σ H s) (ha : H a = some (SetCO X.w a S)) : SetC X.w s.heap a S := (I.hok a _ ha).1
/-! a list's, a tuple's walk -/
theorem call_set_seq {P : Program} {w : World} {A : Around} {E : Value → Shared → Prop} {s : Shared} {l : Addr} {items : Array Value} (J : Nat → Heap → Prop) {Q : Value → Shared → Prop} (hl : s.heap.IsList l items ∨ s.heap.IsTuple l items) (hh : A.handled = none)
    (stay : ∀ i h h', J i h → (∀ o, h.get? s.heap.objs.size = some o → h'.get? s.heap.objs.size = some o) → J i h')
    (step : ∀ i v (s1 : Shared) (B : Around) (F : Value → Shared → Prop) (Q : Bool → Shared → Prop), items[i]? = some v → J i s1.heap → (∀ h' tk b, Heap.SameBut s.heap.objs.size s1.heap h' → J (i + 1) h' → Q b { s1 with heap := h', toks := tk }) → wpAny (model P w) B (setAdd s.heap.objs.size v) Q F s1)
    (j0 : ∀ h : Heap, h.get? s.heap.objs.size = some (newSetObj w) → J 0 h) (hR : ∀ h' tk, (∀ b o, s.heap.get? b = some o → h'.get? b = some o) → J items.size h' → Q (.ref s.heap.objs.size) { s with heap := h', toks := tk }) :
    wpAny (model P w) A (call (.type "set") [.ref l]) Q E s := by
  rcases hl with hl | hl
  · obtain ⟨⟨oc, od, odt, osl⟩, hol, hc, nl, hd⟩ := id hl
    simp only at hc hd
    subst hc hd
    have hlt : l < s.heap.objs.size := Heap.lt_size hol
    refine call_set_by (n := items.size) (Pv := fun i v => items[i]? = some v) seq_list J hol (fun s1 e1 {Q B F} h => ?_) hh stay (fun i v s1 B F Q _ hv j q => step i v s1 B F Q hv j q) j0 hR
    have hl1 : s1.heap.IsList l items := ⟨_, by rw [e1]; exact Heap.get?_push_of_some _ hol, rfl, nl, rfl⟩
    have hz : s1.heap.objs.size = s.heap.objs.size + 1 := by rw [e1, Heap.size_push]
    refine wpAny_pyIter_list hl1 (h _ s1.heap.objs.size [s1.heap.objs.size, l] [s1.heap.objs.size] _ (fun b o e => Heap.get?_push_of_some _ e) ?_ ?_ (fun C hC => Walks.list hC _ l (Nat.ne_of_lt (by rw [hz]; exact Nat.lt_succ_of_lt hlt)) items) ⟨⟨_, Heap.get?_push_size _ rfl, rfl, rfl⟩, hl1.push _⟩)
    · simp only [List.mem_cons, List.not_mem_nil, or_false, not_or]
      exact ⟨Nat.ne_of_lt (by rw [hz]; exact Nat.lt_succ_self _), Nat.ne_of_gt hlt⟩
    · intro b hb
      rw [List.mem_singleton] at hb
      rw [hb]
      exact Nat.le_refl _
  · obtain ⟨⟨oc, od, odt, osl⟩, hol, hc, nl, hd⟩ := id hl
    simp only at hc hd
    subst hc hd
    have hlt : l < s.heap.objs.size := Heap.lt_size hol
    refine call_set_by (n := items.size) (Pv := fun i v => items[i]? = some v) seq_tuple J hol (fun s1 e1 {Q B F} h => ?_) hh stay (fun i v s1 B F Q _ hv j q => step i v s1 B F Q hv j q) j0 hR
    have hl1 : s1.heap.IsTuple l items := ⟨_, by rw [e1]; exact Heap.get?_push_of_some _ hol, rfl, nl, rfl⟩
    have hz : s1.heap.objs.size = s.heap.objs.size + 1 := by rw [e1, Heap.size_push]
    refine wpAny_pyIter_tuple hl1 (h _ s1.heap.objs.size [s1.heap.objs.size, l] [s1.heap.objs.size] _ (fun b o e => Heap.get?_push_of_some _ e) ?_ ?_ (fun C hC => Walks.tuple hC _ l (Nat.ne_of_lt (by rw [hz]; exact Nat.lt_succ_of_lt hlt)) items) ⟨⟨_, Heap.get?_push_size _ rfl, rfl, rfl⟩, hl1.push _⟩)
    · simp only [List.mem_cons, List.not_mem_nil, or_false, not_or]
      exact ⟨Nat.ne_of_lt (by rw [hz]; exact Nat.lt_succ_self _), Nat.ne_of_gt hlt⟩
    · intro b hb
      rw [List.mem_singleton] at hb
      rw [hb]
      exact Nat.le_refl _
/-- membership of a list of small ints -/
def memS (ns : List Int) : Nat → Bool := fun j => decide ((j : Int) ∈ ns)
def smallI (ns : List Int) : Prop := ∀ n ∈ ns, 0 ≤ n ∧ n < 4
def rSetC (K : PySem.W.Frag) (w : World) : List V → Hp → VK → Prop := fun xs H Q => ∃ p ns, xs = [.ref p] ∧ (SqL K H p (ns.map V.int) ∨ SqT K H p (ns.map V.int)) ∧ smallI ns ∧ ∀ q, H q = none → Q (.ref q) (upd H q (SetCO w q (memS ns)))
theorem cr_setC (hc : X.calm = true) : CallR X (.type "set") (rSetC X.K X.w) := by
  intro pins s σ H xs us Q I r h
  obtain ⟨p, ns, rfl, hp, hsm, q⟩ := h
  obtain ⟨u, rfl, rx⟩ := vals1 r
  cases rx
  obtain ⟨its, rv, hl⟩ : ∃ its : List Value, Vals (ns.map V.int) its ∧ (s.heap.IsList p its.toArray ∨ s.heap.IsTuple p its.toArray) := by
    rcases hp with hp | hp
    · obtain ⟨its, rv, pl, _⟩ := I.list hp
      exact ⟨its, rv, .inl pl.isList⟩
    · obtain ⟨its, rv, pl, _⟩ := I.tuple hp
      exact ⟨its, rv, .inr pl⟩
  have hlen : its.length = ns.length := by
    have := rv.length
    rw [List.length_map] at this
    omega
  refine call_set_seq (fun i h => SetC X.w h s.heap.objs.size (memS (ns.take i))) hl (I.ok.hd hc) (fun i h h' j k => j.at k) (fun i v s1 B F Q hv j q => ?_) (fun h e => ?_) fun h' tk k j => ?_
  · obtain ⟨z, hz, rz⟩ : ∃ z, ns[i]? = some z ∧ ∃ t, v = .int z t := by
      have hv' : its[i]? = some v := by simpa using hv
      have hi := (List.getElem?_eq_some_iff.mp hv').1
      have hi' : i < ns.length := by omega
      obtain ⟨u, e1, e2⟩ := rv.get (i := i) (x := V.int ns[i]) (by rw [List.getElem?_map, List.getElem?_eq_getElem hi']; rfl)
      rw [hv'] at e1
      cases e1
      exact ⟨_, List.getElem?_eq_getElem hi', e2⟩
    obtain ⟨t, rfl⟩ := rz
    obtain ⟨z0, z4⟩ := hsm z (List.mem_of_getElem? hz)
    obtain ⟨k, rfl⟩ : ∃ k : Nat, z = (k : Int) := ⟨z.toNat, by omega⟩
    refine setC_add (by omega) j fun h' tk' b sb c => q h' tk' b sb (c.congr fun m _ => ?_)
    unfold with1 memS
    rw [take_succ hz]
    by_cases e : m = k
    · subst e; simp
    · have e' : ¬ ((m : Int) = (k : Int)) := by omega
      simp [e, e']
  · have := setC_new e
    exact this.congr fun j _ => by simp [memS]
  · rw [show its.toArray.size = ns.length from by simp [hlen], List.take_length] at j
    exact ⟨.ref _, upd H s.heap.objs.size (SetCO X.w s.heap.objs.size (memS ns)), I.laid (t' := tk) k (Nat.le_refl _) (setCO_new j), rfl, q _ (I.hok.fresh (Nat.le_refl _))⟩
/-! s | {k} -/
def rOrC (w : World) : R2 := fun x y H Q => ∃ (a b : Addr) (S : Nat → Bool) (k : Nat), x = .ref a ∧ y = .ref b ∧ a ≠ b ∧ k < 4 ∧ (four S).length ≤ 3 ∧ H a = some (SetCO w a S) ∧ H b = some (SetCO w b fun j => j == k) ∧ ∀ q, H q = none → Q (.ref q) (upd H q (SetCO w q fun j => S j || j == k))
theorem op_orC : OpR X (binaryOp .BitOr) (rOrC X.w) := by
  intro pins s σ H x y v u Q I rx ry h
  obtain ⟨a, b, S, k, rfl, rfl, hab, hk, hsm, ha, hb, q⟩ := h
  cases rx; cases ry
  have Ra := setCO_get I ha
  have Rb := setCO_get I hb
  obtain ⟨o, _, _, _, ho, hex, _⟩ := Ra.ex
  obtain ⟨o', _, _, _, ho', hex', _⟩ := Rb.ex
  refine wpAny_binaryOp_same (T := "set") ⟨o, ho, hex.1⟩ ⟨o', ho', hex'.1⟩ PySem.F.fills_set_or PySem.F.slot_set_or (setC_or hk Ra Rb hab hsm fun h' c keep => ?_)
  exact ⟨.ref _, upd H s.heap.objs.size (SetCO X.w s.heap.objs.size fun j => S j || j == k), I.laid (t' := s.toks) keep (Nat.le_refl _) (setCO_new c), rfl, q _ (I.hok.fresh (Nat.le_refl _))⟩
/-! {e}, {e, f} -/
theorem newSet_exact {P : Program} {w : World} {A : Around} {E : Value → Shared → Prop} {s : Shared} {Q : Value → Shared → Prop} (h : Q (.ref s.heap.objs.size) { s with heap := s.heap.push (newSetObj w) }) : wpAny (model P w) A (newSet (.type "set")) Q E s := by
  unfold newSet
  refine wpAny_bind (wpAny_byText ?_)
  simp only [newObj]
  exact wpAny_bind (wpAny_alloc (wpAny_pure h))
def tSetD1 (w : World) (te : TE) : TE := fun σ H Q => ∀ q, H q = none → te σ (upd H q (SetCO w q fun _ => false)) fun x H1 => ∃ k : Nat, k < 4 ∧ x = .int (k : Int) ∧ H1 q = some (SetCO w q fun _ => false) ∧ Q (.ref q) (upd H1 q (SetCO w q fun j => j == k))
def tSetD2 (w : World) (te tf : TE) : TE := fun σ H Q => ∀ q, H q = none → te σ (upd H q (SetCO w q fun _ => false)) fun x H1 => tf σ H1 fun y H2 => ∃ k m : Nat, k < 4 ∧ m < 4 ∧ x = .int (k : Int) ∧ y = .int (m : Int) ∧ H2 q = some (SetCO w q fun _ => false) ∧
  Q (.ref q) (upd H2 q (SetCO w q fun j => j == k || j == m))
variable {e f : Expr} {te tf : TE} {pos : Pos}
theorem setCO_mut {w : World} {a : Addr} {S : Nat → Bool} : Mut (some (SetCO w a S)) := True.intro
theorem setCO_write {t' : Nat} {h' : Heap} {S' : Nat → Bool} (I : Inv X pins σ H s) (ha : H a = some (SetCO X.w a S)) (sb : Heap.SameBut a s.heap h') (c : SetC X.w h' a S') : Inv X pins σ (upd H a (SetCO X.w a S')) { s with heap := h', toks := t' } := by
  obtain ⟨o, _, _, _, ho, _⟩ := c.ex
  exact I.write (e := a) (t' := t') (by rw [ha]; exact setCO_mut) (.inl rfl) (fun b u hb hu => (sb.2 b hb).trans hu) ⟨o, ho⟩ (setCO_new c)
theorem pe_setD1 (he : PE X e te) (hcd : PySem.W.kdsCode X.K X.env.code = true) (hp : [e].all PySem.W.kdsPlain = true) : PE X (.Set [e] 0 pos) (tSetD1 X.w te) := by
  refine ⟨fun pins s σ H Q I h => ?_⟩
  rw [arm_eval_Set]
  refine wpAny_bind (wpAny_standAt ?_)
  refine wpAny_bind (PySem.W.kds_main I.kIn hcd fun b => ?_)
  rw [PySem.W.kds_star _ hp, List.map_map, show displayRoad 0 [e] = .oneByOne from rfl]
  unfold setDisplay
  rw [if_neg (by decide)]
  refine wpAny_bind (newSet_exact ?_)
  dsimp only
  have hS : (s.heap.push (newSetObj X.w)).get? s.heap.objs.size = some (newSetObj X.w) := Heap.get?_push_size _ rfl
  have I1 : Inv X pins σ (upd H s.heap.objs.size (SetCO X.w s.heap.objs.size fun _ => false)) { s with heap := s.heap.push (newSetObj X.w) } := I.laid (t' := s.toks) (fun b u q => Heap.get?_push_of_some _ q) (Nat.le_refl _) (setCO_new (setC_new hS))
  refine wpAny_bind (wpAny_holding ?_)
  have hq := h _ (I.hok.fresh (Nat.le_refl _))
  show wpAny _ _ (evalAll ((evalEach [e] X.env).map fun t => do let v ← t; standAt pos; pure v) >>= _) _ _ _
  refine wpAny_bind (PySem.W.kds_all pos [e] _ _ (thn (he.run pins _ σ _ _ I1 hq) fun u s1 ⟨x, H1, I2, rx, k, hk, ex, h2, q⟩ => ?_))
  subst ex
  obtain ⟨tk, rfl⟩ := rx
  refine wpAny_bind (wpAny_holding ?_)
  show wpAny _ _ (forIn [Value.int (k : Int) tk] _ _ >>= _) _ _ _
  refine wpAny_bind ?_
  rw [List.forIn_cons]
  refine wpAny_bind (wpAny_bind (setC_add hk (setCO_get I2 h2) fun h' tk' b sb c => wpAny_pure ?_))
  dsimp only
  rw [List.forIn_nil]
  refine wpAny_pure ?_
  rw [if_neg (by decide)]
  refine wpAny_pure ?_
  show wpAny _ _ (forIn ([] : List (Bool × Sem Value)) _ _ >>= _) _ _ _
  rw [List.forIn_nil]
  exact wpAny_bind (wpAny_pure (wpAny_pure (wpAny_pure ⟨.ref _, _, setCO_write I2 h2 sb (c.congr fun j _ => by unfold with1; rw [Bool.false_or]), rfl, q⟩)))
theorem pe_setD2 (he : PE X e te) (hf : PE X f tf) (hcd : PySem.W.kdsCode X.K X.env.code = true) (hp : [e, f].all PySem.W.kdsPlain = true) : PE X (.Set [e, f] 0 pos) (tSetD2 X.w te tf) := by
  refine ⟨fun pins s σ H Q I h => ?_⟩
  rw [arm_eval_Set]
  refine wpAny_bind (wpAny_standAt ?_)
  refine wpAny_bind (PySem.W.kds_main I.kIn hcd fun b => ?_)
  rw [PySem.W.kds_star _ hp, List.map_map, show displayRoad 0 [e, f] = .oneByOne from rfl]
  unfold setDisplay
  rw [if_neg (by decide)]
  refine wpAny_bind (newSet_exact ?_)
  dsimp only
  have hS : (s.heap.push (newSetObj X.w)).get? s.heap.objs.size = some (newSetObj X.w) := Heap.get?_push_size _ rfl
  have I1 : Inv X pins σ (upd H s.heap.objs.size (SetCO X.w s.heap.objs.size fun _ => false)) { s with heap := s.heap.push (newSetObj X.w) } := I.laid (t' := s.toks) (fun b u q => Heap.get?_push_of_some _ q) (Nat.le_refl _) (setCO_new (setC_new hS))
  refine wpAny_bind (wpAny_holding ?_)
  have hq := h _ (I.hok.fresh (Nat.le_refl _))
  show wpAny _ _ (evalAll ((evalEach [e, f] X.env).map fun t => do let v ← t; standAt pos; pure v) >>= _) _ _ _
  refine wpAny_bind (PySem.W.kds_all pos [e, f] _ _ (thn (he.run pins _ σ _ _ I1 hq) fun u s1 ⟨x, H1, I2, rx, q1⟩ => ?_))
  refine thn (hf.run pins _ σ _ _ I2 q1) fun u' s2 ⟨y, H2, I3, ry, k, m, hk, hm, ex, ey, h2, q⟩ => ?_
  subst ex ey
  obtain ⟨tk, rfl⟩ := rx
  obtain ⟨tm, rfl⟩ := ry
  refine wpAny_bind (wpAny_holding ?_)
  show wpAny _ _ (forIn [Value.int (k : Int) tk, Value.int (m : Int) tm] _ _ >>= _) _ _ _
  refine wpAny_bind ?_
  rw [List.forIn_cons]
  refine wpAny_bind (wpAny_bind (setC_add hk (setCO_get I3 h2) fun h' tk' b sb c => wpAny_pure ?_))
  dsimp only
  rw [List.forIn_cons]
  have I4 := setCO_write (t' := tk') I3 h2 sb c
  refine wpAny_bind (wpAny_bind (setC_add (s := { s2 with heap := h', toks := tk' }) hm c fun h3 tk3 b3 sb3 c3 => wpAny_pure ?_))
  dsimp only
  rw [List.forIn_nil]
  refine wpAny_pure ?_
  rw [if_neg (by decide)]
  refine wpAny_pure ?_
  show wpAny _ _ (forIn ([] : List (Bool × Sem Value)) _ _ >>= _) _ _ _
  rw [List.forIn_nil]
  have I5 := setCO_write (t' := tk3) I4 upd_same sb3 (c3.congr (S' := fun j => j == k || j == m) fun j _ => by unfold with1; rw [Bool.false_or])
  rw [upd_upd] at I5
  exact wpAny_bind (wpAny_pure (wpAny_pure (wpAny_pure ⟨.ref _, _, I5, rfl, q⟩)))
/-! sorted(s) -/
def fourI (S : Nat → Bool) : List Int := (four S).map fun k : Nat => (k : Int)
def rSortedC (w : World) : List V → Hp → VK → Prop := fun vs H Q => ∃ (a : Addr) (S : Nat → Bool), vs = [V.ref a] ∧ H a = some (SetCO w a S) ∧ ∀ p, H p = none → Q (.ref p) (upd H p (.lst ((fourI S).map V.int)))
theorem mem_fourI {S : Nat → Bool} {z : Int} : z ∈ fourI S ↔ 0 ≤ z ∧ z < 4 ∧ S z.toNat = true := by
  unfold fourI
  rw [List.mem_map]
  constructor
  · rintro ⟨k, hk, rfl⟩
    obtain ⟨h1, h2⟩ := four_mem.mp hk
    exact ⟨by omega, by omega, by simpa using h2⟩
  · rintro ⟨h1, h2, h3⟩
    exact ⟨z.toNat, four_mem.mpr ⟨by omega, h3⟩, by omega⟩
theorem rise_unique : ∀ {l m : List Int}, l.Pairwise (· < ·) → m.Pairwise (· < ·) → (∀ z, z ∈ l ↔ z ∈ m) → l = m
  | [], [], _, _, _ => rfl
  | [], y :: m, _, _, h => absurd ((h y).mpr List.mem_cons_self) (by simp)
  | x :: l, [], _, _, h => absurd ((h x).mp List.mem_cons_self) (by simp)
  | x :: l, y :: m, hl, hm, h => by
    obtain ⟨l1, l2⟩ := List.pairwise_cons.mp hl
    obtain ⟨m1, m2⟩ := List.pairwise_cons.mp hm
    have e : x = y := by
      rcases List.mem_cons.mp ((h x).mp List.mem_cons_self) with z | z
      · exact z
      · rcases List.mem_cons.mp ((h y).mpr List.mem_cons_self) with z' | z'
        · exact z'.symm
        · have a1 := m1 x z
          have a2 := l1 y z'
          omega
    subst e
    refine congrArg _ (rise_unique l2 m2 fun z => ?_)
    constructor
    · intro hz
      rcases List.mem_cons.mp ((h z).mp (List.mem_cons_of_mem _ hz)) with e | e
      · have := l1 z hz; omega
      · exact e
    · intro hz
      rcases List.mem_cons.mp ((h z).mpr (List.mem_cons_of_mem _ hz)) with e | e
      · have := m1 z hz; omega
      · exact e
theorem fourI_rise (S : Nat → Bool) : (fourI S).Pairwise (· < ·) := by
  have e := four_eq S
  unfold fourI
  rw [e]
  cases S 0 <;> cases S 1 <;> cases S 2 <;> cases S 3 <;> decide
theorem four_rise (S : Nat → Bool) : (four S).Pairwise (· < ·) := by
  rw [four_eq S]
  cases S 0 <;> cases S 1 <;> cases S 2 <;> cases S 3 <;> decide
theorem setC_R {w : World} {h : Heap} {a : Addr} {S : Nat → Bool} (R : SetC w h a S) : SetR w h a (fun z => decide (z ∈ fourI S)) (four S).length := by
  obtain ⟨o, es, ep, t, ho, hex, hd, g, hm, m7, dm, hp, pl, hl⟩ := R.ex
  have hsz : es.size = (four S).length := by
    have := congrArg List.length hm
    simpa using this
  have h4 := four_len S
  have hk : es.toList.map keyOf = fourI S := by
    unfold fourI
    rw [← hm]
    apply List.map_congr_left
    intro e he
    obtain ⟨k, _, h1, tk, h2⟩ := g e he
    unfold keyOf
    rw [h2, h1]
  refine ⟨o, es, ep, t, ho, hex, hd, fun e he => ?_, ?_, fun z => by rw [hk, decide_eq_true_eq], by show es.size < 4096; omega, ?_, hsz, ?_, hl⟩
  · obtain ⟨k, hk4, h1, tk, h2⟩ := g e he
    exact ⟨k, tk, h2, by rw [h1, hash_small k hk4]⟩
  · rw [hk]
    exact (fourI_rise S).imp fun h => by omega
  · simp only [SetTable.fits, SetTable.fill, pl, m7, dm, Bool.and_eq_true, beq_iff_eq, decide_eq_true_eq]
    exact ⟨by simp [hsz], by simp; omega⟩
  · rw [pl]
    exact four_rise S
theorem cr_sortedC (hc : X.calm = true) : CallR X (.builtin "sorted") (rSortedC X.w) := by
  intro pins s σ H vs us Q I r h
  obtain ⟨a, S, rfl, ha, q⟩ := h
  have R := setC_R (setCO_get I ha)
  have h4 := four_len S
  rw [Vals.ref1 r]
  refine sorted_set R (I.ok.hd hc) (by omega) fun s' p out c ns k g o hp hg hi hs hm hl => ?_
  have ens : ns = fourI S := rise_unique hs (fourI_rise S) fun z => by rw [hm, decide_eq_true_eq]
  subst ens
  have hlen : ((fourI S).map V.int).length ≤ sizeLine := by rw [List.length_map, hl, sizeLine_eq]; omega
  have hn : H p = none := I.hok.fresh hp
  have J : Inv X pins σ (upd H p (.lst ((fourI S).map V.int))) s' := by
    obtain ⟨h', g', d', t', o'⟩ := s'
    have eo : o' = s.os := o
    subst eo
    exact I.call (ch := []) (g' := g') (t' := t') (d' := d') (Un.laid k hp hn) (I.hok.laid k hp ⟨hlen, out.toList, c, vals_of_ints hi, hg⟩) (by have : g' = s.gens := g; rw [this]; exact I.bare) (fun _ z => nomatch z)
  exact ⟨.ref p, _, J, rfl, q p hn⟩
end
end SB
set_option maxRecDepth 100000
set_option maxHeartbeats 8000000
/-! Sets of texts: set(a list of texts), sorted(s). -/
namespace SB
open PySem L2 PyProof.Rows
def txtOf (e : Int × Value) : Str := match e.2 with | .str x _ => x | _ => Str.empty
def TxtE (w : World) (e : Int × Value) : Prop := ∃ x tk, e.2 = Value.str x tk ∧ e.1 = hashStr w x
/-- the set of the texts of S at a, n of them -/
structure SetT (w : World) (h : Heap) (a : Addr) (S : Str → Bool) (n : Nat) : Prop where
  ex : ∃ o es ep t, h.get? a = some o ∧ o.ExactSet ∧ o.data = .set es ep t ∧ (∀ e ∈ es.toList, TxtE w e) ∧ (es.toList.map txtOf).Nodup ∧ (∀ x, S x = true ↔ x ∈ es.toList.map txtOf) ∧ es.size < scanBound ∧ t.fits es.size = true ∧ es.size = n ∧ Ris t.place.toList ∧
    (w.params.followText "set-order" = true ∨ t.led = true)
theorem SetT.at {w : World} {h h' : Heap} {a : Addr} {S : Str → Bool} {n : Nat} (R : SetT w h a S n) (k : ∀ o, h.get? a = some o → h'.get? a = some o) : SetT w h' a S n := by
  obtain ⟨o, es, ep, t, ho, r⟩ := R.ex
  exact ⟨o, es, ep, t, k o ho, r⟩
theorem SetT.congr {w : World} {h : Heap} {a : Addr} {S S' : Str → Bool} {n : Nat} (R : SetT w h a S n) (e : ∀ x, S x = S' x) : SetT w h a S' n := by
  have : S = S' := funext e
  rw [← this]; exact R
theorem setT_new {w : World} {h : Heap} {a : Addr} (e : h.get? a = some (newSetObj w)) : SetT w h a (fun _ => false) 0 :=
  ⟨_, #[], 0, _, e, ⟨rfl, rfl, rfl⟩, rfl, (fun e he => by simp at he), (by simp), (fun k => by simp), (by decide), (by rfl), rfl, List.Pairwise.nil, by
    show _ ∨ (!w.params.followText "set-order") = true
    cases w.params.followText "set-order"
    · exact .inr rfl
    · exact .inl rfl⟩
theorem txt_elems {P : Program} {w : World} {l : List (Int × Value)} (g : ∀ e ∈ l, TxtE w e) : ElemsOf (strKind P w) l := fun e he => by
  obtain ⟨x, tk, h1, h2⟩ := g e he
  exact ⟨⟨x, by rw [h1]; exact strKind_is P w x tk, h2⟩, by rw [h1]; rfl⟩
theorem txt_is {P : Program} {w : World} {e : Int × Value} (g : TxtE w e) (x : Str) : (strKind P w).is x e.2 = true ↔ txtOf e = x := by
  obtain ⟨y, tk, h1, _⟩ := g
  constructor
  · intro h
    have := (strKind P w).inj e.2 x y h (by rw [h1]; exact strKind_is P w y tk)
    unfold txtOf
    rw [h1]
    exact this.symm
  · intro h
    unfold txtOf at h
    rw [h1] at h
    rw [h1, ← h]
    exact strKind_is P w y tk
section
variable {P : Program} {w : World} {A : Around} {E : Value → Shared → Prop} {s : Shared} {a : Addr} {S : Str → Bool} {n : Nat}
theorem setT_add_hashed {x : Str} {tk : Tok} {Q : Bool → Shared → Prop} (R : SetT w s.heap a S n) (room : n + 1 < scanBound)
    (hQ : ∀ h', Heap.SameBut a s.heap h' → SetT w h' a (fun y => S y || decide (y = x)) (if S x = true then n else n + 1) → Q (!S x) { s with heap := h' }) :
    wpAny (model P w) A (setAddHashed a (.str x tk) (hashStr w x)) Q E s := by
  obtain ⟨o, es, ep, t, ho, hex, hd, g, nd, hm, hb, hf, hn, hr, hl⟩ := R.ex
  have hkey : (strKind P w).is x (.str x tk) = true := strKind_is P w x tk
  have hsc : (Value.str x tk).scannable = true := rfl
  have hel : ElemsOf (strKind P w) es.toList := txt_elems g
  unfold setAddHashed setAddHashedIn
  refine wpAny_holding (wpAny_bind (wpAny_setState_of ho hd hf ?_))
  dsimp only
  rw [byScan_of hsc hb hel]
  simp only [↓reduceIte]
  unfold setAddByScan
  refine wpAny_bind (wpAny_bind (wpAny_rule ?_))
  refine wpAny_bind (wpAny_setScan_of (knd := strKind P w) hkey ho hd hf hel ?_)
  cases hfi : es.toList.findIdx? (fun e => (strKind P w).is x e.2) with
  | some j =>
    obtain ⟨hj, pj, _⟩ := List.findIdx?_eq_some_iff_getElem.mp hfi
    have hS : S x = true := (hm x).2 (List.mem_map.mpr ⟨es.toList[j], List.getElem_mem hj, (txt_is (g _ (List.getElem_mem hj)) x).1 pj⟩)
    dsimp only
    refine wpAny_pure (wpAny_pure ?_)
    have q := hQ s.heap (Heap.SameBut.refl a s.heap) (by
      rw [if_pos hS]
      exact R.congr fun y => by
        by_cases e : y = x
        · subst e; rw [hS]; rfl
        · rw [decide_eq_false e, Bool.or_false])
    rw [hS] at q
    exact q
  | none =>
    have hnx : x ∉ es.toList.map txtOf := fun z => by
      obtain ⟨e, he, q⟩ := List.mem_map.mp z
      have c := List.findIdx?_eq_none_iff.mp hfi e he
      rw [(txt_is (g e he) x).2 q] at c
      cases c
    have hS : S x = false := by
      cases q : S x with
      | false => rfl
      | true => exact absurd ((hm x).1 q) hnx
    dsimp only
    have give : ∀ (B : Bool) {s1 : Shared} {Q' : Unit → Shared → Prop}, Q' () s1 → wpAny (model P w) A (match B with | true => rule "set.scan.the-table-gave-way" | false => pure ()) Q' E s1 :=
      fun B s1 Q' q => by cases B <;> first | exact wpAny_pure q | exact wpAny_rule q
    have pm := layNew_perm t es (hashStr w x) (.str x tk)
    have hf1 := layNew_fits t es (hashStr w x) (.str x tk)
    have hr1 := layNew_ris t es (hashStr w x) (.str x tk) hr
    have hl1 := layNew_led t es (hashStr w x) (.str x tk)
    have goal : (∀ (es1 : Array (Int × Value)) (t1 : SetTable) (wd gv : Bool), layNew t es (hashStr w x) (.str x tk) = (es1, t1, wd, gv) → True) := fun _ _ _ _ _ => trivial
    generalize layNew t es (hashStr w x) (.str x tk) = Z at pm hf1 hr1 hl1 ⊢
    obtain ⟨es1, t1, wd, gv⟩ := Z
    dsimp only at pm hf1 hr1 hl1 ⊢
    rw [Array.toList_push] at pm
    have pc : es1.toList.Perm ((hashStr w x, Value.str x tk) :: es.toList) := pm.trans (List.perm_append_singleton _ _)
    have pk : (es1.toList.map txtOf).Perm (x :: es.toList.map txtOf) := pc.map txtOf
    have g1 : ∀ e ∈ es1.toList, TxtE w e := fun e he => by
      rcases List.mem_cons.mp (pc.mem_iff.mp he) with z | z
      · rw [z]; exact ⟨x, tk, rfl, rfl⟩
      · exact g e z
    have nd1 : (es1.toList.map txtOf).Nodup := pk.nodup_iff.mpr (List.nodup_cons.mpr ⟨hnx, nd⟩)
    have m1 : ∀ y, (S y || decide (y = x)) = true ↔ y ∈ es1.toList.map txtOf := fun y => by
      rw [Bool.or_eq_true, decide_eq_true_eq, hm y, pk.mem_iff, List.mem_cons]
      exact Or.comm
    have hsz : es1.size = n + 1 := by rw [← Array.length_toList, pc.length_eq, List.length_cons, Array.length_toList, hn]
    have hb1 : es1.size < scanBound := by rw [hsz]; exact room
    have hled : w.params.followText "set-order" = true ∨ t1.led = true := hl.imp id fun z => by rw [hl1]; exact z
    -- what is laid, and laid anew where it is too full
    have tail : ∀ (t2 : SetTable), t2.fits es1.size = true → Ris t2.place.toList → (w.params.followText "set-order" = true ∨ t2.led = true) → ∀ {R : Option Bool → Shared → Prop}, (∀ h', Heap.SameBut a s.heap h' → SetT w h' a (fun y => S y || decide (y = x)) es1.size → R (some true) { s with heap := h' }) →
        wpAny (model P w) A (storeSet a es1 t2 >>= fun _ => if (!wd && t2.tooFull) = true then (match (relayAll t2 es1 (SetTable.grown es1.size)).2.2 with | true => rule "set.scan.the-table-gave-way" | false => pure ()) >>= fun _ => storeSet a (relayAll t2 es1 (SetTable.grown es1.size)).1 (relayAll t2 es1 (SetTable.grown es1.size)).2.1 >>= fun _ => pure (some true) else pure (some true)) R E s := by
      intro t2 hf2 hr2 hl2 R hR
      refine wpAny_bind (wpAny_storeSet_of ho hd ?_ (fits_of_scanBound hb1))
      have ho1 := store_at (es' := es1) (t' := t2) ho hd
      have sb1 := Heap.SameBut.update s.heap a (Obj.putSet es1 t2)
      split
      · have pm3 := relayAll_perm t2 es1 (SetTable.grown es1.size)
        have hf3 := relayAll_fits t2 es1 (SetTable.grown es1.size)
        have hr3 := relayAll_ris t2 es1 (SetTable.grown es1.size)
        have hl3 := relayAll_led t2 es1 (SetTable.grown es1.size)
        generalize relayAll t2 es1 (SetTable.grown es1.size) = Z3 at pm3 hf3 hr3 hl3 ⊢
        obtain ⟨es3, t3, gv3⟩ := Z3
        dsimp only at pm3 hf3 hr3 hl3 ⊢
        have hsz3 : es3.size = es1.size := by rw [← Array.length_toList, pm3.length_eq, Array.length_toList]
        refine wpAny_bind (give gv3 ?_)
        refine wpAny_bind (wpAny_storeSet_of ho1 rfl ?_ (fits_of_scanBound (by rw [hsz3]; exact hb1)))
        have ho3 := store_at (es' := es3) (t' := t3) ho1 rfl
        refine wpAny_pure (hR _ (sb1.trans (Heap.SameBut.update _ a _)) ⟨_, es3, _, t3, ho3, hex, rfl, fun e he => g1 e (pm3.mem_iff.mp he), (pm3.map txtOf).nodup_iff.mpr nd1, fun y => (m1 y).trans (pm3.map txtOf).mem_iff.symm, by rw [hsz3]; exact hb1, hf3, hsz3, hr3, ?_⟩)
        exact hl2.imp id fun z => by rw [hl3]; exact z
      · exact wpAny_pure (hR _ sb1 ⟨_, es1, _, t2, ho1, hex, rfl, g1, nd1, m1, hb1, hf2, rfl, hr2, hl2⟩)
    have fin : ∀ h', Heap.SameBut a s.heap h' → SetT w h' a (fun y => S y || decide (y = x)) es1.size → Q true { s with heap := h' } := fun h' sb r => by
      have q := hQ h' sb
      rw [hS, hsz.symm] at q
      exact q r
    refine wpAny_bind (give _ ?_)
    split
    · rw [hashByValue_scannable 8 hsc]
      refine wpAny_bind (wpAny_pure ?_)
      refine tail _ ?_ ?_ ?_ fun h' sb r => ?_
      · first | (split <;> first | exact hf1 | exact SetTable.fits_plain_off hf1) | exact hf1
      · first | (split <;> exact hr1) | exact hr1
      · first | (split <;> exact hled) | exact hled
      · exact wpAny_pure (fin h' sb r)
    · refine wpAny_bind (wpAny_pure ?_)
      simp only [↓reduceIte]
      exact tail _ hf1 hr1 hled fun h' sb r => wpAny_pure (fin h' sb r)
end
end SB
set_option maxRecDepth 100000
set_option maxHeartbeats 8000000
/-! Sets of texts over the abstract heap; the sorted list of texts is one. -/
namespace SB
open PySem L2 PyProof.Rows
theorem str_ext {x y : Str} (h : x.cps.toList = y.cps.toList) : x = y := by
  have hc : x.cps = y.cps := Array.toList_inj.mp h
  cases x; cases y
  exact congrArg _ hc
def SLe (a b : Str) : Prop := a.cps.toList ≤ b.cps.toList
theorem rising_pw : ∀ (p : Str) (l : List Str), risingS p l = true → (p :: l).Pairwise SLe
  | p, [], _ => by simp
  | p, x :: r, h => by
    have h' : (!PySem.Spec.ltCps x.cps.toList p.cps.toList && risingS x r) = true := h
    rw [Bool.and_eq_true, ltCps_eq, Bool.not_eq_true', decide_eq_false_iff_not] at h'
    have ih := rising_pw x r h'.2
    have hp : SLe p x := List.not_lt.mp h'.1
    refine List.pairwise_cons.mpr ⟨fun y hy => ?_, ih⟩
    rcases List.mem_cons.mp hy with e | e
    · rw [e]; exact hp
    · exact List.le_trans hp ((List.pairwise_cons.mp ih).1 y e)
theorem sortedS_pw : ∀ {l : List Str}, sortedS l = true → l.Pairwise SLe
  | [], _ => .nil
  | x :: r, h => rising_pw x r h
theorem sorted_one : ∀ {l m : List Str}, l.Pairwise SLe → m.Pairwise SLe → l.Nodup → m.Nodup → (∀ z, z ∈ l ↔ z ∈ m) → l = m
  | [], [], _, _, _, _, _ => rfl
  | [], y :: m, _, _, _, _, h => absurd ((h y).mpr List.mem_cons_self) (by simp)
  | x :: l, [], _, _, _, _, h => absurd ((h x).mp List.mem_cons_self) (by simp)
  | x :: l, y :: m, hl, hm, dl, dm, h => by
    obtain ⟨l1, l2⟩ := List.pairwise_cons.mp hl
    obtain ⟨m1, m2⟩ := List.pairwise_cons.mp hm
    obtain ⟨d1, d2⟩ := List.nodup_cons.mp dl
    obtain ⟨e1, e2⟩ := List.nodup_cons.mp dm
    have e : x = y := by
      rcases List.mem_cons.mp ((h x).mp List.mem_cons_self) with z | z
      · exact z
      · rcases List.mem_cons.mp ((h y).mpr List.mem_cons_self) with z' | z'
        · exact z'.symm
        · exact str_ext (List.le_antisymm (l1 y z') (m1 x z))
    subst e
    refine congrArg _ (sorted_one l2 m2 d2 e2 fun z => ?_)
    constructor
    · intro hz
      rcases List.mem_cons.mp ((h z).mp (List.mem_cons_of_mem _ hz)) with e | e
      · rw [e] at hz; exact absurd hz d1
      · exact e
    · intro hz
      rcases List.mem_cons.mp ((h z).mpr (List.mem_cons_of_mem _ hz)) with e | e
      · rw [e] at hz; exact absurd hz e1
      · exact e
/-- the texts of l, each once, in order -/
structure Sorts (l out : List Str) : Prop where
  pw : out.Pairwise SLe
  nd : out.Nodup
  mem : ∀ z, z ∈ out ↔ z ∈ l
theorem Sorts.one {l m out out' : List Str} (a : Sorts l out) (b : Sorts m out') (h : ∀ z, z ∈ l ↔ z ∈ m) : out = out' := sorted_one a.pw b.pw a.nd b.nd fun z => (a.mem z).trans ((h z).trans (b.mem z).symm)

def SetTO (w : World) (a : Addr) (S : Str → Bool) (n : Nat) : HO := .ext fun h => SetT w h a S n
theorem setTO_new {w : World} {P : Program} {H : Hp} {h : Heap} {a : Addr} {S : Str → Bool} {n : Nat} (R : SetT w h a S n) : ObjOk P w H h a (SetTO w a S n) := by
  obtain ⟨o, _, _, _, ho, _⟩ := R.ex
  exact ⟨R, ⟨o, ho⟩, fun h1 h2 p k => SetT.at p k⟩
section
variable {X : Cx} {pins : List (Addr × Obj)} {σ : L2.St} {H : Hp} {s : Shared}
def rSetT (K : PySem.W.Frag) (w : World) : List V → Hp → VK → Prop := fun xs H Q => ∃ (p : Addr) (zs : List Str), xs = [.ref p] ∧ SqL K H p (zs.map V.str) ∧ zs.length ≤ 60 ∧ ∀ q n, H q = none → n ≤ zs.length → Q (.ref q) (upd H q (SetTO w q (fun x => decide (x ∈ zs)) n))
theorem cr_setT (hc : X.calm = true) : CallR X (.type "set") (rSetT X.K X.w) := by
  intro pins s σ H xs us Q I r h
  obtain ⟨p, zs, rfl, hp, hz, q⟩ := h
  obtain ⟨u, rfl, rx⟩ := vals1 r
  cases rx
  obtain ⟨its, rv, pl, _⟩ := I.list hp
  have hlen : its.length = zs.length := by
    have := rv.length
    rw [List.length_map] at this
    omega
  refine call_set_seq (fun i h => ∃ n, n ≤ i ∧ SetT X.w h s.heap.objs.size (fun x => decide (x ∈ zs.take i)) n) (.inl pl.isList) (I.ok.hd hc) (fun i h h' j k => ?_) (fun i v s1 B F Q hv j q => ?_) (fun h e => ?_) fun h' tk k j => ?_
  · obtain ⟨n, h1, h2⟩ := j
    exact ⟨n, h1, h2.at k⟩
  · have hv' : its[i]? = some v := by simpa using hv
    have hi := (List.getElem?_eq_some_iff.mp hv').1
    have hi' : i < zs.length := by omega
    obtain ⟨u, e1, t, e2⟩ := rv.get (i := i) (x := V.str zs[i]) (by rw [List.getElem?_map, List.getElem?_eq_getElem hi']; rfl)
    rw [hv'] at e1
    cases e1
    subst e2
    obtain ⟨n, hn, hS⟩ := j
    have hb : n + 1 < scanBound := by show n + 1 < 4096; omega
    unfold setAdd
    refine wpAny_holding (wpAny_bind ((strKind X.prog X.w).pyHash (k := zs[i]) (strKind_is _ _ _ _) ?_))
    refine setT_add_hashed (s := { s1 with toks := s1.toks + 1 }) hS hb fun h' sb c => q h' _ _ sb ⟨_, ?_, c.congr fun x => ?_⟩
    · split <;> omega
    · rw [take_succ (List.getElem?_eq_getElem hi'), Bool.eq_iff_iff]
      simp only [Bool.or_eq_true, decide_eq_true_eq, List.mem_append, List.mem_singleton]
  · exact ⟨0, Nat.le_refl _, (setT_new e).congr fun x => by simp⟩
  · rw [show its.toArray.size = zs.length from by simp [hlen], List.take_length] at j
    obtain ⟨n, hn, hS⟩ := j
    exact ⟨.ref _, upd H s.heap.objs.size (SetTO X.w s.heap.objs.size (fun x => decide (x ∈ zs)) n), I.laid (t' := tk) k (Nat.le_refl _) (setTO_new hS), rfl, q _ n (I.hok.fresh (Nat.le_refl _)) hn⟩
def rSortedT (w : World) : List V → Hp → VK → Prop := fun vs H Q => ∃ (a : Addr) (l : List Str) (n : Nat), vs = [V.ref a] ∧ H a = some (SetTO w a (fun x => decide (x ∈ l)) n) ∧ n < 64 ∧ ∀ (p : Addr) (out : List Str), Sorts l out → H p = none → Q (.ref p) (upd H p (.lst (out.map V.str)))
theorem strs_of (w : World) : ∀ (l : List Value) (es : List (Int × Value)), (∀ v ∈ l, ∃ x tk, v = Value.str x tk) → StrsAre l (l.map fun v => txtOf (0, v))
  | [], _, _ => .nil
  | v :: l, es, h => by
    obtain ⟨x, tk, rfl⟩ := h v List.mem_cons_self
    exact .cons x tk (strs_of w l es fun u hu => h u (List.mem_cons_of_mem _ hu))
theorem cr_sortedT (hc : X.calm = true) : CallR X (.builtin "sorted") (rSortedT X.w) := by
  intro pins s σ H vs us Q I r h
  obtain ⟨a, l, n, rfl, ha, h64, q⟩ := h
  obtain ⟨u, rfl, rx⟩ := vals1 r
  cases rx
  have R : SetT X.w s.heap a _ n := (I.hok a _ ha).1
  obtain ⟨o, es, ep, t, ho, hex, hd, g, nd, hm, hb, hf, hn, hr, hl⟩ := R.ex
  refine Calls.call_function_entry PyProof.Rows.kind_sorted PyProof.Rows.plain_sorted PyProof.Rows.entry_sorted (PyProof.Rows.args_sorted1 _) ?_
  unfold Builtin.«sorted»
  refine wpAny_bind (m := checkCount "sorted" 1 1 _) (wpAny_pure ?_)
  refine wpAny_bind (collect_set (A := X.A.in1) (I.ok.hd hc) ⟨o, ho, hex.1, hd⟩ hf hb hr hl fun s1 vs k1 hz g1 o1 pm => ?_)
  have hvl : vs.length = n := by rw [pm.length_eq, List.length_map, Array.length_toList]; exact hn
  have hS : StrsAre vs (vs.map fun v => txtOf (0, v)) := strs_of X.w vs [] fun v hv => by
    obtain ⟨e, he, q⟩ := List.mem_map.mp (pm.mem_iff.mp hv)
    obtain ⟨x, tk, h1, _⟩ := g e he
    exact ⟨x, tk, by rw [← q]; exact h1⟩
  have pk : (vs.map fun v => txtOf (0, v)).Perm (es.toList.map txtOf) := by
    have q := pm.map fun v => txtOf (0, v)
    rw [List.map_map] at q
    exact q
  refine wpAny_bind (wpAny_newList ?_ (by rw [hvl, sizeLine_eq]; omega))
  have hoL : (s1.heap.push (seqObj "list" vs.toArray 0)).get? s1.heap.objs.size = some (seqObj "list" vs.toArray 0) := Heap.get?_push_size _ rfl
  refine wpAny_bind (wpAny_holding (wpAny_call_entry PyProof.Rows.slot_list_sort ⟨_, hoL, rfl⟩ PyProof.Rows.entry_list_sort
    (list_sort_treeK strKind_oneLt hoL hS.keysOf (fun v1 v2 rest e => keyKind_strs (by rw [← e]; exact hS)) (by rw [hvl]; exact h64) fun st' hp hs => ⟨_, rfl, ?_⟩) (PyProof.Rows.args_list_sort _)))
  obtain ⟨ys, y1, y2, y3⟩ := sorted_out_str hS hp hs
  obtain ⟨e', he'⟩ := PyProof.Rows.sortedHeap_at (vs := vs) (out := (arrOf st').map (·.2)) hoL
  have pn : ys.Perm (es.toList.map txtOf) := y2.trans pk
  have hlen : (ys.map V.str).length ≤ sizeLine := by
    rw [List.length_map, pn.length_eq, List.length_map, Array.length_toList, hn, sizeLine_eq]
    omega
  have hfree : H s1.heap.objs.size = none := I.hok.fresh hz
  have sorts : Sorts l ys := ⟨sortedS_pw y3, pn.nodup_iff.mpr nd, fun z => by rw [pn.mem_iff, ← hm z, decide_eq_true_eq]⟩
  have kp : ∀ b u, s.heap.get? b = some u → (PyProof.Rows.sortedHeap (s1.heap.push (seqObj "list" vs.toArray 0)) s1.heap.objs.size vs ((arrOf st').map (·.2))).get? b = some u := fun b u e => by
    have q1 := k1 b u e
    have hlt := Heap.lt_size q1
    rw [PyProof.Rows.sortedHeap_old (Nat.ne_of_lt hlt) (by rw [size_push']; exact Nat.lt_succ_of_lt hlt)]
    exact Heap.get?_push_of_some _ q1
  refine wpAny_pure ⟨_, rfl, .ref s1.heap.objs.size, upd H s1.heap.objs.size (.lst (ys.map V.str)), ?_, rfl, q _ ys sorts hfree⟩
  exact I.call' (ch := []) o1 (Un.laid kp hz hfree) (I.hok.laid kp hz ⟨hlen, ((arrOf st').map (·.2)).toList, e', vals_of_strs y1, by rw [Array.toArray_toList]; exact he'⟩) (by show AllBare s1.gens; rw [g1]; exact I.bare) (fun _ z => nomatch z)
end
end SB
set_option maxRecDepth 100000
set_option maxHeartbeats 8000000
/-! Further rules. -/
namespace SB
open PySem L2 PyProof.Rows

/-! ### (v,) * n -/
theorem tuple_mul1 (l : Addr) (items : Array Value) (n : Nat) (dd : Option Addr) (sl : Array (Option Value)) (u : Tok) :
    Meets (Builtin.«tuple.__mul__» ⟨[.ref l, .int 1 u], []⟩) (fun _ R s => s.heap.get? l = some { cls := .type "tuple", dict := dd, data := .seq items n, slots := sl } ∧ R (.ok (.ret (Value.ref l))) s) :=
  .of_wp fun prog w A R s h => by
    obtain ⟨hp, g, d, tk, os⟩ := s
    obtain ⟨hl, h⟩ := h
    have f1 := AutoSeq1.idx_int
    wp_walk using wpAny_loadPart' hl
    exact ⟨_, rfl, h⟩
theorem tuple_mul0 (l : Addr) (items : Array Value) (n : Nat) (dd : Option Addr) (sl : Array (Option Value)) (u : Tok) (hne : items.isEmpty = false) :
    Meets (Builtin.«tuple.__mul__» ⟨[.ref l, .int 0 u], []⟩) (fun _ R s => s.heap.get? l = some { cls := .type "tuple", dict := dd, data := .seq items n, slots := sl } ∧
      R (.ok (.ret (Value.ref s.heap.objs.size))) { s with heap := s.heap.push { cls := Value.type "tuple", data := Data.seq #[] }, toks := s.toks }) :=
  .of_wp fun prog w A R s h => by
    obtain ⟨hp, g, d, tk, os⟩ := s
    obtain ⟨hl, h⟩ := h
    have f1 := AutoSeq1.idx_int
    wp_walk using wpAny_loadPart' hl
    exact ⟨_, rfl, h⟩

def rRepA (K : PySem.W.Frag) : R2 := fun x y H Q => rRepT K x y H Q ∨ (∃ l k xs, x = .ref l ∧ y = .int k ∧ SqT K H l xs ∧ xs ≠ [] ∧ ((k = 1 ∧ Q (.ref l) H) ∨ (k = 0 ∧ ∀ p, H p = none → Q (.ref p) (upd H p (.tup [])))))
section
variable {X : Cx}
theorem op_repA : OpR X (binaryOp .Mult) (rRepA X.K) := by
  intro pins s σ H x y v u Q I rx ry h
  rcases h with h | ⟨l, k, xs, rfl, rfl, hT, hne, h⟩
  · exact op_repT pins s σ H x y v u Q I rx ry h
  · cases rx
    obtain ⟨t, rfl⟩ := ry
    obtain ⟨its, r, ⟨⟨cls, dd, data, sl⟩, ho, hc, n, hd⟩, hs⟩ := I.tuple hT
    simp only at hc hd
    subst hc hd
    have hle : its.length = xs.length := r.length.symm
    have hn : its ≠ [] := fun e => hne (by
      rw [e] at hle
      exact List.eq_nil_of_length_eq_zero hle.symm)
    have hi : its.toArray.isEmpty = false := by
      cases its with
      | nil => exact absurd rfl hn
      | cons a b => rfl
    rcases h with ⟨rfl, q⟩ | ⟨rfl, q⟩
    · refine wpAny_binaryOp_repeat_ref (T := "tuple") (U := "int") (by decide) ⟨_, ho, rfl⟩ (fun s' => typeIs_int s' 1 t) noFill_tuple_mul F.fills_int_mul F.slot_int_rmul repeat_tuple F.slot_int_index.lookup
        (call_meets F.slot_int_rmul (typeIs_int s 1 t) F.entry_int_rmul (F.args_int_rmul_2 _ _) (int_rmul_tuple 1 t l its.toArray n dd sl)
          ⟨ho, rfl, ⟨_, ho, rfl⟩, call_meets F.slot_tuple_mul ⟨_, ho, rfl⟩ F.entry_tuple_mul (F.args_tuple_mul_2 _ _) (tuple_mul1 l its.toArray n dd sl t) ⟨ho, ?_⟩⟩)
      exact ⟨.ref l, _, I, rfl, q⟩
    · refine wpAny_binaryOp_repeat_ref (T := "tuple") (U := "int") (by decide) ⟨_, ho, rfl⟩ (fun s' => typeIs_int s' 0 t) noFill_tuple_mul F.fills_int_mul F.slot_int_rmul repeat_tuple F.slot_int_index.lookup
        (call_meets F.slot_int_rmul (typeIs_int s 0 t) F.entry_int_rmul (F.args_int_rmul_2 _ _) (int_rmul_tuple 0 t l its.toArray n dd sl)
          ⟨ho, rfl, ⟨_, ho, rfl⟩, call_meets F.slot_tuple_mul ⟨_, ho, rfl⟩ F.entry_tuple_mul (F.args_tuple_mul_2 _ _) (tuple_mul0 l its.toArray n dd sl t hi) ⟨ho, ?_⟩⟩)
      refine ⟨.ref s.heap.objs.size, _, I.laid (t' := s.toks) (o := .tup []) (fun b ob q => Heap.get?_push_of_some _ q) (Nat.le_refl _) ?_, rfl, q _ (I.hok.fresh (Nat.le_refl _))⟩
      exact ⟨by rw [sizeLine_eq]; exact Nat.zero_le _, _, .nil, IsTup.new _ _⟩
end
end SB
set_option maxRecDepth 100000
set_option maxHeartbeats 8000000
/-! enumerate(a tuple). -/
namespace SB
open PySem L2 PyProof.Rows

theorem meets_enum1 {v : Value} {o : Obj} {Hc : Heap → Prop} (B : Begins v o Hc) :
    Meets (Builtin.«enumerate.__new__» ⟨[.type "enumerate", v], []⟩) (fun _ R s => Hc s.heap ∧
      R (.ok (.ret (.ref (s.heap.push o).objs.size))) { s with heap := (s.heap.push o).push { cls := .type "enumerate", data := .fields #[.none, .bool false, .ref s.heap.objs.size, rawInt 0, .none, .none] } }) :=
  .of_wp fun prog w A R s h => by
    obtain ⟨hp, g, d, tk, os⟩ := s; obtain ⟨h1, h⟩ := h
    have hsub := sub_enumerate
    have step : ∀ {A' : Around} {E : Value → Shared → Prop} {Q : Value → Shared → Prop}, Q (.ref hp.objs.size) ⟨hp.push o, g, d, tk, os⟩ → wpAny (model prog w) A' (pyIter v) Q E ⟨hp, g, d, tk, os⟩ :=
      fun q => B.iter prog w _ _ ⟨hp, g, d, tk, os⟩ _ h1 q
    wp_walk using step
    refine wpAny_stack_any fun st => wpAny_pure ?_
    split
    · rename_i c _ _ _ _ _
      cases (c == Value.type "enumerate") <;> (wp_walk using step; exact ⟨_, rfl, h⟩)
    · wp_walk using step
      exact ⟨_, rfl, h⟩
section
variable {prog : Program} {w : World} {A : Around} {E : Value → Shared → Prop} {s : Shared}
theorem call_enum1 {v : Value} {o : Obj} {Hc : Heap → Prop} {Q : Value → Shared → Prop} (B : Begins v o Hc) (h1 : Hc s.heap)
    (h : ∀ h', IsEnum h' (s.heap.objs.size + 1) s.heap.objs.size 0 .none → h'.get? s.heap.objs.size = some o →
      (∀ b o, s.heap.get? b = some o → h'.get? b = some o) → Q (.ref (s.heap.objs.size + 1)) { s with heap := h' }) :
    wpAny (model prog w) A (call (.type "enumerate") [v]) Q E s := by
  refine callType_new F.called_enumerate (by decide) (F.typeCall_enumerate_1 _) (F.newCall_enumerate_1 _) (fun obj => F.args_object_init_2 obj _) F.entry_enumerate_new
    (meets_enum1 B) ⟨h1, ?_⟩
  have hz : (s.heap.push o).objs.size = s.heap.objs.size + 1 := Heap.size_push ..
  show _ ∧ _
  rw [hz]
  have he : IsEnum ((s.heap.push o).push { cls := .type "enumerate", data := .fields #[.none, .bool false, .ref s.heap.objs.size, rawInt 0, .none, .none] }) (s.heap.objs.size + 1) s.heap.objs.size 0 .none := by
    have := Heap.get?_push_size (s.heap.push o) (o := { cls := .type "enumerate", data := .fields #[.none, .bool false, .ref s.heap.objs.size, rawInt 0, .none, .none] }) rfl
    rw [hz] at this; exact this
  exact ⟨⟨_, he, rfl⟩, h _ he (Heap.get?_push_of_some _ (Heap.get?_push_size _ B.free)) fun b o x => Heap.get?_push_of_some _ (Heap.get?_push_of_some _ x)⟩
end

/-- the tuple at a, each item in a new pair -/
def Iet (K : PySem.W.Frag) (a : Addr) (xs : List V) : It :=
  ⟨fun i H => SqT K H a xs ∧ i < xs.length, fun i H v H' => ∃ T x, v = .ref T ∧ H T = none ∧ H' = upd H T (.tup [.int (i : Nat), x]) ∧ xs[i]? = some x, fun i H => SqT K H a xs ∧ xs.length ≤ i⟩
theorem turn_enumT {P : Program} {w : World} {K : PySem.W.Frag} {elts : List Expr} {kk : Nat} {tpos : Pos} (a e it : Addr) (xs : List V) :
    Turn P w K (.Tuple elts kk tpos) (Iet K a xs) [e, it] e (fun i h => (∃ old, IsEnum h e it ((i : Nat) : Int) old) ∧ h.IsTupleIter it a i ∧ e ≠ it ∧ e ≠ a ∧ a ≠ it ∧ i ≤ xs.length) where
  mem := List.mem_cons_self
  obj := fun i h st b hb => by
    obtain ⟨⟨old, he⟩, ⟨o, ho, hc, hd⟩, _⟩ := st
    rcases List.mem_cons.mp hb with z | z
    · rw [z]; exact ⟨_, he, fun v q => nomatch q⟩
    · rw [List.mem_singleton.mp z]; exact ⟨o, ho, fun v q => by rw [hd] at q; cases q⟩
  keep := fun i h h' st k => let ⟨⟨old, he⟩, hi, hne⟩ := st; ⟨⟨old, k e (by simp) _ he⟩, hi.at fun o q => k it (by simp) o q, hne⟩
  item := by
    intro X hP hw hK hc i pins s σ H E I hf st hg
    subst hP hw hK
    obtain ⟨⟨old, he⟩, hit, hne, hea, hai, hile⟩ := st
    obtain ⟨hq, hlt⟩ := hg
    obtain ⟨x, hx⟩ : ∃ x, xs[i]? = some x := ⟨xs[i], List.getElem?_eq_getElem hlt⟩
    obtain ⟨its, rv, p, hz⟩ := I.tuple hq
    obtain ⟨u, hu, ru⟩ := rv.get hx
    have hel : e < s.heap.objs.size := Heap.lt_size he
    have hil : it < s.heap.objs.size := by obtain ⟨_, q, _⟩ := hit; exact Heap.lt_size q
    have hh : X.A.handled = none := I.ok.hd hc
    have D := Draws.tuple (prog := X.prog) (w := X.w) (A := X.A.in1) hh it a hai its.toArray
    have hl : its.length = xs.length := rv.length.symm
    refine wpAny_pyNext_enum_itemC D he ⟨hit, p⟩ (by simp; omega) hne (by simp [hne, hea]) fun y h' tk hy ho hit' hT hsz hk => ?_
    have hy' : y = u := by
      have e1 : its.toArray[i]? = some u := by simpa using hu
      rw [e1] at hy
      exact (Option.some.inj hy).symm
    subst hy'
    refine ⟨_, rfl, wpAny_letOwnedTupleGo_enum (s := { s with heap := h', toks := tk + 1 }) ho fun h'' he' sb => ?_⟩
    have hT2 : h''.get? s.heap.objs.size = some { cls := .type "tuple", data := .seq #[.int i tk, y] } := (sb.2 _ (Nat.ne_of_gt hel)).trans hT
    have new : ObjOk X.prog X.w (upd H s.heap.objs.size (.tup [.int (i : Nat), x])) h'' s.heap.objs.size (.tup [.int (i : Nat), x]) :=
      ⟨by show 2 ≤ sizeLine; decide, [.int i tk, y], .cons ⟨_, rfl⟩ (.cons ru .nil), ⟨_, hT2, rfl, _, rfl⟩⟩
    have I1 : Inv X pins σ (upd H s.heap.objs.size (.tup [.int (i : Nat), x])) { s with heap := h'', toks := tk + 1 } :=
      I.turnedNew (ch := [e, it]) (fun b ob hb q => (sb.2 b (fun z => hb (by simp [z]))).trans (hk b ob (fun z => hb (by simp [z])) (fun z => hb (by simp [z])) q)) hf (Nat.le_refl _) new
    refine ⟨.ref s.heap.objs.size, _, I1, rfl, ⟨_, x, rfl, I.hok.fresh (Nat.le_refl _), rfl, hx⟩, ⟨⟨y, ?_⟩, hit'.1.at fun o q => (sb.2 it (Ne.symm hne)).trans q, hne, hea, hai, hlt⟩, fun b hb => ?_⟩
    · have e1 : ((i + 1 : Nat) : Int) = (i : Int) + 1 := by omega
      rw [e1]; exact he'
    · have hb' : b < s.heap.objs.size := by
        rcases List.mem_cons.mp hb with z | z
        · rw [z]; exact hel
        · rw [List.mem_singleton.mp z]; exact hil
      rw [upd_ne (Nat.ne_of_lt hb')]
      exact (hf b hb).1
  done := by
    intro X hP hw hK hc i pins s σ H E I hf st hg
    subst hP hw hK
    obtain ⟨⟨old, he⟩, hit, hne, hea, hai, hile⟩ := st
    obtain ⟨hq, hx⟩ := hg
    obtain ⟨its, rv, p, hz⟩ := I.tuple hq
    obtain ⟨f0, f1, f2, f3, f4, f5⟩ := hf it (by simp)
    have hl : its.length = xs.length := rv.length.symm
    have hh : X.A.handled = none := I.ok.hd hc
    have D := Draws.tuple (prog := X.prog) (w := X.w) (A := X.A.in1) hh it a hai its.toArray
    have hi : i = its.toArray.size := by simp; omega
    subst hi
    exact wpAny_pyNext_enum_endD D he ⟨hit, p⟩ fun h' eb => ⟨rfl, I.turned (t' := s.toks) (fun b o hb q => eb b o hb q) f0 f1 f3 f4 f5⟩
  self := fun A i s Q E st h => let ⟨⟨_, he⟩, _⟩ := st; wpAny_pyIter_enum he h
def iEnT (K : PySem.W.Frag) (ta : TA) : TI := fun σ H R => ta σ H fun vs H1 => ∃ a xs, vs = [.ref a] ∧ SqT K H1 a xs ∧ R (Iet K a xs) H1
theorem pi_enumT {X : Cx} {e : Expr} {ta : TA} {p pos tpos : Pos} {elts : List Expr} {kk : Nat} (hg : Gl X "enumerate") (hm : X.mg "enumerate" = none) (ha : PA X [e] ta) (hs : starEach [e] X.env = [(false, eval e X.env)] := by rfl) :
    PI X (.Tuple elts kk tpos) (.Call (.Name "enumerate" p) [e] [] pos) (iEnT X.K ta) := by
  refine ⟨fun pins s σ H R I h => ?_⟩
  refine Call_ (ld_blt I hg hm boot_enumerate (PyProof.Rows.callWith_type1 (thn (ha.run pos pins s σ H _ I h) fun us s1 ⟨vs, H1, I1, r1, q1⟩ => ?_) hs rfl))
  obtain ⟨a, xs, ex, hq, q⟩ := q1
  subst ex
  cases r1 with
  | cons r rr =>
    cases rr
    cases r
    obtain ⟨its, rv, p', hz⟩ := I1.tuple hq
    have ha' : a < s1.heap.objs.size := by obtain ⟨_, q, _⟩ := p'; exact Heap.lt_size q
    refine call_enum1 (begins_tuple a its.toArray) p' fun h' he hit hk => wpAny_pyIter_enum he ?_
    have I2 : Inv X pins σ H1 { s1 with heap := h' } := I1.kept (t' := s1.toks) hk
    refine ⟨s1.heap.objs.size + 1, [s1.heap.objs.size + 1, s1.heap.objs.size], _, _, H1, rfl, I2, turn_enumT a (s1.heap.objs.size + 1) s1.heap.objs.size xs, ⟨⟨.none, he⟩, ⟨_, hit, rfl, rfl⟩, Nat.succ_ne_self _, ?_, ?_, Nat.zero_le _⟩, fun b hb => ?_, q⟩
    · intro z; rw [← z] at ha'; exact Nat.lt_irrefl _ (Nat.lt_of_succ_lt ha')
    · exact Nat.ne_of_lt ha'
    · have hle : s1.heap.objs.size ≤ b := by
        rcases List.mem_cons.mp hb with z | z
        · rw [z]; exact Nat.le_add_right _ _
        · rw [List.mem_singleton.mp z]; exact Nat.le_refl _
      exact I1.fpOk hle (I1.hok.fresh hle)
end SB
set_option maxRecDepth 100000
set_option maxHeartbeats 8000000
/-! dict(zip(a list, a tuple)). -/
namespace SB
open PySem L2 PyProof.Rows

section
variable {prog : Program} {w : World} {A : Around} {E : Value → Shared → Prop} {s : Shared} {z TI TO T i1 i2 : Addr} {fp1 fp2 : List Addr} {n1 n2 i : Nat} {P1 P2 : Nat → Value → Prop} {St1 St2 : Nat → Heap → Prop} {f : Bool} {oT : Obj}
theorem zipD2_held_item {Q : Value → Shared → Prop} (S : ZipSep2 z TI TO i1 i2 fp1 fp2) (D1 : Draws prog w A i1 fp1 n1 P1 St1) (D2 : Draws prog w A i2 fp2 n2 P2 St2)
    (hz : IsZipHeld s.heap z TI TO T f) (hT : s.heap.get? T = some oT) (hTI : IsTupOf2 s.heap TI (.ref i1) (.ref i2)) (st1 : St1 i s.heap) (st2 : St2 i s.heap) (hlt1 : i < n1) (hlt2 : i < n2)
    (hQ : ∀ x1 x2 h' tk, P1 i x1 → P2 i x2 → IsZipHeld h' z TI TO T true → St1 (i + 1) h' → St2 (i + 1) h' → IsTupOf2 h' s.heap.objs.size x1 x2 →
      (∀ c o, c ≠ z → c ≠ i1 → c ≠ i2 → s.heap.get? c = some o → h'.get? c = some o) → Q (.ref s.heap.objs.size) { s with heap := h', toks := tk }) :
    wpAny (model prog w) A (Builtin.«zip.__next__» ⟨[.ref z], []⟩) (fun fin s' => ∃ v, fin = .done (.ret v) ∧ Q v s') E s := by
  obtain ⟨hp, g, d, tk0, os⟩ := s
  show wpAny _ _ (field (.ref z) 2 >>= _) _ _ _
  refine wpAny_bind (wpAny_field hz rfl (x := .bool false) rfl ?_)
  show wpAny _ _ (field (.ref z) 3 >>= _) _ _ _
  refine wpAny_bind (wpAny_field hz rfl (x := .ref TI) rfl ?_)
  refine wpAny_bind (wpAny_seqItems hTI rfl ?_)
  show wpAny _ _ (Builtin.SmallTypes.ownedTupleIsFree (.ref z) >>= _) _ _ _
  refine wpAny_bind (wpAny_tupleHeld_zip hz hT fun g0 hz0 hs0 => ?_)
  replace hs0 : Heap.SameBut z hp g0 := hs0
  simp only [Bool.false_eq_true, if_false]
  refine wpAny_bind ?_
  rw [← Array.forIn_toList]
  simp only [List.forIn_cons, List.forIn_nil]
  refine wpAny_bind (wpAny_bind (wpAny_holding ?_))
  show wpAny _ _ (Builtin.SmallTypes.nextOf (.ref i1) >>= _) _ _ ⟨g0, g, d, tk0, os⟩
  refine wpAny_bind (D1.item i _ _ _ hlt1 (D1.over st1 hs0 S.zf1) fun x1 p1 tk1 hx1 sn1 hp1 => wpAny_pure ?_)
  replace hp1 : Heap.SameBut i1 g0 p1 := hp1
  refine wpAny_pure ?_
  refine wpAny_bind (wpAny_bind (wpAny_holding ?_))
  show wpAny _ _ (Builtin.SmallTypes.nextOf (.ref i2) >>= _) _ _ ⟨p1, g, d, tk1, os⟩
  refine wpAny_bind (D2.item i _ _ _ hlt2 (D2.over (D2.over st2 hs0 S.zf2) hp1 S.sep1_2) fun x2 p2 tk2 hx2 sn2 hp2 => wpAny_pure ?_)
  replace hp2 : Heap.SameBut i2 p1 p2 := hp2
  refine wpAny_pure (wpAny_pure ?_)
  show wpAny _ _ (newTuple [x1, x2] >>= _) _ _ _
  refine wpAny_bind (wpAny_newTuple ?_)
  have hsz : p2.objs.size = hp.objs.size := by rw [hp2.1, hp1.1, hs0.1]
  have hzz : IsZipHeld p2 z TI TO T true := hp2.extBut _ _ S.zi2 (hp1.extBut _ _ S.zi1 hz0)
  have hk : ∀ c o, c ≠ z → c ≠ i1 → c ≠ i2 → hp.get? c = some o → p2.get? c = some o := fun c o c1 c2 c3 e => hp2.extBut _ _ c3 (hp1.extBut _ _ c2 (hs0.extBut _ _ c1 e))
  have hp' : IsTupOf2 (p2.push { cls := .type "tuple", data := .seq #[x1, x2] }) p2.objs.size x1 x2 := Heap.get?_push_size _ rfl
  refine wpAny_pure ⟨_, rfl, ?_⟩
  show Q (.ref p2.objs.size) _
  rw [hsz] at hp' ⊢
  exact hQ x1 x2 _ tk2 hx1 hx2 (Heap.get?_push_of_some _ hzz) (D1.frame _ _ _ (D1.over sn1 hp2 S.sep2_1) fun b _ o e => Heap.get?_push_of_some _ e) (D2.frame _ _ _ sn2 fun b _ o e => Heap.get?_push_of_some _ e) hp' fun c o c1 c2 c3 e => Heap.get?_push_of_some _ (hk c o c1 c2 c3 e)
theorem zipD2_held_end {Q : Fin → Shared → Prop} (S : ZipSep2 z TI TO i1 i2 fp1 fp2) (D1 : Draws prog w A i1 fp1 n1 P1 St1) (D2 : Draws prog w A i2 fp2 n2 P2 St2)
    (hz : IsZipHeld s.heap z TI TO T f) (hT : s.heap.get? T = some oT) (hTI : IsTupOf2 s.heap TI (.ref i1) (.ref i2)) (st1 : St1 i s.heap) (st2 : St2 i s.heap) (hle1 : i ≤ n1) (hle2 : i ≤ n2) (hend : i = n1 ∨ i = n2)
    (hE : ∀ h' tk e, (∀ c o, c ≠ z → c ≠ i1 → c ≠ i2 → s.heap.get? c = some o → h'.get? c = some o) → (∃ o, h'.get? e = some o ∧ o.cls = .type "StopIteration") → E (.ref e) { s with heap := h', toks := tk }) :
    wpAny (model prog w) A (Builtin.«zip.__next__» ⟨[.ref z], []⟩) Q E s := by
  obtain ⟨hp, g, d, tk0, os⟩ := s
  show wpAny _ _ (field (.ref z) 2 >>= _) _ _ _
  refine wpAny_bind (wpAny_field hz rfl (x := .bool false) rfl ?_)
  show wpAny _ _ (field (.ref z) 3 >>= _) _ _ _
  refine wpAny_bind (wpAny_field hz rfl (x := .ref TI) rfl ?_)
  refine wpAny_bind (wpAny_seqItems hTI rfl ?_)
  show wpAny _ _ (Builtin.SmallTypes.ownedTupleIsFree (.ref z) >>= _) _ _ _
  refine wpAny_bind (wpAny_tupleHeld_zip hz hT fun g0 hz0 hs0 => ?_)
  replace hs0 : Heap.SameBut z hp g0 := hs0
  simp only [Bool.false_eq_true, if_false]
  refine wpAny_bind ?_
  rw [← Array.forIn_toList]
  simp only [List.forIn_cons, List.forIn_nil]
  refine wpAny_bind (wpAny_bind (wpAny_holding ?_))
  show wpAny _ _ (Builtin.SmallTypes.nextOf (.ref i1) >>= _) _ _ ⟨g0, g, d, tk0, os⟩
  by_cases hlt1 : i < n1
  · refine wpAny_bind (D1.item i _ _ _ hlt1 (D1.over st1 hs0 S.zf1) fun x1 p1 tk1 hx1 sn1 hp1 => wpAny_pure ?_)
    replace hp1 : Heap.SameBut i1 g0 p1 := hp1
    refine wpAny_pure ?_
    refine wpAny_bind (wpAny_bind (wpAny_holding ?_))
    show wpAny _ _ (Builtin.SmallTypes.nextOf (.ref i2) >>= _) _ _ ⟨p1, g, d, tk1, os⟩
    have e2 : i = n2 := hend.resolve_left (Nat.ne_of_lt hlt1)
    subst e2
    refine wpAny_bind (D2.done _ _ _ (D2.over (D2.over st2 hs0 S.zf2) hp1 S.sep1_2) fun h3 e hs3 he => ?_)
    exact hE h3 tk1 e (fun c o c1 c2 c3 x => hs3 _ _ c3 (hp1.extBut _ _ c2 (hs0.extBut _ _ c1 x))) he
  · have e1 : i = n1 := Nat.le_antisymm hle1 (Nat.le_of_not_lt hlt1)
    subst e1
    refine wpAny_bind (D1.done _ _ _ (D1.over st1 hs0 S.zf1) fun h3 e hs3 he => ?_)
    exact hE h3 tk0 e (fun c o c1 c2 c3 x => hs3 _ _ c2 (hs0.extBut _ _ c1 x)) he
theorem pyNext_zipD2_held_item {Q : Option Value → Shared → Prop} (S : ZipSep2 z TI TO i1 i2 fp1 fp2) (D1 : Draws prog w A.in1 i1 fp1 n1 P1 St1) (D2 : Draws prog w A.in1 i2 fp2 n2 P2 St2)
    (hz : IsZipHeld s.heap z TI TO T f) (hT : s.heap.get? T = some oT) (hTI : IsTupOf2 s.heap TI (.ref i1) (.ref i2)) (st1 : St1 i s.heap) (st2 : St2 i s.heap) (hlt1 : i < n1) (hlt2 : i < n2)
    (hQ : ∀ x1 x2 h' tk, P1 i x1 → P2 i x2 → IsZipHeld h' z TI TO T true → St1 (i + 1) h' → St2 (i + 1) h' → IsTupOf2 h' s.heap.objs.size x1 x2 →
      (∀ c o, c ≠ z → c ≠ i1 → c ≠ i2 → s.heap.get? c = some o → h'.get? c = some o) → Q (some (.ref s.heap.objs.size)) { s with heap := h', toks := tk }) :
    wpAny (model prog w) A (pyNext (.ref z)) Q E s := by
  have hTy : s.TypeIs (.ref z) "zip" := ⟨_, hz, rfl⟩
  unfold pyNext
  exact wpAny_bind (wpAny_attempt (wpAny_callSpecial?_slot (name := Str.ofString "__next__") hTy F.slot_zip_next
    (wpAny_call_entry F.slot_zip_next hTy F.entry_zip_next
      (zipD2_held_item S D1 D2 hz hT hTI st1 st2 hlt1 hlt2 fun x1 x2 h' tk a1 a2 a3 a4 a5 a6 a7 => wpAny_pure (hQ x1 x2 h' tk a1 a2 a3 a4 a5 a6 a7)) (F.args_zip_next_1 _))))
theorem pyNext_zipD2_held_end {Q : Option Value → Shared → Prop} (S : ZipSep2 z TI TO i1 i2 fp1 fp2) (D1 : Draws prog w A.in1 i1 fp1 n1 P1 St1) (D2 : Draws prog w A.in1 i2 fp2 n2 P2 St2)
    (hz : IsZipHeld s.heap z TI TO T f) (hT : s.heap.get? T = some oT) (hTI : IsTupOf2 s.heap TI (.ref i1) (.ref i2)) (st1 : St1 i s.heap) (st2 : St2 i s.heap) (hle1 : i ≤ n1) (hle2 : i ≤ n2) (hend : i = n1 ∨ i = n2)
    (hQ : ∀ h' tk, (∀ c o, c ≠ z → c ≠ i1 → c ≠ i2 → s.heap.get? c = some o → h'.get? c = some o) → Q none { s with heap := h', toks := tk }) : wpAny (model prog w) A (pyNext (.ref z)) Q E s := by
  have hTy : s.TypeIs (.ref z) "zip" := ⟨_, hz, rfl⟩
  unfold pyNext
  refine wpAny_bind (wpAny_attempt (wpAny_callSpecial?_slot (name := Str.ofString "__next__") hTy F.slot_zip_next
    (wpAny_call_entry F.slot_zip_next hTy F.entry_zip_next (zipD2_held_end S D1 D2 hz hT hTI st1 st2 hle1 hle2 hend fun h' tk e hk he => ?_) (F.args_zip_next_1 _))))
  obtain ⟨o, ho, hc⟩ := he
  exact wpAny_bind (wpAny_isInstance (T := "StopIteration") (b := true) ⟨o, ho, hc⟩ isSubtype_stop (wpAny_pure (hQ _ _ hk)))
end
theorem zipLT_arg {prog : Program} {w : World} {z TI TO i1 i2 l1 l2 : Addr} (S : ZipSep2 z TI TO i1 i2 [i1, l1] [i2, l2]) (n1 : l1 ≠ i1) (n2 : l2 ≠ i2) (lz : z ∉ [l1, l2]) (lT : TO ∉ [l1, l2]) (l12 : l1 ≠ i2) (l21 : l2 ≠ i1) (xs ys : Array Value) :
    PairArg prog w "zip" z [z, TI, TO, i1, i2, l1, l2] [z, TO, i1, i2] (min xs.size ys.size) (fun i k v => xs[i]? = some k ∧ ys[i]? = some v)
      (fun h => IsZip h z TI TO .none ∧ IsTupOf2 h TI (.ref i1) (.ref i2) ∧ (∃ a b, IsTupOf2 h TO a b) ∧ (h.IsListIter i1 l1 0 ∧ h.IsList l1 xs) ∧ (h.IsTupleIter i2 l2 0 ∧ h.IsTuple l2 ys)) where
  type := fun s ok => ⟨_, ok.1, rfl⟩
  notDict := by decide
  keep := fun h h' ok hk => by
    obtain ⟨hz, hTI, ⟨a, b, hTO⟩, ⟨h1, hl1⟩, h2, hl2⟩ := ok
    exact ⟨hk _ _ hz, hk _ _ hTI, ⟨a, b, hk _ _ hTO⟩, ⟨h1.at fun o e => hk _ o e, hl1.at fun o e => hk _ o e⟩, h2.at fun o e => hk _ o e, hl2.at fun o e => hk _ o e⟩
  there := fun h ok b hb => by
    obtain ⟨hz, hTI, ⟨a, c, hTO⟩, ⟨⟨o1, h1, _⟩, ⟨o3, hl1, _⟩⟩, ⟨o2, h2, _⟩, ⟨o4, hl2, _⟩⟩ := ok
    simp only [List.mem_cons, List.not_mem_nil, or_false] at hb
    rcases hb with rfl | rfl | rfl | rfl | rfl | rfl | rfl
    all_goals first | exact ⟨_, hz⟩ | exact ⟨_, hTI⟩ | exact ⟨_, hTO⟩ | exact ⟨_, h1⟩ | exact ⟨_, h2⟩ | exact ⟨_, hl1⟩ | exact ⟨_, hl2⟩
  sub := fun b hb => by simp at hb ⊢; rcases hb with rfl | rfl | rfl | rfl <;> simp
  noKeys := fun A s Q E hA ok h => getAttrOr_miss_zip ok.1 rfl rfl rfl zip_no_keys (by decide +kernel) hA h
  iter := fun A s d Q E hA ok hd hdf h => by
    obtain ⟨hz, hTI, ⟨a, b, hTO⟩, h1, h2⟩ := ok
    have D1 := Draws.list (prog := prog) (w := w) (A := A.in1) hA i1 l1 n1 xs
    have D2 := Draws.tuple (prog := prog) (w := w) (A := A.in1) hA i2 l2 n2 ys
    simp only [List.mem_cons, List.not_mem_nil, or_false, not_or] at hdf
    obtain ⟨dz, dTI, dTO, di1, di2, dl1, dl2⟩ := hdf
    have l1z : l1 ≠ z := fun e => lz (by simp [e])
    have l2z : l2 ≠ z := fun e => lz (by simp [e])
    have l1T : l1 ≠ TO := fun e => lT (by simp [e])
    have l2T : l2 ≠ TO := fun e => lT (by simp [e])
    refine wpAny_pyIter_zip hz (h z [z, TO, i1, i2] (fun i h => IsTupOf2 h TI (.ref i1) (.ref i2) ∧ (h.IsListIter i1 l1 i ∧ h.IsList l1 xs) ∧ (h.IsTupleIter i2 l2 i ∧ h.IsTuple l2 ys) ∧
      ((IsZip h z TI TO .none ∧ ∃ a b, IsTupOf2 h TO a b) ∨ ∃ T f oT, IsZipHeld h z TI TO T f ∧ h.get? T = some oT ∧ T ≠ z ∧ T ≠ i1 ∧ T ≠ i2 ∧ T ≠ d)) s.heap s.toks ?_
      ⟨hTI, h1, h2, .inl ⟨hz, a, b, hTO⟩⟩ (fun _ _ e => e) fun b hb => .inl hb)
    exact {
      off := fun hm => by
        simp only [List.mem_cons, List.not_mem_nil, or_false] at hm
        rcases hm with e | e | e | e
        · exact dz e
        · exact dTO e
        · exact di1 e
        · exact di2 e
      frame := fun i g1 g2 st hk => by
        obtain ⟨hTI, ⟨h1, hl1⟩, ⟨h2, hl2⟩, hz⟩ := st
        refine ⟨hk _ _ (Ne.symm dTI) hTI, ⟨h1.at fun o e => hk _ o (Ne.symm di1) e, hl1.at fun o e => hk _ o (Ne.symm dl1) e⟩, ⟨h2.at fun o e => hk _ o (Ne.symm di2) e, hl2.at fun o e => hk _ o (Ne.symm dl2) e⟩, ?_⟩
        rcases hz with ⟨hz, a, b, hTO⟩ | ⟨T, f, oT, hz, hT, r1, r2, r3, r4⟩
        · exact .inl ⟨hk _ _ (Ne.symm dz) hz, a, b, hk _ _ (Ne.symm dTO) hTO⟩
        · exact .inr ⟨T, f, oT, hk _ _ (Ne.symm dz) hz, hk _ _ r4 hT, r1, r2, r3, r4⟩
      item := fun i t Q₁ E₁ hi st hds hQ => by
        obtain ⟨hTI, st1, st2, hz⟩ := st
        have hix : i < xs.size := Nat.lt_of_lt_of_le hi (Nat.min_le_left ..)
        have hiy : i < ys.size := Nat.lt_of_lt_of_le hi (Nat.min_le_right ..)
        have lt : ∀ {c o}, t.heap.get? c = some o → t.heap.objs.size ≠ c := fun e => Nat.ne_of_gt (Heap.lt_size e)
        have m1 : t.heap.objs.size ≠ i1 := let ⟨_, e, _⟩ := st1.1; lt e
        have m2 : t.heap.objs.size ≠ i2 := let ⟨_, e, _⟩ := st2.1; lt e
        rcases hz with ⟨hz, a, b, hTO⟩ | ⟨T, f, oT, hz, hT, r1, r2, r3, r4⟩
        · refine wpAny_pyNext_zipD2_item S D1 D2 hz hTI hTO st1 st2 hix hiy fun x1 x2 h' tk p1 p2 a1 a2 a3 a4 a5 a6 hk => ?_
          exact hQ t.heap.objs.size _ _ h' tk ⟨p1, p2⟩ (.inl ⟨_, a5, rfl, _, rfl⟩)
            ⟨hk _ _ S.TIz S.TITO S.TIi1 S.TIi2 hTI, a3, a4, .inr ⟨t.heap.objs.size, false, _, a1, a5, lt hz, m1, m2, Nat.ne_of_gt hds⟩⟩
            fun c o hc e => hk c o (fun x => hc (by simp [x])) (fun x => hc (by simp [x])) (fun x => hc (by simp [x])) (fun x => hc (by simp [x])) e
        · refine pyNext_zipD2_held_item S D1 D2 hz hT hTI st1 st2 hix hiy fun x1 x2 h' tk p1 p2 a1 a3 a4 a5 hk => ?_
          exact hQ t.heap.objs.size _ _ h' tk ⟨p1, p2⟩ (.inl ⟨_, a5, rfl, _, rfl⟩)
            ⟨hk _ _ S.TIz S.TIi1 S.TIi2 hTI, a3, a4, .inr ⟨T, true, oT, a1, hk _ _ r1 r2 r3 hT, r1, r2, r3, r4⟩⟩
            fun c o hc e => hk c o (fun x => hc (by simp [x])) (fun x => hc (by simp [x])) (fun x => hc (by simp [x])) e
      done := fun t Q₁ E₁ st hQ => by
        obtain ⟨hTI, st1, st2, hz⟩ := st
        have hend : min xs.size ys.size = xs.size ∨ min xs.size ys.size = ys.size := by omega
        rcases hz with ⟨hz, a, b, hTO⟩ | ⟨T, f, oT, hz, hT, r1, r2, r3, r4⟩
        · exact wpAny_pyNext_zipD2_end S D1 D2 hz hTI hTO st1 st2 (Nat.min_le_left ..) (Nat.min_le_right ..) hend fun h' tk hk => hQ h' tk fun c o hc e => hk c o (fun x => hc (by simp [x])) (fun x => hc (by simp [x])) (fun x => hc (by simp [x])) (fun x => hc (by simp [x])) e
        · exact pyNext_zipD2_held_end S D1 D2 hz hT hTI st1 st2 (Nat.min_le_left ..) (Nat.min_le_right ..) hend fun h' tk hk => hQ h' tk fun c o hc e => hk c o (fun x => hc (by simp [x])) (fun x => hc (by simp [x])) (fun x => hc (by simp [x])) e }
end SB
set_option maxRecDepth 100000
set_option maxHeartbeats 8000000
/-! dict(zip(names, values)): the rule. -/
namespace SB
open PySem L2 PyProof.Rows

/-- names and the things beside them -/
def pairD (ns : List Str) (ys : List V) : List (Key × V) := (ns.map (Sum.inr : Str → Key)).zip ys
def tDictZip (K : PySem.W.Frag) (ta : TA) : TE := fun σ H Q => ta σ H fun vs H1 => ∃ (a b : Addr) (ns : List Str) (ys : List V), vs = [.ref a, .ref b] ∧ SqL K H1 a (ns.map V.str) ∧ SqT K H1 b ys ∧ ∀ p, H1 p = none → Q (.ref p) (upd H1 p (.dK (mergeK [] (pairD ns ys))))
theorem kv_zip : ∀ {ns : List Str} {us : List Value} {ys : List V} {vs : List Value}, Vals (ns.map V.str) us → Vals ys vs → ∃ rs : List (Key × Value), KV (pairD ns ys) rs ∧ rs.length = min us.length vs.length ∧
    ∀ (i : Nat) (k v : Value), us[i]? = some k → vs[i]? = some v → ∃ x : Key, rs[i]? = some (x, v) ∧ keyIs x k = true
  | [], us, ys, vs, h, h2 => by
    cases h
    exact ⟨[], .nil, by simp, fun i k v e => by simp at e⟩
  | n :: ns, us, [], vs, h, h2 => by
    cases h2
    exact ⟨[], .nil, by simp, fun i k v _ e => by simp at e⟩
  | n :: ns, us, y :: ys, vs, h, h2 => by
    cases h with
    | cons r t =>
      cases h2 with
      | cons r2 t2 =>
        obtain ⟨rs, h3, h4, h5⟩ := kv_zip t t2
        obtain ⟨tk, rfl⟩ := r
        refine ⟨(.inr n, _) :: rs, .cons ⟨rfl, r2⟩ h3, by simp [h4], fun i k v e1 e2 => ?_⟩
        cases i with
        | zero =>
          simp at e1 e2
          subst e1 e2
          exact ⟨.inr n, by simp, keyIs_str n tk⟩
        | succ i =>
          obtain ⟨x, e3, e4⟩ := h5 i k v (by simpa using e1) (by simpa using e2)
          exact ⟨x, by simpa using e3, e4⟩
section
variable {X : Cx}
theorem call_zipLT {s : Shared} {A : Around} {E : Value → Shared → Prop} {prog : Program} {w : World} {Q : Value → Shared → Prop} {a b : Addr} {xs ys : Array Value} (h1 : s.heap.IsList a xs) (h2 : s.heap.IsTuple b ys) (hz : (min xs.size ys.size) ≤ sizeLine) (hh : A.handled = none) {rs : List (Key × Value)} (hl : rs.length = min xs.size ys.size)
    (hr : ∀ (i : Nat) (k v : Value), xs[i]? = some k ∧ ys[i]? = some v → ∃ x, rs[i]? = some (x, v) ∧ (mixKind prog w).is x k = true)
    (h : ∀ h' tk, h'.DictOf (mixKind prog w) (s.heap.objs.size + 5) (merged [] rs) → (∀ b o, s.heap.get? b = some o → h'.get? b = some o) → Q (.ref (s.heap.objs.size + 5)) { s with heap := h', toks := tk }) :
    wpAny (model prog w) A (call (.type "zip") [.ref a, .ref b]) (fun v s1 => wpAny (model prog w) A (call (.type "dict") [v]) Q E s1) E s := by
  have la : a < s.heap.objs.size := by obtain ⟨_, e, _⟩ := h1; exact Heap.lt_size e
  have lb : b < s.heap.objs.size := by obtain ⟨_, e, _⟩ := h2; exact Heap.lt_size e
  refine zip_begins2 (begins_list a xs) (begins_tuple b ys) h1 h2 fun h' hz' hTI hTO g1 g2 hsz hk => ?_
  generalize hn : s.heap.objs.size = n at *
  have S : ZipSep2 (n + 4) (n + 2) (n + 3) n (n + 1) [n, a] [n + 1, b] :=
    ⟨by intro z; exact absurd z (by simp), by intro z; exact absurd z (by simp), by intro z; exact absurd z (by simp), by intro z; exact absurd z (by simp), by simp, by simp; exact fun z => absurd la (by rw [← z]; simp), by simp; exact fun z => absurd la (by rw [← z]; simp), by intro z; exact absurd z (by simp), by simp, by simp; exact fun z => absurd lb (by rw [← z]; simp), by simp; exact fun z => absurd lb (by rw [← z]; simp), by simp; exact fun z => absurd lb (by rw [← z]; simp), by simp; exact fun z => absurd la (by rw [← z]; simp)⟩
  have P := zipLT_arg (prog := prog) (w := w) S (fun z => absurd la (by rw [z]; simp)) (fun z => absurd lb (by rw [z]; simp)) (by simp; exact ⟨fun z => absurd la (by rw [← z]; simp), fun z => absurd lb (by rw [← z]; simp)⟩) (by simp; exact ⟨fun z => absurd la (by rw [← z]; simp), fun z => absurd lb (by rw [← z]; simp)⟩)
    (fun z => absurd la (by rw [z]; simp)) (fun z => absurd lb (by rw [z]; simp)) xs ys
  have hc : PairsHave (mixKind prog w) (min xs.size ys.size) (fun i k v => xs[i]? = some k ∧ ys[i]? = some v) rs := ⟨hl, fun i key v hr' => hr i key v hr'⟩
  refine PySem.call_dict_pairs (s := { s with heap := h' }) P hh ⟨hz', hTI, ⟨_, _, hTO⟩, ⟨⟨_, g1, rfl, rfl⟩, h1.at fun o e => hk _ o e⟩, ⟨_, g2, rfl, rfl⟩, h2.at fun o e => hk _ o e⟩ hc hz fun h'' tk hd k2 => ?_
  have e5 : h'.objs.size = n + 5 := hsz
  show Q (.ref h'.objs.size) _
  rw [e5]
  refine h h'' tk (by have q := hd; rw [show (({ s with heap := h' } : Shared).heap.objs.size) = n + 5 from e5] at q; exact q) fun c o e => k2 c o ?_ (hk c o e)
  have lc : c < n := by rw [← hn]; exact Heap.lt_size e
  intro z
  simp only [List.mem_cons, List.not_mem_nil, or_false] at z
  rcases z with z | z | z | z <;> exact absurd lc (by rw [z]; simp)
theorem pe_dictZip {e1 e2 : Expr} {ta : TA} {p p2 pos pos2 : Pos} (hcalm : X.calm = true) (hg : Gl X "dict") (hm : X.mg "dict" = none) (hg2 : Gl X "zip") (hm2 : X.mg "zip" = none) (ha : PA X [e1, e2] ta)
    (hs : starEach [e1, e2] X.env = (false, eval e1 X.env) :: starEach [e2] X.env := by rfl) (hpl : (backTo pos2 (starEach [e2] X.env)).any (·.1) = false := by rfl)
    (na : starEach [.Call (.Name "zip" p2) [e1, e2] [] pos2] X.env = (false, eval (.Call (.Name "zip" p2) [e1, e2] [] pos2) X.env) :: starEach [] X.env := by rfl) : PE X (.Call (.Name "dict" p) [.Call (.Name "zip" p2) [e1, e2] [] pos2] [] pos) (tDictZip X.K ta) := by
  refine ⟨fun pins s σ H Q I h => ?_⟩
  refine Call_ (ld_blt I hg hm (show bootBuiltins (Str.ofString "dict") = some (.type "dict") by decide +kernel) (PyProof.Rows.callWith_type1 (args_cons (Call_ (ld_blt I hg2 hm2 PyProof.Rows.boot_zip (PyProof.Rows.callWith_type1 (thn (ha.run pos2 pins s σ H _ I h) fun us s1 ⟨vs, H1, I1, r1, q1⟩ => ?_) hs hpl))) na) na))
  obtain ⟨a, b, ns, ys, ex, hqa, hqb, q⟩ := q1
  subst ex
  cases r1 with
  | cons r rr =>
    cases rr with
    | cons r' rr =>
      cases rr
      cases r
      cases r'
      obtain ⟨its, rv, pl, hz⟩ := I1.list hqa
      obtain ⟨its2, rv2, pl2, hz2⟩ := I1.tuple hqb
      obtain ⟨rs, k1, k2, k3⟩ := kv_zip rv rv2
      refine wpAny_mono (call_zipLT (Q := EP X pins σ Q) pl.isList pl2 (by simp; have := rv.length; have := rv2.length; omega) (I1.ok.hd hcalm) (rs := rs) (by simpa using k2) (fun i k v hkv => ?_) fun h' tk hd hk => ?_) (fun v s2 q2 => args_nil q2) fun _ _ q => q
      · exact k3 i k v (by simpa using hkv.1) (by simpa using hkv.2)
      · have hm' : (s1.heap.objs.size + 5 == sysModules) = false := beq_eq_false_iff_ne.mpr (Nat.ne_of_gt (Nat.lt_of_lt_of_le I1.big (Nat.le_add_right _ _)))
        have hlen : (mergeK [] (pairD ns ys)).length ≤ sizeLine := by
          refine Nat.le_trans (length_mergeK _ []) ?_
          rw [List.length_nil, Nat.zero_add, k1.length, k2]
          have e1 := rv2.length
          omega
        exact ⟨.ref (s1.heap.objs.size + 5), upd H1 (s1.heap.objs.size + 5) (.dK (mergeK [] (pairD ns ys))), I1.laid (t' := tk) hk (Nat.le_add_right _ _) (show ObjOk X.prog X.w _ _ _ (.dK (mergeK [] (pairD ns ys))) from ⟨hlen, hm', merged [] rs, KV.merge k1 .nil, hd⟩), rfl, q _ (I1.hok.fresh (Nat.le_add_right _ _))⟩
end
end SB
set_option maxRecDepth 100000
set_option maxHeartbeats 8000000
/-! xs[:c] = ys; xs[i] op= e. -/
namespace SB
open PySem L2 PyProof.Rows

theorem bounds_head {c n : Nat} (hc : c ≤ n) : sliceBounds none (some (c : Int)) none n = (0, (c : Int), 1) := by
  simp only [sliceBounds, Option.getD_none]
  have h2 : ¬ ((c : Int) < 0) := by omega
  simp only [h2, if_false, show (1 : Int) > 0 by decide, if_true]
  congr 2
  omega
section
variable {prog : Program} {w : World} {A : Around} {E : Value → Shared → Prop} {s : Shared}
theorem setItem_head {l b sl : Addr} {items new : Array Value} {n n2 : Nat} {vu : Value} {c : Nat} {Q : Unit → Shared → Prop}
    (e : s.heap.get? l = some { cls := .type "list", data := .seq items n }) (e2 : s.heap.get? b = some { cls := .type "list", data := .seq new n2 }) (hne : l ≠ b)
    (hs : s.heap.IsSliceOf sl .none vu .none) (pu : IsPart vu (some (c : Int))) (hc : c ≤ items.size)
    (hsz : items.size + new.size ≤ sizeLine) (h : Q () { s with heap := s.heap.update l (Obj.mapSeq fun xs => xs.extract 0 0 ++ new ++ xs.extract c xs.size) }) :
    wpAny (model prog w) A (setItem (.ref l) (.ref sl) (.ref b)) Q E s := by
  have hl : s.heap.IsList l items := PySem.IsL.isList e
  have hb : s.heap.IsList b new := PySem.IsL.isList e2
  obtain ⟨os, hos, hcs, hds⟩ := id hs
  have hTs : s.TypeIs (.ref sl) "slice" := ⟨os, hos, hcs⟩
  have hstep : ¬ ((rawPart none == rawInt 0) = true) := Bool.false_ne_true
  have hsame : Builtin.List.listSameRef (.ref l) (.ref b) = false := by
    unfold Builtin.List.listSameRef
    exact beq_eq_false_iff_ne.mpr hne
  have hmax : (max (0 : Int) (c : Int)).toNat = c := by omega
  have hz' : ((fun xs : Array Value => xs.extract 0 0 ++ new ++ xs.extract c xs.size) items).size ≤ sizeLine + 1 := by
    simp only [Array.size_append, Array.size_extract]
    omega
  unfold setItem
  try with_reducible refine wpAny_holding ?_
  first | refine wpAny_bind (wpAny_pure ?_) | skip
  refine wpAny_bind (wpAny_sequenceKey hl.typeIs (by decide) ?_)
  refine wpAny_bind (wpAny_callSpecial?_slot (name := Str.ofString "__setitem__") hl.typeIs slot_list_setitem
    (wpAny_call_entry slot_list_setitem hl.typeIs entry_list_setitem ?_ (args_list_setitem _ _ _)))
  show wpAny _ _ (Builtin.List.listSubscript? (.ref sl) >>= _) _ _ s
  refine wpAny_bind ?_
  unfold Builtin.List.listSubscript?
  refine wpAny_bind (wpAny_specialOf hTs slice_no_index ?_)
  simp only [Option.isNone_none, if_true]
  refine wpAny_pure ?_
  show wpAny _ _ (typeOf (.ref sl) >>= _) _ _ s
  refine wpAny_bind (wpAny_typeOf hTs ?_)
  first
    | rw [if_neg (by decide)]
    | refine PySem.W.KFB.if_not (by decide) ?_
  rw [listSliceParts_eq]
  refine wpAny_bind (wpAny_bind (wpAny_field hos hds (x := .none) rfl (wpAny_bind (wpAny_listPart .none ?_))))
  rw [if_neg hstep]
  refine wpAny_bind (wpAny_field hos hds (x := .none) rfl (wpAny_bind (wpAny_listPart .none ?_)))
  refine wpAny_bind (wpAny_field hos hds (x := vu) rfl (wpAny_bind (wpAny_listPart pu (wpAny_pure ?_))))
  first
    | simp only [hsame, Bool.false_eq_true, if_false]
    | refine PySem.W.KFB.if_not hsame ?_
    | (dsimp only
       rw [if_neg (by rw [hsame]; exact Bool.false_ne_true)])
  refine wpAny_bind (m := Builtin.List.listAllItems (.ref b) "must assign iterable to extended slice") ?_
  unfold Builtin.List.listAllItems
  refine wpAny_bind (wpAny_typeOf hb.typeIs ?_)
  first
    | refine PySem.W.KFB.if_so (by decide) ?_
    | rw [if_pos (by decide)]
    | simp only [beq_self_eq_true, Bool.true_or, if_true]
  unfold Builtin.List.listItems
  refine wpAny_bind (wpAny_seqItems e2 rfl (wpAny_pure ?_))
  refine wpAny_bind (wpAny_bind (wpAny_seqItems e rfl (wpAny_pure ?_)))
  refine wpAny_bind (wpAny_of_eq ((sliceIndices_raw none (some (c : Int)) none items.size (by simp)).trans (congrArg (pure : Int × Int × Int → Sem (Int × Int × Int)) (bounds_head hc))) ?_)
  show wpAny _ _ (if ((1 : Int) == 1) = true then _ else _) _ _ s
  rw [if_pos (by decide)]
  refine wpAny_bind (wpAny_rule ?_)
  first
    | simp only [notLongL hsz, Bool.false_eq_true, if_false]
    | refine PySem.W.KFB.if_not (notLongL hsz) ?_
  first | refine wpAny_bind (wpAny_pure ?_) | skip
  show wpAny _ _ (updateSeq l (fun xs => xs.extract 0 ((0 : Int)).toNat ++ new ++ xs.extract (max (0 : Int) (c : Int)).toNat xs.size) >>= _) _ _ s
  rw [hmax, show (0 : Int).toNat = 0 from rfl]
  refine wpAny_bind (wpAny_updateSeq (hz := Nat.le_trans (Nat.le_add_right _ _) hsz) (_hz' := hz') e rfl ?_)
  refine wpAny_bind (wpAny_letGo ?_)
  first
    | exact wpAny_bind (wpAny_pure (wpAny_pure ⟨.none, rfl, wpAny_pure h⟩))
    | exact wpAny_pure ⟨.none, rfl, wpAny_pure h⟩
end
section
variable {X : Cx}
/-- o[:c] = a list -/
def gHead (to : TE) (th : TO) : TG := fun v σ H Q => to σ H fun o H1 => th σ H1 fun hi H2 => ∃ l b xs ys c, o = .ref l ∧ v = .ref b ∧ l ≠ b ∧ hi = some c ∧ H2 l = some (.lst xs) ∧ H2 b = some (.lst ys) ∧ 0 ≤ c ∧ c ≤ xs.length ∧ xs.length + ys.length ≤ sizeLine ∧ Q σ (upd H2 l (.lst (ys ++ xs.drop c.toNat)))
theorem pg_head {o : Expr} {hi : Option Expr} {to : TE} {th : TO} {pos p2 : Pos} (ho : PE X o to) (hu : PO X hi th)
    (ha : ∀ v, assign (.Subscript o (.Slice none hi none p2) pos) X.env v = (do
      let ov ← holding [v] (eval o X.env)
      let iv ← holding [v, ov] (eval (.Slice none hi none p2) X.env)
      standAt pos
      holding [v, ov, iv] (setItem ov iv v)
      release [iv, v, ov] []) := by intro _; rfl) : PG X (.Subscript o (.Slice none hi none p2) pos) (gHead to th) := by
  refine ⟨fun pins s σ H v u Q I r h => ?_⟩
  rw [ha]
  refine wpAny_bind (wpAny_holding (thn (ho.run pins s σ H _ I h) fun ov s1 ⟨x, H1, I1, r1, q1⟩ => ?_))
  refine wpAny_bind (wpAny_holding ?_)
  refine wpAny_Slice ?_
  rw [evalPart_none]
  refine wpAny_pure (thn (hu.run pins s1 σ H1 _ I1 q1) fun vu s3 ⟨u', H3, I3, pu, q3⟩ => ?_)
  refine wpAny_pure ?_
  obtain ⟨l, b, xs, ys, c, rfl, rfl, hne, rfl, hl, hb, h0, hc, hz, q⟩ := q3
  have I4 : Inv X pins σ H3 { s3 with heap := s3.heap.push { cls := .type "slice", data := .fields #[.none, vu, .none] } } := I3.kept (t' := s3.toks) fun b ob q => Heap.get?_push_of_some _ q
  refine wpAny_bind (wpAny_standAt (wpAny_bind (wpAny_holding ?_)))
  cases r1
  cases r
  obtain ⟨z, its, n, r, hl1, e⟩ := I4.lstM hl
  obtain ⟨z2, its2, n2, r2, hl2, e2⟩ := I4.lstM hb
  obtain ⟨c', rfl⟩ := Int.eq_ofNat_of_zero_le h0
  refine setItem_head (c := c') e e2 hne (Heap.IsSliceOf.new ..) pu (by rw [List.size_toArray]; omega) (by rw [List.size_toArray, List.size_toArray]; omega) (wpAny_release ⟨σ, _, ?_, q⟩)
  refine I4.lset (its' := its2 ++ its.drop c') (t' := s3.toks) hl e ?_ (r2.append (r.drop _)) ?_
  · have := splice_eq its its2 0 c'
    simpa using this
  · rw [List.length_append, List.length_drop]
    omega
/-- the read half of xs[i] op= .. -/
def rGetL : V → V → Hp → VK → Prop := fun o i H Q => ∃ p xs k z, o = .ref p ∧ i = .int k ∧ H p = some (.lst xs) ∧ 0 ≤ k ∧ k < 1000 ∧ xs[k.toNat]? = some z ∧ Q z H
theorem get_list : PGet X rGetL := by
  intro pins s σ H o i ov iv Q I ro ri h
  obtain ⟨p, xs, k, z, rfl, rfl, hp, h0, h1, hz, q⟩ := h
  cases ro
  obtain ⟨t, rfl⟩ := ri
  obtain ⟨its, r, pl, hz2⟩ := I.list (SqL.of hp)
  obtain ⟨w, ew, rw'⟩ := r.get hz
  exact wpAny_getItem_list pl.isList h0 (by omega) (by simpa using ew) ⟨z, H, I, rw', q⟩
end
end SB
set_option maxRecDepth 100000
set_option maxHeartbeats 8000000
/-! The rules put together: what each operator may stand on; defs that pass their code on. -/
namespace SB
open PySem L2 PyProof.Rows

theorem PSet_or {X : Cx} {r r' : TSet} (h : PSet X r) (h' : PSet X r') : PSet X (fun o i v H Q => r o i v H Q ∨ r' o i v H Q) := by
  intro pins s σ H o i v ov iv u Q I ro ri rv q
  rcases q with q | q
  · exact h pins s σ H o i v ov iv u Q I ro ri rv q
  · exact h' pins s σ H o i v ov iv u Q I ro ri rv q
theorem PI_or {X : Cx} {tg it : Expr} {r r' : TI} (h : PI X tg it r) (h' : PI X tg it r') : PI X tg it (fun σ H R => r σ H R ∨ r' σ H R) :=
  ⟨fun pins s σ H R I q => by
    rcases q with q | q
    · exact h.run pins s σ H R I q
    · exact h'.run pins s σ H R I q⟩
theorem PE_or {X : Cx} {e : Expr} {r r' : TE} (h : PE X e r) (h' : PE X e r') : PE X e (fun σ H Q => r σ H Q ∨ r' σ H Q) :=
  ⟨fun pins s σ H Q I q => by
    rcases q with q | q
    · exact h.run pins s σ H Q I q
    · exact h'.run pins s σ H Q I q⟩
/-- a statement, a value that is never come to -/
theorem ps_never {X : Cx} {st : Stmt} : PS X st (fun _ _ _ => False) := ⟨fun _ _ _ _ _ _ h => h.elim⟩
theorem pe_never {X : Cx} {e : Expr} : PE X e (fun _ _ _ => False) := ⟨fun _ _ _ _ _ _ h => h.elim⟩
section
variable {X : Cx} {k : Nat}
theorem op_addX : OpR X (binaryOp .Add) (rAddX X.K) := (op_add.or op_catA).or op_cat
def rMulX (K : PySem.W.Frag) : R2 := fun x y H Q => rI CMul (fun i j => .int (i * j)) x y H Q ∨ rRepA K x y H Q
theorem op_mulX : OpR X (binaryOp .Mult) (rMulX X.K) := op_mul.or op_repA
theorem op_fdivX : OpR X (binaryOp .FloorDiv) (rI CDiv fun i j => .int (i / j)) := op_fdiv
theorem op_orX : OpR X (binaryOp .BitOr) (rOrC X.w) := op_orC
theorem op_eqX (hu : X.A.units + 64 < cLine) : OpR X (compareOp .Eq) (rEqX X.K) := op_eq.or (op_eqD hu)
theorem op_neX (hu : X.A.units + 64 < cLine) : OpR X (compareOp .NotEq) (rNeX X.K) := op_ne.or (op_neD hu)
def rInA (P : Program) (w : World) (K : PySem.W.Frag) : R2 := fun x y H Q => (rIn K false x y H Q ∨ rInN P w false x y H Q) ∨ rInD K x y H Q
def rNotInA (P : Program) (w : World) (K : PySem.W.Frag) : R2 := fun x y H Q => (rIn K true x y H Q ∨ rInN P w true x y H Q) ∨ rNotInD K x y H Q
theorem op_inX (hr : Room k X.A) : OpR X (compareOp .In) (rInA X.prog X.w X.K) := (op_in_seq.or (op_inN hr.units)).or (op_inD (by have := hr.un; omega))
theorem op_notInX (hr : Room k X.A) : OpR X (compareOp .NotIn) (rNotInA X.prog X.w X.K) := (op_notIn_seq.or (op_notInN hr.units)).or (op_notInD (by have := hr.un; omega))
theorem sl_X : SlR X (rSlX X.K) := sl_tupA.or sl_list
def rSetA (P : Program) (w : World) : TSet := fun o i v H Q => (rSetL o i v H Q ∨ rSetD o i v H Q) ∨ rSetN P w o i v H Q
theorem set_X (hr : Room k X.A) : PSet X (rSetA X.prog X.w) := PSet_or (PSet_or set_list (set_dict (hu_of hr))) (set_nd hr.units)
def rSetX (K : PySem.W.Frag) (w : World) : List V → Hp → VK → Prop := fun xs H Q => rSetC K w xs H Q ∨ rSetT K w xs H Q
theorem cr_setX (hc : X.calm = true) : CallR X (.type "set") (rSetX X.K X.w) := (cr_setC hc).or (cr_setT hc)
def rSortedX (P : Program) (w : World) : List V → Hp → VK → Prop := fun xs H Q => (rSortedC w xs H Q ∨ rSortedT w xs H Q) ∨ rSortedN P w xs H Q
theorem cr_sortedX (hc : X.calm = true) (hr : Room k X.A) : CallR X (.builtin "sorted") (rSortedX X.prog X.w) := ((cr_sortedC hc).or (cr_sortedT hc)).or (cr_sortedN hc hr.units)
def tDNewX (P : Program) (w : World) : TE := fun σ H Q => tDNewN P w σ H Q ∨ tDNewK σ H Q
theorem pe_dnewX {pos : Pos} : PE X (.Dict [] [] pos) (tDNewX X.prog X.w) := PE_or pe_dnewN pe_dnewK
def iEnX (K : PySem.W.Frag) (ta : TA) : TI := fun σ H R => iEnT K ta σ H R ∨ iEnum K ta σ H R
theorem pi_enumX {e : Expr} {ta : TA} {p pos tpos : Pos} {elts : List Expr} {kk : Nat} (hg : Gl X "enumerate") (hm : X.mg "enumerate" = none) (ha : PA X [e] ta) (hs : starEach [e] X.env = [(false, eval e X.env)] := by rfl) :
    PI X (.Tuple elts kk tpos) (.Call (.Name "enumerate" p) [e] [] pos) (iEnX X.K ta) := PI_or (pi_enumT hg hm ha hs) (pi_enum hg hm ha hs)
end
section
variable {P : Program} {w : World} {K : PySem.W.Frag} {mg : Str → Option Value} {base : Heap}
/-- a def by its body; the code object is told -/
theorem fun_okC {x qual : Str} {st : Stmt} {f : Addr} {fd : FuncData} {N ps : List Str} {k : Nat} {sp : Sp} (F : L2.Fun K x qual st f fd) (S : FnScope N ps (defScope st)) (len : ∀ vs H Q E, sp vs H Q E → vs.length = ps.length)
    (hbody : ∀ (cdv : Value) (A : Around) (outer : List Env) (s : Shared) (H : Hp) (vs : List V) (Q : VK) (E : XK), PySem.W.kdsCode K cdv = true → Room k (A.deeper (envOfC qual (defScope st) s.heap.objs.size f cdv)) → sp vs H Q E →
      ∃ t, PSs (cxOf CX0 P w K mg base N qual (defScope st) f cdv A outer s H E).nox (defBody st) t ∧ t { nx := fun _ H' => Q .non H', rt := Q } (start N vs) H) : FnOk P w K mg base CX0 (k + 1) f fd ps sp := by
  obtain ⟨oc, od, kV, doc, pm, an, cdv, ct, osl, rfl, lk, hcd⟩ := F.ex
  refine fn_of lk hcd S len fun A outer s H vs Q E hr hsp => ?_
  obtain ⟨t, h, q⟩ := hbody cdv A outer s H vs Q E (kdsCode_of hcd) hr hsp
  exact ⟨t, h.nox, q⟩
end
end SB
set_option maxRecDepth 100000
set_option maxHeartbeats 4000000
/-! Makings, stands and steps in plain Lean, and as data. -/
namespace SB
open PySem L2

def kdT (n : Nat) : Str := if n = 0 then "safe" else if n = 1 then "steady" else "whole"
def opT (w : Nat) : Str := if w = 0 then "=" else if w = 1 then "or" else "-"
inductive Ex where
  | num (i : Int) | var (x : Str) | nt (e : Ex) | bin (w : Nat) (a b : Ex)
def Ex.dt : Ex → Dt
  | .num i => .tup [.text "num", .num i]
  | .var x => .tup [.text "var", .text x]
  | .nt e => .tup [.text "not", e.dt]
  | .bin w a b => .tup [.text (opT w), a.dt, b.dt]
def b2i (b : Bool) : Int := if b then 1 else 0
def Ex.val (env : Str → Int) : Ex → Int
  | .num i => i
  | .var x => env x
  | .nt e => b2i (decide (e.val env = 0))
  | .bin w a b => if w = 0 then b2i (decide (a.val env = b.val env)) else if w = 1 then b2i (!decide (a.val env = 0) || !decide (b.val env = 0))
    else if 0 > a.val env - b.val env then 0 else a.val env - b.val env
def Ex.names : Ex → List Str
  | .num _ => []
  | .var x => [x]
  | .nt e => e.names
  | .bin _ a b => a.names ++ b.names
def Ex.deep : Ex → Nat
  | .num _ => 1
  | .var _ => 1
  | .nt e => e.deep + 1
  | .bin _ a b => max a.deep b.deep + 1
def Ex.nn : Ex → Prop
  | .num i => 0 ≤ i
  | .var _ => True
  | .nt e => e.nn
  | .bin _ a b => a.nn ∧ b.nn
theorem b2i_nn (b : Bool) : 0 ≤ b2i b := by cases b <;> decide
theorem Ex.val_nn {env : Str → Int} (he : ∀ x, 0 ≤ env x) : ∀ e : Ex, e.nn → 0 ≤ e.val env
  | .num _, h => h
  | .var x, _ => he x
  | .nt _, _ => b2i_nn _
  | .bin w a b, h => by
    unfold Ex.val
    split
    · exact b2i_nn _
    · split
      · exact b2i_nn _
      · split <;> omega
inductive Row where
  | put (b : Str) (e : Ex) | get (x b : Str) | lt (x : Str) (e : Ex) | un (e : Ex) (to : Nat) | tell (e : Ex)
def Row.dt : Row → Dt
  | .put b e => .tup [.text "put", .text b, e.dt]
  | .get x b => .tup [.text "get", .text x, .text b]
  | .lt x e => .tup [.text "let", .text x, e.dt]
  | .un e to => .tup [.text "unless", e.dt, .num (to : Int)]
  | .tell e => .tup [.text "tell", e.dt]
def Row.names : Row → List Str
  | .put _ e => e.names
  | .get x _ => [x]
  | .lt x e => x :: e.names
  | .un e _ => e.names
  | .tell e => e.names
/-- put or get -/
def Row.pg : Row → Bool
  | .put _ _ => true
  | .get _ _ => true
  | _ => false
/-- let or unless -/
def Row.lu : Row → Bool
  | .lt _ _ => true
  | .un _ _ => true
  | _ => false
def Row.expr : Row → Option Ex
  | .put _ e => some e
  | .get _ _ => none
  | .lt _ e => some e
  | .un e _ => some e
  | .tell e => some e
def rowsNames (rs : List Row) : List Str := (rs.flatMap Row.names).filter fun x => !decide (x = ("v" : Str))
structure Bx where
  nm : Str
  kd : Nat
  sz : Int
  bg : Int
def Bx.dt (b : Bx) : Dt := .tup [.text b.nm, .text (kdT b.kd), .num b.sz, .num b.bg, .text "w"]
structure Hn where
  nm : Str
  wi : Int
  rows : List Row
  vars : List Str
def Hn.dt (h : Hn) : Dt := .tup [.text h.nm, .num h.wi, .tup (h.rows.map Row.dt)]
structure Mk where
  kd : Nat
  sz : Int
  bg : Int
  bxs : List Bx
  hds : List Hn
def Mk.dt (M : Mk) : Dt := .tup [.text (kdT M.kd), .num M.sz, .num M.bg, .tup (M.bxs.map Bx.dt), .tup (M.hds.map Hn.dt)]
def Mk.rd (M : Mk) : Nat := M.hds.length - 1

/-! claims -/
structure Ca where
  w : Int
  c : Int
  ts : List Int
def Ca.dt (x : Ca) : Dt := .tup [.num x.w, .num x.c, .tup (nums x.ts)]
inductive Cl where
  | weak (o c : Int) (ts : List (Option (List Int))) | whole (cs : List Ca)
def tellD : Option (List Int) → Dt
  | none => .none
  | some l => .tup (nums l)
def Cl.dt : Cl → Dt
  | .weak o c ts => .tup [.num o, .num c, .tup (ts.map tellD)]
  | .whole cs => .tup (cs.map Ca.dt)
/-- y comes of x in one moment -/
def Mom (x y : Ca) : Prop := (0 ≤ x.c ∧ y = ⟨x.c, -2, x.ts⟩) ∨ ∃ i, x.ts[i]? = some (-2) ∧ y = ⟨x.w, x.c, x.ts.set i x.w⟩
inductive Reach (cs : List Ca) : Ca → Prop
  | base {x : Ca} : x ∈ cs → Reach cs x
  | step {x y : Ca} : Reach cs x → Mom x y → Reach cs y
structure Clo (cs out : List Ca) : Prop where
  nd : out.Nodup
  mem : ∀ x, x ∈ out ↔ Reach cs x
def Mk.beside (M : Mk) (w : Int) : List Int := if M.kd = 0 then rangeD M.sz else [w]
def withW (ws : List Int) : Option (List Int) → Option (List Int)
  | none => none
  | some l => some (fourI (memS (l ++ ws)))
def Mk.claim0 (M : Mk) : Cl := if M.kd = 2 then .whole [⟨M.bg, -1, List.replicate M.rd (-1)⟩] else .weak M.bg (-1) (List.replicate M.rd none)
inductive ClWrites (M : Mk) (w : Int) : Cl → Cl → Prop
  | whole {cs out : List Ca} : Clo (cs.map fun x => ⟨x.w, w, x.ts⟩) out → ClWrites M w (.whole cs) (.whole out)
  | weak {o c : Int} {ts : List (Option (List Int))} : ClWrites M w (.weak o c ts) (.weak o w (ts.map (withW (M.beside w))))
inductive ClWritten (M : Mk) : Cl → Cl → Prop
  | whole {cs out : List Ca} : Clo ((cs.filter fun x => decide (x.c = -2)).map fun x => ⟨x.w, -1, x.ts⟩) out → ClWritten M (.whole cs) (.whole out)
  | weak {o c : Int} {ts : List (Option (List Int))} : ClWritten M (.weak o c ts) (.weak c (-1) ts)
def Mk.told0 (M : Mk) (o c : Int) : Option (List Int) := if c = -1 then some [o] else withW (M.beside c) (some [o])
inductive ClReads (M : Mk) (k : Nat) : Cl → Cl → Prop
  | whole {cs out : List Ca} : Clo (cs.map fun x => ⟨x.w, x.c, x.ts.set k (-2)⟩) out → ClReads M k (.whole cs) (.whole out)
  | weak {o c : Int} {ts : List (Option (List Int))} : ClReads M k (.weak o c ts) (.weak o c (ts.set k (M.told0 o c)))
inductive ClTold (M : Mk) (k : Nat) (w : Int) : Cl → Option Cl → Prop
  | wholeN {cs : List Ca} : (∀ x ∈ cs, x.ts[k]? ≠ some w) → ClTold M k w (.whole cs) none
  | wholeS {cs out : List Ca} {z : Ca} : z ∈ cs → z.ts[k]? = some w → Clo ((cs.filter fun x => decide (x.ts[k]? = some w)).map fun x => ⟨x.w, x.c, x.ts.set k (-1)⟩) out → ClTold M k w (.whole cs) (some (.whole out))
  | weakN {o c : Int} {ts : List (Option (List Int))} {l : List Int} : ts[k]? = some (some l) → w ∉ l → ClTold M k w (.weak o c ts) none
  | weakS {o c : Int} {ts : List (Option (List Int))} {l : List Int} : ts[k]? = some (some l) → w ∈ l → ClTold M k w (.weak o c ts) (some (.weak o c (ts.set k none)))

/-! stands -/
structure HS where
  pc : Int
  half : Option (List Int)
  wo : Int
  ct : Int
  ns : List Int
def HS.dts (h : HS) : List Dt := [.num h.pc, tellD h.half, .num h.wo, .num h.ct, .tup (nums h.ns)]
def HS.dt (h : HS) : Dt := .tup h.dts
structure BS where
  w : Int
  c : Int
def BS.dts (b : BS) : List Dt := [.num b.w, .num b.c]
def BS.dt (b : BS) : Dt := .tup b.dts
structure Sd where
  hs : List HS
  bs : List BS
  cl : Cl
def Sd.dt (s : Sd) : Dt := .tup [.tup (s.hs.map HS.dt), .tup (s.bs.map BS.dt), s.cl.dt]
def Mk.first (M : Mk) : Sd := ⟨M.hds.map fun h => ⟨-1, none, 0, 0, List.replicate h.vars.length 0⟩, M.bxs.map fun b => ⟨b.bg, -1⟩, M.claim0⟩
/-- the numbers of a hand's variables -/
def getN : List Str → List Int → Str → Int
  | x :: xs, n :: ns, y => if x = y then n else getN xs ns y
  | _, _, _ => 0
def setN : List Str → List Int → Str → Int → List Int
  | x :: xs, n :: ns, y, z => if x = y then z :: ns else n :: setN xs ns y z
  | _, ns, _, _ => ns
def Hn.env (d : Hn) (wo : Int) (ns : List Int) (x : Str) : Int := if x = ("v" : Str) then wo else getN d.vars ns x
/-- lets and unlesses from row p on -/
def Hn.run (d : Hn) (wo : Int) : Nat → Nat → List Int → Nat × List Int
  | 0, p, ns => (p, ns)
  | f + 1, p, ns => match d.rows[p]? with
    | some (.lt x e) => d.run wo f (p + 1) (setN d.vars ns x (e.val (d.env wo ns)))
    | some (.un e to) => d.run wo f (if e.val (d.env wo ns) = 0 then to else p + 1) ns
    | _ => (p, ns)
def idleH (ns : List Int) : HS := ⟨-1, none, 0, 0, ns⟩
/-- behind the lets and unlesses: the hand k stands at row p, its numbers ns -/
inductive GoR (M : Mk) (k : Nat) (d : Hn) (h : HS) (s : Sd) (p : Nat) (ns : List Int) : Option Sd → Prop
  | wait {r : Row} : d.rows[p]? = some r → r.pg = true → GoR M k d h s p ns (some ⟨s.hs.set k { h with pc := (p : Int), ns := ns }, s.bs, s.cl⟩)
  | wrote {c : Cl} : k = 0 → (∀ r, d.rows[p]? = some r → r.pg = false) → ClWritten M s.cl c → GoR M k d h s p ns (some ⟨s.hs.set k (idleH ns), s.bs, c⟩)
  | silent : k ≠ 0 → d.rows[p]? = none → GoR M k d h s p ns none
  | great {e : Ex} : k ≠ 0 → d.rows[p]? = some (.tell e) → M.sz ≤ e.val (d.env h.wo ns) → GoR M k d h s p ns none
  | lie {e : Ex} : k ≠ 0 → d.rows[p]? = some (.tell e) → e.val (d.env h.wo ns) < M.sz → ClTold M (k - 1) (e.val (d.env h.wo ns)) s.cl none → GoR M k d h s p ns none
  | told {e : Ex} {c : Cl} : k ≠ 0 → d.rows[p]? = some (.tell e) → e.val (d.env h.wo ns) < M.sz → ClTold M (k - 1) (e.val (d.env h.wo ns)) s.cl (some c) → GoR M k d h s p ns (some ⟨s.hs.set k (idleH ns), s.bs, c⟩)
/-- the hand k, now h, goes on from row p -/
def GoOn (M : Mk) (k : Nat) (d : Hn) (h : HS) (s : Sd) (p : Nat) (o : Option Sd) : Prop := GoR M k d h s (d.run h.wo d.rows.length p h.ns).1 (d.run h.wo d.rows.length p h.ns).2 o
/-- what the halves of gets of the box become beside the putting of n -/
def besideH (b : Bx) (n : Int) (l : List Int) : List Int := if b.kd = 0 then rangeD b.sz else fourI (memS (l ++ [n]))
def besideR (b : Bx) (n : Int) (d : Hn) (h : HS) : HS := match h.half with
  | none => h
  | some l => match d.rows[h.pc.toNat]? with
    | some (.get _ y) => if y = b.nm then { h with half := some (besideH b n l) } else h
    | _ => h
def besideS (b : Bx) (n : Int) (ds : List Hn) (hs : List HS) : List HS := List.zipWith (besideR b n) ds hs
/-- the row at which the hand stands -/
def Hn.at (d : Hn) (h : HS) : Option Row := if h.pc < 0 then none else d.rows[h.pc.toNat]?
inductive StepR (M : Mk) (s : Sd) (k : Nat) (pick : Int) : Option Sd → Prop
  | beginW {d : Hn} {h : HS} {c : Cl} {o : Option Sd} : k = 0 → M.hds[k]? = some d → s.hs[k]? = some h → h.pc = -1 → ClWrites M pick s.cl c →
      GoOn M k d { h with wo := pick } ⟨s.hs, s.bs, c⟩ 0 o → StepR M s k pick o
  | beginR {d : Hn} {h : HS} {c : Cl} {o : Option Sd} : k ≠ 0 → M.hds[k]? = some d → s.hs[k]? = some h → h.pc = -1 → ClReads M (k - 1) s.cl c →
      GoOn M k d h ⟨s.hs, s.bs, c⟩ 0 o → StepR M s k pick o
  | long {d : Hn} {h : HS} : M.hds[k]? = some d → s.hs[k]? = some h → h.pc ≠ -1 → d.wi ≤ h.ct → StepR M s k pick none
  | put2 {d : Hn} {h : HS} {x : Str} {e : Ex} {j : Nat} {b : Bx} {bs : BS} {l : List Int} {o : Option Sd} : M.hds[k]? = some d → s.hs[k]? = some h → h.pc ≠ -1 → h.ct < d.wi → d.rows[h.pc.toNat]? = some (.put x e) → M.bxs[j]? = some b → b.nm = x → s.bs[j]? = some bs →
      h.half = some l → GoOn M k d { h with half := none, ct := h.ct + 1 } ⟨s.hs, s.bs.set j ⟨bs.c, -1⟩, s.cl⟩ (h.pc.toNat + 1) o → StepR M s k pick o
  | putGreat {d : Hn} {h : HS} {x : Str} {e : Ex} {j : Nat} {b : Bx} : M.hds[k]? = some d → s.hs[k]? = some h → h.pc ≠ -1 → h.ct < d.wi → d.rows[h.pc.toNat]? = some (.put x e) → M.bxs[j]? = some b → b.nm = x →
      h.half = none → b.sz ≤ e.val (d.env h.wo h.ns) → StepR M s k pick none
  | putWhole {d : Hn} {h : HS} {x : Str} {e : Ex} {j : Nat} {b : Bx} {bs : BS} {o : Option Sd} : M.hds[k]? = some d → s.hs[k]? = some h → h.pc ≠ -1 → h.ct < d.wi → d.rows[h.pc.toNat]? = some (.put x e) → M.bxs[j]? = some b → b.nm = x → s.bs[j]? = some bs →
      h.half = none → e.val (d.env h.wo h.ns) < b.sz → b.kd = 2 → GoOn M k d { h with ct := h.ct + 1 } ⟨s.hs, s.bs.set j ⟨e.val (d.env h.wo h.ns), bs.c⟩, s.cl⟩ (h.pc.toNat + 1) o → StepR M s k pick o
  | put1 {d : Hn} {h : HS} {x : Str} {e : Ex} {j : Nat} {b : Bx} {bs : BS} : M.hds[k]? = some d → s.hs[k]? = some h → h.pc ≠ -1 → h.ct < d.wi → d.rows[h.pc.toNat]? = some (.put x e) → M.bxs[j]? = some b → b.nm = x → s.bs[j]? = some bs →
      h.half = none → e.val (d.env h.wo h.ns) < b.sz → b.kd ≠ 2 →
      StepR M s k pick (some ⟨besideS b (e.val (d.env h.wo h.ns)) M.hds (s.hs.set k { h with half := some [], ct := h.ct + 1 }), s.bs.set j ⟨bs.w, e.val (d.env h.wo h.ns)⟩, s.cl⟩)
  | getWhole {d : Hn} {h : HS} {x y : Str} {j : Nat} {b : Bx} {bs : BS} {o : Option Sd} : M.hds[k]? = some d → s.hs[k]? = some h → h.pc ≠ -1 → h.ct < d.wi → d.rows[h.pc.toNat]? = some (.get x y) → M.bxs[j]? = some b → b.nm = y → s.bs[j]? = some bs →
      b.kd = 2 → GoOn M k d { h with ct := h.ct + 1, ns := setN d.vars h.ns x bs.w } s (h.pc.toNat + 1) o → StepR M s k pick o
  | get2 {d : Hn} {h : HS} {x y : Str} {j : Nat} {b : Bx} {l : List Int} {o : Option Sd} : M.hds[k]? = some d → s.hs[k]? = some h → h.pc ≠ -1 → h.ct < d.wi → d.rows[h.pc.toNat]? = some (.get x y) → M.bxs[j]? = some b → b.nm = y →
      b.kd ≠ 2 → h.half = some l → GoOn M k d { h with half := none, ct := h.ct + 1, ns := setN d.vars h.ns x pick } s (h.pc.toNat + 1) o → StepR M s k pick o
  | get1 {d : Hn} {h : HS} {x y : Str} {j : Nat} {b : Bx} {bs : BS} : M.hds[k]? = some d → s.hs[k]? = some h → h.pc ≠ -1 → h.ct < d.wi → d.rows[h.pc.toNat]? = some (.get x y) → M.bxs[j]? = some b → b.nm = y → s.bs[j]? = some bs →
      b.kd ≠ 2 → h.half = none → StepR M s k pick (some ⟨s.hs.set k { h with half := some (if bs.c = -1 then [bs.w] else if b.kd = 0 then rangeD b.sz else fourI (memS [bs.w, bs.c])), ct := h.ct + 1 }, s.bs, s.cl⟩)
/-- what may be picked -/
def Mk.picks (M : Mk) (k : Nat) (d : Hn) (h : HS) : List Int :=
  if h.pc = -1 then (if k = 0 then rangeD M.sz else [0]) else match h.half, d.rows[h.pc.toNat]? with
    | some l, some (.get _ _) => l
    | _, _ => [0]
/-- hand k may pick so -/
def MayStep (M : Mk) (s : Sd) (k : Nat) (pick : Int) : Prop := ∃ d h, M.hds[k]? = some d ∧ s.hs[k]? = some h ∧ pick ∈ M.picks k d h
/-- a set of stands (told as data) without a break in reach -/
structure Paper (M : Mk) (met : List Dt) : Prop where
  first : M.first.dt ∈ met
  next : ∀ x ∈ met, ∃ s : Sd, x = s.dt ∧ ∀ k pick, MayStep M s k pick → ∃ s', StepR M s k pick (some s') ∧ s'.dt ∈ met
/-- a break in reach -/
inductive Way (M : Mk) : Sd → Prop
  | first : Way M M.first
  | step {s s' : Sd} {k : Nat} {pick : Int} : Way M s → MayStep M s k pick → StepR M s k pick (some s') → Way M s'
def Breaks (M : Mk) : Prop := ∃ s k pick, Way M s ∧ MayStep M s k pick ∧ StepR M s k pick none
end SB
set_option maxRecDepth 100000
set_option maxHeartbeats 4000000
/-! What the claim of a making is beside that of a stronger one. -/
namespace SB
open PySem L2

/-- M' has the boxes of M, each as strong or one stronger, and the same made kind or one weaker -/
structure Stg (M M' : Mk) : Prop where
  sz : M'.sz = M.sz
  bg : M'.bg = M.bg
  hds : M'.hds = M.hds
  kd : M'.kd = M.kd ∨ M'.kd + 1 = M.kd
  k2 : M.kd ≤ 2
  bl : M'.bxs.length = M.bxs.length
  bx : ∀ (j : Nat) (b b' : Bx), M.bxs[j]? = some b → M'.bxs[j]? = some b' → b'.nm = b.nm ∧ b'.sz = b.sz ∧ b'.bg = b.bg ∧ b.kd ≤ 2 ∧ b'.kd ≤ 2 ∧ (b'.kd = b.kd ∨ b'.kd = b.kd + 1)
structure ClOk (M : Mk) (c : Cl) : Prop where
  whole : ∀ cs, c = .whole cs → M.kd = 2 ∧ cs.Nodup ∧ ∀ x ∈ cs, (0 ≤ x.w ∧ x.w < M.sz) ∧ (-2 ≤ x.c ∧ x.c < M.sz) ∧ x.ts.length = M.rd ∧ ∀ t ∈ x.ts, -2 ≤ t ∧ t < M.sz
  weak : ∀ o c' ts, c = .weak o c' ts → M.kd ≠ 2 ∧ (0 ≤ o ∧ o < M.sz) ∧ (-1 ≤ c' ∧ c' < M.sz) ∧ ts.length = M.rd ∧ ∀ l, some l ∈ ts → l.length ≤ 4 ∧ ∀ z ∈ l, 0 ≤ z ∧ z < M.sz
def TsRel (ts ts' : List (Option (List Int))) : Prop := ts.length = ts'.length ∧ ∀ i : Nat, (∀ l, ts[i]? = some (some l) → ∃ l', ts'[i]? = some (some l') ∧ ∀ z ∈ l, z ∈ l') ∧ (ts[i]? = some none → ts'[i]? = some none)
/-- a case beside the weak claim -/
structure CaRel (o c : Int) (ts : List (Option (List Int))) (x : Ca) : Prop where
  len : x.ts.length = ts.length
  c1 : c = -1 → x.c = -1 ∧ x.w = o
  c2 : c ≠ -1 → (x.c = c ∧ x.w = o) ∨ (x.c = -2 ∧ x.w = c)
  t : ∀ (i : Nat) (z : Int), x.ts[i]? = some z → (z = -1 ∧ ts[i]? = some none) ∨ (z ≠ -1 ∧ ∃ l, ts[i]? = some (some l) ∧ (z = -2 ∨ z ∈ l) ∧ o ∈ l ∧ (c ≠ -1 → c ∈ l))
def ClRel (M' : Mk) (idle : Prop) : Cl → Cl → Prop
  | .whole cs, .whole cs' => ∀ x ∈ cs, x ∈ cs'
  | .weak o c ts, .weak o' c' ts' => o = o' ∧ c = c' ∧ TsRel ts ts'
  | .whole cs, .weak o c ts => M'.kd = 1 ∧ (idle → c = -1) ∧ (¬ idle → 0 ≤ c) ∧ ∀ x ∈ cs, CaRel o c ts x
  | .weak _ _ _, .whole _ => False
theorem Reach.mono {cs cs' : List Ca} (h : ∀ x ∈ cs, x ∈ cs') : ∀ {x : Ca}, Reach cs x → Reach cs' x
  | _, .base m => .base (h _ m)
  | _, .step r m => .step (Reach.mono h r) m
theorem Reach.ind {cs : List Ca} {P : Ca → Prop} (hb : ∀ x ∈ cs, P x) (hs : ∀ x y, P x → Mom x y → P y) : ∀ {x : Ca}, Reach cs x → P x
  | _, .base m => hb _ m
  | _, .step r m => hs _ _ (Reach.ind hb hs r) m
theorem clo_sub {cs cs' out out' : List Ca} (a : Clo cs out) (b : Clo cs' out') (h : ∀ x ∈ cs, x ∈ cs') : ∀ x ∈ out, x ∈ out' := fun x hx => (b.mem x).mpr (((a.mem x).mp hx).mono h)
theorem mem_memS {l : List Int} {z : Int} : z ∈ fourI (memS l) ↔ (0 ≤ z ∧ z < 4) ∧ z ∈ l := by
  rw [mem_fourI]
  unfold memS
  constructor
  · rintro ⟨h1, h2, h3⟩
    have h4 := of_decide_eq_true h3
    rw [Int.toNat_of_nonneg h1] at h4
    exact ⟨⟨h1, h2⟩, h4⟩
  · rintro ⟨⟨h1, h2⟩, h3⟩
    refine ⟨h1, h2, decide_eq_true ?_⟩
    rw [Int.toNat_of_nonneg h1]
    exact h3
theorem tsRel_get {ts ts' : List (Option (List Int))} (h : TsRel ts ts') {k : Nat} {l' : List Int} (e : ts'[k]? = some (some l')) : ∃ l, ts[k]? = some (some l) ∧ ∀ z ∈ l, z ∈ l' := by
  have hk : k < ts.length := by rw [h.1]; exact (List.getElem?_eq_some_iff.mp e).1
  have e2 : ts[k]? = some ts[k] := List.getElem?_eq_getElem hk
  cases hv : ts[k] with
  | none =>
    rw [hv] at e2
    rw [(h.2 k).2 e2] at e
    cases e
  | some l =>
    rw [hv] at e2
    obtain ⟨l2, h1, h2⟩ := (h.2 k).1 l e2
    rw [h1] at e
    cases e
    exact ⟨l, e2, h2⟩
theorem tsRel_map {ts ts' : List (Option (List Int))} (h : TsRel ts ts') {ws ws' : List Int} (hw : ∀ z ∈ ws, z ∈ ws') : TsRel (ts.map (withW ws)) (ts'.map (withW ws')) := by
  refine ⟨by rw [List.length_map, List.length_map, h.1], fun i => ⟨fun l e => ?_, fun e => ?_⟩⟩
  · rw [List.getElem?_map] at e
    cases hv : ts[i]? with
    | none => rw [hv] at e; cases e
    | some o =>
      rw [hv] at e
      cases o with
      | none => cases e
      | some m =>
        obtain ⟨m', h1, h2⟩ := (h.2 i).1 m hv
        have e1 : fourI (memS (m ++ ws)) = l := by simpa [withW] using e
        subst e1
        refine ⟨fourI (memS (m' ++ ws')), by rw [List.getElem?_map, h1]; rfl, fun z hz => ?_⟩
        rw [mem_memS] at hz ⊢
        refine ⟨hz.1, ?_⟩
        rcases List.mem_append.mp hz.2 with a | a
        · exact List.mem_append_left _ (h2 z a)
        · exact List.mem_append_right _ (hw z a)
  · rw [List.getElem?_map] at e ⊢
    cases hv : ts[i]? with
    | none => rw [hv] at e; cases e
    | some o =>
      rw [hv] at e
      cases o with
      | none => rw [(h.2 i).2 hv]; rfl
      | some m => cases e
theorem tsRel_set {ts ts' : List (Option (List Int))} (h : TsRel ts ts') {k : Nat} {o o' : Option (List Int)} (ho : (∃ l l', o = some l ∧ o' = some l' ∧ ∀ z ∈ l, z ∈ l') ∨ (o = none ∧ o' = none)) : TsRel (ts.set k o) (ts'.set k o') := by
  refine ⟨by rw [List.length_set, List.length_set, h.1], fun i => ?_⟩
  rw [List.getElem?_set, List.getElem?_set]
  by_cases e : k = i
  · subst e
    rw [if_pos rfl, if_pos rfl, ← h.1]
    by_cases hl : k < ts.length
    · rw [if_pos hl, if_pos hl]
      rcases ho with ⟨l, l', rfl, rfl, h1⟩ | ⟨rfl, rfl⟩
      · exact ⟨(fun m e => ⟨l', rfl, by cases e; exact h1⟩), (fun e => by cases e)⟩
      · exact ⟨(fun m e => by cases e), (fun _ => rfl)⟩
    · rw [if_neg hl, if_neg hl]
      exact ⟨(fun m e => by cases e), (fun e => by cases e)⟩
  · rw [if_neg e, if_neg e]
    exact h.2 i
theorem carel_w {o c : Int} {ts : List (Option (List Int))} {x : Ca} (h : CaRel o c ts x) : x.w = o ∨ (c ≠ -1 ∧ x.w = c) := by
  by_cases e : c = -1
  · exact .inl (h.c1 e).2
  · rcases h.c2 e with q | q
    · exact .inl q.2
    · exact .inr ⟨e, q.2⟩
theorem carel_mom {o c : Int} {ts : List (Option (List Int))} {x y : Ca} (ho : 0 ≤ o) (hc : -1 ≤ c) (h : CaRel o c ts x) (m : Mom x y) : CaRel o c ts y := by
  rcases m with ⟨h0, rfl⟩ | ⟨i, hi, rfl⟩
  · have hcn : c ≠ -1 := fun e => by
      have := (h.c1 e).1
      omega
    refine ⟨h.len, fun e => absurd e hcn, fun _ => .inr ⟨rfl, ?_⟩, h.t⟩
    rcases h.c2 hcn with q | q
    · exact q.1
    · have := q.1
      omega
  · refine ⟨by rw [List.length_set]; exact h.len, h.c1, h.c2, fun j z hj => ?_⟩
    rw [List.getElem?_set] at hj
    by_cases e : i = j
    · subst e
      rw [if_pos rfl] at hj
      have hl : i < x.ts.length := (List.getElem?_eq_some_iff.mp hi).1
      rw [if_pos hl] at hj
      have hz : x.w = z := Option.some.inj hj
      rcases h.t i (-2) hi with ⟨e1, _⟩ | ⟨_, l, e2, _, e4, e5⟩
      · exact absurd e1 (by decide)
      · rcases carel_w h with q | ⟨q1, q⟩
        · exact .inr ⟨by omega, l, e2, .inr (by rw [← hz, q]; exact e4), e4, e5⟩
        · exact .inr ⟨by omega, l, e2, .inr (by rw [← hz, q]; exact e5 q1), e4, e5⟩
    · rw [if_neg e] at hj
      exact h.t j z hj
section
variable {M M' : Mk} (S : Stg M M')
include S
theorem Stg.beside {w : Int} (h0 : 0 ≤ w) (h1 : w < M.sz) (h2 : M.kd ≠ 2) : ∀ z ∈ M.beside w, z ∈ M'.beside w := by
  intro z hz
  unfold Mk.beside at hz ⊢
  rw [S.sz]
  rcases S.kd with e | e
  · rw [e]; exact hz
  · by_cases h : M.kd = 0
    · rw [h] at e; omega
    · rw [if_neg h] at hz
      have := S.k2
      rw [if_pos (by omega)]
      rw [List.mem_singleton.mp hz]
      exact mem_rangeD.mpr ⟨h0, h1⟩
theorem rel_writes {w : Int} {c c' d d' : Cl} (r : ClRel M' True c c') (a : ClWrites M w c d) (b : ClWrites M' w c' d') (h0 : 0 ≤ w) (h1 : w < M.sz) (hs3 : M.sz ≤ 3) (hc : ClOk M c) (hc' : ClOk M' c') : ClRel M' False d d' := by
  cases a with
  | whole ca =>
    cases b with
    | whole cb =>
      refine clo_sub ca cb fun x hx => ?_
      obtain ⟨y, hy, rfl⟩ := List.mem_map.mp hx
      exact List.mem_map.mpr ⟨y, r y hy, rfl⟩
    | weak =>
      rename_i cs out o c' ts
      obtain ⟨k1, r1, _, r2⟩ := r
      have hb : M'.beside w = [w] := by unfold Mk.beside; rw [if_neg (by omega)]
      refine ⟨k1, fun z => z.elim, fun _ => h0, fun x hx => ?_⟩
      have hcm := r1 trivial
      subst hcm
      rw [hb]
      obtain ⟨_, ho, _, _, _⟩ := hc'.weak _ _ _ rfl
      have hsz' := S.sz
      refine Reach.ind (P := CaRel o w (ts.map (withW [w]))) (fun y hy => ?_) (fun y z hy hm => ?_) ((ca.mem x).mp hx)
      · obtain ⟨u, hu, rfl⟩ := List.mem_map.mp hy
        obtain ⟨q0, q1, _, q3⟩ := r2 u hu
        obtain ⟨q4, q5⟩ := q1 rfl
        refine ⟨by rw [List.length_map]; exact q0, fun e => by omega, fun _ => .inl ⟨rfl, q5⟩, fun i t hi => ?_⟩
        rcases q3 i t hi with ⟨e1, e2⟩ | ⟨e1, l, e2, e3, e4, _⟩
        · exact .inl ⟨e1, by rw [List.getElem?_map, e2]; rfl⟩
        · refine .inr ⟨e1, fourI (memS (l ++ [w])), by rw [List.getElem?_map, e2]; rfl, ?_, ?_, fun _ => ?_⟩
          · rcases e3 with e | e
            · exact .inl e
            · refine .inr (mem_memS.mpr ⟨?_, List.mem_append_left _ e⟩)
              have := ((hc'.weak _ _ _ rfl).2.2.2.2 l (List.mem_of_getElem? e2)).2 t e
              omega
          · exact mem_memS.mpr ⟨by omega, List.mem_append_left _ e4⟩
          · exact mem_memS.mpr ⟨by omega, List.mem_append_right _ (List.mem_singleton.mpr rfl)⟩
      · exact carel_mom ho.1 (by omega) hy hm
  | weak =>
    cases b with
    | whole cb => exact r.elim
    | weak =>
      obtain ⟨r1, r2, r3⟩ := r
      exact ⟨r1, rfl, tsRel_map r3 (S.beside h0 h1 (hc.weak _ _ _ rfl).1)⟩
end
end SB
set_option maxRecDepth 100000
set_option maxHeartbeats 4000000
/-! The claim behind writings, readings, tellings, beside that of a stronger making; claims stay in bounds. -/
namespace SB
open PySem L2
section
variable {M M' : Mk} (S : Stg M M')
include S
theorem rel_written {c c' d d' : Cl} (r : ClRel M' False c c') (a : ClWritten M c d) (b : ClWritten M' c' d') (hc' : ClOk M' c') : ClRel M' True d d' := by
  cases a with
  | whole ca =>
    cases b with
    | whole cb =>
      refine clo_sub ca cb fun x hx => ?_
      obtain ⟨y, hy, rfl⟩ := List.mem_map.mp hx
      obtain ⟨h1, h2⟩ := List.mem_filter.mp hy
      exact List.mem_map.mpr ⟨y, List.mem_filter.mpr ⟨r y h1, h2⟩, rfl⟩
    | weak =>
      rename_i cs out o c' ts
      obtain ⟨k1, _, r1, r2⟩ := r
      have hc0 : 0 ≤ c' := r1 (fun z => z)
      refine ⟨k1, fun _ => rfl, fun z => absurd trivial z, fun x hx => ?_⟩
      refine Reach.ind (P := CaRel c' (-1) ts) (fun y hy => ?_) (fun y z hy hm => carel_mom hc0 (by omega) hy hm) ((ca.mem x).mp hx)
      obtain ⟨u, hu, rfl⟩ := List.mem_map.mp hy
      obtain ⟨h1, h2⟩ := List.mem_filter.mp hu
      have h2 := of_decide_eq_true h2
      have q := r2 u h1
      have hw : u.w = c' := by
        rcases q.c2 (by omega) with e | e
        · have := e.1
          omega
        · exact e.2
      refine ⟨q.len, fun _ => ⟨rfl, hw⟩, fun z => absurd rfl z, fun i z hi => ?_⟩
      rcases q.t i z hi with e | ⟨e1, l, e2, e3, e4, e5⟩
      · exact .inl e
      · exact .inr ⟨e1, l, e2, e3, e5 (by omega), fun z => absurd rfl z⟩
  | weak =>
    cases b with
    | whole cb => exact r.elim
    | weak =>
      obtain ⟨r1, r2, r3⟩ := r
      exact ⟨r2, rfl, r3⟩
theorem rel_reads {k : Nat} {I : Prop} {c c' d d' : Cl} (r : ClRel M' I c c') (a : ClReads M k c d) (b : ClReads M' k c' d') (hs3 : M.sz ≤ 3) (hc : ClOk M c) (hc' : ClOk M' c') (hk : k < M.rd) : ClRel M' I d d' := by
  cases a with
  | whole ca =>
    cases b with
    | whole cb =>
      refine clo_sub ca cb fun x hx => ?_
      obtain ⟨y, hy, rfl⟩ := List.mem_map.mp hx
      exact List.mem_map.mpr ⟨y, r y hy, rfl⟩
    | weak =>
      rename_i cs out o c' ts
      obtain ⟨k1, r0, r1, r2⟩ := r
      obtain ⟨_, ho, hcc, hl, hts⟩ := hc'.weak _ _ _ rfl
      have hsz' := S.sz
      have hkt : k < ts.length := by
        rw [hl]
        show k < M'.hds.length - 1
        rw [S.hds]
        exact hk
      have hb : M'.beside c' = [c'] := by unfold Mk.beside; rw [if_neg (by omega)]
      obtain ⟨l, el, ol, cl⟩ : ∃ l, M'.told0 o c' = some l ∧ o ∈ l ∧ (c' ≠ -1 → c' ∈ l) := by
        unfold Mk.told0
        by_cases e : c' = -1
        · rw [if_pos e]
          exact ⟨[o], rfl, List.mem_singleton.mpr rfl, fun z => absurd e z⟩
        · rw [if_neg e, hb]
          refine ⟨_, rfl, mem_memS.mpr ⟨by omega, by simp⟩, fun _ => mem_memS.mpr ⟨by omega, by simp⟩⟩
      refine ⟨k1, r0, r1, fun x hx => ?_⟩
      refine Reach.ind (P := CaRel o c' (ts.set k (M'.told0 o c'))) (fun y hy => ?_) (fun y z hy hm => carel_mom ho.1 hcc.1 hy hm) ((ca.mem x).mp hx)
      obtain ⟨u, hu, rfl⟩ := List.mem_map.mp hy
      have q := r2 u hu
      refine ⟨by rw [List.length_set, List.length_set]; exact q.len, q.c1, q.c2, fun i z hi => ?_⟩
      rw [List.getElem?_set] at hi ⊢
      by_cases e : k = i
      · subst e
        rw [if_pos rfl] at hi ⊢
        rw [if_pos hkt]
        rw [if_pos (show k < u.ts.length by rw [q.len]; exact hkt)] at hi
        have hz : -2 = z := Option.some.inj hi
        exact .inr ⟨by omega, l, by rw [el], .inl hz.symm, ol, cl⟩
      · rw [if_neg e] at hi ⊢
        exact q.t i z hi
  | weak =>
    cases b with
    | whole cb => exact r.elim
    | weak =>
      obtain ⟨r1, r2, r3⟩ := r
      subst r1 r2
      rename_i o c ts ts'
      refine ⟨rfl, rfl, tsRel_set r3 (.inl ?_)⟩
      obtain ⟨k2, ho, hcc, _⟩ := hc.weak _ _ _ rfl
      unfold Mk.told0
      by_cases e : c = -1
      · rw [if_pos e, if_pos e]
        exact ⟨_, _, rfl, rfl, fun z hz => hz⟩
      · rw [if_neg e, if_neg e]
        refine ⟨_, _, rfl, rfl, fun z hz => ?_⟩
        rw [mem_memS] at hz ⊢
        refine ⟨hz.1, ?_⟩
        rcases List.mem_append.mp hz.2 with q | q
        · exact List.mem_append_left _ q
        · exact List.mem_append_right _ (S.beside (by omega) (by omega) k2 z q)
theorem rel_told {k : Nat} {w : Int} {I : Prop} {c c' d : Cl} {o' : Option Cl} (r : ClRel M' I c c') (a : ClTold M k w c (some d)) (b : ClTold M' k w c' o') (h0 : 0 ≤ w) (ho : ∀ o c1 ts, c' = .weak o c1 ts → 0 ≤ o ∧ -1 ≤ c1) : ∃ d', o' = some d' ∧ ClRel M' I d d' := by
  cases a with
  | wholeS hz hw ca =>
    rename_i cs out z
    cases b with
    | wholeN hn => exact absurd hw (hn _ (r _ hz))
    | wholeS hz' hw' cb =>
      refine ⟨_, rfl, clo_sub ca cb fun x hx => ?_⟩
      obtain ⟨y, hy, rfl⟩ := List.mem_map.mp hx
      obtain ⟨h1, h2⟩ := List.mem_filter.mp hy
      exact List.mem_map.mpr ⟨y, List.mem_filter.mpr ⟨r y h1, h2⟩, rfl⟩
    | weakN hl hn =>
      obtain ⟨_, _, _, r2⟩ := r
      rcases (r2 z hz).t k w hw with ⟨e, _⟩ | ⟨_, l, e2, e3, _, _⟩
      · omega
      · rw [hl] at e2
        cases e2
        rcases e3 with e | e
        · omega
        · exact absurd e hn
    | weakS hl hm =>
      rename_i o c1 ts l
      obtain ⟨k1, r0, r1, r2⟩ := r
      obtain ⟨ho0, hc0⟩ := ho _ _ _ rfl
      refine ⟨_, rfl, k1, r0, r1, fun x hx => ?_⟩
      refine Reach.ind (P := CaRel o c1 (ts.set k none)) (fun y hy => ?_) (fun y z hy hm => carel_mom ho0 hc0 hy hm) ((ca.mem x).mp hx)
      obtain ⟨u, hu, rfl⟩ := List.mem_map.mp hy
      have q := r2 u (List.mem_filter.mp hu).1
      have hkt : k < ts.length := (List.getElem?_eq_some_iff.mp hl).1
      refine ⟨by rw [List.length_set, List.length_set]; exact q.len, q.c1, q.c2, fun i t hi => ?_⟩
      rw [List.getElem?_set] at hi ⊢
      by_cases e : k = i
      · subst e
        rw [if_pos rfl] at hi ⊢
        rw [if_pos hkt]
        rw [if_pos (show k < u.ts.length by rw [q.len]; exact hkt)] at hi
        exact .inl ⟨(Option.some.inj hi).symm, rfl⟩
      · rw [if_neg e] at hi ⊢
        exact q.t i t hi
  | weakS hl hm =>
    cases b with
    | wholeN _ => exact r.elim
    | wholeS _ _ _ => exact r.elim
    | weakN hl' hn =>
      obtain ⟨_, _, r3⟩ := r
      obtain ⟨l', e1, e2⟩ := (r3.2 k).1 _ hl
      rw [e1] at hl'
      cases hl'
      exact absurd (e2 _ hm) hn
    | weakS hl' hm' =>
      obtain ⟨r1, r2, r3⟩ := r
      exact ⟨_, rfl, r1, r2, tsRel_set r3 (.inr ⟨rfl, rfl⟩)⟩
theorem rel_claim0 : ClRel M' True M.claim0 M'.claim0 := by
  have hk := S.k2
  have hrd : M'.rd = M.rd := by unfold Mk.rd; rw [S.hds]
  unfold Mk.claim0
  rw [hrd, S.bg]
  by_cases e : M.kd = 2
  · rw [if_pos e]
    by_cases e' : M'.kd = 2
    · rw [if_pos e']
      exact fun x hx => hx
    · rw [if_neg e']
      refine ⟨by rcases S.kd with q | q <;> omega, fun _ => rfl, fun z => absurd trivial z, fun x hx => ?_⟩
      rw [List.mem_singleton.mp hx]
      refine ⟨by simp, fun _ => ⟨rfl, rfl⟩, fun z => absurd rfl z, fun i z hi => ?_⟩
      rw [List.getElem?_replicate] at hi ⊢
      by_cases h : i < M.rd
      · rw [if_pos h] at hi ⊢
        exact .inl ⟨(Option.some.inj hi).symm, rfl⟩
      · rw [if_neg h] at hi
        cases hi
  · rw [if_neg e, if_neg (by rcases S.kd with q | q <;> omega)]
    exact ⟨rfl, rfl, rfl, fun i => ⟨fun l h => ⟨l, h, fun _ z => z⟩, fun h => h⟩⟩
end

/-! in bounds -/
structure CaOk (M : Mk) (x : Ca) : Prop where
  w : 0 ≤ x.w ∧ x.w < M.sz
  c : -2 ≤ x.c ∧ x.c < M.sz
  l : x.ts.length = M.rd
  t : ∀ t ∈ x.ts, -2 ≤ t ∧ t < M.sz
theorem caOk_mom {M : Mk} {x y : Ca} (h : CaOk M x) (m : Mom x y) (h2 : 2 ≤ M.sz) : CaOk M y := by
  rcases m with ⟨h0, rfl⟩ | ⟨i, hi, rfl⟩
  · exact ⟨⟨h0, h.c.2⟩, by show -2 ≤ (-2 : Int) ∧ (-2 : Int) < M.sz; omega, h.l, h.t⟩
  · refine ⟨h.w, h.c, by rw [List.length_set]; exact h.l, fun t ht => ?_⟩
    rcases List.mem_or_eq_of_mem_set ht with q | q
    · exact h.t t q
    · rw [q]
      have := h.w
      omega
theorem clOk_whole {M : Mk} {cs out : List Ca} (hk : M.kd = 2) (h2 : 2 ≤ M.sz) (c : Clo cs out) (h : ∀ x ∈ cs, CaOk M x) : ClOk M (.whole out) := by
  refine ⟨fun cs' e => ?_, fun o c' ts e => by cases e⟩
  cases e
  refine ⟨hk, c.nd, fun x hx => ?_⟩
  have q := Reach.ind (P := CaOk M) h (fun y z a b => caOk_mom a b h2) ((c.mem x).mp hx)
  exact ⟨q.w, q.c, q.l, q.t⟩
theorem ClOk.ca {M : Mk} {cs : List Ca} (h : ClOk M (.whole cs)) {x : Ca} (hx : x ∈ cs) : CaOk M x := by
  obtain ⟨a, b, c, d⟩ := (h.whole _ rfl).2.2 x hx
  exact ⟨a, b, c, d⟩
theorem clOk_weak {M : Mk} {o c : Int} {ts : List (Option (List Int))} (h1 : M.kd ≠ 2) (h2 : 0 ≤ o ∧ o < M.sz) (h3 : -1 ≤ c ∧ c < M.sz) (h4 : ts.length = M.rd) (h5 : ∀ l, some l ∈ ts → l.length ≤ 4 ∧ ∀ z ∈ l, 0 ≤ z ∧ z < M.sz) : ClOk M (.weak o c ts) := by
  refine ⟨(fun cs' e => by cases e), fun o' c' ts' e => ?_⟩
  cases e
  exact ⟨h1, h2, h3, h4, h5⟩
theorem fourI_len (S : Nat → Bool) : (fourI S).length ≤ 4 := by
  unfold fourI
  rw [List.length_map]
  exact four_len S
theorem beside_mem {M : Mk} {w z : Int} (h0 : 0 ≤ w) (h1 : w < M.sz) (h : z ∈ M.beside w) : 0 ≤ z ∧ z < M.sz := by
  unfold Mk.beside at h
  split at h
  · exact mem_rangeD.mp h
  · rw [List.mem_singleton.mp h]; exact ⟨h0, h1⟩
section
variable {M : Mk} (h2 : 2 ≤ M.sz)
include h2
theorem clOk_writes {w : Int} {c d : Cl} (h : ClOk M c) (a : ClWrites M w c d) (h0 : 0 ≤ w) (h1 : w < M.sz) : ClOk M d := by
  cases a with
  | whole ca =>
    refine clOk_whole (h.whole _ rfl).1 h2 ca fun x hx => ?_
    obtain ⟨y, hy, rfl⟩ := List.mem_map.mp hx
    have q := h.ca hy
    exact ⟨q.w, by show -2 ≤ w ∧ w < M.sz; omega, q.l, q.t⟩
  | weak =>
    obtain ⟨a1, a2, a3, a4, a5⟩ := h.weak _ _ _ rfl
    refine clOk_weak a1 a2 (by omega) (by rw [List.length_map]; exact a4) fun l hl => ?_
    obtain ⟨o, ho, e⟩ := List.mem_map.mp hl
    cases o with
    | none => cases e
    | some m =>
      have e1 : fourI (memS (m ++ M.beside w)) = l := by simpa [withW] using e
      refine ⟨by rw [← e1]; exact fourI_len _, fun z hz => ?_⟩
      rw [← e1, mem_memS] at hz
      rcases List.mem_append.mp hz.2 with q | q
      · exact (a5 m ho).2 z q
      · exact beside_mem h0 h1 q
theorem clOk_written {c d : Cl} (h : ClOk M c) (a : ClWritten M c d) (hc : ∀ o c' ts, c = .weak o c' ts → 0 ≤ c') : ClOk M d := by
  cases a with
  | whole ca =>
    refine clOk_whole (h.whole _ rfl).1 h2 ca fun x hx => ?_
    obtain ⟨y, hy, rfl⟩ := List.mem_map.mp hx
    have q := h.ca (List.mem_filter.mp hy).1
    exact ⟨q.w, by show -2 ≤ (-1 : Int) ∧ (-1 : Int) < M.sz; omega, q.l, q.t⟩
  | weak =>
    obtain ⟨a1, a2, a3, a4, a5⟩ := h.weak _ _ _ rfl
    have := hc _ _ _ rfl
    exact clOk_weak a1 ⟨this, a3.2⟩ (by omega) a4 a5
theorem clOk_reads {k : Nat} {c d : Cl} (h : ClOk M c) (a : ClReads M k c d) : ClOk M d := by
  cases a with
  | whole ca =>
    refine clOk_whole (h.whole _ rfl).1 h2 ca fun x hx => ?_
    obtain ⟨y, hy, rfl⟩ := List.mem_map.mp hx
    have q := h.ca hy
    refine ⟨q.w, q.c, by rw [List.length_set]; exact q.l, fun t ht => ?_⟩
    rcases List.mem_or_eq_of_mem_set ht with e | e
    · exact q.t t e
    · rw [e]; omega
  | weak =>
    rename_i o c ts
    obtain ⟨a1, a2, a3, a4, a5⟩ := h.weak _ _ _ rfl
    refine clOk_weak a1 a2 a3 (by rw [List.length_set]; exact a4) fun l hl => ?_
    rcases List.mem_or_eq_of_mem_set hl with e | e
    · exact a5 l e
    · unfold Mk.told0 at e
      by_cases hc : c = -1
      · rw [if_pos hc] at e
        cases e
        refine ⟨by simp, fun z hz => ?_⟩
        rw [List.mem_singleton.mp hz]
        exact a2
      · rw [if_neg hc] at e
        have e1 : l = fourI (memS ([o] ++ M.beside c)) := by simpa [withW] using e
        refine ⟨by rw [e1]; exact fourI_len _, fun z hz => ?_⟩
        rw [e1, mem_memS] at hz
        rcases List.mem_append.mp hz.2 with q | q
        · rw [List.mem_singleton.mp q]; exact a2
        · exact beside_mem (by omega) a3.2 q
theorem clOk_told {k : Nat} {w : Int} {c d : Cl} (h : ClOk M c) (a : ClTold M k w c (some d)) : ClOk M d := by
  cases a with
  | wholeS hz hw ca =>
    refine clOk_whole (h.whole _ rfl).1 h2 ca fun x hx => ?_
    obtain ⟨y, hy, rfl⟩ := List.mem_map.mp hx
    have q := h.ca (List.mem_filter.mp hy).1
    refine ⟨q.w, q.c, by rw [List.length_set]; exact q.l, fun t ht => ?_⟩
    rcases List.mem_or_eq_of_mem_set ht with e | e
    · exact q.t t e
    · rw [e]; omega
  | weakS hl hm =>
    obtain ⟨a1, a2, a3, a4, a5⟩ := h.weak _ _ _ rfl
    refine clOk_weak a1 a2 a3 (by rw [List.length_set]; exact a4) fun l hl => ?_
    rcases List.mem_or_eq_of_mem_set hl with e | e
    · exact a5 l e
    · cases e
theorem clOk_claim0 (hb : 0 ≤ M.bg ∧ M.bg < M.sz) : ClOk M M.claim0 := by
  unfold Mk.claim0
  split
  · rename_i hk
    refine clOk_whole (cs := [⟨M.bg, -1, List.replicate M.rd (-1)⟩]) hk h2 ⟨by simp, fun x => ⟨fun hx => .base hx, fun hx => ?_⟩⟩ fun x hx => ?_
    · refine Reach.ind (P := fun x => x ∈ [(⟨M.bg, -1, List.replicate M.rd (-1)⟩ : Ca)]) (fun y hy => hy) (fun y z hy hm => ?_) hx
      rw [List.mem_singleton.mp hy] at hm
      rcases hm with ⟨e, _⟩ | ⟨i, hi, _⟩
      · exact absurd (show (0:Int) ≤ -1 from e) (by decide)
      · rw [List.getElem?_replicate] at hi
        split at hi
        · exact absurd (Option.some.inj hi) (by decide)
        · cases hi
    · rw [List.mem_singleton.mp hx]
      refine ⟨hb, by show -2 ≤ (-1 : Int) ∧ (-1 : Int) < M.sz; omega, by simp, fun t ht => ?_⟩
      rw [(List.mem_replicate.mp ht).2]
      omega
  · rename_i hk
    refine clOk_weak hk hb (by omega) (by simp) fun l hl => ?_
    rw [List.mem_replicate] at hl
    exact nomatch hl.2
end
end SB
set_option maxRecDepth 100000
set_option maxHeartbeats 4000000
/-! Stands stay in bounds. -/
namespace SB
open PySem L2

structure RowOk (M : Mk) (k : Nat) (d : Hn) (i : Nat) (r : Row) : Prop where
  ex : ∀ e, r.expr = some e → e.nn ∧ e.deep ≤ 3
  put : ∀ b e, r = .put b e → k = 0 ∧ ∃ (j : Nat) (x : Bx), M.bxs[j]? = some x ∧ x.nm = b
  get : ∀ x b, r = .get x b → ∃ (j : Nat) (y : Bx), M.bxs[j]? = some y ∧ y.nm = b
  un : ∀ e to, r = .un e to → i < to ∧ to ≤ d.rows.length
  nv : ∀ x, (∃ e, r = .lt x e) ∨ (∃ b, r = .get x b) → x ≠ ("v" : Str)
structure HnOk (M : Mk) (k : Nat) (d : Hn) : Prop where
  wi : 0 ≤ d.wi
  rl : d.rows.length ≤ 6
  vars : Sorts (rowsNames d.rows) d.vars
  row : ∀ (i : Nat) (r : Row), d.rows[i]? = some r → RowOk M k d i r
structure BxOk (b : Bx) : Prop where
  kd : b.kd ≤ 2
  sz : 2 ≤ b.sz ∧ b.sz ≤ 3
  bg : 0 ≤ b.bg ∧ b.bg < b.sz
structure MkOk (M : Mk) : Prop where
  kd : M.kd ≤ 2
  sz : 2 ≤ M.sz ∧ M.sz ≤ 3
  bg : 0 ≤ M.bg ∧ M.bg < M.sz
  bl : M.bxs.length ≤ 2
  bn : (M.bxs.map Bx.nm).Nodup
  bx : ∀ b ∈ M.bxs, BxOk b
  hl : 2 ≤ M.hds.length ∧ M.hds.length ≤ 3
  hn : (M.hds.map Hn.nm).Nodup
  hd : ∀ (k : Nat) (d : Hn), M.hds[k]? = some d → HnOk M k d
theorem nodup_get {α : Type} {l : List α} (h : l.Nodup) {i j : Nat} {x : α} (hi : l[i]? = some x) (hj : l[j]? = some x) : i = j := by
  induction l generalizing i j with
  | nil => simp at hi
  | cons a l ih =>
    obtain ⟨h1, h2⟩ := List.nodup_cons.mp h
    cases i with
    | zero =>
      cases j with
      | zero => rfl
      | succ j =>
        have e : a = x := by simpa using hi
        subst e
        exact absurd (List.mem_of_getElem? (by simpa using hj)) h1
    | succ i =>
      cases j with
      | zero =>
        have e : a = x := by simpa using hj
        subst e
        exact absurd (List.mem_of_getElem? (by simpa using hi)) h1
      | succ j => exact congrArg (· + 1) (ih h2 (by simpa using hi) (by simpa using hj))
theorem MkOk.box {M : Mk} (o : MkOk M) {i j : Nat} {b c : Bx} (hi : M.bxs[i]? = some b) (hj : M.bxs[j]? = some c) (e : b.nm = c.nm) : i = j ∧ b = c := by
  have h1 : (M.bxs.map Bx.nm)[i]? = some b.nm := by rw [List.getElem?_map, hi]; rfl
  have h2 : (M.bxs.map Bx.nm)[j]? = some b.nm := by rw [List.getElem?_map, hj, e]; rfl
  have h3 := nodup_get o.bn h1 h2
  subst h3
  rw [hi] at hj
  exact ⟨rfl, Option.some.inj hj⟩
structure HOk (M : Mk) (bs : List BS) (d : Hn) (h : HS) : Prop where
  pc : h.pc = -1 ∨ (0 ≤ h.pc ∧ ∃ r, d.rows[h.pc.toNat]? = some r ∧ r.pg = true)
  idle : h.pc = -1 → h.half = none
  nl : h.ns.length = d.vars.length
  nn : ∀ n ∈ h.ns, 0 ≤ n
  wo : 0 ≤ h.wo
  hl : ∀ l, h.half = some l → l.length ≤ 4
  get : ∀ x y l, d.rows[h.pc.toNat]? = some (.get x y) → h.half = some l → ∀ (j : Nat) (b : Bx), M.bxs[j]? = some b → b.nm = y → b.kd ≠ 2 ∧ ∀ z ∈ l, 0 ≤ z ∧ z < b.sz
  put : ∀ y e l, d.rows[h.pc.toNat]? = some (.put y e) → h.half = some l → l = [] ∧ ∀ (j : Nat) (b : Bx) (x : BS), M.bxs[j]? = some b → b.nm = y → bs[j]? = some x → b.kd ≠ 2 ∧ 0 ≤ x.c
def ReadIn (c : Cl) (k : Nat) : Prop := ∀ o c' ts, c = .weak o c' ts → ∃ l, ts[k]? = some (some l)
def Com (c : Cl) : Prop := ∀ o c' ts, c = .weak o c' ts → 0 ≤ c'
structure SdOk (M : Mk) (s : Sd) : Prop where
  hl : s.hs.length = M.hds.length
  bl : s.bs.length = M.bxs.length
  hok : ∀ (k : Nat) (d : Hn) (h : HS), M.hds[k]? = some d → s.hs[k]? = some h → HOk M s.bs d h
  bok : ∀ (j : Nat) (b : Bx) (x : BS), M.bxs[j]? = some b → s.bs[j]? = some x → (0 ≤ x.w ∧ x.w < b.sz) ∧ -1 ≤ x.c ∧ x.c < b.sz
  cok : ClOk M s.cl
  rok : ∀ (k : Nat) (h : HS), s.hs[k + 1]? = some h → h.pc ≠ -1 → ReadIn s.cl k
  wok : ∀ h : HS, s.hs[0]? = some h → h.pc ≠ -1 → Com s.cl
/-- .. but for the place of hand k, which is about to go on -/
structure PreOk (M : Mk) (k : Nat) (d : Hn) (h : HS) (s : Sd) : Prop where
  hl : s.hs.length = M.hds.length
  bl : s.bs.length = M.bxs.length
  hok : ∀ (i : Nat) (d : Hn) (h : HS), i ≠ k → M.hds[i]? = some d → s.hs[i]? = some h → HOk M s.bs d h
  bok : ∀ (j : Nat) (b : Bx) (x : BS), M.bxs[j]? = some b → s.bs[j]? = some x → (0 ≤ x.w ∧ x.w < b.sz) ∧ -1 ≤ x.c ∧ x.c < b.sz
  cok : ClOk M s.cl
  rok : ∀ (i : Nat) (h : HS), i + 1 ≠ k → s.hs[i + 1]? = some h → h.pc ≠ -1 → ReadIn s.cl i
  wok : ∀ h : HS, 0 ≠ k → s.hs[0]? = some h → h.pc ≠ -1 → Com s.cl
  hd : M.hds[k]? = some d
  half : h.half = none
  nl : h.ns.length = d.vars.length
  nn : ∀ n ∈ h.ns, 0 ≤ n
  wo : 0 ≤ h.wo
  me : if k = 0 then Com s.cl else ReadIn s.cl (k - 1)
theorem readIn_writes {M : Mk} {w : Int} {c d : Cl} {k : Nat} (h : ReadIn c k) (a : ClWrites M w c d) : ReadIn d k := by
  cases a with
  | whole _ => intro o c' ts e; cases e
  | weak =>
    intro o c' ts e
    cases e
    obtain ⟨l, hl⟩ := h _ _ _ rfl
    exact ⟨_, by rw [List.getElem?_map, hl]; rfl⟩
theorem com_writes {M : Mk} {w : Int} {c d : Cl} (h : 0 ≤ w) (a : ClWrites M w c d) : Com d := by
  cases a with
  | whole _ => intro o c' ts e; cases e
  | weak => intro o c' ts e; cases e; exact h
theorem readIn_written {M : Mk} {c d : Cl} {k : Nat} (h : ReadIn c k) (a : ClWritten M c d) : ReadIn d k := by
  cases a with
  | whole _ => intro o c' ts e; cases e
  | weak => intro o c' ts e; cases e; exact h _ _ _ rfl
theorem com_reads {M : Mk} {k : Nat} {c d : Cl} (h : Com c) (a : ClReads M k c d) : Com d := by
  cases a with
  | whole _ => intro o c' ts e; cases e
  | weak => intro o c' ts e; cases e; exact h _ _ _ rfl
theorem readIn_reads {M : Mk} {j : Nat} {c d : Cl} {k : Nat} (hc : ClOk M c) (h : j ≠ k → ReadIn c k) (hk : k < M.rd) (a : ClReads M j c d) : ReadIn d k := by
  cases a with
  | whole _ => intro o c' ts e; cases e
  | weak =>
    intro o c' ts e
    cases e
    obtain ⟨_, _, _, hl, _⟩ := hc.weak _ _ _ rfl
    by_cases e : j = k
    · subst e
      rw [List.getElem?_set, if_pos rfl, if_pos (by omega)]
      unfold Mk.told0
      split
      · exact ⟨_, rfl⟩
      · exact ⟨_, rfl⟩
    · obtain ⟨l, hl⟩ := h e _ _ _ rfl
      exact ⟨l, by rw [List.getElem?_set, if_neg e]; exact hl⟩
theorem com_told {M : Mk} {k : Nat} {w : Int} {c d : Cl} (h : Com c) (a : ClTold M k w c (some d)) : Com d := by
  cases a with
  | wholeS _ _ _ => intro o c' ts e; cases e
  | weakS _ _ => intro o c' ts e; cases e; exact h _ _ _ rfl
theorem readIn_told {M : Mk} {j k : Nat} {w : Int} {c d : Cl} (n : j ≠ k) (h : ReadIn c k) (a : ClTold M j w c (some d)) : ReadIn d k := by
  cases a with
  | wholeS _ _ _ => intro o c' ts e; cases e
  | weakS _ _ =>
    intro o c' ts e
    cases e
    obtain ⟨l, hl⟩ := h _ _ _ rfl
    exact ⟨l, by rw [List.getElem?_set, if_neg n]; exact hl⟩

/-! numbers -/
theorem setN_len : ∀ (xs : List Str) (ns : List Int) (y : Str) (z : Int), (setN xs ns y z).length = ns.length
  | [], ns, _, _ => by cases ns <;> rfl
  | x :: xs, [], _, _ => rfl
  | x :: xs, n :: ns, y, z => by
    unfold setN
    split
    · rfl
    · simp [setN_len xs ns y z]
theorem setN_nn : ∀ (xs : List Str) (ns : List Int) (y : Str) (z : Int), 0 ≤ z → (∀ n ∈ ns, 0 ≤ n) → ∀ n ∈ setN xs ns y z, 0 ≤ n
  | [], ns, _, _, _, h => by cases ns <;> exact h
  | x :: xs, [], _, _, _, h => h
  | x :: xs, n :: ns, y, z, hz, h => by
    unfold setN
    split
    · intro m hm
      rcases List.mem_cons.mp hm with e | e
      · rw [e]; exact hz
      · exact h m (List.mem_cons_of_mem _ e)
    · intro m hm
      rcases List.mem_cons.mp hm with e | e
      · rw [e]; exact h n List.mem_cons_self
      · exact setN_nn xs ns y z hz (fun q hq => h q (List.mem_cons_of_mem _ hq)) m e
theorem getN_nn : ∀ (xs : List Str) (ns : List Int) (y : Str), (∀ n ∈ ns, 0 ≤ n) → 0 ≤ getN xs ns y
  | [], ns, _, _ => by cases ns <;> exact Int.le_refl 0
  | x :: xs, [], _, _ => Int.le_refl 0
  | x :: xs, n :: ns, y, h => by
    unfold getN
    split
    · exact h n List.mem_cons_self
    · exact getN_nn xs ns y fun q hq => h q (List.mem_cons_of_mem _ hq)
theorem env_nn {d : Hn} {wo : Int} {ns : List Int} (hw : 0 ≤ wo) (hn : ∀ n ∈ ns, 0 ≤ n) (x : Str) : 0 ≤ d.env wo ns x := by
  unfold Hn.env
  split
  · exact hw
  · exact getN_nn _ _ _ hn
theorem run_ok {M : Mk} {k : Nat} {d : Hn} (D : HnOk M k d) {wo : Int} (hw : 0 ≤ wo) : ∀ (f p : Nat) (ns : List Int), ns.length = d.vars.length → (∀ n ∈ ns, 0 ≤ n) → (d.run wo f p ns).2.length = d.vars.length ∧ ∀ n ∈ (d.run wo f p ns).2, 0 ≤ n
  | 0, p, ns, h1, h2 => ⟨h1, h2⟩
  | f + 1, p, ns, h1, h2 => by
    unfold Hn.run
    split
    · rename_i x e he
      have hv := e.val_nn (env_nn (d := d) hw h2) ((D.row p _ he).ex e rfl).1
      exact run_ok D hw f _ _ (by rw [setN_len]; exact h1) (setN_nn _ _ _ _ hv h2)
    · exact run_ok D hw f _ _ h1 h2
    · exact ⟨h1, h2⟩

theorem set_get {α : Type} {l : List α} {k i : Nat} {x y : α} (h : (l.set k x)[i]? = some y) : (i = k ∧ y = x ∧ k < l.length) ∨ (i ≠ k ∧ l[i]? = some y) := by
  rw [List.getElem?_set] at h
  by_cases e : k = i
  · rw [if_pos e] at h
    by_cases hl : k < l.length
    · rw [if_pos hl] at h
      exact .inl ⟨e.symm, (Option.some.inj h).symm, hl⟩
    · rw [if_neg hl] at h
      cases h
  · rw [if_neg e] at h
    exact .inr ⟨fun z => e z.symm, h⟩
theorem goR_ok {M : Mk} {k : Nat} {d : Hn} {h : HS} {s t : Sd} {p : Nat} {ns : List Int} (O : MkOk M) (P : PreOk M k d h s) (hl : ns.length = d.vars.length) (hn : ∀ n ∈ ns, 0 ≤ n) (g : GoR M k d h s p ns (some t)) : SdOk M t := by
  have h2 := O.sz.1
  cases g with
  | wait hr hpg =>
    refine ⟨by show (s.hs.set k _).length = _; rw [List.length_set]; exact P.hl, P.bl, fun i d' h' hd hh => ?_, P.bok, P.cok, fun i h' hh hp => ?_, fun h' hh hp => ?_⟩
    · rcases set_get hh with ⟨rfl, rfl, _⟩ | ⟨ne, hh⟩
      · rw [P.hd] at hd
        cases hd
        refine ⟨.inr ⟨by show (0 : Int) ≤ (p : Int); omega, _, by show d.rows[((p : Int)).toNat]? = _; rw [Int.toNat_natCast]; exact hr, hpg⟩, fun e => by have e' : (p : Int) = -1 := e; omega, hl, hn, P.wo, (fun l e => by have e2 : h.half = some l := e; rw [P.half] at e2; cases e2), fun x y l _ e => ?_, fun y e' l _ e => ?_⟩
        · have e2 : h.half = some l := e
          rw [P.half] at e2; cases e2
        · have e2 : h.half = some l := e
          rw [P.half] at e2; cases e2
      · exact P.hok i d' h' ne hd hh
    · rcases set_get hh with ⟨e, rfl, _⟩ | ⟨ne, hh⟩
      · have q := P.me
        rw [if_neg (by omega)] at q
        have e3 : k - 1 = i := by omega
        rw [e3] at q
        exact q
      · exact P.rok i h' ne hh hp
    · rcases set_get hh with ⟨e, rfl, _⟩ | ⟨ne, hh⟩
      · have q := P.me
        rw [if_pos e.symm] at q
        exact q
      · exact P.wok h' ne hh hp
  | wrote hk hnr hc =>
    subst hk
    have q := P.me
    rw [if_pos rfl] at q
    refine ⟨by show (s.hs.set 0 _).length = _; rw [List.length_set]; exact P.hl, P.bl, fun i d' h' hd hh => ?_, P.bok, clOk_written h2 P.cok hc q, fun i h' hh hp => ?_, fun h' hh hp => ?_⟩
    · rcases set_get hh with ⟨rfl, rfl, _⟩ | ⟨ne, hh⟩
      · rw [P.hd] at hd
        cases hd
        exact ⟨.inl rfl, fun _ => rfl, hl, hn, Int.le_refl 0, (fun l e => by cases e), (fun x y l _ e => by cases e), (fun y e' l _ e => by cases e)⟩
      · exact P.hok i d' h' ne hd hh
    · rcases set_get hh with ⟨e, rfl, _⟩ | ⟨ne, hh⟩
      · exact absurd rfl hp
      · exact readIn_written (P.rok i h' ne hh hp) hc
    · rcases set_get hh with ⟨e, rfl, _⟩ | ⟨ne, hh⟩
      · exact absurd rfl hp
      · exact absurd rfl ne
  | told hk hr hv hc =>
    refine ⟨by show (s.hs.set k _).length = _; rw [List.length_set]; exact P.hl, P.bl, fun i d' h' hd hh => ?_, P.bok, clOk_told h2 P.cok hc, fun i h' hh hp => ?_, fun h' hh hp => ?_⟩
    · rcases set_get hh with ⟨rfl, rfl, _⟩ | ⟨ne, hh⟩
      · rw [P.hd] at hd
        cases hd
        exact ⟨.inl rfl, fun _ => rfl, hl, hn, Int.le_refl 0, (fun l e => by cases e), (fun x y l _ e => by cases e), (fun y e' l _ e => by cases e)⟩
      · exact P.hok i d' h' ne hd hh
    · rcases set_get hh with ⟨e, rfl, _⟩ | ⟨ne, hh⟩
      · exact absurd rfl hp
      · exact readIn_told (by omega) (P.rok i h' ne hh hp) hc
    · rcases set_get hh with ⟨e, rfl, _⟩ | ⟨ne, hh⟩
      · exact absurd rfl hp
      · exact com_told (P.wok h' ne hh hp) hc
theorem goOn_ok {M : Mk} {k : Nat} {d : Hn} {h : HS} {s t : Sd} {p : Nat} (O : MkOk M) (P : PreOk M k d h s) (g : GoOn M k d h s p (some t)) : SdOk M t := by
  obtain ⟨h1, h2⟩ := run_ok (O.hd k d P.hd) P.wo d.rows.length p h.ns P.nl P.nn
  exact goR_ok O P h1 h2 g
end SB
set_option maxRecDepth 100000
set_option maxHeartbeats 4000000
/-! Every step leaves a stand in bounds. -/
namespace SB
open PySem L2
section
variable {M : Mk} {s : Sd} {k : Nat} {d : Hn} {h : HS}
theorem SdOk.hk (K : SdOk M s) (hd : M.hds[k]? = some d) (hh : s.hs[k]? = some h) : HOk M s.bs d h := K.hok k d h hd hh
theorem SdOk.box (K : SdOk M s) {j : Nat} {b : Bx} (hb : M.bxs[j]? = some b) : ∃ x, s.bs[j]? = some x := by
  have : j < s.bs.length := by rw [K.bl]; exact (List.getElem?_eq_some_iff.mp hb).1
  exact ⟨_, List.getElem?_eq_getElem this⟩
theorem SdOk.hand (K : SdOk M s) (hd : M.hds[k]? = some d) : ∃ x, s.hs[k]? = some x := by
  have : k < s.hs.length := by rw [K.hl]; exact (List.getElem?_eq_some_iff.mp hd).1
  exact ⟨_, List.getElem?_eq_getElem this⟩
theorem pre_beginW (O : MkOk M) (K : SdOk M s) {c : Cl} {pick : Int} (hd : M.hds[0]? = some d) (hh : s.hs[0]? = some h) (hp : h.pc = -1) (a : ClWrites M pick s.cl c) (h0 : 0 ≤ pick) (h1 : pick < M.sz) : PreOk M 0 d { h with wo := pick } ⟨s.hs, s.bs, c⟩ := by
  have q := K.hk hd hh
  exact ⟨K.hl, K.bl, fun i d h ne a b => K.hok i d h a b, K.bok, clOk_writes O.sz.1 K.cok a h0 h1, fun i h' ne a1 a2 => readIn_writes (K.rok i h' a1 a2) a, fun h' ne a1 a2 => absurd rfl ne, hd, q.idle hp, q.nl, q.nn, h0, by rw [if_pos rfl]; exact com_writes h0 a⟩
theorem rd_lt (hd : M.hds[k]? = some d) (hk : k ≠ 0) : k - 1 < M.rd := by
  have := (List.getElem?_eq_some_iff.mp hd).1
  unfold Mk.rd
  omega
theorem pre_beginR (O : MkOk M) (K : SdOk M s) {c : Cl} (hk : k ≠ 0) (hd : M.hds[k]? = some d) (hh : s.hs[k]? = some h) (hp : h.pc = -1) (a : ClReads M (k - 1) s.cl c) : PreOk M k d h ⟨s.hs, s.bs, c⟩ := by
  have q := K.hk hd hh
  refine ⟨K.hl, K.bl, fun i d h ne a b => K.hok i d h a b, K.bok, clOk_reads O.sz.1 K.cok a, fun i h' ne a1 a2 => ?_, fun h' ne a1 a2 => com_reads (K.wok h' a1 a2) a, hd, q.idle hp, q.nl, q.nn, q.wo, ?_⟩
  · have hi : i < M.rd := by
      have h3 : i + 1 < s.hs.length := (List.getElem?_eq_some_iff.mp a1).1
      have h4 := K.hl
      unfold Mk.rd
      omega
    exact readIn_reads K.cok (fun _ => K.rok i h' a1 a2) hi a
  · rw [if_neg hk]
    exact readIn_reads K.cok (fun z => absurd rfl z) (rd_lt hd hk) a
/-- what hand k's own place says of the claim -/
theorem SdOk.me (K : SdOk M s) (hh : s.hs[k]? = some h) (hp : h.pc ≠ -1) : if k = 0 then Com s.cl else ReadIn s.cl (k - 1) := by
  by_cases e : k = 0
  · rw [if_pos e]
    subst e
    exact K.wok h hh hp
  · rw [if_neg e]
    obtain ⟨i, rfl⟩ := Nat.exists_eq_succ_of_ne_zero e
    exact K.rok i h hh hp
theorem HOk.boxes {bs bs' : List BS} (q : HOk M bs d h) (hn : ∀ y e, d.rows[h.pc.toNat]? ≠ some (.put y e)) : HOk M bs' d h :=
  ⟨q.pc, q.idle, q.nl, q.nn, q.wo, q.hl, q.get, fun y e l a _ => absurd a (hn y e)⟩
theorem no_put (O : MkOk M) (hd : M.hds[k]? = some d) (hk : k ≠ 0) (i : Nat) (y : Str) (e : Ex) : d.rows[i]? ≠ some (.put y e) := fun a => hk (((O.hd k d hd).row i _ a).put y e rfl).1
/-- a hand goes on, its boxes and its numbers as they may be -/
theorem pre_of (O : MkOk M) (K : SdOk M s) (hd : M.hds[k]? = some d) (hh : s.hs[k]? = some h) (hp : h.pc ≠ -1) {h' : HS} {bs' : List BS} (e1 : h'.half = none) (e2 : h'.ns.length = d.vars.length) (e3 : ∀ n ∈ h'.ns, 0 ≤ n) (e4 : h'.wo = h.wo) (bl : bs'.length = M.bxs.length)
    (bok : ∀ (j : Nat) (b : Bx) (x : BS), M.bxs[j]? = some b → bs'[j]? = some x → (0 ≤ x.w ∧ x.w < b.sz) ∧ -1 ≤ x.c ∧ x.c < b.sz) (hb : k = 0 ∨ bs' = s.bs) : PreOk M k d h' ⟨s.hs, bs', s.cl⟩ := by
  refine ⟨K.hl, bl, fun i d1 h1 ne a b => ?_, bok, K.cok, fun i h1 _ a b => K.rok i h1 a b, fun h1 _ a b => K.wok h1 a b, hd, e1, e2, e3, by rw [e4]; exact (K.hk hd hh).wo, K.me hh hp⟩
  rcases hb with e | e
  · exact (K.hok i d1 h1 a b).boxes fun y e' => no_put O a (by omega) _ y e'
  · rw [e]; exact K.hok i d1 h1 a b
theorem bok_set (O : MkOk M) (K : SdOk M s) {j : Nat} {b : Bx} (hb : M.bxs[j]? = some b) {y : BS} (hy : (0 ≤ y.w ∧ y.w < b.sz) ∧ -1 ≤ y.c ∧ y.c < b.sz) : ∀ (i : Nat) (b : Bx) (x : BS), M.bxs[i]? = some b → (s.bs.set j y)[i]? = some x → (0 ≤ x.w ∧ x.w < b.sz) ∧ -1 ≤ x.c ∧ x.c < b.sz := by
  intro i b' x h1 h2
  rcases set_get h2 with ⟨rfl, rfl, _⟩ | ⟨_, h2⟩
  · rw [hb] at h1; cases h1; exact hy
  · exact K.bok i b' x h1 h2
theorem val_ok (O : MkOk M) (K : SdOk M s) (hd : M.hds[k]? = some d) (hh : s.hs[k]? = some h) {i : Nat} {r : Row} {e : Ex} (hr : d.rows[i]? = some r) (he : r.expr = some e) : 0 ≤ e.val (d.env h.wo h.ns) :=
  e.val_nn (env_nn (K.hk hd hh).wo (K.hk hd hh).nn) (((O.hd k d hd).row i r hr).ex e he).1
theorem pre_put2 (O : MkOk M) (K : SdOk M s) {x : Str} {e : Ex} {j : Nat} {b : Bx} {bs : BS} {l : List Int} (hd : M.hds[k]? = some d) (hh : s.hs[k]? = some h) (hp : h.pc ≠ -1) (hr : d.rows[h.pc.toNat]? = some (.put x e)) (hb : M.bxs[j]? = some b) (hn : b.nm = x) (hx : s.bs[j]? = some bs) (hf : h.half = some l) :
    PreOk M k d { h with half := none, ct := h.ct + 1 } ⟨s.hs, s.bs.set j ⟨bs.c, -1⟩, s.cl⟩ := by
  have q := K.hk hd hh
  have h1 := (q.put x e l hr hf).2 j b bs hb hn hx
  have h2 := K.bok j b bs hb hx
  exact pre_of O K hd hh hp rfl q.nl q.nn rfl (by rw [List.length_set]; exact K.bl) (bok_set O K hb ⟨⟨h1.2, h2.2.2⟩, by show (-1 : Int) ≤ -1 ∧ (-1 : Int) < b.sz; omega⟩) (.inl (((O.hd k d hd).row _ _ hr).put x e rfl).1)
theorem pre_putWhole (O : MkOk M) (K : SdOk M s) {x : Str} {e : Ex} {j : Nat} {b : Bx} {bs : BS} (hd : M.hds[k]? = some d) (hh : s.hs[k]? = some h) (hp : h.pc ≠ -1) (hr : d.rows[h.pc.toNat]? = some (.put x e)) (hb : M.bxs[j]? = some b) (hn : b.nm = x) (hx : s.bs[j]? = some bs) (hf : h.half = none) (hv : e.val (d.env h.wo h.ns) < b.sz) :
    PreOk M k d { h with ct := h.ct + 1 } ⟨s.hs, s.bs.set j ⟨e.val (d.env h.wo h.ns), bs.c⟩, s.cl⟩ := by
  have q := K.hk hd hh
  have h2 := K.bok j b bs hb hx
  exact pre_of O K hd hh hp hf q.nl q.nn rfl (by rw [List.length_set]; exact K.bl) (bok_set O K hb ⟨⟨val_ok O K hd hh hr rfl, hv⟩, h2.2⟩) (.inl (((O.hd k d hd).row _ _ hr).put x e rfl).1)
theorem pre_getWhole (O : MkOk M) (K : SdOk M s) {x y : Str} {j : Nat} {b : Bx} {bs : BS} (hd : M.hds[k]? = some d) (hh : s.hs[k]? = some h) (hp : h.pc ≠ -1) (hr : d.rows[h.pc.toNat]? = some (.get x y)) (hb : M.bxs[j]? = some b) (hn : b.nm = y) (hx : s.bs[j]? = some bs) (hk2 : b.kd = 2) :
    PreOk M k d { h with ct := h.ct + 1, ns := setN d.vars h.ns x bs.w } s := by
  have q := K.hk hd hh
  have h2 := K.bok j b bs hb hx
  have hf : h.half = none := by
    cases hf : h.half with
    | none => rfl
    | some l => exact absurd hk2 (q.get x y l hr hf j b hb hn).1
  exact pre_of O K hd hh hp (h' := { h with ct := h.ct + 1, ns := setN d.vars h.ns x bs.w }) hf (by show (setN _ _ _ _).length = _; rw [setN_len]; exact q.nl) (setN_nn _ _ _ _ h2.1.1 q.nn) rfl K.bl K.bok (.inr rfl)
theorem pre_get2 (O : MkOk M) (K : SdOk M s) {x y : Str} {j : Nat} {b : Bx} {l : List Int} {pick : Int} (hd : M.hds[k]? = some d) (hh : s.hs[k]? = some h) (hp : h.pc ≠ -1) (hr : d.rows[h.pc.toNat]? = some (.get x y)) (hb : M.bxs[j]? = some b) (hn : b.nm = y) (hf : h.half = some l) (hm : pick ∈ l) :
    PreOk M k d { h with half := none, ct := h.ct + 1, ns := setN d.vars h.ns x pick } s := by
  have q := K.hk hd hh
  have h2 := ((q.get x y l hr hf j b hb hn).2 pick hm).1
  exact pre_of O K hd hh hp (h' := { h with half := none, ct := h.ct + 1, ns := setN d.vars h.ns x pick }) rfl (by show (setN _ _ _ _).length = _; rw [setN_len]; exact q.nl) (setN_nn _ _ _ _ h2 q.nn) rfl K.bl K.bok (.inr rfl)
theorem may_pick {pick : Int} (m : MayStep M s k pick) (hd : M.hds[k]? = some d) (hh : s.hs[k]? = some h) : pick ∈ M.picks k d h := by
  obtain ⟨d', h', h1, h2, h3⟩ := m
  rw [hd] at h1; cases h1
  rw [hh] at h2; cases h2
  exact h3
theorem pick_get {pick : Int} {x y : Str} {l : List Int} (m : pick ∈ M.picks k d h) (hp : h.pc ≠ -1) (hr : d.rows[h.pc.toNat]? = some (.get x y)) (hf : h.half = some l) : pick ∈ l := by
  unfold Mk.picks at m
  rw [if_neg hp, hf, hr] at m
  exact m
theorem pick_w {pick : Int} (m : pick ∈ M.picks 0 d h) (hp : h.pc = -1) : 0 ≤ pick ∧ pick < M.sz := by
  unfold Mk.picks at m
  rw [if_pos hp, if_pos rfl] at m
  exact mem_rangeD.mp m
/-- besideR leaves all but halves of gets -/
theorem besideR_cases (b : Bx) (n : Int) (d : Hn) (h : HS) : besideR b n d h = h ∨ ∃ x l, d.rows[h.pc.toNat]? = some (.get x b.nm) ∧ h.half = some l ∧ besideR b n d h = { h with half := some (besideH b n l) } := by
  unfold besideR
  split
  · exact .inl rfl
  · rename_i l hl
    split
    · rename_i x y hr
      by_cases e : y = b.nm
      · rw [if_pos e]
        subst e
        exact .inr ⟨x, l, hr, hl, rfl⟩
      · rw [if_neg e]; exact .inl rfl
    · exact .inl rfl
theorem besideS_get {b : Bx} {n : Int} {ds : List Hn} {hs : List HS} {i : Nat} {h' : HS} (e : (besideS b n ds hs)[i]? = some h') : ∃ d h, ds[i]? = some d ∧ hs[i]? = some h ∧ h' = besideR b n d h := by
  unfold besideS at e
  rw [List.getElem?_zipWith] at e
  cases h1 : ds[i]? with
  | none => rw [h1] at e; cases e
  | some d =>
    cases h2 : hs[i]? with
    | none => rw [h1, h2] at e; cases e
    | some h =>
      rw [h1, h2] at e
      exact ⟨d, h, rfl, rfl, (Option.some.inj e).symm⟩
theorem besideR_pc (b : Bx) (n : Int) (d : Hn) (h : HS) : (besideR b n d h).pc = h.pc ∧ (besideR b n d h).wo = h.wo ∧ (besideR b n d h).ct = h.ct ∧ (besideR b n d h).ns = h.ns := by
  rcases besideR_cases b n d h with e | ⟨x, l, _, _, e⟩ <;> rw [e] <;> exact ⟨rfl, rfl, rfl, rfl⟩
theorem besideH_in {b : Bx} {n : Int} {l : List Int} (h0 : 0 ≤ n) (h1 : n < b.sz) (hl : ∀ z ∈ l, 0 ≤ z ∧ z < b.sz) : ∀ z ∈ besideH b n l, 0 ≤ z ∧ z < b.sz := by
  intro z hz
  unfold besideH at hz
  split at hz
  · exact mem_rangeD.mp hz
  · rw [mem_memS] at hz
    rcases List.mem_append.mp hz.2 with q | q
    · exact hl z q
    · rw [List.mem_singleton.mp q]; exact ⟨h0, h1⟩
theorem rangeD_len (n : Int) : (rangeD n).length = n.toNat := by
  unfold rangeD
  rw [List.length_map, List.length_range]
theorem besideH_len (O : MkOk M) {j : Nat} {b : Bx} (hb : M.bxs[j]? = some b) {n : Int} {l : List Int} : (besideH b n l).length ≤ 4 := by
  have := (O.bx b (List.mem_of_getElem? hb)).sz
  unfold besideH
  split
  · rw [rangeD_len]; omega
  · exact fourI_len _
theorem getH_len (O : MkOk M) {j : Nat} {b : Bx} {bs : BS} (hb : M.bxs[j]? = some b) : (if bs.c = -1 then [bs.w] else if b.kd = 0 then rangeD b.sz else fourI (memS [bs.w, bs.c])).length ≤ 4 := by
  have := (O.bx b (List.mem_of_getElem? hb)).sz
  split
  · simp
  · split
    · rw [rangeD_len]; omega
    · exact fourI_len _
theorem ok_put1 (O : MkOk M) (K : SdOk M s) {x : Str} {e : Ex} {j : Nat} {b : Bx} {bs : BS} (hd : M.hds[k]? = some d) (hh : s.hs[k]? = some h) (hp : h.pc ≠ -1) (hr : d.rows[h.pc.toNat]? = some (.put x e)) (hb : M.bxs[j]? = some b) (hn : b.nm = x) (hx : s.bs[j]? = some bs) (hv : e.val (d.env h.wo h.ns) < b.sz) (hk2 : b.kd ≠ 2) :
    SdOk M ⟨besideS b (e.val (d.env h.wo h.ns)) M.hds (s.hs.set k { h with half := some [], ct := h.ct + 1 }), s.bs.set j ⟨bs.w, e.val (d.env h.wo h.ns)⟩, s.cl⟩ := by
  have q := K.hk hd hh
  have h2 := K.bok j b bs hb hx
  have h0 := val_ok O K hd hh hr rfl
  have k0 := (((O.hd k d hd).row _ _ hr).put x e rfl).1
  -- the hands ahead of the beside
  have pre : ∀ (i : Nat) (d1 : Hn) (h1 : HS), M.hds[i]? = some d1 → (s.hs.set k { h with half := some [], ct := h.ct + 1 })[i]? = some h1 → HOk M (s.bs.set j ⟨bs.w, e.val (d.env h.wo h.ns)⟩) d1 h1 := by
    intro i d1 h1 a a2
    rcases set_get a2 with ⟨rfl, rfl, _⟩ | ⟨ne, a2⟩
    · rw [hd] at a
      cases a
      refine ⟨q.pc, fun z => absurd z hp, q.nl, q.nn, q.wo, (fun l e => by cases e; exact Nat.zero_le _), fun x' y l a1 _ => ?_, fun y e' l a1 a2 => ⟨by cases a2; rfl, fun j' b' x' c1 c2 c3 => ?_⟩⟩
      · rw [hr] at a1; cases a1
      · rw [hr] at a1
        cases a1
        obtain ⟨rfl, rfl⟩ := O.box c1 hb (c2.trans hn.symm)
        rcases set_get c3 with ⟨_, rfl, _⟩ | ⟨ne, _⟩
        · exact ⟨hk2, h0⟩
        · exact absurd rfl ne
    · exact (K.hok i d1 h1 a a2).boxes fun y e' => no_put O a (by omega) _ y e'
  refine ⟨?_, by show (s.bs.set j _).length = _; rw [List.length_set]; exact K.bl, fun i d1 h1 a a2 => ?_, bok_set O K hb ⟨h2.1, by show -1 ≤ e.val (d.env h.wo h.ns) ∧ e.val (d.env h.wo h.ns) < b.sz; omega⟩, K.cok, fun i h1 a a2 => ?_, fun h1 a a2 => ?_⟩
  · show (besideS _ _ _ _).length = _
    unfold besideS
    rw [List.length_zipWith, List.length_set, K.hl]
    exact Nat.min_self _
  · obtain ⟨d2, h2', c1, c2, rfl⟩ := besideS_get a2
    rw [a] at c1; cases c1
    have p := pre i d1 h2' a c2
    rcases besideR_cases b (e.val (d.env h.wo h.ns)) d1 h2' with e1 | ⟨x', l, r1, r2, e1⟩
    · rw [e1]; exact p
    · rw [e1]
      refine ⟨p.pc, (fun z => by have := p.idle z; rw [r2] at this; cases this), p.nl, p.nn, p.wo, (fun l2 e9 => by cases e9; exact besideH_len O hb), fun x2 y2 l2 a1 a9 j2 b2 c1 c2 => ?_, fun y2 e2 l2 a1 _ => ?_⟩
      · have a1' : d1.rows[h2'.pc.toNat]? = some (.get x2 y2) := a1
        rw [r1] at a1'
        cases a1'
        have hj := O.box c1 hb c2
        obtain ⟨rfl, rfl⟩ := hj
        refine ⟨hk2, fun z hz => ?_⟩
        have e3 : besideH b2 (e.val (d.env h.wo h.ns)) l = l2 := by simpa using a9
        rw [← e3] at hz
        exact besideH_in h0 hv (p.get x' b2.nm l r1 r2 j2 b2 c1 rfl).2 z hz
      · have a1' : d1.rows[h2'.pc.toNat]? = some (.put y2 e2) := a1
        rw [r1] at a1'
        cases a1'
  · obtain ⟨d2, h2', c1, c2, rfl⟩ := besideS_get a
    rw [(besideR_pc _ _ _ _).1] at a2
    rcases set_get c2 with ⟨e1, rfl, _⟩ | ⟨ne, c2⟩
    · omega
    · exact K.rok i h2' c2 a2
  · obtain ⟨d2, h2', c1, c2, rfl⟩ := besideS_get a
    rw [(besideR_pc _ _ _ _).1] at a2
    rcases set_get c2 with ⟨e1, rfl, _⟩ | ⟨ne, c2⟩
    · subst k0
      exact K.wok h hh hp
    · exact K.wok h2' c2 a2
theorem ok_get1 (O : MkOk M) (K : SdOk M s) {x y : Str} {j : Nat} {b : Bx} {bs : BS} (hd : M.hds[k]? = some d) (hh : s.hs[k]? = some h) (hp : h.pc ≠ -1) (hr : d.rows[h.pc.toNat]? = some (.get x y)) (hb : M.bxs[j]? = some b) (hn : b.nm = y) (hx : s.bs[j]? = some bs) (hk2 : b.kd ≠ 2) :
    SdOk M ⟨s.hs.set k { h with half := some (if bs.c = -1 then [bs.w] else if b.kd = 0 then rangeD b.sz else fourI (memS [bs.w, bs.c])), ct := h.ct + 1 }, s.bs, s.cl⟩ := by
  have q := K.hk hd hh
  have h2 := K.bok j b bs hb hx
  have hin : ∀ z ∈ (if bs.c = -1 then [bs.w] else if b.kd = 0 then rangeD b.sz else fourI (memS [bs.w, bs.c])), 0 ≤ z ∧ z < b.sz := by
    intro z hz
    split at hz
    · rw [List.mem_singleton.mp hz]; exact h2.1
    · split at hz
      · exact mem_rangeD.mp hz
      · rw [mem_memS] at hz
        have h3 := hz.2
        simp only [List.mem_cons, List.not_mem_nil, or_false] at h3
        rcases h3 with e | e
        · rw [e]; exact h2.1
        · rw [e]; omega
  refine ⟨by show (s.hs.set k _).length = _; rw [List.length_set]; exact K.hl, K.bl, fun i d1 h1 a a2 => ?_, K.bok, K.cok, fun i h1 a a2 => ?_, fun h1 a a2 => ?_⟩
  · rcases set_get a2 with ⟨rfl, rfl, _⟩ | ⟨ne, a2⟩
    · rw [hd] at a; cases a
      refine ⟨q.pc, fun z => absurd z hp, q.nl, q.nn, q.wo, (fun l e9 => by rw [← Option.some.inj e9]; exact getH_len O hb), fun x' y' l a1 a2 j' b' c1 c2 => ?_, fun y' e' l a1 _ => ?_⟩
      · rw [hr] at a1
        cases a1
        obtain ⟨rfl, rfl⟩ := O.box c1 hb (c2.trans hn.symm)
        refine ⟨hk2, fun z hz => ?_⟩
        have a3 := Option.some.inj a2
        rw [← a3] at hz
        exact hin z hz
      · rw [hr] at a1; cases a1
    · exact K.hok i d1 h1 a a2
  · rcases set_get a with ⟨e1, rfl, _⟩ | ⟨ne, a⟩
    · have := K.me hh hp
      rw [if_neg (by omega)] at this
      rw [show i = k - 1 by omega]
      exact this
    · exact K.rok i h1 a a2
  · rcases set_get a with ⟨e1, rfl, _⟩ | ⟨ne, a⟩
    · have := K.me hh hp
      rw [if_pos e1.symm] at this
      exact this
    · exact K.wok h1 a a2
theorem step_ok {t : Sd} {pick : Int} (O : MkOk M) (K : SdOk M s) (m : MayStep M s k pick) (r : StepR M s k pick (some t)) : SdOk M t := by
  cases r with
  | beginW k0 hd hh hp a g =>
    subst k0
    obtain ⟨h0, h1⟩ := pick_w (may_pick m hd hh) hp
    exact goOn_ok O (pre_beginW O K hd hh hp a h0 h1) g
  | beginR k0 hd hh hp a g => exact goOn_ok O (pre_beginR O K k0 hd hh hp a) g
  | put2 hd hh hp _ hr hb hn hx hf g => exact goOn_ok O (pre_put2 O K hd hh hp hr hb hn hx hf) g
  | putWhole hd hh hp _ hr hb hn hx hf hv _ g => exact goOn_ok O (pre_putWhole O K hd hh hp hr hb hn hx hf hv) g
  | put1 hd hh hp _ hr hb hn hx _ hv hk2 => exact ok_put1 O K hd hh hp hr hb hn hx hv hk2
  | getWhole hd hh hp _ hr hb hn hx hk2 g => exact goOn_ok O (pre_getWhole O K hd hh hp hr hb hn hx hk2) g
  | get2 hd hh hp _ hr hb hn _ hf g => exact goOn_ok O (pre_get2 O K hd hh hp hr hb hn hf (pick_get (may_pick m hd hh) hp hr hf)) g
  | get1 hd hh hp _ hr hb hn hx hk2 _ => exact ok_get1 O K hd hh hp hr hb hn hx hk2
theorem first_ok (O : MkOk M) : SdOk M M.first := by
  have h2 := O.sz.1
  refine ⟨by show (List.map _ _).length = _; rw [List.length_map], by show (List.map _ _).length = _; rw [List.length_map], fun k d h hd hh => ?_, fun j b x hb hx => ?_, clOk_claim0 h2 O.bg, fun i h hh hp => ?_, fun h hh hp => ?_⟩
  · have e : (M.hds.map fun h : Hn => (⟨-1, none, 0, 0, List.replicate h.vars.length 0⟩ : HS))[k]? = some h := hh
    rw [List.getElem?_map, hd] at e
    have e := Option.some.inj e
    subst e
    exact ⟨.inl rfl, fun _ => rfl, by simp, fun n hn => by rw [(List.mem_replicate.mp hn).2]; exact Int.le_refl 0, Int.le_refl 0, (fun l a => by cases a), (fun x y l _ a => by cases a), (fun y e l _ a => by cases a)⟩
  · have e : (M.bxs.map fun b : Bx => (⟨b.bg, -1⟩ : BS))[j]? = some x := hx
    rw [List.getElem?_map, hb] at e
    have e := Option.some.inj e
    subst e
    have q := O.bx b (List.mem_of_getElem? hb)
    have q1 := q.bg
    have q2 := q.sz
    exact ⟨q1, by show (-1 : Int) ≤ -1 ∧ (-1 : Int) < b.sz; omega⟩
  · have e : (M.hds.map fun h : Hn => (⟨-1, none, 0, 0, List.replicate h.vars.length 0⟩ : HS))[i + 1]? = some h := hh
    rw [List.getElem?_map] at e
    cases hd : M.hds[i + 1]? with
    | none => rw [hd] at e; cases e
    | some d => rw [hd] at e; exact absurd (by rw [← Option.some.inj e]) hp
  · have e : (M.hds.map fun h : Hn => (⟨-1, none, 0, 0, List.replicate h.vars.length 0⟩ : HS))[0]? = some h := hh
    rw [List.getElem?_map] at e
    cases hd : M.hds[0]? with
    | none => rw [hd] at e; cases e
    | some d => rw [hd] at e; exact absurd (by rw [← Option.some.inj e]) hp
end
end SB
set_option maxRecDepth 100000
set_option maxHeartbeats 4000000
/-! A making with stronger boxes, or a weaker made kind, keeps step. -/
namespace SB
open PySem L2

theorem ClRel.iff {M' : Mk} {I J : Prop} (e : I ↔ J) {c c' : Cl} (r : ClRel M' I c c') : ClRel M' J c c' := by
  cases c with
  | whole cs =>
    cases c' with
    | whole cs' => exact r
    | weak o c ts => exact ⟨r.1, fun j => r.2.1 (e.mpr j), fun n => r.2.2.1 (fun i => n (e.mp i)), r.2.2.2⟩
  | weak o c ts =>
    cases c' with
    | whole cs' => exact r
    | weak o c ts => exact r
structure HRel (M' : Mk) (d : Hn) (h h' : HS) : Prop where
  pc : h'.pc = h.pc
  wo : h'.wo = h.wo
  ns : h'.ns = h.ns
  ct : h'.ct ≤ h.ct
  hn : h.half = none ↔ h'.half = none
  sub : ∀ l l', h.half = some l → h'.half = some l' → ∀ z ∈ l', z ∈ l
  putw : ∀ y e, d.rows[h.pc.toNat]? = some (.put y e) → ∀ (j : Nat) (b : Bx), M'.bxs[j]? = some b → b.nm = y → b.kd = 2 → h.half = none
  getw : ∀ x y, d.rows[h.pc.toNat]? = some (.get x y) → ∀ (j : Nat) (b : Bx), M'.bxs[j]? = some b → b.nm = y → b.kd = 2 → h.half = none
def BsRel (M' : Mk) (bs bs' : List BS) : Prop := ∀ (j : Nat) (b : Bx) (x x' : BS), M'.bxs[j]? = some b → bs[j]? = some x → bs'[j]? = some x' → x' = x ∧ (b.kd = 2 → x.c = -1)
def Idle (s : Sd) : Prop := ∀ h : HS, s.hs[0]? = some h → h.pc = -1
structure SimRel (M M' : Mk) (s s' : Sd) : Prop where
  hs : ∀ (k : Nat) (d : Hn) (h h' : HS), M.hds[k]? = some d → s.hs[k]? = some h → s'.hs[k]? = some h' → HRel M' d h h'
  bs : BsRel M' s.bs s'.bs
  cl : ClRel M' (Idle s) s.cl s'.cl
structure PreSim (M M' : Mk) (k : Nat) (h h' : HS) (s s' : Sd) : Prop where
  hs : ∀ (i : Nat) (d : Hn) (h h' : HS), i ≠ k → M.hds[i]? = some d → s.hs[i]? = some h → s'.hs[i]? = some h' → HRel M' d h h'
  bs : BsRel M' s.bs s'.bs
  cl : ClRel M' (k ≠ 0 ∧ Idle s) s.cl s'.cl
  wo : h'.wo = h.wo
  ct : h'.ct ≤ h.ct
theorem hrel_of {M' : Mk} {d : Hn} {h h' : HS} (e1 : h'.pc = h.pc) (e2 : h'.wo = h.wo) (e3 : h'.ns = h.ns) (e4 : h'.ct ≤ h.ct) (e5 : h.half = none) (e6 : h'.half = none) : HRel M' d h h' :=
  ⟨e1, e2, e3, e4, by rw [e5, e6], (fun l l' a _ => by rw [e5] at a; cases a), fun _ _ _ _ _ _ _ _ => e5, fun _ _ _ _ _ _ _ _ => e5⟩
theorem idle_set {s : Sd} {k : Nat} {x : HS} {bs : List BS} {c : Cl} (hk : k ≠ 0) : (k ≠ 0 ∧ Idle s) ↔ Idle ⟨s.hs.set k x, bs, c⟩ := by
  unfold Idle
  show _ ↔ ∀ h, (s.hs.set k x)[0]? = some h → _
  rw [List.getElem?_set, if_neg hk]
  exact ⟨fun z => z.2, fun z => ⟨hk, z⟩⟩
section
variable {M M' : Mk} (S : Stg M M') (O : MkOk M) (O' : MkOk M')
include S O O'
theorem goR_sim {k : Nat} {d : Hn} {h h' : HS} {s s' t : Sd} {o' : Option Sd} {p : Nat} {ns : List Int} (P : PreOk M k d h s) (P' : PreOk M' k d h' s') (R : PreSim M M' k h h' s s') (hn : ∀ n ∈ ns, 0 ≤ n)
    (g : GoR M k d h s p ns (some t)) (g' : GoR M' k d h' s' p ns o') : ∃ t', o' = some t' ∧ SimRel M M' t t' := by
  have hkl : k < s.hs.length := by rw [P.hl]; exact (List.getElem?_eq_some_iff.mp P.hd).1
  have others : ∀ {x x' : HS} (hx : HRel M' d x x'), ∀ (i : Nat) (d' : Hn) (a a' : HS), M.hds[i]? = some d' → (s.hs.set k x)[i]? = some a → (s'.hs.set k x')[i]? = some a' → HRel M' d' a a' := by
    intro x x' hx i d' a a' h1 h2 h3
    rcases set_get h2 with ⟨e, rfl, _⟩ | ⟨ne, h2⟩
    · rcases set_get h3 with ⟨_, rfl, _⟩ | ⟨ne, _⟩
      · subst e
        rw [P.hd] at h1; cases h1
        exact hx
      · exact absurd e ne
    · rcases set_get h3 with ⟨e, _, _⟩ | ⟨_, h3⟩
      · exact absurd e ne
      · exact R.hs i d' a a' ne h1 h2 h3
  have idleRel : HRel M' d (idleH ns) (idleH ns) := hrel_of rfl rfl rfl (Int.le_refl _) rfl rfl
  have env : ∀ e : Ex, e.val (d.env h'.wo ns) = e.val (d.env h.wo ns) := fun e => by rw [R.wo]
  cases g with
  | wait hr hpg =>
    cases g' with
    | wait hr' hpg' =>
      refine ⟨_, rfl, others (hrel_of rfl R.wo rfl R.ct P.half P'.half), R.bs, ?_⟩
      by_cases e : k = 0
      · subst e
        refine R.cl.iff ⟨fun z => absurd rfl z.1, fun z => ?_⟩
        have := z { h with pc := (p : Int), ns := ns } (by show (s.hs.set 0 _)[0]? = _; rw [List.getElem?_set, if_pos rfl, if_pos hkl])
        have : (p : Int) = -1 := this
        omega
      · exact R.cl.iff (idle_set e)
    | wrote hk hnr _ => rw [hnr _ hr] at hpg; cases hpg
    | silent hk hr' => rw [hr] at hr'; cases hr'
    | great hk hr' _ => rw [hr] at hr'; cases hr'; cases hpg
    | lie hk hr' _ _ => rw [hr] at hr'; cases hr'; cases hpg
    | told hk hr' _ _ => rw [hr] at hr'; cases hr'; cases hpg
  | wrote hk hnr hc =>
    cases g' with
    | wait hr' hpg' => rw [hnr _ hr'] at hpg'; cases hpg'
    | wrote hk' hnr' hc' =>
      subst hk
      refine ⟨_, rfl, others idleRel, R.bs, ?_⟩
      have q := rel_written S (R.cl.iff ⟨fun z => absurd rfl z.1, fun z => z.elim⟩) hc hc' P'.cok
      refine q.iff ⟨fun _ a ha => ?_, fun _ => trivial⟩
      have ha : (s.hs.set 0 (idleH ns))[0]? = some a := ha
      rw [List.getElem?_set, if_pos rfl, if_pos hkl] at ha
      rw [← Option.some.inj ha]
      rfl
    | silent hk' _ => exact absurd hk hk'
    | great hk' _ _ => exact absurd hk hk'
    | lie hk' _ _ _ => exact absurd hk hk'
    | told hk' _ _ _ => exact absurd hk hk'
  | told hk hr hv hc =>
    cases g' with
    | wait hr' hpg' => rw [hr] at hr'; cases hr'; cases hpg'
    | wrote hk' _ _ => exact absurd hk' hk
    | silent hk' hr' => rw [hr] at hr'; cases hr'
    | great hk' hr' hv' =>
      rw [hr] at hr'; cases hr'
      rw [env, S.sz] at hv'
      omega
    | lie hk' hr' hv' hc' =>
      rename_i e _ _
      rw [hr] at hr'; cases hr'
      rw [env] at hc'
      have he := Ex.val_nn (env_nn (d := d) P.wo hn) e (((O.hd k d P.hd).row _ _ hr).ex _ rfl).1
      obtain ⟨d', h1, _⟩ := rel_told S R.cl hc hc' he fun o c ts ec => ⟨(P'.cok.weak _ _ _ ec).2.1.1, (P'.cok.weak _ _ _ ec).2.2.1.1⟩
      cases h1
    | told hk' hr' hv' hc' =>
      rename_i e _ _ _
      rw [hr] at hr'; cases hr'
      rw [env] at hc'
      have he := Ex.val_nn (env_nn (d := d) P.wo hn) e (((O.hd k d P.hd).row _ _ hr).ex _ rfl).1
      obtain ⟨d', h1, h2⟩ := rel_told S R.cl hc hc' he fun o c ts ec => ⟨(P'.cok.weak _ _ _ ec).2.1.1, (P'.cok.weak _ _ _ ec).2.2.1.1⟩
      cases h1
      exact ⟨_, rfl, others idleRel, R.bs, h2.iff (idle_set hk)⟩
theorem goOn_sim {k : Nat} {d : Hn} {h h' : HS} {s s' t : Sd} {o' : Option Sd} {p : Nat} (P : PreOk M k d h s) (P' : PreOk M' k d h' s') (R : PreSim M M' k h h' s s') (en : h'.ns = h.ns) (g : GoOn M k d h s p (some t)) (g' : GoOn M' k d h' s' p o') : ∃ t', o' = some t' ∧ SimRel M M' t t' := by
  unfold GoOn at g g'
  rw [R.wo, en] at g'
  exact goR_sim S O O' P P' R (run_ok (O.hd k d P.hd) P.wo d.rows.length p h.ns P.nl P.nn).2 g g'
end
end SB
set_option maxRecDepth 100000
set_option maxHeartbeats 4000000
/-! What a step can only have been. -/
namespace SB
open PySem L2
section
variable {M : Mk} {s : Sd} {k : Nat} {d : Hn} {h : HS} {pick : Int} {o : Option Sd}
theorem same_of {α : Type} {a b : α} {x : Option α} (h1 : x = some a) (h2 : x = some b) : b = a := by rw [h1] at h2; exact (Option.some.inj h2).symm
theorem inv_beginW (hd : M.hds[0]? = some d) (hh : s.hs[0]? = some h) (hp : h.pc = -1) (r : StepR M s 0 pick o) : ∃ c, ClWrites M pick s.cl c ∧ GoOn M 0 d { h with wo := pick } ⟨s.hs, s.bs, c⟩ 0 o := by
  cases r with
  | beginW _ hd' hh' _ a g => obtain rfl := same_of hd hd'; obtain rfl := same_of hh hh'; exact ⟨_, a, g⟩
  | beginR z _ _ _ _ _ => exact absurd rfl z
  | long _ hh' z _ => obtain rfl := same_of hh hh'; exact absurd hp z
  | put2 _ hh' z => obtain rfl := same_of hh hh'; exact absurd hp z
  | putGreat _ hh' z => obtain rfl := same_of hh hh'; exact absurd hp z
  | putWhole _ hh' z => obtain rfl := same_of hh hh'; exact absurd hp z
  | put1 _ hh' z => obtain rfl := same_of hh hh'; exact absurd hp z
  | getWhole _ hh' z => obtain rfl := same_of hh hh'; exact absurd hp z
  | get2 _ hh' z => obtain rfl := same_of hh hh'; exact absurd hp z
  | get1 _ hh' z => obtain rfl := same_of hh hh'; exact absurd hp z
theorem inv_beginR (hk : k ≠ 0) (hd : M.hds[k]? = some d) (hh : s.hs[k]? = some h) (hp : h.pc = -1) (r : StepR M s k pick o) : ∃ c, ClReads M (k - 1) s.cl c ∧ GoOn M k d h ⟨s.hs, s.bs, c⟩ 0 o := by
  cases r with
  | beginR _ hd' hh' _ a g => obtain rfl := same_of hd hd'; obtain rfl := same_of hh hh'; exact ⟨_, a, g⟩
  | beginW z _ _ _ _ _ => exact absurd z hk
  | long _ hh' z _ => obtain rfl := same_of hh hh'; exact absurd hp z
  | put2 _ hh' z => obtain rfl := same_of hh hh'; exact absurd hp z
  | putGreat _ hh' z => obtain rfl := same_of hh hh'; exact absurd hp z
  | putWhole _ hh' z => obtain rfl := same_of hh hh'; exact absurd hp z
  | put1 _ hh' z => obtain rfl := same_of hh hh'; exact absurd hp z
  | getWhole _ hh' z => obtain rfl := same_of hh hh'; exact absurd hp z
  | get2 _ hh' z => obtain rfl := same_of hh hh'; exact absurd hp z
  | get1 _ hh' z => obtain rfl := same_of hh hh'; exact absurd hp z
/-- a step that goes well: not too long -/
theorem inv_long {t : Sd} (hd : M.hds[k]? = some d) (hh : s.hs[k]? = some h) (hp : h.pc ≠ -1) (r : StepR M s k pick (some t)) : h.ct < d.wi := by
  cases r with
  | beginW _ _ hh' z => obtain rfl := same_of hh hh'; exact absurd z hp
  | beginR _ _ hh' z => obtain rfl := same_of hh hh'; exact absurd z hp
  | put2 hd' hh' _ z => obtain rfl := same_of hd hd'; obtain rfl := same_of hh hh'; exact z
  | putWhole hd' hh' _ z => obtain rfl := same_of hd hd'; obtain rfl := same_of hh hh'; exact z
  | put1 hd' hh' _ z => obtain rfl := same_of hd hd'; obtain rfl := same_of hh hh'; exact z
  | getWhole hd' hh' _ z => obtain rfl := same_of hd hd'; obtain rfl := same_of hh hh'; exact z
  | get2 hd' hh' _ z => obtain rfl := same_of hd hd'; obtain rfl := same_of hh hh'; exact z
  | get1 hd' hh' _ z => obtain rfl := same_of hd hd'; obtain rfl := same_of hh hh'; exact z
theorem inv_put2 {t : Sd} {x : Str} {e : Ex} {l : List Int} (hd : M.hds[k]? = some d) (hh : s.hs[k]? = some h) (hp : h.pc ≠ -1) (hr : d.rows[h.pc.toNat]? = some (.put x e)) (hf : h.half = some l) (r : StepR M s k pick (some t)) :
    ∃ (j : Nat) (b : Bx) (bs : BS), M.bxs[j]? = some b ∧ b.nm = x ∧ s.bs[j]? = some bs ∧ GoOn M k d { h with half := none, ct := h.ct + 1 } ⟨s.hs, s.bs.set j ⟨bs.c, -1⟩, s.cl⟩ (h.pc.toNat + 1) (some t) := by
  cases r with
  | beginW _ _ hh' z => obtain rfl := same_of hh hh'; exact absurd z hp
  | beginR _ _ hh' z => obtain rfl := same_of hh hh'; exact absurd z hp
  | put2 hd' hh' _ _ hr' hb hn hx _ g => obtain rfl := same_of hd hd'; obtain rfl := same_of hh hh'; cases same_of hr hr'; exact ⟨_, _, _, hb, hn, hx, g⟩
  | putWhole hd' hh' _ _ hr' _ _ _ z => obtain rfl := same_of hh hh'; rw [hf] at z; cases z
  | put1 hd' hh' _ _ hr' _ _ _ z => obtain rfl := same_of hh hh'; rw [hf] at z; cases z
  | getWhole hd' hh' _ _ hr' => obtain rfl := same_of hd hd'; obtain rfl := same_of hh hh'; cases same_of hr hr'
  | get2 hd' hh' _ _ hr' => obtain rfl := same_of hd hd'; obtain rfl := same_of hh hh'; cases same_of hr hr'
  | get1 hd' hh' _ _ hr' => obtain rfl := same_of hd hd'; obtain rfl := same_of hh hh'; cases same_of hr hr'
theorem inv_put1 {t : Sd} {x : Str} {e : Ex} (hd : M.hds[k]? = some d) (hh : s.hs[k]? = some h) (hp : h.pc ≠ -1) (hr : d.rows[h.pc.toNat]? = some (.put x e)) (hf : h.half = none) (r : StepR M s k pick (some t)) :
    ∃ (j : Nat) (b : Bx) (bs : BS), M.bxs[j]? = some b ∧ b.nm = x ∧ s.bs[j]? = some bs ∧ e.val (d.env h.wo h.ns) < b.sz ∧
      ((b.kd = 2 ∧ GoOn M k d { h with ct := h.ct + 1 } ⟨s.hs, s.bs.set j ⟨e.val (d.env h.wo h.ns), bs.c⟩, s.cl⟩ (h.pc.toNat + 1) (some t)) ∨
      (b.kd ≠ 2 ∧ t = ⟨besideS b (e.val (d.env h.wo h.ns)) M.hds (s.hs.set k { h with half := some [], ct := h.ct + 1 }), s.bs.set j ⟨bs.w, e.val (d.env h.wo h.ns)⟩, s.cl⟩)) := by
  cases r with
  | beginW _ _ hh' z => obtain rfl := same_of hh hh'; exact absurd z hp
  | beginR _ _ hh' z => obtain rfl := same_of hh hh'; exact absurd z hp
  | put2 hd' hh' _ _ hr' _ _ _ z => obtain rfl := same_of hh hh'; rw [hf] at z; cases z
  | putWhole hd' hh' _ _ hr' hb hn hx _ hv hk g => obtain rfl := same_of hd hd'; obtain rfl := same_of hh hh'; cases same_of hr hr'; exact ⟨_, _, _, hb, hn, hx, hv, .inl ⟨hk, g⟩⟩
  | put1 hd' hh' _ _ hr' hb hn hx _ hv hk => obtain rfl := same_of hd hd'; obtain rfl := same_of hh hh'; cases same_of hr hr'; exact ⟨_, _, _, hb, hn, hx, hv, .inr ⟨hk, rfl⟩⟩
  | getWhole hd' hh' _ _ hr' => obtain rfl := same_of hd hd'; obtain rfl := same_of hh hh'; cases same_of hr hr'
  | get2 hd' hh' _ _ hr' => obtain rfl := same_of hd hd'; obtain rfl := same_of hh hh'; cases same_of hr hr'
  | get1 hd' hh' _ _ hr' => obtain rfl := same_of hd hd'; obtain rfl := same_of hh hh'; cases same_of hr hr'
def getHalf (b : Bx) (bs : BS) : List Int := if bs.c = -1 then [bs.w] else if b.kd = 0 then rangeD b.sz else fourI (memS [bs.w, bs.c])
theorem inv_get {t : Sd} {x y : Str} (hd : M.hds[k]? = some d) (hh : s.hs[k]? = some h) (hp : h.pc ≠ -1) (hr : d.rows[h.pc.toNat]? = some (.get x y)) (r : StepR M s k pick (some t)) :
    ∃ (j : Nat) (b : Bx), M.bxs[j]? = some b ∧ b.nm = y ∧
      ((b.kd = 2 ∧ ∃ bs, s.bs[j]? = some bs ∧ GoOn M k d { h with ct := h.ct + 1, ns := setN d.vars h.ns x bs.w } s (h.pc.toNat + 1) (some t)) ∨
      (b.kd ≠ 2 ∧ ((∃ l, h.half = some l ∧ GoOn M k d { h with half := none, ct := h.ct + 1, ns := setN d.vars h.ns x pick } s (h.pc.toNat + 1) (some t)) ∨
        (h.half = none ∧ ∃ bs, s.bs[j]? = some bs ∧ t = ⟨s.hs.set k { h with half := some (getHalf b bs), ct := h.ct + 1 }, s.bs, s.cl⟩)))) := by
  cases r with
  | beginW _ _ hh' z => obtain rfl := same_of hh hh'; exact absurd z hp
  | beginR _ _ hh' z => obtain rfl := same_of hh hh'; exact absurd z hp
  | put2 hd' hh' _ _ hr' => obtain rfl := same_of hd hd'; obtain rfl := same_of hh hh'; cases same_of hr hr'
  | putWhole hd' hh' _ _ hr' => obtain rfl := same_of hd hd'; obtain rfl := same_of hh hh'; cases same_of hr hr'
  | put1 hd' hh' _ _ hr' => obtain rfl := same_of hd hd'; obtain rfl := same_of hh hh'; cases same_of hr hr'
  | getWhole hd' hh' _ _ hr' hb hn hx hk g => obtain rfl := same_of hd hd'; obtain rfl := same_of hh hh'; cases same_of hr hr'; exact ⟨_, _, hb, hn, .inl ⟨hk, _, hx, g⟩⟩
  | get2 hd' hh' _ _ hr' hb hn hk hf g => obtain rfl := same_of hd hd'; obtain rfl := same_of hh hh'; cases same_of hr hr'; exact ⟨_, _, hb, hn, .inr ⟨hk, .inl ⟨_, hf, g⟩⟩⟩
  | get1 hd' hh' _ _ hr' hb hn hx hk hf => obtain rfl := same_of hd hd'; obtain rfl := same_of hh hh'; cases same_of hr hr'; exact ⟨_, _, hb, hn, .inr ⟨hk, .inr ⟨hf, _, hx, rfl⟩⟩⟩
end
end SB
set_option maxRecDepth 100000
set_option maxHeartbeats 4000000
/-! A step of the stronger making is one step or two of the other. -/
namespace SB
open PySem L2
theorem besideS_at {b : Bx} {n : Int} {ds : List Hn} {hs : List HS} {i : Nat} {d : Hn} {h : HS} (h1 : ds[i]? = some d) (h2 : hs[i]? = some h) : (besideS b n ds hs)[i]? = some (besideR b n d h) := by
  unfold besideS
  rw [List.getElem?_zipWith, h1, h2]
theorem besideR_put {b : Bx} {n : Int} {d : Hn} {h : HS} {x : Str} {e : Ex} (hr : d.rows[h.pc.toNat]? = some (.put x e)) : besideR b n d h = h := by
  rcases besideR_cases b n d h with q | ⟨x', l, a, _, _⟩
  · exact q
  · rw [hr] at a; cases a
theorem idle_keep {s : Sd} {k : Nat} {h x : HS} {bs : List BS} {c : Cl} (hh : s.hs[k]? = some h) (e : x.pc = h.pc) : Idle s ↔ Idle ⟨s.hs.set k x, bs, c⟩ := by
  by_cases hk : k = 0
  · subst hk
    have hl := (List.getElem?_eq_some_iff.mp hh).1
    constructor
    · intro z a ha
      have ha : (s.hs.set 0 x)[0]? = some a := ha
      rw [List.getElem?_set, if_pos rfl, if_pos hl] at ha
      rw [← Option.some.inj ha, e]
      exact z h hh
    · intro z a ha
      rw [hh] at ha
      rw [← Option.some.inj ha, ← e]
      exact z x (by show (s.hs.set 0 x)[0]? = _; rw [List.getElem?_set, if_pos rfl, if_pos hl])
  · exact ⟨fun z => (idle_set hk).mp ⟨hk, z⟩, fun z => ((idle_set hk).mpr z).2⟩
theorem set_at {α : Type} {l : List α} {k : Nat} {x y : α} (h : l[k]? = some y) : (l.set k x)[k]? = some x := by
  rw [List.getElem?_set, if_pos rfl, if_pos (List.getElem?_eq_some_iff.mp h).1]
theorem besideR_hit {b : Bx} {n : Int} {d : Hn} {h : HS} {x : Str} {l : List Int} (h1 : h.half = some l) (h2 : d.rows[h.pc.toNat]? = some (.get x b.nm)) : besideR b n d h = { h with half := some (besideH b n l) } := by
  unfold besideR
  rw [h1]
  simp only [h2, if_true]
theorem besideR_miss {b : Bx} {n : Int} {d : Hn} {h : HS} (hm : ∀ x l, d.rows[h.pc.toNat]? = some (.get x b.nm) → h.half ≠ some l) : besideR b n d h = h := by
  rcases besideR_cases b n d h with e | ⟨x, l, a, c, _⟩
  · exact e
  · exact absurd c (hm x l a)
section
variable {M M' : Mk} (S : Stg M M') (O : MkOk M) (O' : MkOk M')
include S O O'
theorem Stg.box {j j' : Nat} {b b' : Bx} (hb : M.bxs[j]? = some b) (hb' : M'.bxs[j']? = some b') (e : b.nm = b'.nm) : j = j' ∧ b'.sz = b.sz ∧ (b'.kd = b.kd ∨ b'.kd = b.kd + 1) ∧ b'.kd ≤ 2 := by
  have hj : j < M'.bxs.length := by rw [S.bl]; exact (List.getElem?_eq_some_iff.mp hb).1
  have hb2 : M'.bxs[j]? = some M'.bxs[j] := List.getElem?_eq_getElem hj
  obtain ⟨n1, n2, n3, n4, n5, n6⟩ := S.bx j b _ hb hb2
  obtain ⟨e1, e2⟩ := O'.box hb' hb2 (by rw [← e, n1])
  subst e1 e2
  exact ⟨rfl, n2, n6, n5⟩
theorem picks_sub {k : Nat} {d : Hn} {h h' : HS} {p : Int} (q : HRel M' d h h') (m : p ∈ M'.picks k d h') : p ∈ M.picks k d h := by
  unfold Mk.picks at m ⊢
  rw [q.pc, S.sz] at m
  by_cases e : h.pc = -1
  · rw [if_pos e] at m ⊢; exact m
  · rw [if_neg e] at m ⊢
    cases hf : h.half with
    | none =>
      rw [q.hn.mp hf] at m
      exact m
    | some l =>
      cases hf' : h'.half with
      | none => rw [q.hn.mpr hf'] at hf; cases hf
      | some l' =>
        rw [hf'] at m
        cases hr : d.rows[h.pc.toNat]? with
        | none => rw [hr] at m; exact m
        | some r =>
          rw [hr] at m
          cases r with
          | get x y => exact q.sub l l' hf hf' p m
          | put x e => exact m
          | lt x e => exact m
          | un e to => exact m
          | tell e => exact m
theorem getHalf_sub {b b' : Bx} {bs : BS} (e1 : b'.sz = b.sz) (e2 : b'.kd = b.kd ∨ b'.kd = b.kd + 1) (h0 : (0 ≤ bs.w ∧ bs.w < b.sz) ∧ -1 ≤ bs.c ∧ bs.c < b.sz) : ∀ z ∈ getHalf b' bs, z ∈ getHalf b bs := by
  intro z hz
  unfold getHalf at hz ⊢
  by_cases hc : bs.c = -1
  · rw [if_pos hc] at hz ⊢; exact hz
  · rw [if_neg hc] at hz ⊢
    by_cases hk : b.kd = 0
    · rw [if_pos hk]
      apply mem_rangeD.mpr
      split at hz
      · rw [← e1]; exact mem_rangeD.mp hz
      · rw [mem_memS] at hz
        have h3 := hz.2
        simp only [List.mem_cons, List.not_mem_nil, or_false] at h3
        rcases h3 with e | e
        · rw [e]; exact h0.1
        · rw [e]; omega
    · rw [if_neg hk]
      rw [if_neg (by omega)] at hz
      exact hz
theorem besideH_sub {b b' : Bx} {n : Int} {l l' : List Int} (e1 : b'.sz = b.sz) (e2 : b'.kd = b.kd ∨ b'.kd = b.kd + 1) (h0 : 0 ≤ n ∧ n < b.sz) (hs : ∀ z ∈ l', z ∈ l) (hl : ∀ z ∈ l', 0 ≤ z ∧ z < b.sz) : ∀ z ∈ besideH b' n l', z ∈ besideH b n l := by
  intro z hz
  unfold besideH at hz ⊢
  by_cases hk : b.kd = 0
  · rw [if_pos hk]
    apply mem_rangeD.mpr
    split at hz
    · rw [← e1]; exact mem_rangeD.mp hz
    · rw [mem_memS] at hz
      rcases List.mem_append.mp hz.2 with e | e
      · exact hl z e
      · rw [List.mem_singleton.mp e]; exact h0
  · rw [if_neg hk]
    rw [if_neg (by omega), mem_memS] at hz
    refine mem_memS.mpr ⟨hz.1, ?_⟩
    rcases List.mem_append.mp hz.2 with e | e
    · exact List.mem_append_left _ (hs z e)
    · exact List.mem_append_right _ e
theorem bsRel_set {bs bs' : List BS} (R : BsRel M' bs bs') {j : Nat} {b' : Bx} (hb : M'.bxs[j]? = some b') {y : BS} (hc : b'.kd = 2 → y.c = -1) : BsRel M' (bs.set j y) (bs'.set j y) := by
  intro i b x x' h1 h2 h3
  rcases set_get h2 with ⟨e, rfl, _⟩ | ⟨ne, h2⟩
  · rcases set_get h3 with ⟨_, rfl, _⟩ | ⟨ne, _⟩
    · subst e
      obtain rfl := same_of h1 hb
      exact ⟨rfl, hc⟩
    · exact absurd e ne
  · rcases set_get h3 with ⟨e, _, _⟩ | ⟨_, h3⟩
    · exact absurd e ne
    · exact R i b x x' h1 h2 h3
theorem besideR_rel {b b' : Bx} {n : Int} {d : Hn} {a a' : HS} {j : Nat} (q : HRel M' d a a') (e0 : b'.nm = b.nm) (e1 : b'.sz = b.sz) (e2 : b'.kd = b.kd ∨ b'.kd = b.kd + 1) (h0 : 0 ≤ n ∧ n < b.sz) (hb' : M'.bxs[j]? = some b') (hk : b'.kd ≠ 2)
    (hl : ∀ x l, d.rows[a'.pc.toNat]? = some (.get x b'.nm) → a'.half = some l → ∀ z ∈ l, 0 ≤ z ∧ z < b'.sz) : HRel M' d (besideR b n d a) (besideR b' n d a') := by
  by_cases hit : ∃ x l, d.rows[a.pc.toNat]? = some (.get x b.nm) ∧ a.half = some l
  · obtain ⟨x, l, r1, r2⟩ := hit
    cases hf : a'.half with
    | none => rw [q.hn.mpr hf] at r2; cases r2
    | some l' =>
      have r1' : d.rows[a'.pc.toNat]? = some (.get x b'.nm) := by rw [q.pc, e0]; exact r1
      rw [besideR_hit r2 r1, besideR_hit hf r1']
      have hsub := besideH_sub S O O' e1 e2 h0 (q.sub l l' r2 hf) (fun z hz => by rw [← e1]; exact hl x l' r1' hf z hz)
      refine ⟨q.pc, q.wo, q.ns, q.ct, ⟨(fun z => by cases z), (fun z => by cases z)⟩, fun l1 l2 c1 c2 => ?_, fun y e c1 => ?_, fun x2 y c1 j2 b2 c2 c3 c4 => ?_⟩
      · have d1 := Option.some.inj c1
        have d2 := Option.some.inj c2
        rw [← d1, ← d2]
        exact hsub
      · have c1 : d.rows[a.pc.toNat]? = some (.put y e) := c1
        rw [r1] at c1; cases c1
      · have c1 : d.rows[a.pc.toNat]? = some (.get x2 y) := c1
        rw [r1] at c1; cases c1
        obtain ⟨_, rfl⟩ := O'.box c2 hb' (c3.trans e0.symm)
        exact absurd c4 hk
  · have m1 : besideR b n d a = a := besideR_miss fun x l c1 c2 => hit ⟨x, l, c1, c2⟩
    have m2 : besideR b' n d a' = a' := besideR_miss fun x l c1 c2 => by
      rw [q.pc, e0] at c1
      cases hf : a.half with
      | none => rw [q.hn.mp hf] at c2; cases c2
      | some l2 => exact hit ⟨x, l2, c1, hf⟩
    rw [m1, m2]
    exact q
end
end SB
set_option maxRecDepth 100000
set_option maxHeartbeats 4000000
/-! The stronger making keeps step: a paper of the one, no break of the other. -/
namespace SB
open PySem L2
theorem picks_half {M : Mk} {k : Nat} {d : Hn} {h : HS} {l : List Int} {x y : Str} (hp : h.pc ≠ -1) (hr : d.rows[h.pc.toNat]? = some (.get x y)) (hf : h.half = some l) : M.picks k d h = l := by
  unfold Mk.picks
  rw [if_neg hp, hf, hr]
theorem picks_put {M : Mk} {k : Nat} {d : Hn} {h : HS} {l : List Int} {x : Str} {e : Ex} (hp : h.pc ≠ -1) (hr : d.rows[h.pc.toNat]? = some (.put x e)) (hf : h.half = some l) : M.picks k d h = [0] := by
  unfold Mk.picks
  rw [if_neg hp, hf, hr]
section
variable {M M' : Mk} (S : Stg M M') (O : MkOk M) (O' : MkOk M') {G : Sd → Prop} (hG : ∀ s, G s → SdOk M s ∧ ∀ k pick, MayStep M s k pick → ∃ t, StepR M s k pick (some t) ∧ G t)
include S O O' hG
theorem step_sim {s s' : Sd} {k : Nat} {p : Int} {o' : Option Sd} (gs : G s) (K' : SdOk M' s') (R : SimRel M M' s s') (m : MayStep M' s' k p) (r : StepR M' s' k p o') : ∃ t', o' = some t' ∧ ∃ t, G t ∧ SimRel M M' t t' := by
  obtain ⟨K, nx⟩ := hG s gs
  obtain ⟨d, h', hd0', hh0', hm⟩ := m
  have hd : M.hds[k]? = some d := by rw [← S.hds]; exact hd0'
  obtain ⟨h, hh⟩ := K.hand hd
  have q := R.hs k d h h' hd hh hh0'
  have mM : MayStep M s k p := ⟨d, h, hd, hh, picks_sub S O O' q hm⟩
  obtain ⟨t, rt, Gt⟩ := nx k p mM
  obtain ⟨Kt, nxt⟩ := hG t Gt
  have envE : ∀ e : Ex, e.val (d.env h'.wo h'.ns) = e.val (d.env h.wo h.ns) := fun e => by rw [q.wo, q.ns]
  cases r with
  | beginW k0 hd' hh' hp' a' g' =>
    obtain rfl := (same_of hd0' hd').symm; obtain rfl := (same_of hh0' hh').symm
    subst k0
    have hp : h.pc = -1 := by rw [← q.pc]; exact hp'
    obtain ⟨h0, h1⟩ := pick_w hm hp'
    rw [S.sz] at h1
    obtain ⟨c, a, g⟩ := inv_beginW hd hh hp rt
    have ri := rel_writes S (R.cl.iff ⟨fun _ => trivial, fun _ x hx => by rw [hh] at hx; cases hx; exact hp⟩) a a' h0 h1 O.sz.2 K.cok K'.cok
    obtain ⟨t', e, z⟩ := goOn_sim S O O' (pre_beginW O K hd hh hp a h0 h1) (pre_beginW O' K' hd' hh' hp' a' h0 (by rw [S.sz]; exact h1))
      ⟨fun i d h h' _ => R.hs i d h h', R.bs, ri.iff ⟨fun z => z.elim, fun z => absurd rfl z.1⟩, rfl, q.ct⟩ q.ns g g'
    exact ⟨t', e, t, Gt, z⟩
  | beginR k0 hd' hh' hp' a' g' =>
    obtain rfl := (same_of hd0' hd').symm; obtain rfl := (same_of hh0' hh').symm
    have hp : h.pc = -1 := by rw [← q.pc]; exact hp'
    obtain ⟨c, a, g⟩ := inv_beginR k0 hd hh hp rt
    have ri := rel_reads S R.cl a a' O.sz.2 K.cok K'.cok (rd_lt hd k0)
    obtain ⟨t', e, z⟩ := goOn_sim S O O' (pre_beginR O K k0 hd hh hp a) (pre_beginR O' K' k0 hd' hh' hp' a')
      ⟨fun i d h h' _ => R.hs i d h h', R.bs, ri.iff ⟨fun z => ⟨k0, z⟩, fun z => z.2⟩, q.wo, q.ct⟩ q.ns g g'
    exact ⟨t', e, t, Gt, z⟩
  | long hd' hh' hp' hl =>
    obtain rfl := (same_of hd0' hd').symm; obtain rfl := (same_of hh0' hh').symm
    have hp : h.pc ≠ -1 := by rw [← q.pc]; exact hp'
    have := inv_long hd hh hp rt
    have := q.ct
    omega
  | put2 hd' hh' hp' hl hr' hb' hn' hx' hf' g' =>
    obtain rfl := (same_of hd0' hd').symm; obtain rfl := (same_of hh0' hh').symm
    have hp : h.pc ≠ -1 := by rw [← q.pc]; exact hp'
    have hr := hr'
    rw [q.pc] at hr
    cases hf : h.half with
    | none => rw [q.hn.mp hf] at hf'; cases hf'
    | some l =>
      obtain ⟨j, b, bs, hb, hn, hx, g⟩ := inv_put2 hd hh hp hr hf rt
      obtain ⟨rfl, e1, e2, e3⟩ := Stg.box S O O' hb hb' (hn.trans hn'.symm)
      obtain ⟨ebs, hc⟩ := R.bs _ _ _ _ hb' hx hx'
      obtain rfl := ebs.symm
      have k0 := (((O.hd k d hd).row _ _ hr).put _ _ rfl).1
      rw [show h'.pc.toNat = h.pc.toNat by rw [q.pc]] at g'
      obtain ⟨t', e, z⟩ := goOn_sim S O O' (pre_put2 O K hd hh hp hr hb hn hx hf) (pre_put2 O' K' hd' hh' hp' hr' hb' hn' hx' hf')
        ⟨fun i d h h' _ => R.hs i d h h', bsRel_set S O O' R.bs hb' (fun _ => rfl), R.cl.iff ⟨fun z => by subst k0; exact absurd (z h hh) hp, fun z => absurd k0 z.1⟩, q.wo, by show h'.ct + 1 ≤ h.ct + 1; have := q.ct; omega⟩ q.ns g g'
      exact ⟨t', e, t, Gt, z⟩
  | putGreat hd' hh' hp' hl hr' hb' hn' hf' hv =>
    obtain rfl := (same_of hd0' hd').symm; obtain rfl := (same_of hh0' hh').symm
    have hp : h.pc ≠ -1 := by rw [← q.pc]; exact hp'
    have hr := hr'
    rw [q.pc] at hr
    obtain ⟨j, b, bs, hb, hn, hx, hv2, _⟩ := inv_put1 hd hh hp hr (q.hn.mpr hf') rt
    obtain ⟨rfl, e1, e2, e3⟩ := Stg.box S O O' hb hb' (hn.trans hn'.symm)
    rw [envE, e1] at hv
    omega
  | putWhole hd' hh' hp' hl hr' hb' hn' hx' hf' hv' hk' g' =>
    obtain rfl := (same_of hd0' hd').symm; obtain rfl := (same_of hh0' hh').symm
    have hp : h.pc ≠ -1 := by rw [← q.pc]; exact hp'
    have hr := hr'
    rw [q.pc] at hr
    have hf := q.hn.mpr hf'
    obtain ⟨j, b, bs, hb, hn, hx, hv, alt⟩ := inv_put1 hd hh hp hr hf rt
    obtain ⟨rfl, e1, e2, e3⟩ := Stg.box S O O' hb hb' (hn.trans hn'.symm)
    obtain ⟨ebs, hc⟩ := R.bs _ _ _ _ hb' hx hx'
    obtain rfl := ebs.symm
    have hc := hc hk'
    have k0 := (((O.hd k d hd).row _ _ hr).put _ _ rfl).1
    have P' := pre_putWhole O' K' hd' hh' hp' hr' hb' hn' hx' hf' hv'
    rw [show h'.pc.toNat = h.pc.toNat by rw [q.pc], envE] at g'
    rw [envE] at P'
    have cl : ∀ {s1 : Sd}, Idle s1 → s1 = s → False := fun z e => by subst e; subst k0; exact absurd (z h hh) hp
    rcases alt with ⟨_, g⟩ | ⟨hk, et⟩
    · obtain ⟨t', e, z⟩ := goOn_sim S O O' (pre_putWhole O K hd hh hp hr hb hn hx hf hv) P'
        ⟨fun i d h h' _ => R.hs i d h h', bsRel_set S O O' R.bs hb' (fun _ => hc), R.cl.iff ⟨fun z => (cl z rfl).elim, fun z => absurd k0 z.1⟩, q.wo, by show h'.ct + 1 ≤ h.ct + 1; have := q.ct; omega⟩ q.ns g g'
      exact ⟨t', e, t, Gt, z⟩
    · rename_i x e _ _
      have hkt : (s.hs.set k { h with half := some [], ct := h.ct + 1 })[k]? = some { h with half := some [], ct := h.ct + 1 } := set_at hh
      have ht : t.hs[k]? = some { h with half := some [], ct := h.ct + 1 } := by
        rw [et]
        have := besideS_at (b := b) (n := e.val (d.env h.wo h.ns)) hd hkt
        rw [besideR_put (h := { h with half := some [], ct := h.ct + 1 }) hr] at this
        exact this
      have mt : MayStep M t k 0 := ⟨d, _, hd, ht, by
        rw [picks_put (h := { h with half := some [], ct := h.ct + 1 }) hp hr rfl]
        exact List.mem_singleton.mpr rfl⟩
      obtain ⟨t2, rt2, Gt2⟩ := nxt k 0 mt
      obtain ⟨j2, b2, bs2, hb2, hn2, hx2, g2⟩ := inv_put2 hd ht hp hr rfl rt2
      obtain ⟨rfl, rfl⟩ := O.box hb hb2 (hn.trans hn2.symm)
      have ebs : bs2 = ⟨bs.w, e.val (d.env h.wo h.ns)⟩ := by
        rw [et] at hx2
        have hx2 : (s.bs.set j _)[j]? = some bs2 := hx2
        rw [set_at hx] at hx2
        exact (Option.some.inj hx2).symm
      have ebb : t.bs.set j ⟨bs2.c, -1⟩ = s.bs.set j ⟨e.val (d.env h.wo h.ns), bs.c⟩ := by
        rw [ebs, et, hc]
        show (s.bs.set j _).set j _ = _
        rw [List.set_set]
      have P2 := pre_put2 O Kt hd ht hp hr hb hn hx2 rfl
      rw [ebb] at g2 P2
      have ecl : t.cl = s.cl := by rw [et]
      obtain ⟨t', e', z⟩ := goOn_sim S O O' P2 P'
        ⟨fun i d1 a a' ne c1 c2 c3 => by
          have c2 : t.hs[i]? = some a := c2
          rw [et] at c2
          obtain ⟨d2, h2, f1, f2, rfl⟩ := besideS_get c2
          rw [c1] at f1; cases f1
          rcases set_get f2 with ⟨e9, _, _⟩ | ⟨_, f2⟩
          · exact absurd e9 ne
          · have q2 := R.hs i d1 h2 a' c1 f2 c3
            rw [besideR_miss fun x l r1 r2 => by rw [q2.getw x b.nm r1 _ _ hb' (hn'.trans hn.symm) hk'] at r2; cases r2]
            exact q2, bsRel_set S O O' R.bs hb' (fun _ => hc), by
            rw [ecl]
            exact R.cl.iff ⟨fun z => (cl z rfl).elim, fun z => absurd k0 z.1⟩, q.wo, by show h'.ct + 1 ≤ h.ct + 1 + 1; have := q.ct; omega⟩ q.ns g2 g'
      exact ⟨t', e', t2, Gt2, z⟩
  | put1 hd' hh' hp' hl hr' hb' hn' hx' hf' hv' hk' =>
    obtain rfl := (same_of hd0' hd').symm; obtain rfl := (same_of hh0' hh').symm
    have hp : h.pc ≠ -1 := by rw [← q.pc]; exact hp'
    have hr := hr'
    rw [q.pc] at hr
    have hf := q.hn.mpr hf'
    obtain ⟨j, b, bs, hb, hn, hx, hv, alt⟩ := inv_put1 hd hh hp hr hf rt
    obtain ⟨rfl, e1, e2, e3⟩ := Stg.box S O O' hb hb' (hn.trans hn'.symm)
    obtain ⟨ebs, hc⟩ := R.bs _ _ _ _ hb' hx hx'
    obtain rfl := ebs.symm
    have k0 := (((O.hd k d hd).row _ _ hr).put _ _ rfl).1
    have h0 := val_ok O K hd hh hr rfl
    rcases alt with ⟨hk, _⟩ | ⟨hk, et⟩
    · exact absurd (show _ = 2 by omega) hk'
    · rename_i x e b'
      refine ⟨_, rfl, t, Gt, ?_⟩
      rw [et, envE]
      refine ⟨fun i d1 a a' c1 c2 c3 => ?_, bsRel_set S O O' R.bs hb' (fun z => absurd z hk'), ?_⟩
      · obtain ⟨d2, h2, f1, f2, rfl⟩ := besideS_get c2
        rw [c1] at f1; cases f1
        obtain ⟨d2, h2', f1, f2', rfl⟩ := besideS_get c3
        rw [S.hds, c1] at f1; cases f1
        refine besideR_rel S O O' ?_ (hn'.trans hn.symm) e1 e2 ⟨h0, hv⟩ hb' hk' fun x1 l1 r1 r2 => ?_
        · rcases set_get f2 with ⟨e9, rfl, _⟩ | ⟨ne, f2⟩
          · rcases set_get f2' with ⟨_, rfl, _⟩ | ⟨ne, _⟩
            · subst e9
              rw [hd] at c1; cases c1
              refine ⟨q.pc, q.wo, q.ns, by show h'.ct + 1 ≤ h.ct + 1; have := q.ct; omega, ⟨(fun z => by cases z), (fun z => by cases z)⟩, fun l1 l2 z1 z2 z z3 => by cases z1; cases z2; exact z3, fun y1 e1' z1 j1 b1 z2 z3 z4 => ?_, fun x1 y1 z1 => ?_⟩
              · have z1 : d.rows[h.pc.toNat]? = some (.put y1 e1') := z1
                rw [hr] at z1; cases z1
                obtain ⟨_, rfl⟩ := O'.box z2 hb' (z3.trans hn'.symm)
                exact absurd z4 hk'
              · have z1 : d.rows[h.pc.toNat]? = some (.get x1 y1) := z1
                rw [hr] at z1; cases z1
            · exact absurd e9 ne
          · rcases set_get f2' with ⟨e9, _, _⟩ | ⟨_, f2'⟩
            · exact absurd e9 ne
            · exact R.hs i d1 h2 h2' c1 f2 f2'
        · rcases set_get f2' with ⟨e9, rfl, _⟩ | ⟨ne, f2'⟩
          · subst e9
            rw [hd] at c1; cases c1
            have r1 : d.rows[h'.pc.toNat]? = some (.get x1 b'.nm) := r1
            rw [hr'] at r1; cases r1
          · exact ((K'.hok i d1 h2' (by rw [S.hds]; exact c1) f2').get x1 b'.nm l1 r1 r2 _ _ hb' rfl).2
      · refine R.cl.iff ⟨fun z => ?_, fun z => ?_⟩
        · subst k0; exact absurd (z h hh) hp
        · subst k0
          refine absurd ?_ hp
          have := z _ (besideS_at (b := b) (n := e.val (d.env h.wo h.ns)) hd (set_at hh))
          rw [(besideR_pc _ _ _ _).1] at this
          exact this
  | getWhole hd' hh' hp' hl hr' hb' hn' hx' hk' g' =>
    obtain rfl := (same_of hd0' hd').symm; obtain rfl := (same_of hh0' hh').symm
    have hp : h.pc ≠ -1 := by rw [← q.pc]; exact hp'
    have hr := hr'
    rw [q.pc] at hr
    obtain ⟨j, b, hb, hn, alt⟩ := inv_get hd hh hp hr rt
    obtain ⟨rfl, e1, e2, e3⟩ := Stg.box S O O' hb hb' (hn.trans hn'.symm)
    obtain ⟨bs, hx⟩ := K.box hb
    obtain ⟨ebs, hc⟩ := R.bs _ _ _ _ hb' hx hx'
    obtain rfl := ebs.symm
    have hc := hc hk'
    have P' := pre_getWhole O' K' hd' hh' hp' hr' hb' hn' hx' hk'
    rw [show h'.pc.toNat = h.pc.toNat by rw [q.pc]] at g'
    rcases alt with ⟨hk, bs2, hx2, g⟩ | ⟨hk, ⟨l, hf, _⟩ | ⟨hf, bs2, hx2, et⟩⟩
    · obtain rfl := (same_of hx hx2).symm
      obtain ⟨t', e, z⟩ := goOn_sim S O O' (pre_getWhole O K hd hh hp hr hb hn hx hk) P'
        ⟨fun i d h h' _ => R.hs i d h h', R.bs, R.cl.iff ⟨fun z => ⟨fun k0 => by subst k0; exact absurd (z h hh) hp, z⟩, fun z => z.2⟩, q.wo, by show h'.ct + 1 ≤ h.ct + 1; have := q.ct; omega⟩ (by show setN _ _ _ _ = setN _ _ _ _; rw [q.ns]) g g'
      exact ⟨t', e, t, Gt, z⟩
    · rw [q.getw _ _ hr _ _ hb' hn' hk'] at hf; cases hf
    · obtain rfl := (same_of hx hx2).symm
      have eh : getHalf b bs = [bs.w] := by unfold getHalf; rw [if_pos hc]
      rw [eh] at et
      have ht : t.hs[k]? = some { h with half := some [bs.w], ct := h.ct + 1 } := by rw [et]; exact set_at hh
      have mt : MayStep M t k bs.w := ⟨d, _, hd, ht, by
        rw [picks_half (h := { h with half := some [bs.w], ct := h.ct + 1 }) hp hr rfl]
        exact List.mem_singleton.mpr rfl⟩
      obtain ⟨t2, rt2, Gt2⟩ := nxt k bs.w mt
      obtain ⟨j2, b2, hb2, hn2, alt2⟩ := inv_get hd ht hp hr rt2
      obtain ⟨rfl, rfl⟩ := O.box hb hb2 (hn.trans hn2.symm)
      rcases alt2 with ⟨hk2, _⟩ | ⟨_, ⟨l, hf2, g2⟩ | ⟨hf2, _⟩⟩
      · exact absurd hk2 hk
      · have P2 := pre_get2 O Kt hd ht hp hr hb hn (l := [bs.w]) rfl (List.mem_singleton.mpr rfl)
        obtain ⟨t', e', z⟩ := goOn_sim S O O' P2 P'
          ⟨fun i d1 a a' ne c1 c2 c3 => by
            rw [et] at c2
            rcases set_get c2 with ⟨e9, _, _⟩ | ⟨_, c2⟩
            · exact absurd e9 ne
            · exact R.hs i d1 a a' c1 c2 c3, by rw [et]; exact R.bs, by
              rw [et]
              refine R.cl.iff ⟨fun z => ⟨fun k0 => by subst k0; exact absurd (z h hh) hp, (idle_keep (x := { h with half := some [bs.w], ct := h.ct + 1 }) hh rfl).mp z⟩, fun z => (idle_keep (x := { h with half := some [bs.w], ct := h.ct + 1 }) hh rfl).mpr z.2⟩, q.wo, by show h'.ct + 1 ≤ h.ct + 1 + 1; have := q.ct; omega⟩ (by show setN _ _ _ _ = setN _ _ _ _; rw [q.ns]) g2 g'
        exact ⟨t', e', t2, Gt2, z⟩
      · cases hf2
  | get2 hd' hh' hp' hl hr' hb' hn' hk' hf' g' =>
    obtain rfl := (same_of hd0' hd').symm; obtain rfl := (same_of hh0' hh').symm
    have hp : h.pc ≠ -1 := by rw [← q.pc]; exact hp'
    have hr := hr'
    rw [q.pc] at hr
    have hmp := pick_get hm hp' hr' hf'
    obtain ⟨j, b, hb, hn, alt⟩ := inv_get hd hh hp hr rt
    obtain ⟨rfl, e1, e2, e3⟩ := Stg.box S O O' hb hb' (hn.trans hn'.symm)
    have P' := pre_get2 O' K' hd' hh' hp' hr' hb' hn' hf' hmp
    rw [show h'.pc.toNat = h.pc.toNat by rw [q.pc]] at g'
    rcases alt with ⟨hk, _⟩ | ⟨hk, ⟨l, hf, g⟩ | ⟨hf, _⟩⟩
    · exact absurd (show _ = 2 by omega) hk'
    · obtain ⟨t', e, z⟩ := goOn_sim S O O' (pre_get2 O K hd hh hp hr hb hn hf (q.sub _ _ hf hf' _ hmp)) P'
        ⟨fun i d h h' _ => R.hs i d h h', R.bs, R.cl.iff ⟨fun z => ⟨fun k0 => by subst k0; exact absurd (z h hh) hp, z⟩, fun z => z.2⟩, q.wo, by show h'.ct + 1 ≤ h.ct + 1; have := q.ct; omega⟩ (by show setN _ _ _ _ = setN _ _ _ _; rw [q.ns]) g g'
      exact ⟨t', e, t, Gt, z⟩
    · rw [q.hn.mp hf] at hf'; cases hf'
  | get1 hd' hh' hp' hl hr' hb' hn' hx' hk' hf' =>
    obtain rfl := (same_of hd0' hd').symm; obtain rfl := (same_of hh0' hh').symm
    have hp : h.pc ≠ -1 := by rw [← q.pc]; exact hp'
    have hr := hr'
    rw [q.pc] at hr
    have hf := q.hn.mpr hf'
    obtain ⟨j, b, hb, hn, alt⟩ := inv_get hd hh hp hr rt
    obtain ⟨rfl, e1, e2, e3⟩ := Stg.box S O O' hb hb' (hn.trans hn'.symm)
    rcases alt with ⟨hk, _⟩ | ⟨hk, ⟨l, hf2, _⟩ | ⟨_, bs, hx, et⟩⟩
    · exact absurd (show _ = 2 by omega) hk'
    · rw [hf] at hf2; cases hf2
    · obtain ⟨ebs, hc⟩ := R.bs _ _ _ _ hb' hx hx'
      obtain rfl := ebs.symm
      refine ⟨_, rfl, t, Gt, ?_⟩
      rw [et]
      refine ⟨fun i d1 a a' c1 c2 c3 => ?_, R.bs, R.cl.iff (idle_keep (x := { h with half := some (getHalf b bs), ct := h.ct + 1 }) hh rfl)⟩
      rcases set_get c2 with ⟨e9, rfl, _⟩ | ⟨ne, c2⟩
      · rcases set_get c3 with ⟨_, rfl, _⟩ | ⟨ne, _⟩
        · subst e9
          rw [hd] at c1; cases c1
          refine ⟨q.pc, q.wo, q.ns, by show h'.ct + 1 ≤ h.ct + 1; have := q.ct; omega, ⟨(fun z => by cases z), (fun z => by cases z)⟩, fun l1 l2 z1 z2 => ?_, fun y1 e1' z1 => ?_, fun x1 y1 z1 j1 b1 z2 z3 z4 => ?_⟩
          · have z1 := Option.some.inj z1
            have z2 := Option.some.inj z2
            rw [← z1, ← z2]
            exact getHalf_sub S O O' e1 e2 (K.bok _ _ _ hb hx)
          · have z1 : d.rows[h.pc.toNat]? = some (.put y1 e1') := z1
            rw [hr] at z1; cases z1
          · have z1 : d.rows[h.pc.toNat]? = some (.get x1 y1) := z1
            rw [hr] at z1; cases z1
            obtain ⟨_, rfl⟩ := O'.box z2 hb' (z3.trans hn'.symm)
            exact absurd z4 hk'
        · exact absurd e9 ne
      · rcases set_get c3 with ⟨e9, _, _⟩ | ⟨_, c3⟩
        · exact absurd e9 ne
        · exact R.hs i d1 a a' c1 c2 c3
end
end SB
set_option maxRecDepth 100000
set_option maxHeartbeats 4000000
/-! A paper of a making excludes a break of a stronger one. -/
namespace SB
open PySem L2
theorem nums_inj : ∀ {a b : List Int}, nums a = nums b → a = b
  | [], [], _ => rfl
  | [], _ :: _, h => by cases h
  | _ :: _, [], h => by cases h
  | x :: a, y :: b, h => by
    have h : NestedKey.num x :: nums a = NestedKey.num y :: nums b := h
    injection h with h1 h2
    injection h1 with h1
    rw [h1, nums_inj h2]
theorem map_inj {α : Type} {f : α → Dt} (hf : ∀ a b, f a = f b → a = b) : ∀ {a b : List α}, a.map f = b.map f → a = b
  | [], [], _ => rfl
  | [], _ :: _, h => by cases h
  | _ :: _, [], h => by cases h
  | x :: a, y :: b, h => by
    have h : f x :: a.map f = f y :: b.map f := h
    injection h with h1 h2
    rw [hf _ _ h1, map_inj hf h2]
theorem tellD_inj : ∀ a b, tellD a = tellD b → a = b
  | none, none, _ => rfl
  | none, some _, h => by cases h
  | some _, none, h => by cases h
  | some a, some b, h => by
    have h : NestedKey.tup (nums a) = NestedKey.tup (nums b) := h
    injection h with h
    rw [nums_inj h]
theorem hsdt_inj (a b : HS) (h : a.dt = b.dt) : a = b := by
  obtain ⟨a1, a2, a3, a4, a5⟩ := a
  obtain ⟨b1, b2, b3, b4, b5⟩ := b
  have h : NestedKey.tup [.num a1, tellD a2, .num a3, .num a4, .tup (nums a5)] = NestedKey.tup [.num b1, tellD b2, .num b3, .num b4, .tup (nums b5)] := h
  injection h with h
  injection h with h1 h
  injection h with h2 h
  injection h with h3 h
  injection h with h4 h
  injection h with h5 h
  injection h1 with h1
  injection h3 with h3
  injection h4 with h4
  injection h5 with h5
  rw [h1, tellD_inj _ _ h2, h3, h4, nums_inj h5]
theorem bsdt_inj (a b : BS) (h : a.dt = b.dt) : a = b := by
  obtain ⟨a1, a2⟩ := a
  obtain ⟨b1, b2⟩ := b
  have h : NestedKey.tup [.num a1, .num a2] = NestedKey.tup [.num b1, .num b2] := h
  injection h with h
  injection h with h1 h
  injection h with h2 h
  injection h1 with h1
  injection h2 with h2
  rw [h1, h2]
theorem cadt_inj (a b : Ca) (h : a.dt = b.dt) : a = b := by
  obtain ⟨a1, a2, a3⟩ := a
  obtain ⟨b1, b2, b3⟩ := b
  have h : NestedKey.tup [.num a1, .num a2, .tup (nums a3)] = NestedKey.tup [.num b1, .num b2, .tup (nums b3)] := h
  injection h with h
  injection h with h1 h
  injection h with h2 h
  injection h with h3 h
  injection h1 with h1
  injection h2 with h2
  injection h3 with h3
  rw [h1, h2, nums_inj h3]
theorem cldt_inj : ∀ a b : Cl, a.dt = b.dt → a = b
  | .weak o c ts, .weak o' c' ts', h => by
    have h : NestedKey.tup [.num o, .num c, .tup (ts.map tellD)] = NestedKey.tup [.num o', .num c', .tup (ts'.map tellD)] := h
    injection h with h
    injection h with h1 h
    injection h with h2 h
    injection h with h3 h
    injection h1 with h1
    injection h2 with h2
    injection h3 with h3
    rw [h1, h2, map_inj tellD_inj h3]
  | .whole cs, .whole cs', h => by
    have h : NestedKey.tup (cs.map Ca.dt) = NestedKey.tup (cs'.map Ca.dt) := h
    injection h with h
    rw [map_inj cadt_inj h]
  | .weak o c ts, .whole cs, h => by
    exfalso
    have h : NestedKey.tup [.num o, .num c, .tup (ts.map tellD)] = NestedKey.tup (cs.map Ca.dt) := h
    injection h with h
    cases cs with
    | nil => cases h
    | cons x cs =>
      injection h with h1 h
      cases h1
  | .whole cs, .weak o c ts, h => by
    exfalso
    have h : NestedKey.tup (cs.map Ca.dt) = NestedKey.tup [.num o, .num c, .tup (ts.map tellD)] := h
    injection h with h
    cases cs with
    | nil => cases h
    | cons x cs =>
      injection h with h1 h
      cases h1
theorem sddt_inj (a b : Sd) (h : a.dt = b.dt) : a = b := by
  obtain ⟨a1, a2, a3⟩ := a
  obtain ⟨b1, b2, b3⟩ := b
  have h : NestedKey.tup [.tup (a1.map HS.dt), .tup (a2.map BS.dt), a3.dt] = NestedKey.tup [.tup (b1.map HS.dt), .tup (b2.map BS.dt), b3.dt] := h
  injection h with h
  injection h with h1 h
  injection h with h2 h
  injection h with h3 h
  injection h1 with h1
  injection h2 with h2
  rw [map_inj hsdt_inj h1, map_inj bsdt_inj h2, cldt_inj _ _ h3]
section
variable {M M' : Mk} (S : Stg M M') (O : MkOk M) (O' : MkOk M')
include S O O'
theorem first_sim : SimRel M M' M.first M'.first := by
  refine ⟨fun k d h h' hd hh hh' => ?_, fun j b' x x' hb' hx hx' => ?_, ?_⟩
  · have e : (M.hds.map fun h : Hn => (⟨-1, none, 0, 0, List.replicate h.vars.length 0⟩ : HS))[k]? = some h := hh
    have e' : (M'.hds.map fun h : Hn => (⟨-1, none, 0, 0, List.replicate h.vars.length 0⟩ : HS))[k]? = some h' := hh'
    rw [S.hds] at e'
    rw [e] at e'
    cases e'
    rw [List.getElem?_map, hd] at e
    have e := Option.some.inj e
    subst e
    exact hrel_of rfl rfl rfl (Int.le_refl _) rfl rfl
  · have e : (M.bxs.map fun b : Bx => (⟨b.bg, -1⟩ : BS))[j]? = some x := hx
    have e' : (M'.bxs.map fun b : Bx => (⟨b.bg, -1⟩ : BS))[j]? = some x' := hx'
    rw [List.getElem?_map] at e e'
    rw [hb'] at e'
    cases hb : M.bxs[j]? with
    | none => rw [hb] at e; cases e
    | some b =>
      rw [hb] at e
      have e := Option.some.inj e
      have e' := Option.some.inj e'
      subst e e'
      obtain ⟨_, _, n3, _⟩ := S.bx j b b' hb hb'
      show (⟨b'.bg, -1⟩ : BS) = ⟨b.bg, -1⟩ ∧ (b'.kd = 2 → (-1 : Int) = -1)
      rw [n3]
      exact ⟨rfl, fun _ => rfl⟩
  · refine (rel_claim0 S).iff ⟨fun _ h hh => ?_, fun _ => trivial⟩
    have e : (M.hds.map fun h : Hn => (⟨-1, none, 0, 0, List.replicate h.vars.length 0⟩ : HS))[0]? = some h := hh
    rw [List.getElem?_map] at e
    cases hd : M.hds[0]? with
    | none => rw [hd] at e; cases e
    | some d =>
      rw [hd] at e
      rw [← Option.some.inj e]
theorem paper_no_break {met : List Dt} (P : Paper M met) : ¬ Breaks M' := by
  let G : Sd → Prop := fun s => SdOk M s ∧ s.dt ∈ met
  have hG : ∀ s, G s → SdOk M s ∧ ∀ k pick, MayStep M s k pick → ∃ t, StepR M s k pick (some t) ∧ G t := by
    rintro s ⟨h1, h2⟩
    refine ⟨h1, fun k pick m => ?_⟩
    obtain ⟨s0, e, nx⟩ := P.next _ h2
    have e := sddt_inj _ _ e
    subst e
    obtain ⟨t, r, ht⟩ := nx k pick m
    exact ⟨t, r, step_ok O h1 m r, ht⟩
  have way : ∀ s', Way M' s' → SdOk M' s' ∧ ∃ s, G s ∧ SimRel M M' s s' := by
    intro s' w
    induction w with
    | first => exact ⟨first_ok O', M.first, ⟨first_ok O, P.first⟩, first_sim S O O'⟩
    | step w m r ih =>
      obtain ⟨K', s, gs, R⟩ := ih
      obtain ⟨t', e, t, gt, R'⟩ := step_sim S O O' hG gs K' R m r
      cases e
      exact ⟨step_ok O' K' m r, t, gt, R'⟩
  rintro ⟨s', k, p, w, m, r⟩
  obtain ⟨K', s, gs, R⟩ := way s' w
  obtain ⟨t', e, _⟩ := step_sim S O O' hG gs K' R m r
  cases e
end
end SB
set_option maxRecDepth 100000
set_option maxHeartbeats 8000000
/-! The defs by their places; what the top has written. -/
namespace SB
open PySem L2
def top (i : Nat) : Stmt := PySem.Challenge.pw_strongboxes_k95_whole_stronger_has_a_pap.main.body.getD i (.Pass ⟨0, 0, 0, 0⟩)
abbrev s_readers_of : Stmt := top 5
abbrev s_with_one : Stmt := top 6
abbrev s_moments_of : Stmt := top 7
abbrev s_closed : Stmt := top 8
abbrev s_with_worths : Stmt := top 9
abbrev s_told_beside : Stmt := top 10
abbrev s_claim_begun : Stmt := top 11
abbrev s_claim_writes : Stmt := top 12
abbrev s_claim_written : Stmt := top 13
abbrev s_claim_reads : Stmt := top 14
abbrev s_claim_told : Stmt := top 15
abbrev s_names_in : Stmt := top 18
abbrev s_number_of : Stmt := top 19
abbrev s_expr_in : Stmt := top 22
abbrev s_name_set : Stmt := top 23
abbrev s_variables_of : Stmt := top 24
abbrev s_box_places : Stmt := top 27
abbrev s_box_of_row : Stmt := top 28
abbrev s_first_stand : Stmt := top 29
abbrev s_picks_of : Stmt := top 30
abbrev s_steps_of : Stmt := top 31
abbrev s_Work_init : Stmt := inClass (top 32) 0
abbrev s_Work_stand : Stmt := inClass (top 32) 1
abbrev s_Work_rows : Stmt := inClass (top 32) 2
abbrev s_Work_names_of : Stmt := inClass (top 32) 3
abbrev s_Work_break_by : Stmt := inClass (top 32) 4
abbrev s_Work_number : Stmt := inClass (top 32) 5
abbrev s_Work_set_number : Stmt := inClass (top 32) 6
abbrev s_Work_step : Stmt := inClass (top 32) 7
abbrev s_Work_begin : Stmt := inClass (top 32) 8
abbrev s_Work_put_step : Stmt := inClass (top 32) 9
abbrev s_Work_beside : Stmt := inClass (top 32) 10
abbrev s_Work_get_step : Stmt := inClass (top 32) 11
abbrev s_Work_go_on : Stmt := inClass (top 32) 12
abbrev s_Work_led_on : Stmt := inClass (top 32) 13
abbrev s_Work_tell : Stmt := inClass (top 32) 14
abbrev s_Work_end : Stmt := inClass (top 32) 15
abbrev s_stepped : Stmt := top 33
abbrev s_Search_init : Stmt := inClass (top 35) 0
abbrev s_Search_meet : Stmt := inClass (top 35) 1
abbrev s_Search_way_to : Stmt := inClass (top 35) 2
abbrev s_Search_go_on_from : Stmt := inClass (top 35) 3
abbrev s_seek : Stmt := top 36
abbrev s_law_cell_at : Stmt := top 38
abbrev s_law_well : Stmt := top 39
abbrev s_law_draw : Stmt := top 40
abbrev s_law_expr : Stmt := top 41
abbrev s_law_row : Stmt := top 42
abbrev s_law_drawn : Stmt := top 43
abbrev s_law_known : Stmt := top 44
abbrev s_law_word : Stmt := top 45
abbrev s_law_stronger : Stmt := top 46
abbrev s_law : Stmt := top 47
theorem sc_readers_of : FnScope ["making"] ["making"] (defScope s_readers_of) := ⟨rfl, rfl, rfl, by decide +kernel, rfl, by decide +kernel, by decide +kernel⟩
theorem sc_with_one : FnScope ["row", "place", "thing"] ["row", "place", "thing"] (defScope s_with_one) := ⟨rfl, rfl, rfl, by decide +kernel, rfl, by decide +kernel, by decide +kernel⟩
theorem sc_moments_of : FnScope ["case", "worth", "coming", "tells", "found", "reader", "told"] ["case"] (defScope s_moments_of) := ⟨rfl, rfl, rfl, by decide +kernel, rfl, by decide +kernel, by decide +kernel⟩
theorem sc_closed : FnScope ["cases", "found", "queue", "case"] ["cases"] (defScope s_closed) := ⟨rfl, rfl, rfl, by decide +kernel, rfl, by decide +kernel, by decide +kernel⟩
theorem sc_with_worths : FnScope ["told", "worths"] ["told", "worths"] (defScope s_with_worths) := ⟨rfl, rfl, rfl, by decide +kernel, rfl, by decide +kernel, by decide +kernel⟩
theorem sc_told_beside : FnScope ["making", "worth"] ["making", "worth"] (defScope s_told_beside) := ⟨rfl, rfl, rfl, by decide +kernel, rfl, by decide +kernel, by decide +kernel⟩
theorem sc_claim_begun : FnScope ["making"] ["making"] (defScope s_claim_begun) := ⟨rfl, rfl, rfl, by decide +kernel, rfl, by decide +kernel, by decide +kernel⟩
theorem sc_claim_writes : FnScope ["making", "claim", "worth", "old", "coming", "tells", "told"] ["making", "claim", "worth"] (defScope s_claim_writes) := ⟨rfl, rfl, rfl, by decide +kernel, rfl, by decide +kernel, by decide +kernel⟩
theorem sc_claim_written : FnScope ["making", "claim", "old", "coming", "tells", "worth"] ["making", "claim"] (defScope s_claim_written) := ⟨rfl, rfl, rfl, by decide +kernel, rfl, by decide +kernel, by decide +kernel⟩
theorem sc_claim_reads : FnScope ["making", "claim", "reader", "worth", "coming", "tells", "told"] ["making", "claim", "reader"] (defScope s_claim_reads) := ⟨rfl, rfl, rfl, by decide +kernel, rfl, by decide +kernel, by decide +kernel⟩
theorem sc_claim_told : FnScope ["making", "claim", "reader", "worth", "left", "old", "coming", "tells", "case"] ["making", "claim", "reader", "worth"] (defScope s_claim_told) := ⟨rfl, rfl, rfl, by decide +kernel, rfl, by decide +kernel, by decide +kernel⟩
theorem sc_names_in : FnScope ["expr", "found", "one"] ["expr"] (defScope s_names_in) := ⟨rfl, rfl, rfl, by decide +kernel, rfl, by decide +kernel, by decide +kernel⟩
theorem sc_number_of : FnScope ["expression", "numbers", "word", "one", "other"] ["expression", "numbers"] (defScope s_number_of) := ⟨rfl, rfl, rfl, by decide +kernel, rfl, by decide +kernel, by decide +kernel⟩
theorem sc_expr_in : FnScope ["row"] ["row"] (defScope s_expr_in) := ⟨rfl, rfl, rfl, by decide +kernel, rfl, by decide +kernel, by decide +kernel⟩
theorem sc_name_set : FnScope ["row"] ["row"] (defScope s_name_set) := ⟨rfl, rfl, rfl, by decide +kernel, rfl, by decide +kernel, by decide +kernel⟩
theorem sc_variables_of : FnScope ["rows", "found", "row", "name"] ["rows"] (defScope s_variables_of) := ⟨rfl, rfl, rfl, by decide +kernel, rfl, by decide +kernel, by decide +kernel⟩
theorem sc_box_places : FnScope ["making", "k", "box"] ["making"] (defScope s_box_places) := ⟨rfl, rfl, rfl, by decide +kernel, rfl, by decide +kernel, by decide +kernel⟩
theorem sc_box_of_row : FnScope ["row"] ["row"] (defScope s_box_of_row) := ⟨rfl, rfl, rfl, by decide +kernel, rfl, by decide +kernel, by decide +kernel⟩
theorem sc_first_stand : FnScope ["making", "hands", "boxes", "name", "within", "rows", "box"] ["making"] (defScope s_first_stand) := ⟨rfl, rfl, rfl, by decide +kernel, rfl, by decide +kernel, by decide +kernel⟩
theorem sc_picks_of : FnScope ["making", "stand", "k", "at", "half", "worth", "count", "numbers"] ["making", "stand", "k"] (defScope s_picks_of) := ⟨rfl, rfl, rfl, by decide +kernel, rfl, by decide +kernel, by decide +kernel⟩
theorem sc_steps_of : FnScope ["making", "stand", "found", "k", "hand", "pick"] ["making", "stand"] (defScope s_steps_of) := ⟨rfl, rfl, rfl, by decide +kernel, rfl, by decide +kernel, by decide +kernel⟩
theorem sc_Work_init : FnScope ["self", "making", "stand", "hand", "box"] ["self", "making", "stand"] (defScope s_Work_init) := ⟨rfl, rfl, rfl, by decide +kernel, rfl, by decide +kernel, by decide +kernel⟩
theorem sc_Work_stand : FnScope ["self", "hand", "box"] ["self"] (defScope s_Work_stand) := ⟨rfl, rfl, rfl, by decide +kernel, rfl, by decide +kernel, by decide +kernel⟩
theorem sc_Work_rows : FnScope ["self", "k"] ["self", "k"] (defScope s_Work_rows) := ⟨rfl, rfl, rfl, by decide +kernel, rfl, by decide +kernel, by decide +kernel⟩
theorem sc_Work_names_of : FnScope ["self", "k"] ["self", "k"] (defScope s_Work_names_of) := ⟨rfl, rfl, rfl, by decide +kernel, rfl, by decide +kernel, by decide +kernel⟩
theorem sc_Work_break_by : FnScope ["self", "word", "k"] ["self", "word", "k"] (defScope s_Work_break_by) := ⟨rfl, rfl, rfl, by decide +kernel, rfl, by decide +kernel, by decide +kernel⟩
theorem sc_Work_number : FnScope ["self", "k", "expression", "hand", "numbers"] ["self", "k", "expression"] (defScope s_Work_number) := ⟨rfl, rfl, rfl, by decide +kernel, rfl, by decide +kernel, by decide +kernel⟩
theorem sc_Work_set_number : FnScope ["self", "k", "name", "number", "place", "numbers"] ["self", "k", "name", "number"] (defScope s_Work_set_number) := ⟨rfl, rfl, rfl, by decide +kernel, rfl, by decide +kernel, by decide +kernel⟩
theorem sc_Work_step : FnScope ["self", "k", "pick", "hand", "row", "place"] ["self", "k", "pick"] (defScope s_Work_step) := ⟨rfl, rfl, rfl, by decide +kernel, rfl, by decide +kernel, by decide +kernel⟩
theorem sc_Work_begin : FnScope ["self", "k", "pick", "name"] ["self", "k", "pick"] (defScope s_Work_begin) := ⟨rfl, rfl, rfl, by decide +kernel, rfl, by decide +kernel, by decide +kernel⟩
theorem sc_Work_put_step : FnScope ["self", "k", "row", "place", "hand", "box", "number"] ["self", "k", "row", "place"] (defScope s_Work_put_step) := ⟨rfl, rfl, rfl, by decide +kernel, rfl, by decide +kernel, by decide +kernel⟩
theorem sc_Work_beside : FnScope ["self", "place", "number", "name", "kind", "size", "k", "hand"] ["self", "place", "number"] (defScope s_Work_beside) := ⟨rfl, rfl, rfl, by decide +kernel, rfl, by decide +kernel, by decide +kernel⟩
theorem sc_Work_get_step : FnScope ["self", "k", "row", "place", "pick", "hand", "worth", "coming", "kind", "size"] ["self", "k", "row", "place", "pick"] (defScope s_Work_get_step) := ⟨rfl, rfl, rfl, by decide +kernel, rfl, by decide +kernel, by decide +kernel⟩
theorem sc_Work_go_on : FnScope ["self", "k", "at", "rows", "been"] ["self", "k", "at"] (defScope s_Work_go_on) := ⟨rfl, rfl, rfl, by decide +kernel, rfl, by decide +kernel, by decide +kernel⟩
theorem sc_Work_led_on : FnScope ["self", "k", "row", "at"] ["self", "k", "row", "at"] (defScope s_Work_led_on) := ⟨rfl, rfl, rfl, by decide +kernel, rfl, by decide +kernel, by decide +kernel⟩
theorem sc_Work_tell : FnScope ["self", "k", "number", "later"] ["self", "k", "number"] (defScope s_Work_tell) := ⟨rfl, rfl, rfl, by decide +kernel, rfl, by decide +kernel, by decide +kernel⟩
theorem sc_Work_end : FnScope ["self", "k", "event"] ["self", "k", "event"] (defScope s_Work_end) := ⟨rfl, rfl, rfl, by decide +kernel, rfl, by decide +kernel, by decide +kernel⟩
theorem sc_stepped : FnScope ["making", "stand", "step", "work", "hand"] ["making", "stand", "step"] (defScope s_stepped) := ⟨rfl, rfl, rfl, by decide +kernel, rfl, by decide +kernel, by decide +kernel⟩
theorem sc_Search_init : FnScope ["self", "making", "most"] ["self", "making", "most"] (defScope s_Search_init) := ⟨rfl, rfl, rfl, by decide +kernel, rfl, by decide +kernel, by decide +kernel⟩
theorem sc_Search_meet : FnScope ["self", "stand", "came"] ["self", "stand", "came"] (defScope s_Search_meet) := ⟨rfl, rfl, rfl, by decide +kernel, rfl, by decide +kernel, by decide +kernel⟩
theorem sc_Search_way_to : FnScope ["self", "at", "steps", "came"] ["self", "at"] (defScope s_Search_way_to) := ⟨rfl, rfl, rfl, by decide +kernel, rfl, by decide +kernel, by decide +kernel⟩
theorem sc_Search_go_on_from : FnScope ["self", "at", "step", "later", "broken", "events"] ["self", "at"] (defScope s_Search_go_on_from) := ⟨rfl, rfl, rfl, by decide +kernel, rfl, by decide +kernel, by decide +kernel⟩
theorem sc_seek : FnScope ["making", "most", "search", "at", "weaving"] ["making", "most"] (defScope s_seek) := ⟨rfl, rfl, rfl, by decide +kernel, rfl, by decide +kernel, by decide +kernel⟩
theorem sc_law_cell_at : FnScope ["_law_script", "_law_k"] ["_law_script", "_law_k"] (defScope s_law_cell_at) := ⟨rfl, rfl, rfl, by decide +kernel, rfl, by decide +kernel, by decide +kernel⟩
theorem sc_law_well : FnScope ["_law_cell"] ["_law_cell"] (defScope s_law_well) := ⟨rfl, rfl, rfl, by decide +kernel, rfl, by decide +kernel, by decide +kernel⟩
theorem sc_law_draw : FnScope ["_law_well_here", "_law_base", "_law_found", "_law_number"] ["_law_well_here", "_law_base"] (defScope s_law_draw) := ⟨rfl, rfl, rfl, by decide +kernel, rfl, by decide +kernel, by decide +kernel⟩
theorem sc_law_expr : FnScope ["_law_well_here", "_law_names", "_law_way", "_law_one"] ["_law_well_here", "_law_names"] (defScope s_law_expr) := ⟨rfl, rfl, rfl, by decide +kernel, rfl, by decide +kernel, by decide +kernel⟩
theorem sc_law_row : FnScope ["_law_well_here", "_law_boxes", "_law_names", "_law_many", "_law_is_writer", "_law_way", "_law_box"] ["_law_well_here", "_law_boxes", "_law_names", "_law_many", "_law_is_writer"] (defScope s_law_row) := ⟨rfl, rfl, rfl, by decide +kernel, rfl, by decide +kernel, by decide +kernel⟩
theorem sc_law_drawn : FnScope ["_law_well_here", "_law_boxes", "_law_kinds", "_law_told", "_law_rows", "_law_many", "_law_k", "_law_seen", "_law_hands", "_law_name"] ["_law_well_here"] (defScope s_law_drawn) := ⟨rfl, rfl, rfl, by decide +kernel, rfl, by decide +kernel, by decide +kernel⟩
theorem sc_law_known : FnScope ["_law_well_here", "_law_kinds", "_law_made", "_law_of", "_law_size", "_law_seen", "_law_readers", "_law_begin", "_law_rows", "_law_name"] ["_law_well_here"] (defScope s_law_known) := ⟨rfl, rfl, rfl, by decide +kernel, rfl, by decide +kernel, by decide +kernel⟩
theorem sc_law_word : FnScope ["_law_making", "_law_most", "_law_word_here"] ["_law_making", "_law_most"] (defScope s_law_word) := ⟨rfl, rfl, rfl, by decide +kernel, rfl, by decide +kernel, by decide +kernel⟩
theorem sc_law_stronger : FnScope ["_law_making", "_law_up", "_law_boxes", "_law_found", "_law_k", "_law_box", "_law_down", "_law_other"] ["_law_making"] (defScope s_law_stronger) := ⟨rfl, rfl, rfl, by decide +kernel, rfl, by decide +kernel, by decide +kernel⟩
theorem sc_law : FnScope ["_law_script", "_law_well_here", "_law_making", "_law_some", "_law_at", "_law_other"] ["_law_script"] (defScope s_law) := ⟨rfl, rfl, rfl, by decide +kernel, rfl, by decide +kernel, by decide +kernel⟩
structure Df (K : PySem.W.Frag) (mg : Str → Option Value) (x : Str) (st : Stmt) (ps : List Str) where
  a : Addr
  d : FuncData
  m : mg x = some (.ref a)
  F : L2.Fun K x x st a d
  b : Binds K d ps []
structure Md (K : PySem.W.Frag) (C : Addr) (x qual : Str) (st : Stmt) (ps : List Str) where
  a : Addr
  d : FuncData
  m : Meth K C x a
  F : L2.Fun K x qual st a d
  b : Binds K d ps []
structure Txt (K : PySem.W.Frag) (mg : Str → Option Value) where
  readers_of : Df K mg "readers_of" s_readers_of ["making"]
  with_one : Df K mg "with_one" s_with_one ["row", "place", "thing"]
  moments_of : Df K mg "moments_of" s_moments_of ["case"]
  closed : Df K mg "closed" s_closed ["cases"]
  with_worths : Df K mg "with_worths" s_with_worths ["told", "worths"]
  told_beside : Df K mg "told_beside" s_told_beside ["making", "worth"]
  claim_begun : Df K mg "claim_begun" s_claim_begun ["making"]
  claim_writes : Df K mg "claim_writes" s_claim_writes ["making", "claim", "worth"]
  claim_written : Df K mg "claim_written" s_claim_written ["making", "claim"]
  claim_reads : Df K mg "claim_reads" s_claim_reads ["making", "claim", "reader"]
  claim_told : Df K mg "claim_told" s_claim_told ["making", "claim", "reader", "worth"]
  names_in : Df K mg "names_in" s_names_in ["expr"]
  number_of : Df K mg "number_of" s_number_of ["expression", "numbers"]
  expr_in : Df K mg "expr_in" s_expr_in ["row"]
  name_set : Df K mg "name_set" s_name_set ["row"]
  variables_of : Df K mg "variables_of" s_variables_of ["rows"]
  box_places : Df K mg "box_places" s_box_places ["making"]
  box_of_row : Df K mg "box_of_row" s_box_of_row ["row"]
  first_stand : Df K mg "first_stand" s_first_stand ["making"]
  picks_of : Df K mg "picks_of" s_picks_of ["making", "stand", "k"]
  steps_of : Df K mg "steps_of" s_steps_of ["making", "stand"]
  stepped : Df K mg "stepped" s_stepped ["making", "stand", "step"]
  seek : Df K mg "seek" s_seek ["making", "most"]
  law_cell_at : Df K mg "_law_cell_at" s_law_cell_at ["_law_script", "_law_k"]
  law_well : Df K mg "_law_well" s_law_well ["_law_cell"]
  law_draw : Df K mg "_law_draw" s_law_draw ["_law_well_here", "_law_base"]
  law_expr : Df K mg "_law_expr" s_law_expr ["_law_well_here", "_law_names"]
  law_row : Df K mg "_law_row" s_law_row ["_law_well_here", "_law_boxes", "_law_names", "_law_many", "_law_is_writer"]
  law_drawn : Df K mg "_law_drawn" s_law_drawn ["_law_well_here"]
  law_known : Df K mg "_law_known" s_law_known ["_law_well_here"]
  law_word : Df K mg "_law_word" s_law_word ["_law_making", "_law_most"]
  law_stronger : Df K mg "_law_stronger" s_law_stronger ["_law_making"]
  law : Df K mg "law" s_law ["_law_script"]
  C_Work : Addr
  cl_Work : Cls K C_Work
  g_Work : mg "Work" = some (.ref C_Work)
  n_Work_making : NoAttr K C_Work "making"
  n_Work_hands : NoAttr K C_Work "hands"
  n_Work_boxes : NoAttr K C_Work "boxes"
  n_Work_claim : NoAttr K C_Work "claim"
  n_Work_places : NoAttr K C_Work "places"
  n_Work_names : NoAttr K C_Work "names"
  n_Work_events : NoAttr K C_Work "events"
  n_Work_broken : NoAttr K C_Work "broken"
  C_Search : Addr
  cl_Search : Cls K C_Search
  g_Search : mg "Search" = some (.ref C_Search)
  n_Search_making : NoAttr K C_Search "making"
  n_Search_most : NoAttr K C_Search "most"
  n_Search_known : NoAttr K C_Search "known"
  n_Search_met : NoAttr K C_Search "met"
  n_Search_came : NoAttr K C_Search "came"
  Work_init : Md K C_Work "__init__" "Work.__init__" s_Work_init ["self", "making", "stand"]
  Work_stand : Md K C_Work "stand" "Work.stand" s_Work_stand ["self"]
  Work_rows : Md K C_Work "rows" "Work.rows" s_Work_rows ["self", "k"]
  Work_names_of : Md K C_Work "names_of" "Work.names_of" s_Work_names_of ["self", "k"]
  Work_break_by : Md K C_Work "break_by" "Work.break_by" s_Work_break_by ["self", "word", "k"]
  Work_number : Md K C_Work "number" "Work.number" s_Work_number ["self", "k", "expression"]
  Work_set_number : Md K C_Work "set_number" "Work.set_number" s_Work_set_number ["self", "k", "name", "number"]
  Work_step : Md K C_Work "step" "Work.step" s_Work_step ["self", "k", "pick"]
  Work_begin : Md K C_Work "begin" "Work.begin" s_Work_begin ["self", "k", "pick"]
  Work_put_step : Md K C_Work "put_step" "Work.put_step" s_Work_put_step ["self", "k", "row", "place"]
  Work_beside : Md K C_Work "beside" "Work.beside" s_Work_beside ["self", "place", "number"]
  Work_get_step : Md K C_Work "get_step" "Work.get_step" s_Work_get_step ["self", "k", "row", "place", "pick"]
  Work_go_on : Md K C_Work "go_on" "Work.go_on" s_Work_go_on ["self", "k", "at"]
  Work_led_on : Md K C_Work "led_on" "Work.led_on" s_Work_led_on ["self", "k", "row", "at"]
  Work_tell : Md K C_Work "tell" "Work.tell" s_Work_tell ["self", "k", "number"]
  Work_end : Md K C_Work "end" "Work.end" s_Work_end ["self", "k", "event"]
  Search_init : Md K C_Search "__init__" "Search.__init__" s_Search_init ["self", "making", "most"]
  Search_meet : Md K C_Search "meet" "Search.meet" s_Search_meet ["self", "stand", "came"]
  Search_way_to : Md K C_Search "way_to" "Search.way_to" s_Search_way_to ["self", "at"]
  Search_go_on_from : Md K C_Search "go_on_from" "Search.go_on_from" s_Search_go_on_from ["self", "at"]
  mk_Work : L2.Mk K C_Work Work_init.a
  mk_Search : L2.Mk K C_Search Search_init.a
  b_len : mg "len" = none
  b_list : mg "list" = none
  b_tuple : mg "tuple" = none
  b_range : mg "range" = none
  b_enumerate : mg "enumerate" = none
  b_sorted : mg "sorted" = none
  b_set : mg "set" = none
  b_dict : mg "dict" = none
  b_zip : mg "zip" = none
  b_int : mg "int" = none
  b_isinstance : mg "isinstance" = none
  b_min : mg "min" = none
  b_max : mg "max" = none
  b_bool : mg "bool" = none
  b_str : mg "str" = none
  t_IDLE : Tok
  c_IDLE : mg "IDLE" = some (.int (-1) t_IDLE)
  t_WRITERS_WORTH : Tok
  c_WRITERS_WORTH : mg "WRITERS_WORTH" = some (.str "v" t_WRITERS_WORTH)
end SB
set_option maxRecDepth 100000
set_option maxHeartbeats 8000000
/-! readers_of, with_one, told_beside, with_worths. -/
namespace SB
open PySem L2 PyProof.Rows
theorem spD_len {A : List SV → (Dt → Prop) → Prop} {n : Nat} {vs : List V} {H : Hp} {Q : VK} {E : XK} (h : spD A vs H Q E) (hl : ∀ ss R, A ss R → ss.length = n) : vs.length = n := by
  obtain ⟨ss, R, hA, hv, _⟩ := h
  rw [hv.len]; exact hl ss R hA
theorem spL_len {A : List SV → (List Dt → Prop) → Prop} {n : Nat} {vs : List V} {H : Hp} {Q : VK} {E : XK} (h : spL A vs H Q E) (hl : ∀ ss R, A ss R → ss.length = n) : vs.length = n := by
  obtain ⟨ss, R, hA, hv, _⟩ := h
  rw [hv.len]; exact hl ss R hA
theorem sIx_nat {n d i : Nat} (h : i ≤ n) : HT.sIx n d (some (i : Int)) = i := by
  rw [HT.sIx_nat]
  omega
theorem cutD_to {ks : List Dt} {i : Nat} (h : i ≤ ks.length) : cutD ks none (some (i : Int)) = ks.take i := by
  unfold cutD
  rw [sIx_nat h]
  show (ks.drop 0).take (i - 0) = _
  rfl
theorem cutD_from {ks : List Dt} {i : Nat} (h : i ≤ ks.length) : cutD ks (some (i : Int)) none = ks.drop i := by
  unfold cutD
  rw [sIx_nat h]
  show (ks.drop i).take (ks.length - i) = _
  exact List.take_of_length_le (by rw [List.length_drop]; exact Nat.le_refl _)
theorem kd_ne {n : Nat} : (kdT n = ("whole" : Str)) ↔ ¬ n = 0 ∧ ¬ n = 1 := by
  unfold kdT
  by_cases h : n = 0
  · rw [if_pos h]
    exact ⟨fun z => absurd z (by decide +kernel), fun z => absurd h z.1⟩
  · rw [if_neg h]
    by_cases h1 : n = 1
    · rw [if_pos h1]
      exact ⟨fun z => absurd z (by decide +kernel), fun z => absurd h1 z.2⟩
    · rw [if_neg h1]
      exact ⟨fun _ => ⟨h, h1⟩, fun _ => rfl⟩
theorem kd_safe {n : Nat} : (kdT n = ("safe" : Str)) ↔ n = 0 := by
  unfold kdT
  by_cases h : n = 0
  · rw [if_pos h]
    exact ⟨fun _ => h, fun _ => rfl⟩
  · rw [if_neg h]
    by_cases h1 : n = 1
    · rw [if_pos h1]
      exact ⟨fun z => absurd z (by decide +kernel), fun z => absurd z h⟩
    · rw [if_neg h1]
      exact ⟨fun z => absurd z (by decide +kernel), fun z => absurd z h⟩
section
variable {P : Program} {w : World} {K : PySem.W.Frag} {mg : Str → Option Value} {base : Heap}
def A_readers_of : List SV → (Dt → Prop) → Prop := fun ss R => ∃ M : Mk, MkOk M ∧ ss = [.d M.dt] ∧ R = (· = .num (M.rd : Int))
theorem ok_readers_of (T : Txt K mg) : FnOk P w K mg base CX0 2 T.readers_of.a T.readers_of.d ["making"] (spD A_readers_of) := by
  refine fun_okC T.readers_of.F sc_readers_of (fun vs H Q E h => ?_) (fun cdv A outer s H vs Q E hcd hr h => ?_)
  · exact spD_len h fun ss R ⟨M, _, e, _⟩ => by rw [e]; rfl
  obtain ⟨ss, R, ⟨M, hM, rfl, rfl⟩, hv, q⟩ := h
  have hs := slots_start ["making"] hv
  refine ⟨_, (pss_one (ps_ret (pe_op op_sub (pe_callB call_len (by rfl) T.b_len PySem.boot_len (pa_cons (pe_ix ix_seq (pv 0) pe_int (fun _ _ => rfl)) pa_nil)) pe_int))), ?_⟩
  refine s_retD (s := .d (.num (M.rd : Int))) (Ed.is (ed_sub (ed_len (ed_ix (ed_var hs) ed_int rfl)) ed_int) ?_) fun v H1 e h1 => q v H1 _ e h1 rfl
  have h2 := hM.hl
  unfold Mk.rd
  rw [List.length_map]
  refine congrArg NestedKey.num ?_
  omega
/-- a tuple with another thing at one place -/
def A_with_one : List SV → (Dt → Prop) → Prop := fun ss R => ∃ (ks : List Dt) (i : Nat) (k : Dt), i < ks.length ∧ ks.length ≤ 1000 ∧ ss = [.d (.tup ks), .d (.num (i : Int)), .d k] ∧ R = (· = .tup (ks.set i k))
theorem ok_with_one (T : Txt K mg) : FnOk P w K mg base CX0 1 T.with_one.a T.with_one.d ["row", "place", "thing"] (spD A_with_one) := by
  refine fun_okC T.with_one.F sc_with_one (fun vs H Q E h => ?_) (fun cdv A outer s H vs Q E hcd hr h => ?_)
  · exact spD_len h fun ss R ⟨_, _, _, _, _, e, _⟩ => by rw [e]; rfl
  obtain ⟨ss, R, ⟨ks, i, k, hi, hz, rfl, rfl⟩, hv, q⟩ := h
  have hs := slots_start ["row", "place", "thing"] hv
  refine ⟨_, (pss_one (ps_ret (pe_op op_addX (pe_op op_addX (pe_slice sl_X (pv 0) po_none (po_some (pv 1))) (pe_tup (pa_cons (pv 2) pa_nil))) (pe_slice sl_X (pv 0) (po_some (pe_op op_addX (pv 1) pe_int)) po_none)))), ?_⟩
  refine s_retD (s := .d (.tup (ks.set i k))) (Ed.is (ed_cat (ed_cat (ed_sl (ed_var hs) eo_none (eo_some (ed_var hs))) (ed_tup [k] (ea_cons (ed_var hs) ea_nil) (by simp)) ?_) (ed_sl (ed_var hs) (eo_some (ed_add (ed_var hs) ed_int)) eo_none) ?_) ?_) fun v H1 e h1 => q v H1 _ e h1 rfl
  · rw [cutD_to (by omega), List.length_take]
    simp only [List.length_cons, List.length_nil]
    omega
  · have e1 : ((i : Int) + 1) = ((i + 1 : Nat) : Int) := by omega
    rw [cutD_to (by omega), e1, cutD_from (by omega), List.length_append, List.length_take, List.length_drop]
    simp only [List.length_cons, List.length_nil]
    omega
  · have e1 : ((i : Int) + 1) = ((i + 1 : Nat) : Int) := by omega
    rw [cutD_to (by omega), e1, cutD_from (by omega), List.set_eq_take_append_cons_drop, if_pos hi]
    simp
/-! what is called with a list -/
def spLD (A : List Dt → (Dt → Prop) → Prop) : Sp := fun vs H Q _ => ∃ p xs ks R, vs = [.ref p] ∧ H p = some (.lst xs) ∧ NdAll H xs ks ∧ A ks R ∧ ∀ v H' k, Same H H' → Nd H' v k → R k → Q v H'
def spDL (A : Dt → List Dt → (Dt → Prop) → Prop) : Sp := fun vs H Q _ => ∃ v p xs k ks R, vs = [v, .ref p] ∧ Nd H v k ∧ H p = some (.lst xs) ∧ NdAll H xs ks ∧ A k ks R ∧ ∀ v' H' k', Same H H' → Nd H' v' k' → R k' → Q v' H'
theorem ev_callL {A : List Dt → (Dt → Prop) → Prop} {R : List Dt → Prop} {R' : Dt → Prop} {ta : TE} {σ : L2.St} {H : Hp} {E : XK} (h : El ta σ H R) (hA : ∀ ks, R ks → A ks R') : Ev (tCall (spLD A) [] E (tCons ta tNil)) σ H R' := fun H1 e Q q =>
  h H1 e _ fun p xs H2 ks hp e2 h2 h3 hk => ⟨p, xs, ks, R', rfl, h2, h3, hA ks hk, fun v H3 k e3 h4 hk' => q v H3 k (e2.trans e3) h4 hk'⟩
theorem ev_callDL {A : Dt → List Dt → (Dt → Prop) → Prop} {R : List Dt → Prop} {R' : Dt → Prop} {k : Dt} {ta tb : TE} {σ : L2.St} {H : Hp} {E : XK} (ha : Ed ta σ H (.d k)) (h : El tb σ H R) (hA : ∀ ks, R ks → A k ks R') : Ev (tCall (spDL A) [] E (tCons ta (tCons tb tNil))) σ H R' := fun H1 e Q q =>
  ha H1 e _ fun v H2 e2 hv => h H2 (e.trans e2) _ fun p xs H3 ks hp e3 h2 h3 hk => ⟨v, p, xs, k, ks, R', rfl, Nd.up hv e3, h2, h3, hA ks hk, fun v H4 k e4 h4 hk' => q v H4 k ((e2.trans e3).trans e4) h4 hk'⟩
/-- a new list + a list that stands at p -/
theorem el_catV {ks js : List Dt} {ta tb : TE} {σ : L2.St} {H : Hp} {p : Addr} {ys : List V} (ha : El ta σ H (· = ks)) (hb : Ed tb σ H (.v (.ref p))) (hp : H p = some (.lst ys)) (hn : NdAll H ys js) (hz : ks.length + js.length ≤ 100000) : El (tOp (rAddX K) ta tb) σ H (· = ks ++ js) := fun H1 e Q q =>
  ha H1 e _ fun a xs H2 ks' ha' e2 h2 h3 hk => hb H2 (e.trans e2) _ fun v H3 e3 hv => by
    subst hk
    cases hv
    have e4 := (e.trans e2).trans e3
    refine .inr ⟨a, p, xs, ys, rfl, rfl, e3 _ _ h2, e4 _ _ hp, size_ok (by rw [h3.len, hn.len]; omega), fun r hr => ?_⟩
    exact q r _ _ _ (same_back (e2.trans e3) hr) ((e2.trans e3).trans (same_new hr)) upd_same ((NdAll.app (h3.up e3) (hn.up e4)).up (same_new hr)) rfl
/-- tuple(sorted(set(ints))) -/
theorem ed_rise {l : List Int} {te : TE} {σ : L2.St} {H : Hp} (hsm : smallI l) (h : El te σ H (· = nums l)) : Ed (tCB (rTupOf K) (tCons (tCB (rSortedX P w) (tCons (tCB (rSetX K w) (tCons te tNil)) tNil)) tNil)) σ H (.d (.tup (nums (fourI (memS l))))) := fun H1 e Q q =>
  h H1 e _ fun p xs H2 ks hp e2 h2 h3 hk => by
    subst hk
    have ex := NdAll.ints l xs h3
    subst ex
    refine .inl ⟨p, l, rfl, .inl (SqL.of h2), hsm, fun a ha => ?_⟩
    refine .inl (.inl ⟨a, memS l, rfl, upd_same, fun b hb => ?_⟩)
    refine ⟨b, _, rfl, .inl ⟨SqL.of upd_same, fun c hc => ?_⟩⟩
    exact q _ _ (((e2.trans (same_new ha)).trans (same_new hb)).trans (same_new hc)) (.tup upd_same (nd_ints _))
def A_told_beside : List SV → (List Dt → Prop) → Prop := fun ss R => ∃ (M : Mk) (w : Int), MkOk M ∧ ss = [.d M.dt, .d (.num w)] ∧ R = (· = nums (M.beside w))
theorem ok_told_beside (T : Txt K mg) : FnOk P w K mg base CX0 1 T.told_beside.a T.told_beside.d ["making", "worth"] (spL A_told_beside) := by
  refine fun_okC T.told_beside.F sc_told_beside (fun vs H Q E h => ?_) (fun cdv A outer s H vs Q E hcd hr h => ?_)
  · exact spL_len h fun ss R ⟨_, _, _, e, _⟩ => by rw [e]; rfl
  obtain ⟨ss, R, ⟨M, n, hM, rfl, rfl⟩, hv, q⟩ := h
  have hs := slots_start ["making", "worth"] hv
  have hz := hM.sz
  refine ⟨_, (pss_cons (ps_if (pt_cmpR (op_eqX hr.units) (pe_ix ix_seq (pv 0) pe_int (fun _ _ => rfl)) pe_str (nomark _)) (pss_one (ps_ret (pe_listRg rfl (by rfl) T.b_list (prg_1 (by rfl) T.b_range (pe_ix ix_seq (pv 0) pe_int (fun _ _ => rfl)))))) pss_nil)
      (pss_one (ps_ret (pe_lst (pa_cons (pv 1) pa_nil))))), ?_⟩
  refine s_if (et_test (eb_eq (ed_ix (ed_var hs) ed_int rfl) ed_str)) (fun c H1 e => ?_) (fun c H1 e => ?_)
  · have c0 : M.kd = 0 := kd_safe.mp (by have := of_decide_eq_true c; injection this)
    refine s_retL (el_listRg (ed_ix (ed_var (hs.up e)) ed_int rfl) (by omega) (by omega)) fun p xs H2 ks hp e2 h1 h2 hk => q p xs H2 ks (same_back e hp) (e.trans e2) h1 h2 ?_
    rw [hk]
    unfold Mk.beside
    rw [if_pos c0]
  · have c0 : ¬ M.kd = 0 := fun z => of_decide_eq_false c (by rw [kd_safe.mpr z])
    refine s_retL (el_lst [.num n] (ea_cons (ed_var (hs.up e)) ea_nil) (by simp)) fun p xs H2 ks hp e2 h1 h2 hk => q p xs H2 ks (same_back e hp) (e.trans e2) h1 h2 ?_
    rw [hk]
    unfold Mk.beside
    rw [if_neg c0]
    rfl
def A_with_worths : Dt → List Dt → (Dt → Prop) → Prop := fun k ks R => ∃ (t : Option (List Int)) (ws : List Int), (∀ l, t = some l → smallI l ∧ l.length ≤ 1000) ∧ smallI ws ∧ ws.length ≤ 1000 ∧ k = tellD t ∧ ks = nums ws ∧ R = (· = tellD (withW ws t))
theorem ok_with_worths (T : Txt K mg) : FnOk P w K mg base CX0 1 T.with_worths.a T.with_worths.d ["told", "worths"] (spDL A_with_worths) := by
  refine fun_okC T.with_worths.F sc_with_worths (fun vs H Q E h => ?_) (fun cdv A outer s H vs Q E hcd hr h => ?_)
  · obtain ⟨v, p, xs, k, ks, R, e, _⟩ := h
    rw [e]; rfl
  obtain ⟨v, p, xs, k, ks, R, rfl, hv, hp, hn, ⟨t, ws, ht, hws, hwl, rfl, rfl, rfl⟩, q⟩ := h
  have hs : Slots H (L2.start ["told", "worths"] [v, .ref p]) [.d (tellD t), .v (.ref p)] := slots_start ["told", "worths"] (.cons (s := .d (tellD t)) hv (.cons (s := .v (.ref p)) (show V.ref p = V.ref p from rfl) .nil))
  refine ⟨_, (pss_cons (ps_if (pt_cmp (pc_isN (pv 0))) (pss_one (ps_ret pe_non)) pss_nil)
      (pss_one (ps_ret (pe_callTy call_tuple_of (by rfl) T.b_tuple (by decide +kernel) (pa_cons (pe_callB (cr_sortedX rfl hr) (by rfl) T.b_sorted (by decide +kernel) (pa_cons (pe_callTy (cr_setX rfl) (by rfl) T.b_set (by decide +kernel) (pa_cons (pe_op op_addX (pe_callTy call_list_of (by rfl) T.b_list (by decide +kernel) (pa_cons (pv 0) pa_nil)) (pv 1)) pa_nil)) pa_nil)) pa_nil))))), ?_⟩
  refine s_if (et_test (eb_isN (ed_var hs))) (fun c H1 e => ?_) (fun c H1 e => ?_)
  · refine s_retD (s := .d .none) ed_non fun v H2 e2 h2 => q v H2 _ (e.trans e2) h2 ?_
    cases t with
    | none => rfl
    | some l => have := of_decide_eq_true c; cases this
  · cases t with
    | none => exact absurd rfl (of_decide_eq_false c)
    | some l =>
      obtain ⟨h1, h2⟩ := ht l rfl
      have hs1 := hs.up e
      refine s_retD (s := .d (.tup (nums (fourI (memS (l ++ ws)))))) (ed_rise (fun z hz => ?_) (El.imp (el_catV (el_list (ed_var hs1)) (ev_var hs1) (e _ _ hp) (hn.up e) ?_) fun ks hk => ?_)) fun v H2 e2 h3 => q v H2 _ (e.trans e2) h3 rfl
      · rcases List.mem_append.mp hz with a | a
        · exact h1 z a
        · exact hws z a
      · simp only [nums, List.length_map]
        omega
      · rw [hk]
        simp [nums]
end
end SB
set_option maxRecDepth 100000
set_option maxHeartbeats 8000000
/-! Loops over enumerate; moments_of. -/
namespace SB
open PySem L2 PyProof.Rows
section
variable {K : PySem.W.Frag} {σ : L2.St} {H : Hp} {te : TE} {ks : List Dt} {D : Ends} {tu : TS} {g : TG}
theorem s_forE (h : Ed te σ H (.d (.tup ks))) (q : ∀ H1, Same H H1 → ∃ P : Nat → L2.St → Hp → Prop, P 0 σ H1 ∧ (∀ i σ' H', P i σ' H' → Tx H1 H') ∧
    (∀ (i : Nat) k v σ' H' H'', ks[i]? = some k → P i σ' H' → Same H' H'' → Nd H'' v (.tup [.num (i : Int), k]) → g v σ' H'' fun σ2 H2 => tu { D with nx := P (i + 1), ct := P (i + 1), bk := D.nx } σ2 H2) ∧ ∀ σ' H', P ks.length σ' H' → D.nx σ' H') : tFor (iEnX K (tCons te tNil)) g tu D σ H :=
  .inl (h H (.refl H) _ fun v H1 e h1 => by
    obtain ⟨a, xs, rfl, h4, h5⟩ := Nd.tup_inv h1
    obtain ⟨P, h0, hq, hs, hd⟩ := q H1 e
    refine ⟨a, xs, rfl, SqT.of h4, fun i m σ' H' => m = xs.length - i ∧ i ≤ xs.length ∧ P i σ' H', ⟨xs.length, by simp, Nat.zero_le _, h0⟩, ?_⟩
    rintro i m σ' H' ⟨rfl, hi, p⟩
    have h6 := hq i σ' H' p _ _ h4
    by_cases hlt : i < xs.length
    · refine .inr ⟨⟨SqT.of h6, hlt⟩, P (i + 1), fun σ2 H2 p' => ⟨xs.length - (i + 1), by omega, rfl, hlt, p'⟩, fun x H2 y => ?_⟩
      obtain ⟨T, z, rfl, hT, rfl, hz⟩ := y
      obtain ⟨k, hk, h7⟩ := h5.getV hz
      have s2 : Same H' (upd H' T (.tup [.int (i : Nat), z])) := same_new hT
      exact hs i k _ σ' H' _ hk p s2 (.tup upd_same (.cons (.int _) (.one (Nd.up (h7.tx (hq i σ' H' p)) s2))))
    · have e : i = xs.length := by omega
      subst e
      rw [h5.len] at p
      exact .inl ⟨⟨SqT.of h6, Nat.le_refl _⟩, hd σ' H' p⟩)
/-- .. of a list that stays -/
theorem s_forEL {p : Addr} {xs : List V} (h : Ed te σ H (.v (.ref p))) (hp : H p = some (.lst xs)) (q : ∀ H1, Same H H1 → ∃ P : Nat → L2.St → Hp → Prop, P 0 σ H1 ∧ (∀ i σ' H', P i σ' H' → H' p = some (.lst xs)) ∧
    (∀ (i : Nat) x T σ' H' H'', xs[i]? = some x → P i σ' H' → Same H' H'' → H'' T = some (.tup [.int (i : Int), x]) → g (.ref T) σ' H'' fun σ2 H2 => tu { D with nx := P (i + 1), ct := P (i + 1), bk := D.nx } σ2 H2) ∧ ∀ σ' H', P xs.length σ' H' → D.nx σ' H') : tFor (iEnX K (tCons te tNil)) g tu D σ H :=
  .inr (h H (.refl H) _ fun v H1 e h1 => by
    cases h1
    obtain ⟨P, h0, hq, hs, hd⟩ := q H1 e
    refine ⟨p, xs, rfl, SqL.of (e _ _ hp), fun i m σ' H' => m = xs.length - i ∧ i ≤ xs.length ∧ P i σ' H', ⟨xs.length, by simp, Nat.zero_le _, h0⟩, ?_⟩
    rintro i m σ' H' ⟨rfl, hi, p'⟩
    have h6 := hq i σ' H' p'
    by_cases hlt : i < xs.length
    · refine .inr ⟨⟨xs, xs[i], SqL.of h6, List.getElem?_eq_getElem hlt⟩, P (i + 1), fun σ2 H2 p' => ⟨xs.length - (i + 1), by omega, rfl, hlt, p'⟩, fun x H2 y => ?_⟩
      obtain ⟨T, z, rfl, hT, rfl, hz⟩ := y
      have hz := hz xs (SqL.of h6)
      exact hs i z T σ' H' _ hz p' (same_new hT) upd_same
    · have e : i = xs.length := by omega
      subst e
      exact .inl ⟨⟨xs, SqL.of h6, Nat.le_refl _⟩, hd σ' H' p'⟩)
theorem Slots.forget {H : Hp} : ∀ {σ : L2.St} {ss : List SV} (i : Nat), Slots H σ ss → Slots H σ (ss.set i .u)
  | _, _, _, .nil => .nil
  | _, _, 0, .cons _ t => .cons trivial t
  | _, _, i + 1, .cons q t => .cons q (Slots.forget i t)
theorem nx_of {X : L2.St → Hp → Prop} {r : V → Hp → Prop} {b c : L2.St → Hp → Prop} (h : X σ H) : ({ nx := X, rt := r, bk := b, ct := c } : Ends).nx σ H := h
/-- a statement, then the rest, with a word between them -/
theorem s_seqJ {t rest : TS} (Mid : L2.St → Hp → Prop) (h1 : ∀ N : L2.St → Hp → Prop, (∀ σ' H', Mid σ' H' → N σ' H') → t { D with nx := N } σ H) (h2 : ∀ σ' H', Mid σ' H' → rest D σ' H') : tSeq t rest D σ H := h1 _ h2
/-- a pair that is no data taken apart -/
theorem tg_pair {n m : Nat} {T : Addr} {x y : V} {σ : L2.St} {H : Hp} {Q : L2.St → Hp → Prop} (h : H T = some (.tup [x, y])) (q : Q ((σ.set n (some x)).set m (some y)) H) : gTup K 2 (gCons (gName n) (gCons (gName m) gNil)) (.ref T) σ H Q :=
  ⟨T, _, rfl, SqT.of h, rfl, _, _, rfl, _, _, rfl, rfl, q⟩
end
/-- the moments of a case, in the program's order -/
def moms1 (x : Ca) : List Ca := if 0 ≤ x.c then [⟨x.c, -2, x.ts⟩] else []
def moms2 (x : Ca) (n : Nat) : List Ca := ((List.range n).filter fun i => decide (x.ts[i]? = some (-2))).map fun i => ⟨x.w, x.c, x.ts.set i x.w⟩
def moms (x : Ca) : List Ca := moms1 x ++ moms2 x x.ts.length
theorem mem_moms {x y : Ca} : y ∈ moms x ↔ Mom x y := by
  unfold moms moms1 moms2 Mom
  rw [List.mem_append]
  constructor
  · rintro (h | h)
    · by_cases c : 0 ≤ x.c
      · rw [if_pos c] at h
        exact .inl ⟨c, List.mem_singleton.mp h⟩
      · rw [if_neg c] at h; cases h
    · obtain ⟨i, hi, rfl⟩ := List.mem_map.mp h
      exact .inr ⟨i, of_decide_eq_true (List.mem_filter.mp hi).2, rfl⟩
  · rintro (⟨c, rfl⟩ | ⟨i, hi, rfl⟩)
    · left; rw [if_pos c]; exact List.mem_singleton.mpr rfl
    · right
      exact List.mem_map.mpr ⟨i, List.mem_filter.mpr ⟨List.mem_range.mpr (List.getElem?_eq_some_iff.mp hi).1, decide_eq_true hi⟩, rfl⟩
theorem moms2_succ {x : Ca} {i : Nat} {t : Int} (h : x.ts[i]? = some t) : moms2 x (i + 1) = if t = -2 then moms2 x i ++ [⟨x.w, x.c, x.ts.set i x.w⟩] else moms2 x i := by
  unfold moms2
  rw [List.range_succ, List.filter_append, List.map_append, List.filter_cons, h]
  by_cases c : t = -2
  · rw [if_pos c, c]; rfl
  · rw [if_neg c, if_neg (by simpa using c)]; simp
theorem moms_len (x : Ca) (n : Nat) : (moms1 x ++ moms2 x n).length ≤ n + 1 := by
  have h1 : (moms1 x).length ≤ 1 := by
    unfold moms1
    split <;> simp
  have h2 : (moms2 x n).length ≤ n := by
    unfold moms2
    rw [List.length_map]
    exact Nat.le_trans (List.length_filter_le _ _) (by rw [List.length_range]; exact Nat.le_refl _)
  rw [List.length_append]
  omega
section
variable {P : Program} {w : World} {K : PySem.W.Frag} {mg : Str → Option Value} {base : Heap}
def A_moments_of : List SV → (List Dt → Prop) → Prop := fun ss R => ∃ x : Ca, x.ts.length ≤ 10 ∧ ss = [.d x.dt] ∧ R = (· = (moms x).map Ca.dt)
theorem ok_moments_of (T : Txt K mg) : FnOk P w K mg base CX0 2 T.moments_of.a T.moments_of.d ["case"] (spL A_moments_of) := by
  refine fun_okC T.moments_of.F sc_moments_of (fun vs H Q E h => ?_) (fun cdv A outer s H vs Q E hcd hr h => ?_)
  · exact spL_len h fun ss R ⟨_, _, e, _⟩ => by rw [e]; rfl
  obtain ⟨ss, R, ⟨x, hx, rfl, rfl⟩, hv, q⟩ := h
  have hs := slots_start ["case", "worth", "coming", "tells", "found", "reader", "told"] hv
  refine ⟨_, (pss_cons (ps_asg (pv 0) (pg_tup rfl (pgs_cons (pg_name (i := 1) sc_moments_of.nd rfl (Or.inl rfl)) (pgs_cons (pg_name (i := 2) sc_moments_of.nd rfl (Or.inl rfl)) (pgs_cons (pg_name (i := 3) sc_moments_of.nd rfl (Or.inl rfl)) pgs_nil)))))
      (pss_cons (ps_set (i := 4) sc_moments_of.nd rfl (Or.inl rfl) (pe_lst pa_nil))
      (pss_cons (ps_if (pt_cmpR op_ge (pv 2) pe_int (nomark _)) (pss_one (ps_expr (pe_bm PySem.F.plainAttrs_list PySem.F.slot_list_append PySem.F.type_list_append mt_append (pv 4) (pa_cons (pe_tup (pa_cons (pv 2) (pa_cons (pe_un un_neg pe_int) (pa_cons (pv 3) pa_nil)))) pa_nil)))) pss_nil)
      (pss_cons (ps_for PassesOwn.never rfl (pi_enumX (by rfl) T.b_enumerate (pa_cons (pv 3) pa_nil)) (pg_tup rfl (pgs_cons (pg_name (i := 5) sc_moments_of.nd rfl (Or.inl rfl)) (pgs_cons (pg_name (i := 6) sc_moments_of.nd rfl (Or.inl rfl)) pgs_nil))) (pss_one (ps_if (pt_cmpR (op_eqX hr.units) (pv 6) (pe_un un_neg pe_int) (nomark _)) (pss_one (ps_expr (pe_bm PySem.F.plainAttrs_list PySem.F.slot_list_append PySem.F.type_list_append mt_append (pv 4) (pa_cons (pe_tup (pa_cons (pv 1) (pa_cons (pv 2) (pa_cons (pe_call (ok_with_one T) (hr.mono (by decide)) (by rfl) T.with_one.m T.with_one.F.kp T.with_one.b .nil pass0 (pa_cons (pv 3) (pa_cons (pv 5) (pa_cons (pv 1) pa_nil)))) pa_nil)))) pa_nil)))) pss_nil)))
      (pss_one (ps_ret (pv 4))))))), ?_⟩
  refine s_unp3 hs (ed_var hs) fun σ1 H1 e1 hs1 => ?_
  refine s_setL hs1 (el_lst [] ea_nil (by simp)) fun p xs ks σ2 H2 hk hp1 e2 hp hn hs2 => ?_
  subst hk
  have hp0 : H p = none := same_back e1 hp1
  have e12 := e1.trans e2
  refine nx_of ?_
  refine s_seqJ (fun σ' H' => ∃ ys, H' p = some (.lst ys) ∧ NdAll H' ys ((moms1 x).map Ca.dt) ∧ Same H H' ∧ Slots H' σ' [.d x.dt, .d (.num x.w), .d (.num x.c), .d (.tup (nums x.ts)), .v (.ref p), .u, .u]) (fun N hN => ?_) fun σ3 H3 ⟨ys, hp3, hn3, e3, hs3⟩ => ?_
  · refine s_if (et_test (eb_ge (ed_var hs2) ed_int)) (fun c H3 e3 => ?_) (fun c H3 e3 => ?_)
    · have c := of_decide_eq_true c
      have hs3 := hs2.up e3
      refine s_app (T := "") (e3 _ _ hp) (hn.up e3) (ev_var hs3) (Ed.ev (ed_tup [.num x.c, .num (-2), .tup (nums x.ts)] (ea_cons (ed_var hs3) (ea_cons (ed_neg ed_int) (ea_cons (ed_var hs3) ea_nil))) (by simp))) (by simp) fun v k H4 hk e4 h4 h5 => hN _ _ ⟨_, upd_same, ?_, same_mut ((e12.trans e3).trans e4) hp0, hs3.tx ((tx_of e4).trans (Tx.lst (e4 _ _ (e3 _ _ hp))))⟩
      unfold moms1
      rw [if_pos c]
      subst hk
      exact h5
    · have c := of_decide_eq_false c
      refine hN _ _ ⟨_, e3 _ _ hp, ?_, e12.trans e3, hs2.up e3⟩
      unfold moms1
      rw [if_neg (by omega)]
      exact hn.up e3
  show tSeq (tFor _ _ _) _ _ _ _
  refine s_seqJ (fun σ' H' => ∃ ys, H' p = some (.lst ys) ∧ NdAll H' ys ((moms x).map Ca.dt) ∧ Same H H' ∧ Slots H' σ' [.d x.dt, .d (.num x.w), .d (.num x.c), .d (.tup (nums x.ts)), .v (.ref p), .u, .u]) (fun N hN => ?_) fun σ4 H4 ⟨zs, hp4, hn4, e4, hs4⟩ => ?_
  · refine s_forE (ed_var hs3) fun H4 e4 => ⟨fun i σ' H' => ∃ zs, H' p = some (.lst zs) ∧ NdAll H' zs ((moms1 x ++ moms2 x i).map Ca.dt) ∧ Same H H' ∧ Tx H4 H' ∧ Slots H' σ' [.d x.dt, .d (.num x.w), .d (.num x.c), .d (.tup (nums x.ts)), .v (.ref p), .u, .u], ?_, fun i σ' H' ⟨_, _, _, _, t, _⟩ => t, ?_, ?_⟩
    · refine ⟨ys, e4 _ _ hp3, ?_, e3.trans e4, Tx.refl _, hs3.up e4⟩
      rw [show moms1 x ++ moms2 x 0 = moms1 x by simp [moms2]]
      exact hn3.up e4
    · rintro i k v σ' H' H'' hk ⟨zs, hpz, hnz, ez, tz, hsz⟩ s2 hv2
      obtain ⟨t, ht, rfl⟩ : ∃ t, x.ts[i]? = some t ∧ k = .num t := by
        unfold nums at hk
        rw [List.getElem?_map] at hk
        cases hxt : x.ts[i]? with
        | none => rw [hxt] at hk; cases hk
        | some t => rw [hxt] at hk; exact ⟨t, rfl, (Option.some.inj hk).symm⟩
      have hi : i < x.ts.length := (List.getElem?_eq_some_iff.mp ht).1
      refine tg_tup2 (K := K) (vs := [5, 6]) (by simp) (by simp) H'' σ' v (hsz.up s2) hv2 _ fun σ5 hs5 _ => ?_
      refine s_if (et_test (eb_eq (ed_var hs5) (ed_neg ed_int))) (fun c H6 e6 => ?_) (fun c H6 e6 => ?_)
      · have c : t = -2 := by have := of_decide_eq_true c; injection this
        have hs6 := hs5.up e6
        have hp6 := e6 _ _ (s2 _ _ hpz)
        refine s_app (T := "") hp6 ((hnz.up s2).up e6) (ev_var hs6) (Ed.ev (ed_tup [.num x.w, .num x.c, .tup ((nums x.ts).set i (.num x.w))] (ea_cons (ed_var hs6) (ea_cons (ed_var hs6) (ea_cons (ed_call (ea_cons (ed_var hs6) (ea_cons (ed_var hs6) (ea_cons (ed_var hs6) ea_nil))) ⟨nums x.ts, i, .num x.w, by simpa [nums] using hi, by simp only [nums, List.length_map]; omega, rfl, rfl⟩) ea_nil))) (by simp))) ?_ fun v k H7 hk e7 h7 h8 => ⟨_, upd_same, ?_, same_mut (((ez.trans s2).trans e6).trans e7) hp0, tz.trans (((tx_of s2).trans (tx_of e6)).trans ((tx_of e7).trans (Tx.lst (e7 _ _ hp6)))), ?_⟩
        · rw [List.length_map]
          have := moms_len x i
          omega
        · rw [moms2_succ ht, if_pos c, ← List.append_assoc, List.map_append]
          subst hk
          have e9 : (nums x.ts).set i (.num x.w) = nums (x.ts.set i x.w) := by unfold nums; rw [List.map_set]
          rw [e9] at h8
          exact h8
        · exact ((hs6.tx ((tx_of e7).trans (Tx.lst (e7 _ _ hp6)))).forget 5).forget 6
      · have c : ¬ t = -2 := fun z => of_decide_eq_false c (by rw [z])
        refine ⟨_, e6 _ _ (s2 _ _ hpz), ?_, (ez.trans s2).trans e6, tz.trans ((tx_of s2).trans (tx_of e6)), ((hs5.up e6).forget 5).forget 6⟩
        rw [moms2_succ ht, if_neg c]
        exact (hnz.up s2).up e6
    · rintro σ' H' ⟨zs, hpz, hnz, ez, tz, hsz⟩
      refine hN _ _ ⟨zs, hpz, ?_, ez, hsz⟩
      rw [show (nums x.ts).length = x.ts.length by simp [nums]] at hnz
      exact hnz
  exact s_retD (s := .v (.ref p)) (ev_var hs4) fun v H5 e5 h5 => by
    cases h5
    exact q p zs H5 _ hp0 (e4.trans e5) (e5 _ _ hp4) (hn4.up e5) rfl
end
end SB
set_option maxRecDepth 100000
set_option maxHeartbeats 8000000
/-! The search of closed ends. -/
namespace SB
open PySem L2 PyProof.Rows
def cnt : List Int → Nat
  | [] => 0
  | t :: ts => (if t = -2 then 1 else 0) + cnt ts
theorem cnt_set : ∀ {ts : List Int} {i : Nat} {w : Int}, ts[i]? = some (-2) → w ≠ -2 → cnt (ts.set i w) + 1 = cnt ts
  | [], i, w, h, _ => by simp at h
  | t :: ts, 0, w, h, hw => by
    have e : t = -2 := by simpa using h
    subst e
    show (if w = -2 then 1 else 0) + cnt ts + 1 = (if (-2 : Int) = -2 then 1 else 0) + cnt ts
    rw [if_neg hw, if_pos rfl]
    omega
  | t :: ts, i + 1, w, h, hw => by
    have ih := cnt_set (ts := ts) (i := i) (by simpa using h) hw
    show (if t = -2 then 1 else 0) + cnt (ts.set i w) + 1 = (if t = -2 then 1 else 0) + cnt ts
    omega
theorem cnt_le : ∀ ts : List Int, cnt ts ≤ ts.length
  | [] => Nat.le_refl 0
  | t :: ts => by
    have ih := cnt_le ts
    show (if t = -2 then 1 else 0) + cnt ts ≤ ts.length + 1
    split <;> omega
theorem cnt_filter : ∀ ts : List Int, ((List.range ts.length).filter fun i => decide (ts[i]? = some (-2))).length = cnt ts
  | [] => rfl
  | t :: ts => by
    have ih := cnt_filter ts
    show ((List.range (ts.length + 1)).filter fun i => decide ((t :: ts)[i]? = some (-2))).length = (if t = -2 then 1 else 0) + cnt ts
    rw [List.range_succ_eq_map, List.filter_cons, List.filter_map, ← ih]
    have e : ((fun i => decide ((t :: ts)[i]? = some (-2))) ∘ Nat.succ) = fun i => decide (ts[i]? = some (-2)) := by
      funext i
      simp
    rw [e]
    by_cases c : t = -2
    · subst c
      simp
      omega
    · simp [c]
def pot (x : Ca) : Nat := (if 0 ≤ x.c then 1 else 0) + cnt x.ts
theorem moms_pot (x : Ca) : (moms x).length = pot x := by
  unfold moms moms1 moms2 pot
  rw [List.length_append, List.length_map, cnt_filter]
  split <;> rfl
theorem mom_pot {x y : Ca} (hw : 0 ≤ x.w) (m : Mom x y) : pot y + 1 = pot x ∧ 0 ≤ y.w ∧ y.ts.length = x.ts.length := by
  rcases m with ⟨h0, rfl⟩ | ⟨i, hi, rfl⟩
  · refine ⟨?_, h0, rfl⟩
    unfold pot
    show (if (0 : Int) ≤ -2 then 1 else 0) + cnt x.ts + 1 = _
    rw [if_neg (by decide), if_pos h0]
    omega
  · refine ⟨?_, hw, by simp⟩
    unfold pot
    have := cnt_set (w := x.w) hi (by omega)
    show (if 0 ≤ x.c then 1 else 0) + cnt (x.ts.set i x.w) + 1 = _
    omega
def wt (x : Ca) : Nat := 4 ^ pot x
def wts : List Ca → Nat
  | [] => 0
  | x :: l => wt x + wts l
theorem wts_app : ∀ a b : List Ca, wts (a ++ b) = wts a + wts b
  | [], b => by simp [wts]
  | x :: a, b => by
    show wt x + wts (a ++ b) = wt x + wts a + wts b
    rw [wts_app a b]
    omega
theorem wts_le {l : List Ca} {n : Nat} (h : ∀ x ∈ l, wt x ≤ n) : wts l ≤ l.length * n := by
  induction l with
  | nil => simp [wts]
  | cons x l ih =>
    have h1 := h x List.mem_cons_self
    have h2 := ih fun y hy => h y (List.mem_cons_of_mem _ hy)
    show wt x + wts l ≤ (l.length + 1) * n
    rw [Nat.add_mul]
    omega
theorem wt_pos (x : Ca) : 1 ≤ wt x := Nat.pos_of_ne_zero (by unfold wt; exact Nat.pos_iff_ne_zero.mp (Nat.pow_pos (by decide)))
theorem len_wts : ∀ l : List Ca, l.length ≤ wts l
  | [] => Nat.le_refl 0
  | x :: l => by
    have := len_wts l
    have := wt_pos x
    show l.length + 1 ≤ wt x + wts l
    omega
theorem moms_wts {x : Ca} (hw : 0 ≤ x.w) (h3 : pot x ≤ 3) : wts (moms x) < wt x := by
  by_cases h : pot x = 0
  · have : moms x = [] := List.eq_nil_of_length_eq_zero (by rw [moms_pot, h])
    rw [this]
    exact wt_pos x
  · have h1 : wts (moms x) ≤ (moms x).length * 4 ^ (pot x - 1) := wts_le fun y hy => by
      have := (mom_pot hw (mem_moms.mp hy)).1
      unfold wt
      rw [show pot y = pot x - 1 by omega]
      exact Nat.le_refl _
    rw [moms_pot] at h1
    have h2 : wt x = 4 * 4 ^ (pot x - 1) := by
      unfold wt
      conv => lhs; rw [show pot x = pot x - 1 + 1 by omega]
      rw [Nat.pow_succ]
      omega
    have h4 : 0 < 4 ^ (pot x - 1) := Nat.pow_pos (by decide)
    have h5 : pot x * 4 ^ (pot x - 1) ≤ 3 * 4 ^ (pot x - 1) := Nat.mul_le_mul_right _ h3
    omega
theorem wt_le {x : Ca} (h : pot x ≤ 3) : wt x ≤ 64 := by
  unfold wt
  exact Nat.pow_le_pow_right (by decide) h
/-- a turn of the search: what is seen, what waits -/
structure CloInv (cs seen qu : List Ca) : Prop where
  from1 : ∀ x ∈ seen, Reach cs x
  from2 : ∀ x ∈ qu, Reach cs x
  base : ∀ x ∈ cs, x ∈ seen ∨ x ∈ qu
  next : ∀ x ∈ seen, ∀ y, Mom x y → y ∈ seen ∨ y ∈ qu
  nd : seen.Nodup
theorem CloInv.done {cs seen : List Ca} (h : CloInv cs seen []) {out : List Ca} (hp : out.Perm seen) : Clo cs out := by
  refine ⟨hp.nodup_iff.mpr h.nd, fun x => ?_⟩
  rw [hp.mem_iff]
  refine ⟨h.from1 x, fun r => ?_⟩
  induction r with
  | base m =>
    rcases h.base _ m with q | q
    · exact q
    · cases q
  | step r m ih =>
    rcases h.next _ ih _ m with q | q
    · exact q
    · cases q
theorem CloInv.old {cs seen qu : List Ca} {x : Ca} (h : CloInv cs seen (qu ++ [x])) (hx : x ∈ seen) : CloInv cs seen qu := by
  have k : ∀ y, y ∈ seen ∨ y ∈ qu ++ [x] → y ∈ seen ∨ y ∈ qu := fun y hy => by
    rcases hy with q | q
    · exact .inl q
    · rcases List.mem_append.mp q with q | q
      · exact .inr q
      · rw [List.mem_singleton.mp q]; exact .inl hx
  exact ⟨h.from1, fun y hy => h.from2 y (List.mem_append_left _ hy), fun y hy => k y (h.base y hy), fun y hy z m => k z (h.next y hy z m), h.nd⟩
theorem CloInv.new {cs seen qu : List Ca} {x : Ca} (h : CloInv cs seen (qu ++ [x])) (hx : x ∉ seen) : CloInv cs (seen ++ [x]) (qu ++ moms x) := by
  have rx : Reach cs x := h.from2 x (List.mem_append_right _ (List.mem_singleton.mpr rfl))
  have k : ∀ y, y ∈ seen ∨ y ∈ qu ++ [x] → y ∈ seen ++ [x] ∨ y ∈ qu ++ moms x := fun y hy => by
    rcases hy with q | q
    · exact .inl (List.mem_append_left _ q)
    · rcases List.mem_append.mp q with q | q
      · exact .inr (List.mem_append_left _ q)
      · exact .inl (List.mem_append_right _ q)
  refine ⟨fun y hy => ?_, fun y hy => ?_, fun y hy => k y (h.base y hy), fun y hy z m => ?_, ?_⟩
  · rcases List.mem_append.mp hy with q | q
    · exact h.from1 y q
    · rw [List.mem_singleton.mp q]; exact rx
  · rcases List.mem_append.mp hy with q | q
    · exact h.from2 y (List.mem_append_left _ q)
    · exact .step rx (mem_moms.mp q)
  · rcases List.mem_append.mp hy with q | q
    · exact k z (h.next y q z m)
    · rw [List.mem_singleton.mp q] at m
      exact .inr (List.mem_append_right _ (mem_moms.mpr m))
  · rw [List.nodup_append]
    exact ⟨h.nd, by simp, fun a ha b hb e => hx (by rw [List.mem_singleton.mp hb] at e; rw [← e]; exact ha)⟩
end SB

set_option maxRecDepth 100000
set_option maxHeartbeats 8000000
/-! closed. -/
namespace SB
open PySem L2 PyProof.Rows
section
variable {K : PySem.W.Frag} {σ : L2.St} {H : Hp} {te ta tb : TE} {ks js : List Dt} {D : Ends} {tu : TS} {g : TG} {ss : List SV}
theorem dpL {p : Addr} {xs : List V} (hp : H p = some (.lst xs)) (hn : NdAll H xs ks) : Dp K H (.ref p) (.list (NestedKey.datas ks)) := .lst (SqL.of hp) (NdAll.dp ks xs hn)
theorem beqAll_dec (a b : List Dt) : NestedKey.beqAll a b = decide (a = b) := by
  have h := beq_dec (.tup a) (.tup b)
  have e : NestedKey.beq (.tup a) (.tup b) = NestedKey.beqAll a b := by simp only [NestedKey.beq]
  rw [← e, h]
  by_cases c : a = b
  · rw [decide_eq_true c, decide_eq_true (by rw [c])]
  · rw [decide_eq_false c, decide_eq_false fun z => c (by injection z)]
/-- a list that stands beside a new empty one -/
theorem eb_neL {p : Addr} {xs : List V} (ha : Ed ta σ H (.v (.ref p))) (hp : H p = some (.lst xs)) (hn : NdAll H xs ks) (f : okTs ks = true) (g : NestedKey.depthAll ks ≤ 60) : Ed (tOp (rNeX K) ta (tLst tNil)) σ H (.v (.bl (!decide (ks = [])))) := fun H1 e Q q =>
  ha H1 e _ fun v H2 e2 h2 => (el_lst [] ea_nil (by simp) : El (tLst tNil) σ H _) H2 (e.trans e2) _ fun p' ys H3 js hp' e3 h3 h4 hj => by
    cases h2
    subst hj
    have e5 := (e.trans e2).trans e3
    refine .inr ⟨_, _, dpL (e5 _ _ hp) (hn.up e5), dpL h3 h4, shaped_list f g, shaped_list rfl (by simp [NestedKey.depthAll]), q _ H3 (e2.trans e3) ?_⟩
    show V.bl _ = V.bl _
    have : PyData.eqv (.list (NestedKey.datas ks)) (.list (NestedKey.datas [])) = PyData.eqvAll (NestedKey.datas ks) (NestedKey.datas []) := by simp only [PyData.eqv]
    rw [this, eqv_datas, beqAll_dec]
theorem eb_eqL {p : Addr} {xs : List V} (ha : Ed ta σ H (.v (.ref p))) (hp : H p = some (.lst xs)) (hn : NdAll H xs ks) (f : okTs ks = true) (g : NestedKey.depthAll ks ≤ 60) : Ed (tOp (rEqX K) ta (tLst tNil)) σ H (.v (.bl (decide (ks = [])))) := fun H1 e Q q =>
  ha H1 e _ fun v H2 e2 h2 => (el_lst [] ea_nil (by simp) : El (tLst tNil) σ H _) H2 (e.trans e2) _ fun p' ys H3 js hp' e3 h3 h4 hj => by
    cases h2
    subst hj
    have e5 := (e.trans e2).trans e3
    refine .inr ⟨_, _, dpL (e5 _ _ hp) (hn.up e5), dpL h3 h4, shaped_list f g, shaped_list rfl (by simp [NestedKey.depthAll]), q _ H3 (e2.trans e3) ?_⟩
    show V.bl _ = V.bl _
    have : PyData.eqv (.list (NestedKey.datas ks)) (.list (NestedKey.datas [])) = PyData.eqvAll (NestedKey.datas ks) (NestedKey.datas []) := by simp only [PyData.eqv]
    rw [this, eqv_datas, beqAll_dec]
/-- while, by a word and a measure -/
theorem s_while {c : TT} (Pv : Nat → L2.St → Hp → Prop) {m : Nat} (h0 : Pv m σ H) (hs : ∀ m σ' H', Pv m σ' H' → ∃ b, Eb c σ' H' b ∧
    (b = true → ∀ H1, Same H' H1 → tu { D with nx := fun σ2 H2 => ∃ m', m' < m ∧ Pv m' σ2 H2, ct := fun σ2 H2 => ∃ m', m' < m ∧ Pv m' σ2 H2, bk := D.nx } σ' H1) ∧ (b = false → ∀ H1, Same H' H1 → D.nx σ' H1)) : tWhile c tu D σ H := by
  refine ⟨Pv, ⟨m, h0⟩, fun m σ' H' p => ?_⟩
  obtain ⟨b, hb, h1, h2⟩ := hs m σ' H' p
  refine hb H' (.refl _) _ fun H1 e => ?_
  cases b with
  | true => exact ⟨_, fun _ _ z => z, h1 rfl H1 e⟩
  | false => exact h2 rfl H1 e
/-- x not in a dict with such keys -/
theorem eb_notInN {P : Program} {w : World} {d : Addr} {l : List Dt} (ha : Ed ta σ H (.d (.tup l))) (hb : Ed tb σ H (.v (.ref d))) (hd : DictAt P w H d ks) (h8 : (NestedKey.tup l).depth ≤ 8) : Ed (tOp (rInN P w true) ta tb) σ H (.v (.bl (!decide (NestedKey.tup l ∈ ks)))) := fun H1 e Q q =>
  ha H1 e _ fun v H2 e2 h2 => hb H2 (e.trans e2) _ fun v' H3 e3 h3 => by
    cases h3
    have h4 := Nd.up h2 e3
    obtain ⟨a, xs, rfl, _, _⟩ := h4.tup_inv
    exact ⟨a, d, ks, _, rfl, rfl, hd.up ((e.trans e2).trans e3), h4, h8, q _ H3 (e2.trans e3) rfl⟩
theorem eb_inN {P : Program} {w : World} {d : Addr} {l : List Dt} (ha : Ed ta σ H (.d (.tup l))) (hb : Ed tb σ H (.v (.ref d))) (hd : DictAt P w H d ks) (h8 : (NestedKey.tup l).depth ≤ 8) : Ed (tOp (rInN P w false) ta tb) σ H (.v (.bl (decide (NestedKey.tup l ∈ ks)))) := fun H1 e Q q =>
  ha H1 e _ fun v H2 e2 h2 => hb H2 (e.trans e2) _ fun v' H3 e3 h3 => by
    cases h3
    have h4 := Nd.up h2 e3
    obtain ⟨a, xs, rfl, _, _⟩ := h4.tup_inv
    exact ⟨a, d, ks, _, rfl, rfl, hd.up ((e.trans e2).trans e3), h4, h8, q _ H3 (e2.trans e3) rfl⟩
/-- d[k] = True, k new -/
theorem s_putN {P : Program} {w : World} {d : Addr} {l : List Dt} (hb : Ed tb σ H (.v (.ref d))) (ha : Ed ta σ H (.d (.tup l))) (hd : DictAt P w H d ks) (h8 : (NestedKey.tup l).depth ≤ 8) (hn : NestedKey.tup l ∉ ks) (hz : ks.length < 100000)
    (q : ∀ ob H1, Same H H1 → DictAt P w (upd H1 d ob) d (ks ++ [.tup l]) → Tx H1 (upd H1 d ob) → D.nx σ (upd H1 d ob)) : tAsg (tC (.bl true)) (gSub tb ta (rSetN P w)) D σ H :=
  hb H (.refl H) _ fun v H1 e h1 => ha H1 e _ fun v' H2 e2 h2 => by
    cases h1
    obtain ⟨a, xs, rfl, _, _⟩ := h2.tup_inv
    exact ⟨d, a, ks, _, rfl, rfl, rfl, hd.up (e.trans e2), h2, h8, hn, size_lt hz, fun ob h3 h4 => q ob H2 (e.trans e2) h3 h4⟩
/-- tuple(sorted(d)) -/
theorem ev_sortedN {P : Program} {w : World} {d : Addr} (hb : Ed tb σ H (.v (.ref d))) (hd : DictAt P w H d ks) (hc : ∀ k ∈ ks, caseD k) : Ev (tCB (rTupOf K) (tCons (tCB (rSortedX P w) (tCons tb tNil)) tNil)) σ H fun k => ∃ js : List Dt, js.Perm ks ∧ k = .tup js := fun H1 e Q q =>
  hb H1 e _ fun v H2 e2 h2 => by
    cases h2
    refine .inr ⟨d, ks, rfl, hd.up (e.trans e2), hc, fun p xs js hp hj hn => ?_⟩
    refine ⟨p, xs, rfl, .inl ⟨SqL.of upd_same, fun l hl => ?_⟩⟩
    exact q _ _ _ ((e2.trans (same_new hp)).trans (same_new hl)) (.tup upd_same (hn.up (same_new hl))) ⟨js, hj, rfl⟩
theorem DictAt.ne {P : Program} {w : World} {d a : Addr} {xs : List V} (h : DictAt P w H d ks) (ha : H a = some (.lst xs)) : d ≠ a := fun z => by
  obtain ⟨_, h1, _⟩ := h
  rw [z, ha] at h1
  cases h1
theorem snocI {α : Type} {l : List α} (h : l ≠ []) : ∃ a x, l = a ++ [x] := ⟨l.dropLast, l.getLast h, (List.dropLast_concat_getLast h).symm⟩
theorem NdAll.snoc {xs : List V} {k : Dt} (h : NdAll H xs (ks ++ [k])) : ∃ ys v, xs = ys ++ [v] ∧ NdAll H ys ks ∧ Nd H v k := by
  have hl := h.len
  have hne : xs ≠ [] := fun z => by rw [z] at hl; simp at hl
  obtain ⟨ys, v, rfl⟩ := snocI hne
  refine ⟨ys, v, rfl, ?_, ?_⟩
  · have := h.dropLast
    simpa using this
  · have e : ys.length = ks.length := by simpa using hl
    obtain ⟨k', h1, h2⟩ := h.getV (i := ys.length) (v := v) (by simp)
    rw [e] at h1
    simp at h1
    rw [h1]
    exact h2
/-- x = l.pop() -/
theorem s_pop {p : Addr} {xs : List V} {k : Dt} {n : Nat} (hs : Slots H σ ss) (ho : Ed te σ H (.v (.ref p))) (hp : H p = some (.lst xs)) (hn : NdAll H xs (ks ++ [k]))
    (q : ∀ ys σ' H1, Same H H1 → NdAll (upd H1 p (.lst ys)) ys ks → Tx H1 (upd H1 p (.lst ys)) → Slots (upd H1 p (.lst ys)) σ' (ss.set n (.d k)) → D.nx σ' (upd H1 p (.lst ys))) : tAsg (tBM0 K "list" rPop te) (gName n) D σ H := ho H (.refl H) _ fun v0 H1 e1 h0 => by
  cases h0
  refine ⟨.inl ⟨rfl, xs, SqL.of (e1 _ _ hp)⟩, ?_⟩
  obtain ⟨ys, v, rfl, h1, h2⟩ := hn.snoc
  refine ⟨p, ys ++ [v], v, rfl, rfl, e1 _ _ hp, by simp, ?_⟩
  have tx : Tx H1 (upd H1 p (.lst ys)) := Tx.lst (e1 _ _ hp)
  rw [List.dropLast_concat]
  exact q ys _ H1 e1 ((h1.up e1).tx tx) tx (((hs.up e1).tx tx).set (s := .d k) ((h2.up e1).tx tx) n)
end
theorem okT_ca (x : Ca) : okT x.dt = true := by
  show okTs [.num x.w, .num x.c, .tup (nums x.ts)] = true
  simp only [okTs, okT, Bool.and_true, Bool.true_and]
  exact okTs_nums _
theorem depth_ca (x : Ca) : x.dt.depth ≤ 3 := by
  have h := depthAll_nums x.ts
  show NestedKey.depth (.tup [.num x.w, .num x.c, .tup (nums x.ts)]) ≤ 3
  simp only [NestedKey.depth, NestedKey.depthAll]
  omega
theorem okTs_cas (l : List Ca) : okTs (l.map Ca.dt) = true := okTs_of fun k hk => by
  obtain ⟨x, _, rfl⟩ := List.mem_map.mp hk
  exact okT_ca x
theorem depth_cas (l : List Ca) : NestedKey.depthAll (l.map Ca.dt) ≤ 3 := depthAll_le fun k hk => by
  obtain ⟨x, _, rfl⟩ := List.mem_map.mp hk
  exact depth_ca x
theorem case_ca (x : Ca) : caseD x.dt := ⟨x.w, x.c, x.ts, rfl⟩
theorem mem_cas {x : Ca} {l : List Ca} : x.dt ∈ l.map Ca.dt ↔ x ∈ l := by
  rw [List.mem_map]
  constructor
  · rintro ⟨y, hy, e⟩
    rw [← cadt_inj _ _ e]; exact hy
  · intro h; exact ⟨x, h, rfl⟩
theorem nodup_map {l : List Ca} (h : l.Nodup) : (l.map Ca.dt).Nodup := by
  induction l with
  | nil => exact List.nodup_nil
  | cons x l ih =>
    obtain ⟨h1, h2⟩ := List.nodup_cons.mp h
    exact List.nodup_cons.mpr ⟨fun z => h1 (mem_cas.mp z), ih h2⟩
theorem nodup_unmap {l : List Ca} (h : (l.map Ca.dt).Nodup) : l.Nodup := by
  induction l with
  | nil => exact List.nodup_nil
  | cons x l ih =>
    obtain ⟨h1, h2⟩ := List.nodup_cons.mp h
    exact List.nodup_cons.mpr ⟨fun z => h1 (mem_cas.mpr z), ih h2⟩
theorem perm_cas {l : List Ca} {js : List Dt} (h : js.Perm (l.map Ca.dt)) (hl : l.Nodup) : ∃ out : List Ca, js = out.map Ca.dt ∧ out.Nodup ∧ ∀ x, x ∈ out ↔ x ∈ l := by
  have : ∃ out : List Ca, js = out.map Ca.dt := by
    have hm : ∀ j ∈ js, ∃ x : Ca, j = x.dt := fun j hj => by
      obtain ⟨x, _, e⟩ := List.mem_map.mp (h.mem_iff.mp hj)
      exact ⟨x, e.symm⟩
    clear h
    induction js with
    | nil => exact ⟨[], rfl⟩
    | cons j js ih =>
      obtain ⟨x, rfl⟩ := hm j List.mem_cons_self
      obtain ⟨out, rfl⟩ := ih fun y hy => hm y (List.mem_cons_of_mem _ hy)
      exact ⟨x :: out, rfl⟩
  obtain ⟨out, rfl⟩ := this
  exact ⟨out, rfl, nodup_unmap (h.nodup_iff.mpr (nodup_map hl)), fun x => by rw [← mem_cas, h.mem_iff, mem_cas]⟩
theorem CloInv.out {cs seen : List Ca} (h : CloInv cs seen []) {out : List Ca} (hn : out.Nodup) (hm : ∀ x, x ∈ out ↔ x ∈ seen) : Clo cs out := by
  have := h.done (List.Perm.refl seen)
  exact ⟨hn, fun x => (hm x).trans (this.mem x)⟩
section
variable {P : Program} {w : World} {K : PySem.W.Frag} {mg : Str → Option Value} {base : Heap}
structure CsOk (n : Nat) (cs : List Ca) : Prop where
  n2 : n ≤ 2
  len : cs.length ≤ 1300
  ts : ∀ x ∈ cs, x.ts.length = n ∧ 0 ≤ x.w
def A_closed : List Dt → (Dt → Prop) → Prop := fun ks R => ∃ (cs : List Ca) (n : Nat), CsOk n cs ∧ ks = cs.map Ca.dt ∧ R = fun d => ∃ out, Clo cs out ∧ d = (Cl.whole out).dt
theorem ok_closed (T : Txt K mg) : FnOk P w K mg base CX0 3 T.closed.a T.closed.d ["cases"] (spLD A_closed) := by
  refine fun_okC T.closed.F sc_closed (fun vs H Q E h => ?_) (fun cdv A outer s H vs Q E hcd hr h => ?_)
  · obtain ⟨p, xs, ks, R, e, _⟩ := h
    rw [e]; rfl
  obtain ⟨p, xs, ks, R, rfl, hp, hn, ⟨cs, n, hc, rfl, rfl⟩, q⟩ := h
  have hs : Slots H (L2.start ["cases", "found", "queue", "case"] [.ref p]) [.v (.ref p), .u, .u, .u] := slots_start ["cases", "found", "queue", "case"] (.cons (s := .v (.ref p)) (show V.ref p = V.ref p from rfl) .nil)
  refine ⟨_, (pss_cons (ps_set (i := 1) sc_closed.nd rfl (Or.inl rfl) pe_dnewN)
      (pss_cons (ps_set (i := 2) sc_closed.nd rfl (Or.inl rfl) (pe_callTy call_list_of (by rfl) T.b_list (by decide +kernel) (pa_cons (pv 0) pa_nil)))
      (pss_cons (ps_while PassesOwn.never (pt_cmpR (op_neX hr.units) (pv 2) (pe_lst pa_nil) (nomark _)) (pss_cons (ps_set (i := 3) sc_closed.nd rfl (Or.inl rfl) (pe_bm0 PySem.F.plainAttrs_list PySem.F.slot_list_pop PySem.F.type_list_pop mt_pop (pv 2)))
      (pss_one (ps_if (pt_cmpR (op_notInN hr.units) (pv 3) (pv 1) (by rfl)) (pss_cons (ps_asg pe_bl (pg_sub (pv 1) (pv 3) (set_nd hr.units)))
      (pss_one (ps_expr (pe_bm PySem.F.plainAttrs_list PySem.F.slot_list_extend PySem.F.type_list_extend mt_extend (pv 2) (pa_cons (pe_call (ok_moments_of T) (hr.mono (by decide)) (by rfl) T.moments_of.m T.moments_of.F.kp T.moments_of.b .nil pass0 (pa_cons (pv 3) pa_nil)) pa_nil))))) pss_nil))))
      (pss_one (ps_ret (pe_callTy call_tuple_of (by rfl) T.b_tuple (by decide +kernel) (pa_cons (pe_callB (cr_sortedX rfl hr) (by rfl) T.b_sorted (by decide +kernel) (pa_cons (pv 1) pa_nil)) pa_nil))))))), ?_⟩
  -- found = {}
  intro d hd
  have s1 : Same H (upd H d (NDict P w d [])) := same_new hd
  have hs1 := ((hs.up s1).set (s := .v (.ref d)) (v := .ref d) (show V.ref d = V.ref d from rfl) 1)
  refine nx_of (X := tSeq _ _ _) ?_
  refine s_setL hs1 (el_listL (ev_var hs1) (s1 _ _ hp) (hn.up s1)) fun a ys js σ2 H2 hj ha e2 hy hyn hs2 => ?_
  subst hj
  have D2 : DictAt P w H2 d [] := dictAt_new.up e2
  have hd0 : H d = none := hd
  have ha0 : H a = none := same_back s1 ha
  have e02 : Same H H2 := s1.trans e2
  refine nx_of (X := tSeq _ _ _) ?_
  refine s_while (m := wts cs) (fun m σ' H' => ∃ (seen qu : List Ca) (zs : List V), m = wts qu ∧ CloInv cs seen qu ∧ (∀ x ∈ qu, x.ts.length = n ∧ 0 ≤ x.w) ∧ seen.length + wts qu ≤ wts cs ∧ Same H H' ∧ DictAt P w H' d (seen.map Ca.dt) ∧
    H' a = some (.lst zs) ∧ NdAll H' zs (qu.map Ca.dt) ∧ Slots H' σ' [.v (.ref p), .v (.ref d), .v (.ref a), .u])
    ⟨[], cs, ys, rfl, ⟨(fun x h => by cases h), (fun x h => .base h), (fun x h => .inr h), (fun x h => by cases h), List.nodup_nil⟩, hc.ts, by simp, e02, D2, hy, hyn, hs2⟩ ?_
  rintro m σ' H' ⟨seen, qu, zs, rfl, inv, hq, hsz, e, hD, hz, hzn, hs'⟩
  have hwc : wts cs ≤ 83200 := by
    refine Nat.le_trans (wts_le (n := 64) fun x hx => wt_le ?_) (by have := hc.len; omega)
    unfold pot
    have h1 := cnt_le x.ts
    have h2 := (hc.ts x hx).1
    have h3 := hc.n2
    split <;> omega
  have hlq := len_wts qu
  refine ⟨_, et_test (eb_neL (ev_var hs') hz hzn (okTs_cas qu) (Nat.le_trans (depth_cas qu) (by decide))), fun c H3 e3 => ?_, fun c H3 e3 => ?_⟩
  · have hne : qu ≠ [] := fun z => by rw [z] at c; revert c; decide
    obtain ⟨qu', x, rfl⟩ := snocI hne
    obtain ⟨hx1, hx2⟩ := hq x (List.mem_append_right _ (List.mem_singleton.mpr rfl))
    rw [wts_app] at hsz ⊢
    have hw1 : wts [x] = wt x := by show wt x + 0 = wt x; rfl
    rw [hw1] at hsz ⊢
    have hp3 : pot x ≤ 3 := by
      unfold pot
      have h1 := cnt_le x.ts
      have h3 := hc.n2
      split <;> omega
    have hmw := moms_wts hx2 hp3
    have hpos := wt_pos x
    have hs3 := hs'.up e3
    rw [List.map_append] at hzn
    refine s_pop hs3 (ev_var hs3) (e3 _ _ hz) (hzn.up e3) fun zs' σ4 H4 e4 hz4 tx4 hs4 => ?_
    have hz4' : (upd H4 a (.lst zs')) a = some (.lst zs') := upd_same
    have hD4' := hD.up (e3.trans e4)
    have nda : d ≠ a := hD4'.ne (e4 _ _ (e3 _ _ hz))
    have hD4 : DictAt P w (upd H4 a (.lst zs')) d (seen.map Ca.dt) := hD4'.move tx4 fun o ho => by rw [upd_ne nda]; exact ho
    have e5 : Same H (upd H4 a (.lst zs')) := same_mut ((e.trans e3).trans e4) ha0
    refine nx_of (X := tIfS _ _ _ _) ?_
    refine s_if (et_test (eb_notInN (ed_var hs4) (ev_var hs4) hD4 (Nat.le_trans (depth_ca x) (by decide)))) (fun c H5 e6 => ?_) (fun c H5 e6 => ?_)
    · have c : (!decide (x.dt ∈ seen.map Ca.dt)) = true := c
      have hxn : x ∉ seen := fun z => by rw [decide_eq_true (mem_cas.mpr z)] at c; cases c
      have hs6 := hs4.up e6
      have hls : (seen.map Ca.dt).length < 100000 := by rw [List.length_map]; omega
      refine s_putN (l := [.num x.w, .num x.c, .tup (nums x.ts)]) (ev_var hs6) (ed_var hs6) (hD4.up e6) (Nat.le_trans (depth_ca x) (by decide)) (fun z => hxn (mem_cas.mp z)) hls fun ob H7 e7 hD7 tx7 => ?_
      have hz7 : (upd H7 d ob) a = some (.lst zs') := by rw [upd_ne (Ne.symm nda)]; exact e7 _ _ (e6 _ _ hz4')
      have hs7 := (hs6.up e7).tx tx7
      have hzn7 : NdAll (upd H7 d ob) zs' (qu'.map Ca.dt) := ((hz4.up e6).up e7).tx tx7
      refine nx_of (X := tDrop _ _) ?_
      refine s_ext hz7 hzn7 (ev_var hs7) (el_call (R := fun ks => ks = (moms x).map Ca.dt) (ea_cons (ed_var hs7) ea_nil) ⟨x, by rw [hx1]; have := hc.n2; omega, rfl, rfl⟩) (fun js hj => ?_) fun ws js H8 hj e8 h8 => ?_
      · rw [hj, List.length_map, List.length_map, moms_pot]
        have := len_wts qu'
        omega
      · subst hj
        have tx8 : Tx H8 (upd H8 a (.lst (zs' ++ ws))) := Tx.lst (e8 _ _ hz7)
        refine ⟨wts (qu' ++ moms x), by rw [wts_app]; omega, seen ++ [x], qu' ++ moms x, zs' ++ ws, rfl, inv.new hxn, fun y hy => ?_, by rw [wts_app, List.length_append]; simp only [List.length_cons, List.length_nil]; omega, ?_, ?_, upd_same, ?_, ?_⟩
        · rcases List.mem_append.mp hy with z | z
          · exact hq y (List.mem_append_left _ z)
          · obtain ⟨_, z1, z2⟩ := mom_pot hx2 (mem_moms.mp z)
            exact ⟨z2.trans hx1, z1⟩
        · exact same_mut ((same_mut ((e5.trans e6).trans e7) hd0).trans e8) ha0
        · rw [List.map_append]
          exact (hD7.up e8).move tx8 fun o ho => by rw [upd_ne nda]; exact ho
        · rw [List.map_append]
          exact h8
        · exact ((hs7.up e8).tx tx8).forget 3
    · have c : (!decide (x.dt ∈ seen.map Ca.dt)) = false := c
      have hxs : x ∈ seen := by
        have : decide (x.dt ∈ seen.map Ca.dt) = true := by cases h : decide (x.dt ∈ seen.map Ca.dt) with | true => rfl | false => rw [h] at c; cases c
        exact mem_cas.mp (of_decide_eq_true this)
      refine ⟨wts qu', by omega, seen, qu', zs', rfl, inv.old hxs, fun y hy => hq y (List.mem_append_left _ hy), by omega, e5.trans e6, hD4.up e6, e6 _ _ hz4', hz4.up e6, (hs4.up e6).forget 3⟩
  · have hqe : qu = [] := by
      have c' : decide (qu.map Ca.dt = []) = true := by cases h : decide (qu.map Ca.dt = []) with | true => rfl | false => rw [h] at c; cases c
      exact List.map_eq_nil_iff.mp (of_decide_eq_true c')
    subst hqe
    have hs3 := hs'.up e3
    refine nx_of (X := tRet _ _) ?_
    refine s_ret (ev_sortedN (ev_var hs3) (hD.up e3) fun k hk => ?_) fun v H4 k e4 h4 hk => ?_
    · obtain ⟨x, _, rfl⟩ := List.mem_map.mp hk
      exact case_ca x
    · obtain ⟨js, hj, rfl⟩ := hk
      obtain ⟨out, rfl, h5, h6⟩ := perm_cas hj inv.nd
      exact q v H4 _ ((e.trans e3).trans e4) h4 ⟨out, inv.out h5 h6, rfl⟩
end
end SB
set_option maxRecDepth 100000
set_option maxHeartbeats 8000000
/-! Comprehensions over typed lists; t * n. -/
namespace SB
open PySem L2 PyProof.Rows
section
variable {α : Type} {K : PySem.W.Frag} {σ : L2.St} {H : Hp} {te tx ta tb : TE} {t : TT} {g : TG} {ss : List SV} {ks : List Dt}
theorem eb_yes : Eb tYes σ H true := fun H1 e Q q => q H1 (.refl _)
def outM (f : α → Bool) (r : α → Dt) (l : List α) : List Dt := (l.filter f).map r
theorem outM_len (f : α → Bool) (r : α → Dt) (l : List α) : (outM f r l).length ≤ l.length := by
  unfold outM
  rw [List.length_map]
  exact List.length_filter_le _ _
theorem outM_succ {f : α → Bool} {r : α → Dt} {l : List α} {i : Nat} {a : α} (h : l[i]? = some a) : (if f a = true then outM f r (l.take i) ++ [r a] else outM f r (l.take i)) = outM f r (l.take (i + 1)) := by
  rw [take_succ h]
  unfold outM
  rw [List.filter_append, List.map_append, List.filter_cons]
  cases f a with
  | true => rfl
  | false => simp
theorem map_get {enc : α → Dt} {l : List α} {i : Nat} {k : Dt} (h : (l.map enc)[i]? = some k) : ∃ a, l[i]? = some a ∧ k = enc a := by
  rw [List.getElem?_map] at h
  cases e : l[i]? with
  | none => rw [e] at h; cases h
  | some a => rw [e] at h; exact ⟨a, rfl, (Option.some.inj h).symm⟩
theorem el_lcM {vs : List Nat} (enc : α → Dt) (l : List α) (hs : Slots H σ ss) (f : α → Bool) (r : α → Dt) (h : Ed te σ H (.d (.tup (l.map enc)))) (hz : l.length < 50000) (ss' : α → List SV) (ht : ∀ a ∈ l, Tg K g vs (wipeS ss vs) (enc a) (ss' a))
    (hb : ∀ a ∈ l, ∀ σ2 H2, Same H H2 → Slots H2 σ2 (ss' a) → Eb t σ2 H2 (f a)) (he : ∀ a ∈ l, f a = true → ∀ σ2 H2, Same H H2 → Slots H2 σ2 (ss' a) → Ed tx σ2 H2 (.d (r a))) :
    El (tLc (iTup K te) g t tx vs) σ H (· = outM f r l) := fun H0 e0 Q q => h H0 e0 _ fun v H1 e h1 => by
  obtain ⟨a, xs, rfl, h4, h5⟩ := Nd.tup_inv h1
  have hlen : xs.length = l.length := by rw [h5.len, List.length_map]
  refine ⟨a, rfl, ⟨xs, SqT.of h4⟩, fun Dl hD => lc_tup (K := K) (a := a) (xs := xs) (fun i H' => Cw H1 Dl (outM f r (l.take i)) H') ⟨same_new hD, [], upd_same, .nil⟩ (fun i H' _ c => SqT.of (c.1 _ _ h4)) (fun i x H' hi c => ?_) (fun H' c => ?_)⟩
  · obtain ⟨k, hk, h6⟩ := h5.getV hi
    obtain ⟨b, hb1, rfl⟩ := map_get hk
    have hm : b ∈ l := List.mem_of_getElem? hb1
    have e1 := (e0.trans e).trans c.1
    have hi' : i < l.length := (List.getElem?_eq_some_iff.mp hb1).1
    refine ht b hm H' _ x ((hs.wipe vs).up e1) (h6.up c.1) _ fun σ' hs' hw => ⟨by rw [hw]; exact wipe_wipe _ _, ?_⟩
    have := cw_turn (t := t) (te := tx) (σ2 := σ') (f := f b) (kv := r b) hD c (Nat.lt_of_le_of_lt (outM_len _ _ _) (by rw [List.length_take]; omega)) (hb b hm σ' H' e1 hs') (fun hf => he b hm hf σ' H' e1 hs')
    rw [outM_succ hb1] at this
    exact this
  · rw [hlen, List.take_length] at c
    obtain ⟨c1, ys, c2, c3⟩ := c
    exact q Dl ys H' _ (same_back e hD) (e.trans c1) c2 c3 rfl
theorem el_lcL {vs : List Nat} (enc : α → Dt) (l : List α) (hs : Slots H σ ss) (f : α → Bool) (r : α → Dt) {p : Addr} {xs : List V} (h : Ed te σ H (.v (.ref p))) (hp : H p = some (.lst xs)) (hn : NdAll H xs (l.map enc)) (hz : l.length < 50000) (ss' : α → List SV) (ht : ∀ a ∈ l, Tg K g vs (wipeS ss vs) (enc a) (ss' a))
    (hb : ∀ a ∈ l, ∀ σ2 H2, Same H H2 → Slots H2 σ2 (ss' a) → Eb t σ2 H2 (f a)) (he : ∀ a ∈ l, f a = true → ∀ σ2 H2, Same H H2 → Slots H2 σ2 (ss' a) → Ed tx σ2 H2 (.d (r a))) :
    El (tLc (iList K te) g t tx vs) σ H (· = outM f r l) := fun H0 e0 Q q => h H0 e0 _ fun v H1 e h1 => by
  cases h1
  have h4 := (e0.trans e) _ _ hp
  have h5 := hn.up (e0.trans e)
  have hlen : xs.length = l.length := by rw [h5.len, List.length_map]
  refine ⟨p, rfl, ⟨xs, SqL.of h4⟩, fun Dl hD => lc_list (K := K) (a := p) (xs := xs) (fun i H' => Cw H1 Dl (outM f r (l.take i)) H') ⟨same_new hD, [], upd_same, .nil⟩ (fun i H' _ c => SqL.of (c.1 _ _ h4)) (fun i x H' hi c => ?_) (fun H' c => ?_)⟩
  · obtain ⟨k, hk, h6⟩ := h5.getV hi
    obtain ⟨b, hb1, rfl⟩ := map_get hk
    have hm : b ∈ l := List.mem_of_getElem? hb1
    have e1 := (e0.trans e).trans c.1
    have hi' : i < l.length := (List.getElem?_eq_some_iff.mp hb1).1
    refine ht b hm H' _ x ((hs.wipe vs).up e1) (h6.up c.1) _ fun σ' hs' hw => ⟨by rw [hw]; exact wipe_wipe _ _, ?_⟩
    have := cw_turn (t := t) (te := tx) (σ2 := σ') (f := f b) (kv := r b) hD c (Nat.lt_of_le_of_lt (outM_len _ _ _) (by rw [List.length_take]; omega)) (hb b hm σ' H' e1 hs') (fun hf => he b hm hf σ' H' e1 hs')
    rw [outM_succ hb1] at this
    exact this
  · rw [hlen, List.take_length] at c
    obtain ⟨c1, ys, c2, c3⟩ := c
    exact q Dl ys H' _ (same_back e hD) (e.trans c1) c2 c3 rfl
/-- a tuple, n times -/
theorem ed_rep {n : Nat} (ha : Ed ta σ H (.d (.tup ks))) (hb : Ed tb σ H (.d (.num (n : Int)))) (h0 : ks ≠ []) (hz : ks.length ≤ 1000) (hn : n ≤ 1000) : Ed (tOp (rMulX K) ta tb) σ H (.d (.tup (List.replicate n ks).flatten)) := fun H1 e Q q =>
  ha H1 e _ fun v H2 e2 h2 => hb H2 (e.trans e2) _ fun v' H3 e3 h3 => by
    obtain ⟨a, xs, rfl, h4, h5⟩ := (Nd.up h2 e3).tup_inv
    cases h3
    have hx : xs ≠ [] := fun z => h0 (by rw [z] at h5; cases h5; rfl)
    refine .inr ?_
    match n, q with
    | 0, q => exact .inr ⟨a, _, xs, rfl, rfl, SqT.of h4, hx, .inr ⟨rfl, fun p hp => q _ _ ((e2.trans e3).trans (same_new hp)) (.tup upd_same .nil)⟩⟩
    | 1, q =>
      refine .inr ⟨a, _, xs, rfl, rfl, SqT.of h4, hx, .inl ⟨rfl, q _ _ (e2.trans e3) ?_⟩⟩
      rw [show (List.replicate 1 ks).flatten = ks by simp]
      exact .tup h4 h5
    | m + 2, q =>
      refine .inl ⟨a, _, xs, rfl, rfl, SqT.of h4, hx, by omega, by omega, by rw [h5.len]; exact hz, fun p hp => q _ _ ((e2.trans e3).trans (same_new hp)) (.tup upd_same ?_)⟩
      rw [Int.toNat_natCast]
      exact (h5.rep (m + 2)).up (same_new hp)
theorem rep_one {k : Dt} (n : Nat) : (List.replicate n [k]).flatten = List.replicate n k := by
  induction n with
  | zero => rfl
  | succ n ih => rw [List.replicate_succ, List.flatten_cons, ih, List.replicate_succ]; rfl
theorem nums_rep (n : Nat) (i : Int) : List.replicate n (NestedKey.num i) = nums (List.replicate n i) := by
  unfold nums
  rw [List.map_replicate]
end
end SB
set_option maxRecDepth 100000
set_option maxHeartbeats 8000000
/-! A whole claim has few cases. -/
namespace SB
open PySem L2 PyProof.Rows
theorem nodup_lt : ∀ (N : Nat) (l : List Nat), l.Nodup → (∀ x ∈ l, x < N) → l.length ≤ N
  | 0, l, _, h => by
    cases l with
    | nil => exact Nat.le_refl 0
    | cons x l => exact absurd (h x List.mem_cons_self) (Nat.not_lt_zero _)
  | N + 1, l, nd, h => by
    by_cases hm : N ∈ l
    · have ih := nodup_lt N (l.erase N) (nd.erase N) fun x hx => by
        have h1 := h x (List.mem_of_mem_erase hx)
        have h2 : x ≠ N := fun e => nd.not_mem_erase (by rw [e] at hx; exact hx)
        omega
      have := List.length_erase_of_mem hm
      omega
    · have ih := nodup_lt N l nd fun x hx => by
        have h1 := h x hx
        have h2 : x ≠ N := fun e => hm (by rw [← e]; exact hx)
        omega
      omega
def tcode : List Int → Nat
  | [] => 0
  | t :: ts => (t + 2).toNat + 5 * tcode ts
theorem tcode_inj : ∀ {a b : List Int}, a.length = b.length → (∀ t ∈ a, -2 ≤ t ∧ t < 3) → (∀ t ∈ b, -2 ≤ t ∧ t < 3) → tcode a = tcode b → a = b
  | [], [], _, _, _, _ => rfl
  | [], _ :: _, h, _, _, _ => by cases h
  | _ :: _, [], h, _, _, _ => by cases h
  | x :: a, y :: b, h, ha, hb, e => by
    have e : (x + 2).toNat + 5 * tcode a = (y + 2).toNat + 5 * tcode b := e
    have h1 := ha x List.mem_cons_self
    have h2 := hb y List.mem_cons_self
    have ih := tcode_inj (by simpa using h) (fun t ht => ha t (List.mem_cons_of_mem _ ht)) (fun t ht => hb t (List.mem_cons_of_mem _ ht)) (show tcode a = tcode b by omega)
    rw [ih, show x = y by omega]
theorem tcode_lt : ∀ {a : List Int}, (∀ t ∈ a, -2 ≤ t ∧ t < 3) → tcode a < 5 ^ a.length
  | [], _ => by decide
  | x :: a, h => by
    have h1 := h x List.mem_cons_self
    have ih := tcode_lt fun t ht => h t (List.mem_cons_of_mem _ ht)
    show (x + 2).toNat + 5 * tcode a < 5 ^ (a.length + 1)
    rw [Nat.pow_succ]
    omega
def code (x : Ca) : Nat := x.w.toNat + 3 * ((x.c + 2).toNat + 5 * tcode x.ts)
theorem MkOk.rd2 {M : Mk} (O : MkOk M) : M.rd ≤ 2 := by
  have := O.hl
  unfold Mk.rd
  omega
theorem cases_few {M : Mk} (O : MkOk M) {cs : List Ca} (h : ClOk M (.whole cs)) : cs.length ≤ 1300 := by
  obtain ⟨_, nd, hx⟩ := h.whole _ rfl
  have hz := O.sz
  have b : ∀ x ∈ cs, (∀ t ∈ x.ts, -2 ≤ t ∧ t < 3) := fun x hx' t ht => by
    have := (hx x hx').2.2.2 t ht
    omega
  have inj : ∀ x ∈ cs, ∀ y ∈ cs, code x = code y → x = y := fun x h1 y h2 e => by
    obtain ⟨a1, a2, a3, a4⟩ := hx x h1
    obtain ⟨b1, b2, b3, b4⟩ := hx y h2
    have e : x.w.toNat + 3 * ((x.c + 2).toNat + 5 * tcode x.ts) = y.w.toNat + 3 * ((y.c + 2).toNat + 5 * tcode y.ts) := e
    have e1 : x.w = y.w := by omega
    have e2 : x.c = y.c := by omega
    have e3 : x.ts = y.ts := tcode_inj (a3.trans b3.symm) (b x h1) (b y h2) (by omega)
    obtain ⟨xw, xc, xt⟩ := x
    obtain ⟨yw, yc, yt⟩ := y
    simp only at e1 e2 e3
    rw [e1, e2, e3]
  have nd2 : (cs.map code).Nodup := by
    clear b hx h
    induction cs with
    | nil => exact List.nodup_nil
    | cons x l ih =>
      obtain ⟨h1, h2⟩ := List.nodup_cons.mp nd
      refine List.nodup_cons.mpr ⟨fun z => ?_, ih h2 fun a ha b hb => inj a (List.mem_cons_of_mem _ ha) b (List.mem_cons_of_mem _ hb)⟩
      obtain ⟨y, hy, e⟩ := List.mem_map.mp z
      have := inj y (List.mem_cons_of_mem _ hy) x List.mem_cons_self e
      rw [this] at hy
      exact h1 hy
  have := nodup_lt 375 (cs.map code) nd2 fun z hz' => by
    obtain ⟨x, h1, rfl⟩ := List.mem_map.mp hz'
    obtain ⟨a1, a2, a3, a4⟩ := hx x h1
    have h3 := tcode_lt (b x h1)
    have h4 : 5 ^ x.ts.length ≤ 25 := by
      rw [a3]
      exact Nat.pow_le_pow_right (by decide) O.rd2
    unfold code
    omega
  rw [List.length_map] at this
  omega
theorem cs_ok {M : Mk} (O : MkOk M) {cs ds : List Ca} (h : ClOk M (.whole cs)) (hl : ds.length ≤ cs.length) (hd : ∀ x ∈ ds, x.ts.length = M.rd ∧ 0 ≤ x.w) : CsOk M.rd ds :=
  ⟨O.rd2, Nat.le_trans hl (cases_few O h), hd⟩
end SB
set_option maxRecDepth 100000
set_option maxHeartbeats 8000000
/-! The claims: begun, writes, written. -/
namespace SB
open PySem L2 PyProof.Rows
theorem kd_whole {M : Mk} (O : MkOk M) : (kdT M.kd = ("whole" : Str)) ↔ M.kd = 2 := by
  have := O.kd
  rw [kd_ne]
  omega
theorem txt_eq {x y : Str} : (NestedKey.text x = NestedKey.text y) ↔ x = y := ⟨fun h => by injection h, fun h => by rw [h]⟩
theorem num_eq {x y : Int} : (NestedKey.num x = NestedKey.num y) ↔ x = y := ⟨fun h => by injection h, fun h => by rw [h]⟩
section
variable {P : Program} {w : World} {K : PySem.W.Frag} {mg : Str → Option Value} {base : Heap}
def A_claim_begun : List SV → (Dt → Prop) → Prop := fun ss R => ∃ M : Mk, MkOk M ∧ ss = [.d M.dt] ∧ R = (· = M.claim0.dt)
theorem ok_claim_begun (T : Txt K mg) : FnOk P w K mg base CX0 3 T.claim_begun.a T.claim_begun.d ["making"] (spD A_claim_begun) := by
  refine fun_okC T.claim_begun.F sc_claim_begun (fun vs H Q E h => ?_) (fun cdv A outer s H vs Q E hcd hr h => ?_)
  · exact spD_len h fun ss R ⟨M, _, e, _⟩ => by rw [e]; rfl
  obtain ⟨ss, R, ⟨M, hM, rfl, rfl⟩, hv, q⟩ := h
  have hs := slots_start ["making"] hv
  have h2 := hM.rd2
  refine ⟨_, (pss_cons (ps_if (pt_cmpR (op_eqX hr.units) (pe_ix ix_seq (pv 0) pe_int (fun _ _ => rfl)) pe_str (nomark _)) (pss_one (ps_ret (pe_tup (pa_cons (pe_tup (pa_cons (pe_ix ix_seq (pv 0) pe_int (fun _ _ => rfl)) (pa_cons (pe_un un_neg pe_int) (pa_cons (pe_op op_mulX (pe_tup (pa_cons (pe_un un_neg pe_int) pa_nil)) (pe_call (ok_readers_of T) (hr.mono (by decide)) (by rfl) T.readers_of.m T.readers_of.F.kp T.readers_of.b .nil pass0 (pa_cons (pv 0) pa_nil))) pa_nil)))) pa_nil)))) pss_nil)
      (pss_one (ps_ret (pe_tup (pa_cons (pe_ix ix_seq (pv 0) pe_int (fun _ _ => rfl)) (pa_cons (pe_un un_neg pe_int) (pa_cons (pe_op op_mulX (pe_tup (pa_cons pe_non pa_nil)) (pe_call (ok_readers_of T) (hr.mono (by decide)) (by rfl) T.readers_of.m T.readers_of.F.kp T.readers_of.b .nil pass0 (pa_cons (pv 0) pa_nil))) pa_nil))))))), ?_⟩
  refine s_if (et_test (eb_eq (ed_ix (ed_var hs) ed_int rfl) ed_str)) (fun c H1 e => ?_) (fun c H1 e => ?_)
  · have c2 : M.kd = 2 := (kd_whole hM).mp (txt_eq.mp (of_decide_eq_true c))
    have hs1 := hs.up e
    refine s_retD (s := .d M.claim0.dt) (Ed.is (ed_tup [.tup [.num M.bg, .num (-1), .tup (List.replicate M.rd [.num (-1)]).flatten]] (ea_cons (ed_tup [.num M.bg, .num (-1), .tup (List.replicate M.rd [.num (-1)]).flatten]
      (ea_cons (ed_ix (ed_var hs1) ed_int rfl) (ea_cons (ed_neg ed_int) (ea_cons (ed_rep (ed_tup [.num (-1)] (ea_cons (ed_neg ed_int) ea_nil) (by simp)) (ed_call (ea_cons (ed_var hs1) ea_nil) ⟨M, hM, rfl, rfl⟩) (by simp) (by simp) (by omega)) ea_nil))) (by simp)) ea_nil) (by simp)) ?_) fun v H2 e2 h3 => q v H2 _ (e.trans e2) h3 rfl
    unfold Mk.claim0
    rw [if_pos c2, rep_one, nums_rep]
    rfl
  · have c2 : ¬ M.kd = 2 := fun z => of_decide_eq_false c (txt_eq.mpr ((kd_whole hM).mpr z))
    have hs1 := hs.up e
    refine s_retD (s := .d M.claim0.dt) (Ed.is (ed_tup [.num M.bg, .num (-1), .tup (List.replicate M.rd [.none]).flatten]
      (ea_cons (ed_ix (ed_var hs1) ed_int rfl) (ea_cons (ed_neg ed_int) (ea_cons (ed_rep (ed_tup [.none] (ea_cons ed_non ea_nil) (by simp)) (ed_call (ea_cons (ed_var hs1) ea_nil) ⟨M, hM, rfl, rfl⟩) (by simp) (by simp) (by omega)) ea_nil))) (by simp)) ?_) fun v H2 e2 h3 => q v H2 _ (e.trans e2) h3 rfl
    unfold Mk.claim0
    rw [if_neg c2, rep_one]
    show NestedKey.tup [.num M.bg, .num (-1), .tup (List.replicate M.rd .none)] = NestedKey.tup [.num M.bg, .num (-1), .tup ((List.replicate M.rd (none : Option (List Int))).map tellD)]
    rw [List.map_replicate]
    rfl
theorem outM_all {α : Type} (r : α → Dt) (l : List α) : outM (fun _ => true) r l = l.map r := by
  unfold outM
  rw [List.filter_eq_self.mpr fun _ _ => rfl]
theorem beside_small {M : Mk} (O : MkOk M) {n : Int} (hn : 0 ≤ n ∧ n < M.sz) : smallI (M.beside n) ∧ (M.beside n).length ≤ 1000 := by
  have hz := O.sz
  refine ⟨fun z hz' => by have := beside_mem hn.1 hn.2 hz'; omega, ?_⟩
  unfold Mk.beside
  split
  · rw [rangeD_len]; omega
  · simp
/-- which shape a claim has -/
theorem cl_shape {M : Mk} {c : Cl} (h : ClOk M c) : (M.kd = 2 ∧ ∃ cs, c = .whole cs) ∨ (M.kd ≠ 2 ∧ ∃ o c' ts, c = .weak o c' ts) := by
  cases c with
  | whole cs => exact .inl ⟨(h.whole _ rfl).1, cs, rfl⟩
  | weak o c' ts => exact .inr ⟨(h.weak _ _ _ rfl).1, o, c', ts, rfl⟩
def A_claim_writes : List SV → (Dt → Prop) → Prop := fun ss R => ∃ (M : Mk) (c : Cl) (n : Int), MkOk M ∧ ClOk M c ∧ (0 ≤ n ∧ n < M.sz) ∧ ss = [.d M.dt, .d c.dt, .d (.num n)] ∧ R = fun d => ∃ c', ClWrites M n c c' ∧ d = c'.dt
theorem ok_claim_writes (T : Txt K mg) : FnOk P w K mg base CX0 4 T.claim_writes.a T.claim_writes.d ["making", "claim", "worth"] (spD A_claim_writes) := by
  refine fun_okC T.claim_writes.F sc_claim_writes (fun vs H Q E h => ?_) (fun cdv A outer s H vs Q E hcd hr h => ?_)
  · exact spD_len h fun ss R ⟨_, _, _, _, _, _, e, _⟩ => by rw [e]; rfl
  obtain ⟨ss, R, ⟨M, c, n, hM, hC, hn, rfl, rfl⟩, hv, q⟩ := h
  have hs := slots_start ["making", "claim", "worth", "old", "coming", "tells", "told"] hv
  have h2 := hM.rd2
  have hz := hM.sz
  refine ⟨_, (pss_cons (ps_if (pt_cmpR (op_eqX hr.units) (pe_ix ix_seq (pv 0) pe_int (fun _ _ => rfl)) pe_str (nomark _)) (pss_one (ps_ret (pe_call (ok_closed T) (hr.mono (by decide)) (by rfl) T.closed.m T.closed.F.kp T.closed.b .nil pass0 (pa_cons (pe_lc (own := [("old", 3), ("coming", 4), ("tells", 5)]) (g := (gTup K 3 (gCons (gName 3) (gCons (gName 4) (gCons (gName 5) gNil))))) (tt := tYes) (te := (tTup (tCons (tVar 3) (tCons (tVar 2) (tCons (tVar 5) tNil))))) rfl sc_claim_writes.nd (pi_tup (pv 1)) (blkOk_by (by kernel_rfl)) (fun _ _ _ _ _ => (pg_tup rfl (pgs_cons (pg_name (i := 3) sc_claim_writes.nd rfl (Or.inl rfl)) (pgs_cons (pg_name (i := 4) sc_claim_writes.nd rfl (Or.inl rfl)) (pgs_cons (pg_name (i := 5) sc_claim_writes.nd rfl (Or.inl rfl)) pgs_nil))))) (fun _ _ _ _ _ => pts_nil) (fun _ _ _ _ _ => (pe_tup (pa_cons (pv 3) (pa_cons (pv 2) (pa_cons (pv 5) pa_nil)))))) pa_nil)))) pss_nil)
      (pss_cons (ps_asg (pv 1) (pg_tup rfl (pgs_cons (pg_name (i := 3) sc_claim_writes.nd rfl (Or.inl rfl)) (pgs_cons (pg_name (i := 4) sc_claim_writes.nd rfl (Or.inl rfl)) (pgs_cons (pg_name (i := 5) sc_claim_writes.nd rfl (Or.inl rfl)) pgs_nil)))))
      (pss_one (ps_ret (pe_tup (pa_cons (pv 3) (pa_cons (pv 2) (pa_cons (pe_callTy call_tuple_of (by rfl) T.b_tuple (by decide +kernel) (pa_cons (pe_lc (own := [("told", 6)]) (g := (gName 6)) (tt := tYes) (te := (tCall (spDL A_with_worths) [] E0 (tCons (tVar 6) (tCons (tCall (spL A_told_beside) [] E0 (tCons (tVar 0) (tCons (tVar 2) tNil))) tNil)))) rfl sc_claim_writes.nd (pi_tup (pv 5)) (blkOk_by (by kernel_rfl)) (fun _ _ _ _ _ => (pg_name (i := 6) sc_claim_writes.nd rfl (Or.inl rfl))) (fun _ _ _ _ _ => pts_nil) (fun _ _ _ _ _ => (pe_call (ok_with_worths T) (hr.mono (by decide)) (by rfl) T.with_worths.m T.with_worths.F.kp T.with_worths.b .nil pass0 (pa_cons (pv 6) (pa_cons (pe_call (ok_told_beside T) (hr.mono (by decide)) (by rfl) T.told_beside.m T.told_beside.F.kp T.told_beside.b .nil pass0 (pa_cons (pv 0) (pa_cons (pv 2) pa_nil))) pa_nil))))) pa_nil)) pa_nil)))))))), ?_⟩
  refine s_if (et_test (eb_eq (ed_ix (ed_var hs) ed_int rfl) ed_str)) (fun cc H1 e => ?_) (fun cc H1 e => ?_)
  · have c2 : M.kd = 2 := (kd_whole hM).mp (txt_eq.mp (of_decide_eq_true cc))
    rcases cl_shape hC with ⟨_, cs, rfl⟩ | ⟨z, _⟩
    · have hs1 := hs.up e
      have hcf := cases_few hM hC
      refine s_ret (ev_callL (el_lcM (vs := [3, 4, 5]) Ca.dt cs hs1 (fun _ => true) (fun x => (⟨x.w, n, x.ts⟩ : Ca).dt) (ed_var hs1) (by omega) (fun x => [.d M.dt, .d (Cl.whole cs).dt, .d (.num n), .d (.num x.w), .d (.num x.c), .d (.tup (nums x.ts)), .u])
        (fun x _ => tg_tup3 (K := K) (by simp) (by simp) (by simp)) (fun x _ σ2 H2 e2 hs2 => eb_yes) (fun x _ _ σ2 H2 e2 hs2 => ed_tup [.num x.w, .num n, .tup (nums x.ts)] (ea_cons (ed_var hs2) (ea_cons (ed_var hs2) (ea_cons (ed_var hs2) ea_nil))) (by simp)))
        (R' := fun d => ∃ out, Clo (cs.map fun x => ⟨x.w, n, x.ts⟩) out ∧ d = (Cl.whole out).dt) fun ks hk => ⟨cs.map fun x => ⟨x.w, n, x.ts⟩, M.rd, cs_ok hM hC (by simp) ?_, ?_, rfl⟩) fun v H2 k e2 h3 hk => q v H2 k (e.trans e2) h3 ?_
      · intro x hx
        obtain ⟨y, hy, rfl⟩ := List.mem_map.mp hx
        have := hC.ca hy
        exact ⟨this.l, this.w.1⟩
      · rw [hk]
        unfold outM
        rw [List.map_map]
        have : cs.filter (fun _ => true) = cs := List.filter_eq_self.mpr fun _ _ => rfl
        rw [this]
        rfl
      · obtain ⟨out, h4, rfl⟩ := hk
        exact ⟨_, .whole h4, rfl⟩
    · exact absurd c2 z
  · have c2 : ¬ M.kd = 2 := fun z => of_decide_eq_false cc (txt_eq.mpr ((kd_whole hM).mpr z))
    rcases cl_shape hC with ⟨z, _⟩ | ⟨_, o, c', ts, rfl⟩
    · exact absurd z c2
    · obtain ⟨_, ho, hcc, hl, hts⟩ := hC.weak _ _ _ rfl
      have hs1 := hs.up e
      refine nx_of (X := tSeq _ _ _) ?_
      refine s_unp3 hs1 (ed_var hs1) fun σ2 H2 e2 hs2 => ?_
      have hsm : ∀ (t : Option (List Int)), t ∈ ts → ∀ l, t = some l → smallI l ∧ l.length ≤ 1000 := fun t ht l e => by
        subst e
        obtain ⟨h5, h6⟩ := hts l ht
        exact ⟨fun z hz' => by have := h6 z hz'; omega, by omega⟩
      have hbs : smallI (M.beside n) ∧ (M.beside n).length ≤ 1000 := beside_small hM hn
      refine s_retD (s := .d (Cl.weak o n (ts.map (withW (M.beside n)))).dt) (Ed.is (ed_tup [.num o, .num n, .tup (outM (fun _ => true) (fun t => tellD (withW (M.beside n) t)) ts)] (ea_cons (ed_var hs2) (ea_cons (ed_var hs2) (ea_cons (Ev.ed (Ev.imp (ev_tupOf (el_lcM (vs := [6]) tellD ts hs2 (fun _ => true) (fun t => tellD (withW (M.beside n) t)) (ed_var hs2) (by omega)
        (fun t => [.d M.dt, .d (Cl.weak o c' ts).dt, .d (.num n), .d (.num o), .d (.num c'), .d (.tup (ts.map tellD)), .d (tellD t)]) (fun t _ => tg_name (K := K) (by simp)) (fun t _ σ3 H3 e3 hs3 => eb_yes) (fun t ht _ σ3 H3 e3 hs3 =>
          Ev.ed (ev_callDL (ed_var hs3) (el_call (ea_cons (ed_var hs3) (ea_cons (ed_var hs3) ea_nil)) ⟨M, n, hM, rfl, rfl⟩) fun ks hk => ⟨t, M.beside n, hsm t ht, hbs.1, hbs.2, rfl, hk, rfl⟩)))) fun k hk => by obtain ⟨ks, h5, h6⟩ := hk; rw [h6, h5])) ea_nil))) (by simp)) ?_) fun v H3 e3 h3 => q v H3 _ ((e.trans e2).trans e3) h3 ⟨_, .weak, rfl⟩
      rw [outM_all]
      show _ = NestedKey.tup [.num o, .num n, .tup ((ts.map (withW (M.beside n))).map tellD)]
      rw [List.map_map]
      rfl
def A_claim_written : List SV → (Dt → Prop) → Prop := fun ss R => ∃ (M : Mk) (c : Cl), MkOk M ∧ ClOk M c ∧ ss = [.d M.dt, .d c.dt] ∧ R = fun d => ∃ c', ClWritten M c c' ∧ d = c'.dt
theorem ok_claim_written (T : Txt K mg) : FnOk P w K mg base CX0 4 T.claim_written.a T.claim_written.d ["making", "claim"] (spD A_claim_written) := by
  refine fun_okC T.claim_written.F sc_claim_written (fun vs H Q E h => ?_) (fun cdv A outer s H vs Q E hcd hr h => ?_)
  · exact spD_len h fun ss R ⟨_, _, _, _, e, _⟩ => by rw [e]; rfl
  obtain ⟨ss, R, ⟨M, c, hM, hC, rfl, rfl⟩, hv, q⟩ := h
  have hs := slots_start ["making", "claim", "old", "coming", "tells", "worth"] hv
  have h2 := hM.rd2
  have hz := hM.sz
  refine ⟨_, (pss_cons (ps_if (pt_cmpR (op_eqX hr.units) (pe_ix ix_seq (pv 0) pe_int (fun _ _ => rfl)) pe_str (nomark _)) (pss_one (ps_ret (pe_call (ok_closed T) (hr.mono (by decide)) (by rfl) T.closed.m T.closed.F.kp T.closed.b .nil pass0 (pa_cons (pe_lc (own := [("worth", 5), ("coming", 3), ("tells", 4)]) (g := (gTup K 3 (gCons (gName 5) (gCons (gName 3) (gCons (gName 4) gNil))))) (tt := tTest (tOp (rEqX K) (tVar 3) (tUn (rU fun i => .int (-i)) (tC (.int 2))))) (te := (tTup (tCons (tVar 5) (tCons (tUn (rU fun i => .int (-i)) (tC (.int 1))) (tCons (tVar 4) tNil))))) rfl sc_claim_written.nd (pi_tup (pv 1)) (blkOk_by (by kernel_rfl)) (fun _ _ _ _ _ => (pg_tup rfl (pgs_cons (pg_name (i := 5) sc_claim_written.nd rfl (Or.inl rfl)) (pgs_cons (pg_name (i := 3) sc_claim_written.nd rfl (Or.inl rfl)) (pgs_cons (pg_name (i := 4) sc_claim_written.nd rfl (Or.inl rfl)) pgs_nil))))) (fun _ _ _ _ _ => (pts_one (pt_cmpR (op_eqX hr.units) (pv 3) (pe_un un_neg pe_int) (nomark _)))) (fun _ _ _ _ _ => (pe_tup (pa_cons (pv 5) (pa_cons (pe_un un_neg pe_int) (pa_cons (pv 4) pa_nil)))))) pa_nil)))) pss_nil)
      (pss_cons (ps_asg (pv 1) (pg_tup rfl (pgs_cons (pg_name (i := 2) sc_claim_written.nd rfl (Or.inl rfl)) (pgs_cons (pg_name (i := 3) sc_claim_written.nd rfl (Or.inl rfl)) (pgs_cons (pg_name (i := 4) sc_claim_written.nd rfl (Or.inl rfl)) pgs_nil)))))
      (pss_one (ps_ret (pe_tup (pa_cons (pv 3) (pa_cons (pe_un un_neg pe_int) (pa_cons (pv 4) pa_nil)))))))), ?_⟩
  refine s_if (et_test (eb_eq (ed_ix (ed_var hs) ed_int rfl) ed_str)) (fun cc H1 e => ?_) (fun cc H1 e => ?_)
  · have c2 : M.kd = 2 := (kd_whole hM).mp (txt_eq.mp (of_decide_eq_true cc))
    rcases cl_shape hC with ⟨_, cs, rfl⟩ | ⟨z, _⟩
    · have hs1 := hs.up e
      have hcf := cases_few hM hC
      refine s_ret (ev_callL (el_lcM (vs := [5, 3, 4]) Ca.dt cs hs1 (fun x => decide (x.c = -2)) (fun x => (⟨x.w, -1, x.ts⟩ : Ca).dt) (ed_var hs1) (by omega) (fun x => [.d M.dt, .d (Cl.whole cs).dt, .u, .d (.num x.c), .d (.tup (nums x.ts)), .d (.num x.w)])
        (fun x _ => tg_tup3 (K := K) (by simp) (by simp) (by simp)) (fun x _ σ2 H2 e2 hs2 => Eb.is (et_test (eb_eq (ed_var hs2) (ed_neg ed_int))) (decide_eq_decide.mpr num_eq)) (fun x _ _ σ2 H2 e2 hs2 => ed_tup [.num x.w, .num (-1), .tup (nums x.ts)] (ea_cons (ed_var hs2) (ea_cons (ed_neg ed_int) (ea_cons (ed_var hs2) ea_nil))) (by simp)))
        (R' := fun d => ∃ out, Clo ((cs.filter fun x => decide (x.c = -2)).map fun x => ⟨x.w, -1, x.ts⟩) out ∧ d = (Cl.whole out).dt) fun ks hk => ⟨_, M.rd, cs_ok hM hC (by rw [List.length_map]; exact List.length_filter_le _ _) ?_, ?_, rfl⟩) fun v H2 k e2 h3 hk => q v H2 k (e.trans e2) h3 ?_
      · intro x hx
        obtain ⟨y, hy, rfl⟩ := List.mem_map.mp hx
        have := hC.ca (List.mem_filter.mp hy).1
        exact ⟨this.l, this.w.1⟩
      · rw [hk]
        unfold outM
        rw [List.map_map]
        rfl
      · obtain ⟨out, h4, rfl⟩ := hk
        exact ⟨_, .whole h4, rfl⟩
    · exact absurd c2 z
  · have c2 : ¬ M.kd = 2 := fun z => of_decide_eq_false cc (txt_eq.mpr ((kd_whole hM).mpr z))
    rcases cl_shape hC with ⟨z, _⟩ | ⟨_, o, c', ts, rfl⟩
    · exact absurd z c2
    · have hs1 := hs.up e
      refine nx_of (X := tSeq _ _ _) ?_
      refine s_unp3 hs1 (ed_var hs1) fun σ2 H2 e2 hs2 => ?_
      exact s_retD (s := .d (Cl.weak c' (-1) ts).dt) (ed_tup [.num c', .num (-1), .tup (ts.map tellD)] (ea_cons (ed_var hs2) (ea_cons (ed_neg ed_int) (ea_cons (ed_var hs2) ea_nil))) (by simp)) fun v H3 e3 h3 => q v H3 _ ((e.trans e2).trans e3) h3 ⟨_, .weak, rfl⟩
end
end SB

set_option maxRecDepth 100000
set_option maxHeartbeats 8000000
/-! The claims: reads, told. -/
namespace SB
open PySem L2 PyProof.Rows
theorem nums_set (l : List Int) (i : Nat) (z : Int) : (nums l).set i (.num z) = nums (l.set i z) := by
  unfold nums
  rw [List.map_set]
theorem nums_get {l : List Int} {i : Nat} {z : Int} (h : l[i]? = some z) : (nums l)[i]? = some (.num z) := by
  unfold nums
  rw [List.getElem?_map, h]
  rfl
theorem atI_nat {α : Type} {l : List α} {i : Nat} {x : α} (h : l[i]? = some x) : atI l (i : Int) = some x := by
  have hl := (List.getElem?_eq_some_iff.mp h).1
  unfold atI
  have : ixN l.length (i : Int) = some i := by
    unfold ixN
    first
      | (rw [if_pos (by omega)]; simp; omega)
      | (simp; omega)
      | simp [hl]
  rw [this]
  exact h
section
variable {P : Program} {w : World} {K : PySem.W.Frag} {mg : Str → Option Value} {base : Heap}
def A_claim_reads : List SV → (Dt → Prop) → Prop := fun ss R => ∃ (M : Mk) (c : Cl) (k : Nat), MkOk M ∧ ClOk M c ∧ k < M.rd ∧ ss = [.d M.dt, .d c.dt, .d (.num (k : Int))] ∧ R = fun d => ∃ c', ClReads M k c c' ∧ d = c'.dt
theorem ok_claim_reads (T : Txt K mg) : FnOk P w K mg base CX0 4 T.claim_reads.a T.claim_reads.d ["making", "claim", "reader"] (spD A_claim_reads) := by
  refine fun_okC T.claim_reads.F sc_claim_reads (fun vs H Q E h => ?_) (fun cdv A outer s H vs Q E hcd hr h => ?_)
  · exact spD_len h fun ss R ⟨_, _, _, _, _, _, e, _⟩ => by rw [e]; rfl
  obtain ⟨ss, R, ⟨M, c, k, hM, hC, hk, rfl, rfl⟩, hv, q⟩ := h
  have hs := slots_start ["making", "claim", "reader", "worth", "coming", "tells", "told"] hv
  have h2 := hM.rd2
  have hz := hM.sz
  refine ⟨_, (pss_cons (ps_if (pt_cmpR (op_eqX hr.units) (pe_ix ix_seq (pv 0) pe_int (fun _ _ => rfl)) pe_str (nomark _)) (pss_one (ps_ret (pe_call (ok_closed T) (hr.mono (by decide)) (by rfl) T.closed.m T.closed.F.kp T.closed.b .nil pass0 (pa_cons (pe_lc (own := [("worth", 3), ("coming", 4), ("tells", 5)]) (g := (gTup K 3 (gCons (gName 3) (gCons (gName 4) (gCons (gName 5) gNil))))) (tt := tYes) (te := (tTup (tCons (tVar 3) (tCons (tVar 4) (tCons (tCall (spD A_with_one) [] E0 (tCons (tVar 5) (tCons (tVar 2) (tCons (tUn (rU fun i => .int (-i)) (tC (.int 2))) tNil)))) tNil))))) rfl sc_claim_reads.nd (pi_tup (pv 1)) (blkOk_by (by kernel_rfl)) (fun _ _ _ _ _ => (pg_tup rfl (pgs_cons (pg_name (i := 3) sc_claim_reads.nd rfl (Or.inl rfl)) (pgs_cons (pg_name (i := 4) sc_claim_reads.nd rfl (Or.inl rfl)) (pgs_cons (pg_name (i := 5) sc_claim_reads.nd rfl (Or.inl rfl)) pgs_nil))))) (fun _ _ _ _ _ => pts_nil) (fun _ _ _ _ _ => (pe_tup (pa_cons (pv 3) (pa_cons (pv 4) (pa_cons (pe_call (ok_with_one T) (hr.mono (by decide)) (by rfl) T.with_one.m T.with_one.F.kp T.with_one.b .nil pass0 (pa_cons (pv 5) (pa_cons (pv 2) (pa_cons (pe_un un_neg pe_int) pa_nil)))) pa_nil)))))) pa_nil)))) pss_nil)
      (pss_cons (ps_asg (pv 1) (pg_tup rfl (pgs_cons (pg_name (i := 3) sc_claim_reads.nd rfl (Or.inl rfl)) (pgs_cons (pg_name (i := 4) sc_claim_reads.nd rfl (Or.inl rfl)) (pgs_cons (pg_name (i := 5) sc_claim_reads.nd rfl (Or.inl rfl)) pgs_nil)))))
      (pss_cons (ps_set (i := 6) sc_claim_reads.nd rfl (Or.inl rfl) (pe_tup (pa_cons (pv 3) pa_nil)))
      (pss_cons (ps_if (pt_cmpR (op_neX hr.units) (pv 4) (pe_un un_neg pe_int) (nomark _)) (pss_one (ps_set (i := 6) sc_claim_reads.nd rfl (Or.inl rfl) (pe_call (ok_with_worths T) (hr.mono (by decide)) (by rfl) T.with_worths.m T.with_worths.F.kp T.with_worths.b .nil pass0 (pa_cons (pv 6) (pa_cons (pe_call (ok_told_beside T) (hr.mono (by decide)) (by rfl) T.told_beside.m T.told_beside.F.kp T.told_beside.b .nil pass0 (pa_cons (pv 0) (pa_cons (pv 4) pa_nil))) pa_nil))))) pss_nil)
      (pss_one (ps_ret (pe_tup (pa_cons (pv 3) (pa_cons (pv 4) (pa_cons (pe_call (ok_with_one T) (hr.mono (by decide)) (by rfl) T.with_one.m T.with_one.F.kp T.with_one.b .nil pass0 (pa_cons (pv 5) (pa_cons (pv 2) (pa_cons (pv 6) pa_nil)))) pa_nil)))))))))), ?_⟩
  refine s_if (et_test (eb_eq (ed_ix (ed_var hs) ed_int rfl) ed_str)) (fun cc H1 e => ?_) (fun cc H1 e => ?_)
  · have c2 : M.kd = 2 := (kd_whole hM).mp (txt_eq.mp (of_decide_eq_true cc))
    rcases cl_shape hC with ⟨_, cs, rfl⟩ | ⟨z, _⟩
    · have hs1 := hs.up e
      have hcf := cases_few hM hC
      refine s_ret (ev_callL (el_lcM (vs := [3, 4, 5]) Ca.dt cs hs1 (fun _ => true) (fun x => (⟨x.w, x.c, x.ts.set k (-2)⟩ : Ca).dt) (ed_var hs1) (by omega) (fun x => [.d M.dt, .d (Cl.whole cs).dt, .d (.num (k : Int)), .d (.num x.w), .d (.num x.c), .d (.tup (nums x.ts)), .u])
        (fun x _ => tg_tup3 (K := K) (by simp) (by simp) (by simp)) (fun x _ σ2 H2 e2 hs2 => eb_yes) (fun x hx _ σ2 H2 e2 hs2 => Ed.is (ed_tup [.num x.w, .num x.c, .tup ((nums x.ts).set k (.num (-2)))] (ea_cons (ed_var hs2) (ea_cons (ed_var hs2) (ea_cons (ed_call (ea_cons (ed_var hs2) (ea_cons (ed_var hs2) (ea_cons (ed_neg ed_int) ea_nil)))
          ⟨nums x.ts, k, .num (-2), by have := (hC.ca hx).l; simp [nums]; omega, by have := (hC.ca hx).l; simp [nums]; omega, rfl, rfl⟩) ea_nil))) (by simp)) (by rw [nums_set]; rfl)))
        (R' := fun d => ∃ out, Clo (cs.map fun x => ⟨x.w, x.c, x.ts.set k (-2)⟩) out ∧ d = (Cl.whole out).dt) fun ks hk => ⟨_, M.rd, cs_ok hM hC (by simp) ?_, ?_, rfl⟩) fun v H2 k e2 h3 hk => q v H2 k (e.trans e2) h3 ?_
      · intro x hx
        obtain ⟨y, hy, rfl⟩ := List.mem_map.mp hx
        have := hC.ca hy
        exact ⟨by rw [List.length_set]; exact this.l, this.w.1⟩
      · rw [hk, outM_all, List.map_map]
        rfl
      · obtain ⟨out, h4, rfl⟩ := hk
        exact ⟨_, .whole h4, rfl⟩
    · exact absurd c2 z
  · have c2 : ¬ M.kd = 2 := fun z => of_decide_eq_false cc (txt_eq.mpr ((kd_whole hM).mpr z))
    rcases cl_shape hC with ⟨z, _⟩ | ⟨_, o, c', ts, rfl⟩
    · exact absurd z c2
    · obtain ⟨_, ho, hcc, hl, hts⟩ := hC.weak _ _ _ rfl
      have hs1 := hs.up e
      refine nx_of (X := tSeq _ _ _) ?_
      refine s_unp3 hs1 (ed_var hs1) fun σ2 H2 e2 hs2 => ?_
      refine nx_of (X := tSeq _ _ _) ?_
      refine s_setD hs2 (s := .d (.tup (nums [o]))) (ed_tup [.num o] (ea_cons (ed_var hs2) ea_nil) (by simp)) fun σ3 H3 e3 hs3 => ?_
      refine nx_of (X := tSeq _ _ _) ?_
      refine s_seqJ (fun σ' H' => Same H H' ∧ Slots H' σ' [.d M.dt, .d (Cl.weak o c' ts).dt, .d (.num (k : Int)), .d (.num o), .d (.num c'), .d (.tup (ts.map tellD)), .d (tellD (M.told0 o c'))]) (fun N hN => ?_) fun σ4 H4 ⟨e4, hs4⟩ => ?_
      · refine s_if (et_test (eb_ne (ed_var hs3) (ed_neg ed_int))) (fun c H4 e4 => ?_) (fun c H4 e4 => ?_)
        · have c : ¬ c' = -1 := fun z => by rw [z] at c; revert c; decide
          have hn : 0 ≤ c' ∧ c' < M.sz := by omega
          have hb := beside_small hM hn
          have hs4 := hs3.up e4
          refine s_set hs4 (ev_callDL (ed_var hs4) (el_call (ea_cons (ed_var hs4) (ea_cons (ed_var hs4) ea_nil)) ⟨M, c', hM, rfl, rfl⟩) fun ks hk => ⟨some [o], M.beside c', fun l hl => by cases hl; exact ⟨fun z hz' => by rw [List.mem_singleton.mp hz']; omega, by simp⟩, hb.1, hb.2, rfl, hk, rfl⟩) fun d σ5 H5 hd e5 hs5 => hN _ _ ⟨(((e.trans e2).trans e3).trans e4).trans e5, ?_⟩
          rw [hd] at hs5
          unfold Mk.told0
          rw [if_neg c]
          exact hs5
        · have c : c' = -1 := by
            by_cases z : c' = -1
            · exact z
            · rw [decide_eq_false fun y => z (num_eq.mp y)] at c; cases c
          refine hN _ _ ⟨((e.trans e2).trans e3).trans e4, ?_⟩
          unfold Mk.told0
          rw [if_pos c]
          exact hs3.up e4
      · refine s_retD (s := .d (Cl.weak o c' (ts.set k (M.told0 o c'))).dt) (Ed.is (ed_tup [.num o, .num c', .tup ((ts.map tellD).set k (tellD (M.told0 o c')))] (ea_cons (ed_var hs4) (ea_cons (ed_var hs4) (ea_cons (ed_call (ea_cons (ed_var hs4) (ea_cons (ed_var hs4) (ea_cons (ed_var hs4) ea_nil)))
          ⟨ts.map tellD, k, _, by rw [List.length_map]; omega, by rw [List.length_map]; omega, rfl, rfl⟩) ea_nil))) (by simp)) ?_) fun v H3 e3 h3 => q v H3 _ (e4.trans e3) h3 ⟨_, .weak, rfl⟩
        show _ = NestedKey.tup [.num o, .num c', .tup ((ts.set k (M.told0 o c')).map tellD)]
        rw [List.map_set]
end
end SB

set_option maxRecDepth 100000
set_option maxHeartbeats 8000000
/-! The claim behind a telling. -/
namespace SB
open PySem L2 PyProof.Rows
section
variable {P : Program} {w : World} {K : PySem.W.Frag} {mg : Str → Option Value} {base : Heap}
def A_claim_told : List SV → (Dt → Prop) → Prop := fun ss R => ∃ (M : Mk) (c : Cl) (k : Nat) (n : Int), MkOk M ∧ ClOk M c ∧ k < M.rd ∧ ReadIn c k ∧ ss = [.d M.dt, .d c.dt, .d (.num (k : Int)), .d (.num n)] ∧
  R = fun d => (∃ c', ClTold M k n c (some c') ∧ d = c'.dt) ∨ (ClTold M k n c none ∧ d = .none)
theorem ok_claim_told (T : Txt K mg) : FnOk P w K mg base CX0 4 T.claim_told.a T.claim_told.d ["making", "claim", "reader", "worth"] (spD A_claim_told) := by
  refine fun_okC T.claim_told.F sc_claim_told (fun vs H Q E h => ?_) (fun cdv A outer s H vs Q E hcd hr h => ?_)
  · exact spD_len h fun ss R ⟨_, _, _, _, _, _, _, _, e, _⟩ => by rw [e]; rfl
  obtain ⟨ss, R, ⟨M, c, k, n, hM, hC, hk, hrd, rfl, rfl⟩, hv, q⟩ := h
  have hs := slots_start ["making", "claim", "reader", "worth", "left", "old", "coming", "tells", "case"] hv
  have h2 := hM.rd2
  have hz := hM.sz
  refine ⟨_, (pss_cons (ps_if (pt_cmpR (op_eqX hr.units) (pe_ix ix_seq (pv 0) pe_int (fun _ _ => rfl)) pe_str (nomark _)) (pss_cons (ps_setLc (i := 4) (own := [("case", 8)]) (g := (gName 8)) (tt := tTest (tOp (rEqX K) (tOp (rIx K) (tOp (rIx K) (tVar 8) (tC (.int 2))) (tVar 2)) (tVar 3))) (te := (tVar 8)) rfl sc_claim_told.nd rfl rfl (sw_true rfl rfl rfl (by decide +kernel)) (pi_tup (pv 1)) (blkOk_by (by kernel_rfl)) (fun _ _ _ _ _ => (pg_name (i := 8) sc_claim_told.nd rfl (Or.inl rfl))) (fun _ _ _ _ _ => (pts_one (pt_cmpR (op_eqX hr.units) (pe_ix ix_seq (pe_ix ix_seq (pv 8) pe_int (fun _ _ => rfl)) (pv 2) (fun _ _ => rfl)) (pv 3) (nomark _)))) (fun _ _ _ _ _ => (pv 8)))
      (pss_cons (ps_if (pt_cmpR (op_eqX hr.units) (pv 4) (pe_lst pa_nil) (nomark _)) (pss_one (ps_ret pe_non)) pss_nil)
      (pss_one (ps_ret (pe_call (ok_closed T) (hr.mono (by decide)) (by rfl) T.closed.m T.closed.F.kp T.closed.b .nil pass0 (pa_cons (pe_lc (own := [("old", 5), ("coming", 6), ("tells", 7)]) (g := (gTup K 3 (gCons (gName 5) (gCons (gName 6) (gCons (gName 7) gNil))))) (tt := tYes) (te := (tTup (tCons (tVar 5) (tCons (tVar 6) (tCons (tCall (spD A_with_one) [] E0 (tCons (tVar 7) (tCons (tVar 2) (tCons (tUn (rU fun i => .int (-i)) (tC (.int 1))) tNil)))) tNil))))) rfl sc_claim_told.nd (pi_list (pv 4)) (blkOk_by (by kernel_rfl)) (fun _ _ _ _ _ => (pg_tup rfl (pgs_cons (pg_name (i := 5) sc_claim_told.nd rfl (Or.inl rfl)) (pgs_cons (pg_name (i := 6) sc_claim_told.nd rfl (Or.inl rfl)) (pgs_cons (pg_name (i := 7) sc_claim_told.nd rfl (Or.inl rfl)) pgs_nil))))) (fun _ _ _ _ _ => pts_nil) (fun _ _ _ _ _ => (pe_tup (pa_cons (pv 5) (pa_cons (pv 6) (pa_cons (pe_call (ok_with_one T) (hr.mono (by decide)) (by rfl) T.with_one.m T.with_one.F.kp T.with_one.b .nil pass0 (pa_cons (pv 7) (pa_cons (pv 2) (pa_cons (pe_un un_neg pe_int) pa_nil)))) pa_nil)))))) pa_nil)))))) pss_nil)
      (pss_cons (ps_asg (pv 1) (pg_tup rfl (pgs_cons (pg_name (i := 5) sc_claim_told.nd rfl (Or.inl rfl)) (pgs_cons (pg_name (i := 6) sc_claim_told.nd rfl (Or.inl rfl)) (pgs_cons (pg_name (i := 7) sc_claim_told.nd rfl (Or.inl rfl)) pgs_nil)))))
      (pss_cons (ps_if (pt_cmpR op_notIn_seq (pv 3) (pe_ix ix_seq (pv 7) (pv 2) (fun _ _ => rfl)) (by rfl)) (pss_one (ps_ret pe_non)) pss_nil)
      (pss_one (ps_ret (pe_tup (pa_cons (pv 5) (pa_cons (pv 6) (pa_cons (pe_call (ok_with_one T) (hr.mono (by decide)) (by rfl) T.with_one.m T.with_one.F.kp T.with_one.b .nil pass0 (pa_cons (pv 7) (pa_cons (pv 2) (pa_cons pe_non pa_nil)))) pa_nil))))))))), ?_⟩
  refine s_if (et_test (eb_eq (ed_ix (ed_var hs) ed_int rfl) ed_str)) (fun cc H1 e => ?_) (fun cc H1 e => ?_)
  · have c2 : M.kd = 2 := (kd_whole hM).mp (txt_eq.mp (of_decide_eq_true cc))
    rcases cl_shape hC with ⟨_, cs, rfl⟩ | ⟨z, _⟩
    · have hs1 := hs.up e
      have hcf := cases_few hM hC
      have hkx : ∀ x ∈ cs, ∃ t, x.ts[k]? = some t := fun x hx => by
        have hl : k < x.ts.length := by rw [(hC.ca hx).l]; exact hk
        exact ⟨_, List.getElem?_eq_getElem hl⟩
      let f : Ca → Bool := fun x => decide (x.ts[k]? = some n)
      refine s_setL hs1 (el_lcM (vs := [8]) Ca.dt cs hs1 f Ca.dt (ed_var hs1) (by omega) (fun x => [.d M.dt, .d (Cl.whole cs).dt, .d (.num (k : Int)), .d (.num n), .u, .u, .u, .u, .d x.dt])
        (fun x _ => tg_name (K := K) (by simp)) (fun x hx σ2 H2 e2 hs2 => ?_) (fun x hx _ σ2 H2 e2 hs2 => ed_var hs2)) fun p xs ks σ2 H2 hks hp e2 hp2 hn2 hs2 => ?_
      · obtain ⟨t, ht⟩ := hkx x hx
        refine Eb.is (et_test (eb_eq (ed_ix (ed_ix (k := .tup (nums x.ts)) (ed_var hs2) ed_int rfl) (ed_var hs2) (atI_nat (nums_get ht))) (ed_var hs2))) ?_
        show decide (NestedKey.num t = NestedKey.num n) = decide (x.ts[k]? = some n)
        rw [ht]
        by_cases z : t = n
        · rw [z, decide_eq_true rfl, decide_eq_true rfl]
        · rw [decide_eq_false fun y => z (num_eq.mp y), decide_eq_false fun y => z (Option.some.inj y)]
      · subst hks
        have hlen : (cs.filter f).length ≤ cs.length := List.length_filter_le _ _
        refine nx_of (X := tSeq _ _ _) ?_
        refine s_if (et_test (eb_eqL (ev_var hs2) hp2 hn2 (okTs_cas _) (Nat.le_trans (depth_cas _) (by decide)))) (fun cl H3 e3 => ?_) (fun cl H3 e3 => ?_)
        · have hnil : cs.filter f = [] := List.map_eq_nil_iff.mp (of_decide_eq_true cl)
          refine s_retD (s := .d .none) ed_non fun v H4 e4 h4 => q v H4 _ (((e.trans e2).trans e3).trans e4) h4 (.inr ⟨.wholeN fun x hx z => ?_, rfl⟩)
          have : x ∈ cs.filter f := List.mem_filter.mpr ⟨hx, decide_eq_true z⟩
          rw [hnil] at this
          cases this
        · have hne : cs.filter f ≠ [] := fun z => of_decide_eq_false cl (by show (cs.filter f).map Ca.dt = []; rw [z]; rfl)
          have hs3 := hs2.up e3
          refine nx_of (X := tRet _ _) ?_
          refine s_ret (ev_callL (el_lcL (vs := [5, 6, 7]) Ca.dt (cs.filter f) hs3 (fun _ => true) (fun x => (⟨x.w, x.c, x.ts.set k (-1)⟩ : Ca).dt) (ev_var hs3) (e3 _ _ hp2) (hn2.up e3) (by omega) (fun x => [.d M.dt, .d (Cl.whole cs).dt, .d (.num (k : Int)), .d (.num n), .v (.ref p), .d (.num x.w), .d (.num x.c), .d (.tup (nums x.ts)), .u])
            (fun x _ => tg_tup3 (K := K) (by simp) (by simp) (by simp)) (fun x _ σ2 H2 e2 hs2 => eb_yes) (fun x hx _ σ2 H2 e2 hs2 => Ed.is (ed_tup [.num x.w, .num x.c, .tup ((nums x.ts).set k (.num (-1)))] (ea_cons (ed_var hs2) (ea_cons (ed_var hs2) (ea_cons (ed_call (ea_cons (ed_var hs2) (ea_cons (ed_var hs2) (ea_cons (ed_neg ed_int) ea_nil)))
              ⟨nums x.ts, k, .num (-1), by have := (hC.ca (List.mem_filter.mp hx).1).l; simp [nums]; omega, by have := (hC.ca (List.mem_filter.mp hx).1).l; simp [nums]; omega, rfl, rfl⟩) ea_nil))) (by simp)) (by rw [nums_set]; rfl)))
            (R' := fun d => ∃ out, Clo ((cs.filter f).map fun x => ⟨x.w, x.c, x.ts.set k (-1)⟩) out ∧ d = (Cl.whole out).dt) fun ks hk => ⟨_, M.rd, cs_ok hM hC (by rw [List.length_map]; exact hlen) ?_, ?_, rfl⟩) fun v H4 k e4 h3 hk => q v H4 k (((e.trans e2).trans e3).trans e4) h3 ?_
          · intro x hx
            obtain ⟨y, hy, rfl⟩ := List.mem_map.mp hx
            have := hC.ca (List.mem_filter.mp hy).1
            exact ⟨by rw [List.length_set]; exact this.l, this.w.1⟩
          · rw [hk, outM_all, List.map_map]
            rfl
          · obtain ⟨out, h4, rfl⟩ := hk
            obtain ⟨z, hz'⟩ := List.exists_mem_of_ne_nil _ hne
            obtain ⟨z1, z2⟩ := List.mem_filter.mp hz'
            exact .inl ⟨_, .wholeS z1 (of_decide_eq_true z2) h4, rfl⟩
    · exact absurd c2 z
  · have c2 : ¬ M.kd = 2 := fun z => of_decide_eq_false cc (txt_eq.mpr ((kd_whole hM).mpr z))
    rcases cl_shape hC with ⟨z, _⟩ | ⟨_, o, c', ts, rfl⟩
    · exact absurd z c2
    · obtain ⟨_, ho, hcc, hl, hts⟩ := hC.weak _ _ _ rfl
      obtain ⟨l, hkl⟩ := hrd _ _ _ rfl
      have hs1 := hs.up e
      refine nx_of (X := tSeq _ _ _) ?_
      refine s_unp3 hs1 (ed_var hs1) fun σ2 H2 e2 hs2 => ?_
      have hix : (ts.map tellD)[k]? = some (.tup (nums l)) := by rw [List.getElem?_map, hkl]; rfl
      refine nx_of (X := tSeq _ _ _) ?_
      refine s_if (et_test (eb_notInT (ed_var hs2) (ed_ix (ed_var hs2) (ed_var hs2) (atI_nat hix)) rfl ?_)) (fun cl H3 e3 => ?_) (fun cl H3 e3 => ?_)
      · intro j hj
        obtain ⟨i, _, rfl⟩ := List.mem_map.mp hj
        rfl
      · have hnm : n ∉ l := fun z => by
          rw [decide_eq_true (show NestedKey.num n ∈ nums l from List.mem_map.mpr ⟨n, z, rfl⟩)] at cl; cases cl
        exact s_retD (s := .d .none) ed_non fun v H4 e4 h4 => q v H4 _ (((e.trans e2).trans e3).trans e4) h4 (.inr ⟨.weakN hkl hnm, rfl⟩)
      · have hnm : n ∈ l := by
          have : NestedKey.num n ∈ nums l := by
            by_cases z : NestedKey.num n ∈ nums l
            · exact z
            · rw [decide_eq_false z] at cl; cases cl
          obtain ⟨i, hi, e9⟩ := List.mem_map.mp this
          rw [← num_eq.mp e9]
          exact hi
        have hs3 := hs2.up e3
        refine nx_of (X := tRet _ _) ?_
        refine s_retD (s := .d (Cl.weak o c' (ts.set k none)).dt) (Ed.is (ed_tup [.num o, .num c', .tup ((ts.map tellD).set k .none)] (ea_cons (ed_var hs3) (ea_cons (ed_var hs3) (ea_cons (ed_call (ea_cons (ed_var hs3) (ea_cons (ed_var hs3) (ea_cons ed_non ea_nil)))
          ⟨ts.map tellD, k, _, by rw [List.length_map]; omega, by rw [List.length_map]; omega, rfl, rfl⟩) ea_nil))) (by simp)) ?_) fun v H4 e4 h3 => q v H4 _ (((e.trans e2).trans e3).trans e4) h3 (.inl ⟨_, .weakS hkl hnm, rfl⟩)
        show _ = NestedKey.tup [.num o, .num c', .tup ((ts.set k none).map tellD)]
        rw [List.map_set]
        rfl
end
end SB

set_option maxRecDepth 100000
set_option maxHeartbeats 8000000
/-! names_in. -/
namespace SB
open PySem L2 PyProof.Rows
section
variable {P : Program} {w : World} {K : PySem.W.Frag} {σ : L2.St} {H : Hp} {te : TE}
/-- sorted(set(texts)) -/
theorem el_sortedT {l : List Str} {p : Addr} {xs : List V} (he : Ed te σ H (.v (.ref p))) (hp : H p = some (.lst xs)) (hn : NdAll H xs (txts l)) (hl : l.length ≤ 60) : El (tCB (rSortedX P w) (tCons (tCB (rSetX K w) (tCons te tNil)) tNil)) σ H fun ks => ∃ out, Sorts l out ∧ ks = txts out := fun H1 e Q q =>
  he H1 e _ fun v H2 e2 h2 => by
    cases h2
    have ex := NdAll.strs l xs hn
    subst ex
    refine .inr ⟨p, l, rfl, SqL.of ((e.trans e2) _ _ hp), hl, fun a n ha hna => ?_⟩
    refine .inl (.inr ⟨a, l, n, rfl, upd_same, by omega, fun b out hs hb => ?_⟩)
    exact q b _ _ _ (same_back (e2.trans (same_new ha)) hb) ((e2.trans (same_new ha)).trans (same_new hb)) upd_same (nd_strs _) ⟨out, hs, rfl⟩
theorem el_sortedTN {l : List Str} (he : El te σ H (· = txts l)) (hl : l.length ≤ 60) : El (tCB (rSortedX P w) (tCons (tCB (rSetX K w) (tCons te tNil)) tNil)) σ H fun ks => ∃ out, Sorts l out ∧ ks = txts out := fun H1 e Q q =>
  he H1 e _ fun p xs H2 ks hp e2 h2 hn hk => by
    subst hk
    have ex := NdAll.strs l xs hn
    subst ex
    refine .inr ⟨p, l, rfl, SqL.of h2, hl, fun a n ha hna => ?_⟩
    refine .inl (.inr ⟨a, l, n, rfl, upd_same, by omega, fun b out hs hb => ?_⟩)
    exact q b _ _ _ (same_back (e2.trans (same_new ha)) hb) ((e2.trans (same_new ha)).trans (same_new hb)) upd_same (nd_strs _) ⟨out, hs, rfl⟩
end
theorem nodup_len {l m : List Str} (h : l.Nodup) (hs : ∀ x ∈ l, x ∈ m) : l.length ≤ m.length := by
  induction l generalizing m with
  | nil => exact Nat.zero_le _
  | cons x l ih =>
    obtain ⟨h1, h2⟩ := List.nodup_cons.mp h
    have hx := hs x List.mem_cons_self
    have := ih (m := m.erase x) h2 fun y hy => (List.mem_erase_of_ne (fun e => h1 (by rw [← e]; exact hy))).mpr (hs y (List.mem_cons_of_mem _ hy))
    have e := List.length_erase_of_mem hx
    have := List.length_pos_of_mem hx
    show l.length + 1 ≤ m.length
    omega
theorem Sorts.len {l out : List Str} (h : Sorts l out) : out.length ≤ l.length := nodup_len h.nd fun x hx => (h.mem x).mp hx
/-- an expression's word and what stands behind it -/
def Ex.word : Ex → Str
  | .num _ => "num"
  | .var _ => "var"
  | .nt _ => "not"
  | .bin w _ _ => opT w
def Ex.kids : Ex → List Ex
  | .nt e => [e]
  | .bin _ a b => [a, b]
  | _ => []
theorem opT_ne (w : Nat) : opT w ≠ ("num" : Str) ∧ opT w ≠ ("var" : Str) ∧ opT w ≠ ("not" : Str) ∧ opT w ≠ ("+" : Str) ∧ opT w ≠ ("<" : Str) ∧ opT w ≠ ("and" : Str) := by
  unfold opT
  split
  · decide +kernel
  · split <;> decide +kernel
theorem kids_names (e : Ex) (h : e.word ≠ ("num" : Str) ∧ e.word ≠ ("var" : Str)) : e.names = e.kids.flatMap Ex.names ∧ e.dt = .tup (.text e.word :: e.kids.map Ex.dt) := by
  cases e with
  | num i => exact absurd rfl h.1
  | var x => exact absurd rfl h.2
  | nt e => exact ⟨by simp [Ex.names, Ex.kids], rfl⟩
  | bin w a b => exact ⟨by simp [Ex.names, Ex.kids], rfl⟩
theorem kids_deep (e : Ex) : ∀ k ∈ e.kids, k.deep + 1 ≤ e.deep := by
  cases e with
  | num i => intro k hk; cases hk
  | var x => intro k hk; cases hk
  | nt e => intro k hk; rw [List.mem_singleton.mp hk]; exact Nat.le_refl _
  | bin w a b =>
    intro k hk
    have : (Ex.bin w a b).deep = max a.deep b.deep + 1 := rfl
    simp only [Ex.kids, List.mem_cons, List.not_mem_nil, or_false] at hk
    rcases hk with rfl | rfl <;> omega
theorem names_len : ∀ (n : Nat) (e : Ex), e.deep ≤ n → e.names.length ≤ 2 ^ n
  | 0, e, h => by cases e <;> simp [Ex.deep] at h
  | n + 1, .num _, _ => by simp [Ex.names]
  | n + 1, .var _, _ => by simp [Ex.names]; exact Nat.one_le_two_pow
  | n + 1, .nt e, h => by
    have := names_len n e (by simp [Ex.deep] at h; exact h)
    have h2 := Nat.pow_succ 2 n
    show e.names.length ≤ _
    omega
  | n + 1, .bin w a b, h => by
    have h' : max a.deep b.deep + 1 ≤ n + 1 := h
    have h1 := names_len n a (by omega)
    have h2 := names_len n b (by omega)
    have h3 := Nat.pow_succ 2 n
    show (a.names ++ b.names).length ≤ _
    rw [List.length_append]
    omega
section
variable {P : Program} {w : World} {K : PySem.W.Frag} {mg : Str → Option Value} {base : Heap}
def A_names_in (n : Nat) : List SV → (List Dt → Prop) → Prop := fun ss R => ∃ e : Ex, e.deep ≤ n ∧ n ≤ 3 ∧ ss = [.d e.dt] ∧ R = fun ks => ∃ out, Sorts e.names out ∧ ks = txts out
theorem sorts_one (x : Str) : Sorts [x] [x] := ⟨by simp, by simp, fun z => Iff.rfl⟩
theorem sorts_nil : Sorts [] [] := ⟨.nil, .nil, fun z => Iff.rfl⟩
theorem ed_word {e : Ex} {te : TE} {σ : L2.St} {H : Hp} (h : Ed te σ H (.d e.dt)) : Ed (tOp (rIx K) te (tC (.int 0))) σ H (.d (.text e.word)) := by
  cases e with
  | num i => exact ed_ix h ed_int rfl
  | var i => exact ed_ix h ed_int rfl
  | nt i => exact ed_ix h ed_int rfl
  | bin i _ _ => exact ed_ix h ed_int rfl
theorem ok_names_in (T : Txt K mg) : ∀ n, FnOk P w K mg base CX0 (n + 1) T.names_in.a T.names_in.d ["expr"] (spL (A_names_in n))
  | 0 => by
    refine fun_okC T.names_in.F sc_names_in (fun vs H Q E h => ?_) (fun cdv A outer s H vs Q E hcd hr h => ?_)
    · exact spL_len h fun ss R ⟨_, _, _, e, _⟩ => by rw [e]; rfl
    · obtain ⟨ss, R, ⟨e, he, _⟩, _⟩ := h
      cases e <;> simp [Ex.deep] at he
  | n + 1 => by
    have ih := ok_names_in T n
    refine fun_okC T.names_in.F sc_names_in (fun vs H Q E h => ?_) (fun cdv A outer s H vs Q E hcd hr h => ?_)
    · exact spL_len h fun ss R ⟨_, _, _, e, _⟩ => by rw [e]; rfl
    obtain ⟨ss, R, ⟨ex, hdp, hn3, rfl, rfl⟩, hv, q⟩ := h
    have hs := slots_start ["expr", "found", "one"] hv
    refine ⟨_, (pss_cons (ps_if (pt_cmpR (op_eqX hr.units) (pe_ix ix_seq (pv 0) pe_int (fun _ _ => rfl)) pe_str (nomark _)) (pss_one (ps_ret (pe_lst pa_nil))) pss_nil)
      (pss_cons (ps_if (pt_cmpR (op_eqX hr.units) (pe_ix ix_seq (pv 0) pe_int (fun _ _ => rfl)) pe_str (nomark _)) (pss_one (ps_ret (pe_lst (pa_cons (pe_ix ix_seq (pv 0) pe_int (fun _ _ => rfl)) pa_nil)))) pss_nil)
      (pss_cons (ps_set (i := 1) sc_names_in.nd rfl (Or.inl rfl) (pe_lst pa_nil))
      (pss_cons (ps_for PassesOwn.never rfl (pi_tup (pe_slice sl_X (pv 0) (po_some pe_int) po_none)) (pg_name (i := 2) sc_names_in.nd rfl (Or.inl rfl)) (pss_one (ps_expr (pe_bm PySem.F.plainAttrs_list PySem.F.slot_list_extend PySem.F.type_list_extend mt_extend (pv 1) (pa_cons (pe_call ih (hr.mono (Nat.le_refl _)) (by rfl) T.names_in.m T.names_in.F.kp T.names_in.b .nil pass0 (pa_cons (pv 2) pa_nil)) pa_nil)))))
      (pss_one (ps_ret (pe_callB (cr_sortedX rfl hr) (by rfl) T.b_sorted (by decide +kernel) (pa_cons (pe_callTy (cr_setX rfl) (by rfl) T.b_set (by decide +kernel) (pa_cons (pv 1) pa_nil)) pa_nil)))))))), ?_⟩
    refine s_if (et_test (eb_eq (ed_word (ed_var hs)) ed_str)) (fun c H1 e => ?_) (fun c H1 e => ?_)
    · have c := txt_eq.mp (of_decide_eq_true c)
      refine s_retL (el_lst [] ea_nil (by simp)) fun p xs H2 ks hp e2 h1 h2 hk => q p xs H2 ks (same_back e hp) (e.trans e2) h1 h2 ⟨[], ?_, hk⟩
      cases ex with
      | num i => exact sorts_nil
      | var x => exact absurd (show ("var" : Str) = "num" from c) (by decide +kernel)
      | nt x => exact absurd (show ("not" : Str) = "num" from c) (by decide +kernel)
      | bin x a b => exact absurd c (opT_ne x).1
    refine nx_of (X := tSeq _ _ _) ?_
    have c1 : ex.word ≠ ("num" : Str) := fun z => of_decide_eq_false c (txt_eq.mpr z)
    have hs1 := hs.up e
    refine s_if (et_test (eb_eq (ed_word (ed_var hs1)) ed_str)) (fun c H2 e2 => ?_) (fun c H2 e2 => ?_)
    · have c := txt_eq.mp (of_decide_eq_true c)
      have hs2 := hs1.up e2
      cases ex with
      | num i => exact absurd (show ("num" : Str) = "var" from c) (by decide +kernel)
      | nt x => exact absurd (show ("not" : Str) = "var" from c) (by decide +kernel)
      | bin x a b => exact absurd c (opT_ne x).2.1
      | var x =>
        exact s_retL (el_lst [.text x] (ea_cons (ed_ix (ed_var hs2) ed_int rfl) ea_nil) (by simp)) fun p xs H3 ks hp e3 h1 h2 hk => q p xs H3 ks (same_back (e.trans e2) hp) ((e.trans e2).trans e3) h1 h2 ⟨[x], sorts_one x, hk⟩
    refine nx_of (X := tSeq _ _ _) ?_
    have c2 : ex.word ≠ ("var" : Str) := fun z => of_decide_eq_false c (txt_eq.mpr z)
    obtain ⟨k1, k2⟩ := kids_names ex ⟨c1, c2⟩
    have hs2 := hs1.up e2
    refine s_setL hs2 (el_lst [] ea_nil (by simp)) fun p xs ks σ3 H3 hk hp e3 hp3 hn3' hs3 => ?_
    subst hk
    have e03 := (e.trans e2).trans e3
    have hp0 : H p = none := same_back (e.trans e2) hp
    refine nx_of (X := tSeq _ _ _) ?_
    refine s_seqJ (fun σ' H' => ∃ ys outs, H' p = some (.lst ys) ∧ NdAll H' ys (txts outs) ∧ (∀ z, z ∈ outs ↔ z ∈ ex.names) ∧ outs.length ≤ 60 ∧ Same H H' ∧ Slots H' σ' [.d ex.dt, .v (.ref p), .u]) (fun N hN => ?_) fun σ4 H4 ⟨ys, outs, h1, h2, h3, h4, e4, hs4⟩ => ?_
    · have hsl : Ed (tSl (rSlX K) (tVar 0) (tPart (tC (.int 1))) tNoPart) σ3 H3 (.d (.tup (ex.kids.map Ex.dt))) := by
        refine Ed.is (ed_sl (ks := .text ex.word :: ex.kids.map Ex.dt) (by rw [← k2]; exact ed_var hs3) (eo_some ed_int) eo_none) ?_
        have := cutD_from (ks := .text ex.word :: ex.kids.map Ex.dt) (i := 1) (by simp)
        exact congrArg NestedKey.tup this
      refine s_forT hsl fun H4 e4 => ⟨fun i σ' H' => ∃ ys outs, H' p = some (.lst ys) ∧ NdAll H' ys (txts outs) ∧ (∀ z, z ∈ outs ↔ z ∈ (ex.kids.take i).flatMap Ex.names) ∧ outs.length ≤ i * 8 ∧ Same H H' ∧ Tx H4 H' ∧ Slots H' σ' [.d ex.dt, .v (.ref p), .u], ?_, fun i σ' H' ⟨_, _, _, _, _, _, _, t, _⟩ => t, ?_, ?_⟩
      · exact ⟨xs, [], e4 _ _ hp3, hn3'.up e4, fun z => by simp, by simp, e03.trans e4, Tx.refl _, hs3.up e4⟩
      · rintro i k v σ' H' hk ⟨ys, outs, h1, h2, h3, h4, e5, t5, hs5⟩ hv5
        obtain ⟨kid, hkid, rfl⟩ := map_get hk
        have hkm : kid ∈ ex.kids := List.mem_of_getElem? hkid
        have hdk := kids_deep ex kid hkm
        have hi : i < ex.kids.length := (List.getElem?_eq_some_iff.mp hkid).1
        have hk2 : ex.kids.length ≤ 2 := by cases ex <;> simp [Ex.kids]
        show tDrop _ _ _ _
        have hs6 : Slots H' (σ'.set 2 (some v)) [.d ex.dt, .v (.ref p), .d kid.dt] := hs5.set (s := .d kid.dt) hv5 2
        refine s_ext (R := fun js => ∃ out, Sorts kid.names out ∧ js = txts out) h1 h2 (ev_var hs6) (el_call (ea_cons (ed_var hs6) ea_nil) ⟨kid, by omega, by omega, rfl, rfl⟩) (fun js hj => ?_) fun zs js H6 hj e6 h6 => ?_
        · obtain ⟨out, ho, rfl⟩ := hj
          have := ho.len
          have := names_len 3 kid (by omega)
          simp only [txts, List.length_map]
          omega
        · obtain ⟨out, ho, rfl⟩ := hj
          have := ho.len
          have := names_len 3 kid (by omega)
          refine ⟨_, outs ++ out, upd_same, ?_, fun z => ?_, by rw [List.length_append]; omega, same_mut (e5.trans e6) hp0, t5.trans ((tx_of e6).trans (Tx.lst (e6 _ _ h1))), ((hs6.up e6).tx (Tx.lst (e6 _ _ h1))).forget 2⟩
          · unfold txts at h6 ⊢
            rw [List.map_append]; exact h6
          · rw [take_succ hkid, List.mem_append, h3, List.flatMap_append, List.mem_append, ho.mem]
            simp
      · rintro σ' H' ⟨ys, outs, h1, h2, h3, h4, e5, t5, hs5⟩
        have hk2 : ex.kids.length ≤ 2 := by cases ex <;> simp [Ex.kids]
        rw [List.length_map] at h3 h4
        rw [List.take_length] at h3
        exact hN _ _ ⟨ys, outs, h1, h2, fun z => by rw [h3, k1], by omega, e5, hs5⟩
    refine s_retL (el_sortedT (ev_var hs4) h1 h2 h4) fun p' xs' H5 ks hp' e5 h5 h6 hk => q p' xs' H5 ks (same_back e4 hp') (e4.trans e5) h5 h6 ?_
    obtain ⟨out, ho, rfl⟩ := hk
    exact ⟨out, ⟨ho.pw, ho.nd, fun z => (ho.mem z).trans (h3 z)⟩, rfl⟩
end
end SB

set_option maxRecDepth 100000
set_option maxHeartbeats 8000000
/-! number_of. -/
namespace SB
open PySem L2 PyProof.Rows
def spNum (n : Nat) : Sp := fun vs H Q _ => ∃ v e p kvs env, vs = [v, .ref p] ∧ Ex.deep e ≤ n ∧ Nd H v e.dt ∧ H p = some (.dK kvs) ∧ (∀ x ∈ e.names, valV kvs (.inr x) = some (.int (env x))) ∧ ∀ H', Same H H' → Q (.int (e.val env)) H'
section
variable {P : Program} {w : World} {K : PySem.W.Frag} {mg : Str → Option Value} {base : Heap}
theorem ed_num {n : Nat} {e : Ex} {p : Addr} {kvs : List (Key × V)} {env : Str → Int} {ta tb : TE} {σ : L2.St} {H : Hp} {E : XK} (ha : Ed ta σ H (.d e.dt)) (hb : Ed tb σ H (.v (.ref p))) (hd : e.deep ≤ n) (hp : H p = some (.dK kvs)) (hk : ∀ x ∈ e.names, valV kvs (.inr x) = some (.int (env x))) :
    Ed (tCall (spNum n) [] E (tCons ta (tCons tb tNil))) σ H (.d (.num (e.val env))) := fun H1 e1 Q q =>
  ha H1 e1 _ fun v H2 e2 h2 => hb H2 (e1.trans e2) _ fun v' H3 e3 h3 => by
    cases h3
    exact ⟨v, e, p, kvs, env, rfl, hd, Nd.up h2 e3, ((e1.trans e2).trans e3) _ _ hp, hk, fun H4 e4 => q _ H4 ((e2.trans e3).trans e4) (.int _)⟩
theorem ed_dget {p : Addr} {kvs : List (Key × V)} {x : Str} {v : V} {ta tb : TE} {σ : L2.St} {H : Hp} (ha : Ed ta σ H (.v (.ref p))) (hb : Ed tb σ H (.d (.text x))) (hp : H p = some (.dK kvs)) (hv : valV kvs (.inr x) = some v) : Ed (tDGet ta tb) σ H (.v v) := fun H1 e1 Q q =>
  ha H1 e1 _ fun u H2 e2 h2 => hb H2 (e1.trans e2) _ fun u' H3 e3 h3 => by
    cases h2; cases h3
    refine ⟨p, v, rfl, ?_, q v H3 (e2.trans e3) rfl⟩
    have := DGet.k (k := .inr x) (((e1.trans e2).trans e3) _ _ hp)
    rw [hv] at this
    exact this
theorem opT_0 {w : Nat} : (opT w = ("=" : Str)) ↔ w = 0 := by
  unfold opT
  by_cases h : w = 0
  · rw [if_pos h]; exact ⟨fun _ => h, fun _ => rfl⟩
  · rw [if_neg h]
    by_cases h1 : w = 1
    · rw [if_pos h1]; exact ⟨fun z => absurd z (by decide +kernel), fun z => absurd z h⟩
    · rw [if_neg h1]; exact ⟨fun z => absurd z (by decide +kernel), fun z => absurd z h⟩
theorem opT_minus {w : Nat} : (opT w = ("-" : Str)) ↔ w ≠ 0 ∧ w ≠ 1 := by
  unfold opT
  by_cases h : w = 0
  · rw [if_pos h]; exact ⟨fun z => absurd z (by decide +kernel), fun z => absurd h z.1⟩
  · rw [if_neg h]
    by_cases h1 : w = 1
    · rw [if_pos h1]; exact ⟨fun z => absurd z (by decide +kernel), fun z => absurd h1 z.2⟩
    · rw [if_neg h1]; exact ⟨fun _ => ⟨h, h1⟩, fun _ => rfl⟩
theorem Ed.vi {te : TE} {σ : L2.St} {H : Hp} {i : Int} (h : Ed te σ H (.v (.int i))) : Ed te σ H (.d (.num i)) := fun H1 e Q q => h H1 e Q fun v H2 e2 h2 => q v H2 e2 (by cases h2; exact .int i)
theorem ok_number_of (T : Txt K mg) : ∀ n, FnOk P w K mg base CX0 (n + 1) T.number_of.a T.number_of.d ["expression", "numbers"] (spNum n)
  | 0 => by
    refine fun_okC T.number_of.F sc_number_of (fun vs H Q E h => ?_) (fun cdv A outer s H vs Q E hcd hr h => ?_)
    · obtain ⟨_, _, _, _, _, e, _⟩ := h
      rw [e]; rfl
    · obtain ⟨_, e, _, _, _, _, he, _⟩ := h
      cases e <;> simp [Ex.deep] at he
  | n + 1 => by
    have ih := ok_number_of T n
    refine fun_okC T.number_of.F sc_number_of (fun vs H Q E h => ?_) (fun cdv A outer s H vs Q E hcd hr h => ?_)
    · obtain ⟨_, _, _, _, _, e, _⟩ := h
      rw [e]; rfl
    obtain ⟨v, ex, p, kvs, env, rfl, hdp, hv, hp, hk, q⟩ := h
    have hs : Slots H (L2.start ["expression", "numbers", "word", "one", "other"] [v, .ref p]) [.d ex.dt, .v (.ref p), .u, .u, .u] := slots_start ["expression", "numbers", "word", "one", "other"] (.cons (s := .d ex.dt) hv (.cons (s := .v (.ref p)) (show V.ref p = V.ref p from rfl) .nil))
    refine ⟨_, (pss_cons (ps_set (i := 2) sc_number_of.nd rfl (Or.inl rfl) (pe_ix ix_seq (pv 0) pe_int (fun _ _ => rfl)))
      (pss_cons (ps_if (pt_cmpR (op_eqX hr.units) (pv 2) pe_str (nomark _)) (pss_one (ps_ret (pe_ix ix_seq (pv 0) pe_int (fun _ _ => rfl)))) pss_nil)
      (pss_cons (ps_if (pt_cmpR (op_eqX hr.units) (pv 2) pe_str (nomark _)) (pss_one (ps_ret (pe_dget (hu_of hr) (pv 1) (pe_ix ix_seq (pv 0) pe_int (fun _ _ => rfl)) (fun _ _ => rfl)))) pss_nil)
      (pss_cons (ps_set (i := 3) sc_number_of.nd rfl (Or.inl rfl) (pe_call ih (hr.mono (Nat.le_refl _)) (by rfl) T.number_of.m T.number_of.F.kp T.number_of.b .nil pass0 (pa_cons (pe_ix ix_seq (pv 0) pe_int (fun _ _ => rfl)) (pa_cons (pv 1) pa_nil))))
      (pss_cons (ps_if (pt_cmpR (op_eqX hr.units) (pv 2) pe_str (nomark _)) (pss_one (ps_ret (pe_callTy call_int1 (by rfl) T.b_int (by decide +kernel) (pa_cons (pe_cmpR (op_eqX hr.units) (pv 3) pe_int (nomark _)) pa_nil)))) pss_nil)
      (pss_cons (ps_set (i := 4) sc_number_of.nd rfl (Or.inl rfl) (pe_call ih (hr.mono (Nat.le_refl _)) (by rfl) T.number_of.m T.number_of.F.kp T.number_of.b .nil pass0 (pa_cons (pe_ix ix_seq (pv 0) pe_int (fun _ _ => rfl)) (pa_cons (pv 1) pa_nil))))
      (pss_cons (ps_if (pt_cmpR (op_eqX hr.units) (pv 2) pe_str (nomark _)) (pss_one ps_never) pss_nil)
      (pss_cons (ps_if (pt_cmpR (op_eqX hr.units) (pv 2) pe_str (nomark _)) (pss_one (ps_ret (pe_callB (call_max2 rfl) (by rfl) T.b_max (by decide +kernel) (pa_cons (pe_op op_sub (pv 3) (pv 4)) (pa_cons pe_int pa_nil))))) pss_nil)
      (pss_cons (ps_if (pt_cmpR (op_eqX hr.units) (pv 2) pe_str (nomark _)) (pss_one (ps_ret (pe_callTy call_int1 (by rfl) T.b_int (by decide +kernel) (pa_cons (pe_cmpR (op_eqX hr.units) (pv 3) (pv 4) (nomark _)) pa_nil)))) pss_nil)
      (pss_cons (ps_if (pt_cmpR (op_eqX hr.units) (pv 2) pe_str (nomark _)) (pss_one ps_never) pss_nil)
      (pss_cons (ps_if (pt_cmpR (op_eqX hr.units) (pv 2) pe_str (nomark _)) (pss_one ps_never) pss_nil)
      (pss_one (ps_ret (pe_callTy call_int1 (by rfl) T.b_int (by decide +kernel) (pa_cons (pe_or (pe_cmpR (op_neX hr.units) (pv 3) pe_int (nomark _)) (pe_one (pe_cmpR (op_neX hr.units) (pv 4) pe_int (nomark _)))) pa_nil))))))))))))))), ?_⟩
    refine s_setD hs (s := .d (.text ex.word)) (ed_word (ed_var hs)) fun σ1 H1 e1 hs1 => ?_
    refine nx_of (X := tSeq _ _ _) ?_
    refine s_if (et_test (eb_eq (ed_var hs1) ed_str)) (fun c H2 e2 => ?_) (fun c H2 e2 => ?_)
    · have c := txt_eq.mp (of_decide_eq_true c)
      have hs2 := hs1.up e2
      cases ex with
      | num i => exact s_retD (s := .d (.num i)) (ed_ix (ed_var hs2) ed_int rfl) fun v H3 e3 h3 => by cases h3; exact q H3 ((e1.trans e2).trans e3)
      | var x => exact absurd (show ("var" : Str) = "num" from c) (by decide +kernel)
      | nt x => exact absurd (show ("not" : Str) = "num" from c) (by decide +kernel)
      | bin x a b => exact absurd c (opT_ne x).1
    have c1 : ex.word ≠ ("num" : Str) := fun z => of_decide_eq_false c (txt_eq.mpr z)
    have hs2 := hs1.up e2
    refine nx_of (X := tSeq _ _ _) ?_
    refine s_if (et_test (eb_eq (ed_var hs2) ed_str)) (fun c H3 e3 => ?_) (fun c H3 e3 => ?_)
    · have c := txt_eq.mp (of_decide_eq_true c)
      have hs3 := hs2.up e3
      have e03 := (e1.trans e2).trans e3
      cases ex with
      | num i => exact absurd (show ("num" : Str) = "var" from c) (by decide +kernel)
      | nt x => exact absurd (show ("not" : Str) = "var" from c) (by decide +kernel)
      | bin x a b => exact absurd c (opT_ne x).2.1
      | var x => exact s_retD (s := .v (.int (env x))) (ed_dget (ev_var hs3) (ed_ix (ed_var hs3) ed_int rfl) (e03 _ _ hp) (hk x (by simp [Ex.names]))) fun v H4 e4 h4 => by cases h4; exact q H4 (e03.trans e4)
    have c2 : ex.word ≠ ("var" : Str) := fun z => of_decide_eq_false c (txt_eq.mpr z)
    have hs3 := hs2.up e3
    have e03 := (e1.trans e2).trans e3
    refine nx_of (X := tSeq _ _ _) ?_
    cases ex with
    | num i => exact absurd rfl c1
    | var i => exact absurd rfl c2
    | nt a =>
      have hda : a.deep ≤ n := by have : a.deep + 1 ≤ n + 1 := hdp; omega
      refine s_setD hs3 (s := .d (.num (a.val env))) (ed_num (ed_ix (ed_var hs3) ed_int rfl) (ev_var hs3) hda (e03 _ _ hp) hk) fun σ4 H4 e4 hs4 => ?_
      refine nx_of (X := tSeq _ _ _) ?_
      refine s_if (et_test (eb_eq (ed_var hs4) ed_str)) (fun c H5 e5 => ?_) (fun c H5 e5 => absurd (show NestedKey.text ("not" : Str) = .text "not" from rfl) (of_decide_eq_false c))
      have hs5 := hs4.up e5
      refine s_retD (s := .d (.num (b2i (decide (a.val env = 0))))) (Ed.is (ed_int0 (eb_eq (ed_var hs5) ed_int)) ?_) fun v H6 e6 h6 => by cases h6; exact q H6 (((e03.trans e4).trans e5).trans e6)
      show NestedKey.num _ = NestedKey.num (b2i _)
      unfold b2i
      rw [decide_eq_decide.mpr (num_eq (x := a.val env) (y := 0))]
    | bin x a b =>
      have hdd : max a.deep b.deep + 1 ≤ n + 1 := hdp
      have hka : ∀ y ∈ a.names, valV kvs (.inr y) = some (.int (env y)) := fun y hy => hk y (List.mem_append_left _ hy)
      have hkb : ∀ y ∈ b.names, valV kvs (.inr y) = some (.int (env y)) := fun y hy => hk y (List.mem_append_right _ hy)
      refine s_setD hs3 (s := .d (.num (a.val env))) (ed_num (ed_ix (ed_var hs3) ed_int rfl) (ev_var hs3) (by omega) (e03 _ _ hp) hka) fun σ4 H4 e4 hs4 => ?_
      refine nx_of (X := tSeq _ _ _) ?_
      refine s_if (et_test (eb_eq (ed_var hs4) ed_str)) (fun c H5 e5 => absurd (txt_eq.mp (of_decide_eq_true c)) (opT_ne x).2.2.1) (fun c H5 e5 => ?_)
      have hs5 := hs4.up e5
      have e05 := (e03.trans e4).trans e5
      refine nx_of (X := tSeq _ _ _) ?_
      refine s_setD hs5 (s := .d (.num (b.val env))) (ed_num (ed_ix (ed_var hs5) ed_int rfl) (ev_var hs5) (by omega) (e05 _ _ hp) hkb) fun σ6 H6 e6 hs6 => ?_
      refine nx_of (X := tSeq _ _ _) ?_
      refine s_if (et_test (eb_eq (ed_var hs6) ed_str)) (fun c H7 e7 => absurd (txt_eq.mp (of_decide_eq_true c)) (opT_ne x).2.2.2.1) (fun c H7 e7 => ?_)
      have hs7 := hs6.up e7
      have e07 := (e05.trans e6).trans e7
      refine nx_of (X := tSeq _ _ _) ?_
      have hval : (Ex.bin x a b).val env = if x = 0 then b2i (decide (a.val env = b.val env)) else if x = 1 then b2i (!decide (a.val env = 0) || !decide (b.val env = 0)) else if 0 > a.val env - b.val env then 0 else a.val env - b.val env := rfl
      refine s_if (et_test (eb_eq (ed_var hs7) ed_str)) (fun c H8 e8 => ?_) (fun c H8 e8 => ?_)
      · obtain ⟨n0, n1⟩ := opT_minus.mp (txt_eq.mp (of_decide_eq_true c))
        have hs8 := hs7.up e8
        exact s_retD (s := .d (.num ((Ex.bin x a b).val env))) (Ed.is (ed_max2 (ed_sub (ed_var hs8) (ed_var hs8)) ed_int) (by rw [hval, if_neg n0, if_neg n1])) fun v H9 e9 h9 => by cases h9; exact q H9 ((e07.trans e8).trans e9)
      have nm : ¬ (x ≠ 0 ∧ x ≠ 1) := fun z => of_decide_eq_false c (txt_eq.mpr (opT_minus.mpr z))
      have hs8 := hs7.up e8
      have e08 := e07.trans e8
      refine nx_of (X := tSeq _ _ _) ?_
      refine s_if (et_test (eb_eq (ed_var hs8) ed_str)) (fun c H9 e9 => ?_) (fun c H9 e9 => ?_)
      · have x0 := opT_0.mp (txt_eq.mp (of_decide_eq_true c))
        have hs9 := hs8.up e9
        refine s_retD (s := .d (.num ((Ex.bin x a b).val env))) (Ed.is (ed_int0 (eb_eq (ed_var hs9) (ed_var hs9))) ?_) fun v H10 e10 h10 => by cases h10; exact q H10 ((e08.trans e9).trans e10)
        rw [hval, if_pos x0]
        unfold b2i
        rw [decide_eq_decide.mpr (num_eq (x := a.val env) (y := b.val env))]
      have n0 : x ≠ 0 := fun z => of_decide_eq_false c (txt_eq.mpr (opT_0.mpr z))
      have n1 : x = 1 := by omega
      have hs9 := hs8.up e9
      have e09 := e08.trans e9
      refine nx_of (X := tSeq _ _ _) ?_
      refine s_if (et_test (eb_eq (ed_var hs9) ed_str)) (fun c H10 e10 => absurd (txt_eq.mp (of_decide_eq_true c)) (opT_ne x).2.2.2.2.1) (fun c H10 e10 => ?_)
      have hs10 := hs9.up e10
      refine nx_of (X := tSeq _ _ _) ?_
      refine s_if (et_test (eb_eq (ed_var hs10) ed_str)) (fun c H11 e11 => absurd (txt_eq.mp (of_decide_eq_true c)) (opT_ne x).2.2.2.2.2) (fun c H11 e11 => ?_)
      have hs11 := hs10.up e11
      refine nx_of (X := tRet _ _) ?_
      refine s_retD (s := .d (.num ((Ex.bin x a b).val env))) (Ed.is (ed_int0 (eb_orV (eb_ne (ed_var hs11) ed_int) fun _ => eb_ne (ed_var hs11) ed_int)) ?_) fun v H12 e12 h12 => by cases h12; exact q H12 (((e09.trans e10).trans e11).trans e12)
      rw [hval, if_neg n0, if_pos n1]
      unfold b2i
      rw [decide_eq_decide.mpr (num_eq (x := a.val env) (y := 0)), decide_eq_decide.mpr (num_eq (x := b.val env) (y := 0))]
end
end SB

set_option maxRecDepth 100000
set_option maxHeartbeats 8000000
/-! expr_in, name_set, variables_of. -/
namespace SB
open PySem L2 PyProof.Rows
def Row.word : Row → Str
  | .put _ _ => "put"
  | .get _ _ => "get"
  | .lt _ _ => "let"
  | .un _ _ => "unless"
  | .tell _ => "tell"
def Row.sets : Row → Option Str
  | .get x _ => some x
  | .lt x _ => some x
  | _ => none
def exD : Option Ex → Dt
  | none => .none
  | some e => e.dt
def stD : Option Str → Dt
  | none => .none
  | some x => .text x
theorem ed_row {r : Row} {K : PySem.W.Frag} {te : TE} {σ : L2.St} {H : Hp} (h : Ed te σ H (.d r.dt)) : Ed (tOp (rIx K) te (tC (.int 0))) σ H (.d (.text r.word)) := by
  cases r with
  | put i _ => exact ed_ix h ed_int rfl
  | get i _ => exact ed_ix h ed_int rfl
  | lt i _ => exact ed_ix h ed_int rfl
  | un i _ => exact ed_ix h ed_int rfl
  | tell i => exact ed_ix h ed_int rfl
theorem ex_not_none (e : Ex) : e.dt ≠ .none := by cases e <;> exact fun h => by cases h
section
variable {P : Program} {w : World} {K : PySem.W.Frag} {mg : Str → Option Value} {base : Heap}
/-- word in a tuple of two words -/
theorem eb_in2 {x a b : Str} {ta tb tc : TE} {σ : L2.St} {H : Hp} (h : Ed ta σ H (.d (.text x))) (h1 : Ed tb σ H (.d (.text a))) (h2 : Ed tc σ H (.d (.text b))) : Ed (tOp (rIn K false) ta (tTup (tCons tb (tCons tc tNil)))) σ H (.v (.bl (decide (x = a ∨ x = b)))) := by
  have := eb_inT (K := K) h (ed_tup [.text a, .text b] (ea_cons h1 (ea_cons h2 ea_nil)) (by simp)) rfl (by intro j hj; simp at hj; rcases hj with rfl | rfl <;> rfl)
  have e : decide (NestedKey.text x ∈ [NestedKey.text a, .text b]) = decide (x = a ∨ x = b) := by
    apply decide_eq_decide.mpr
    simp
  rw [e] at this
  exact this
def A_expr_in : List SV → (Dt → Prop) → Prop := fun ss R => ∃ r : Row, ss = [.d r.dt] ∧ R = (· = exD r.expr)
theorem ok_expr_in (T : Txt K mg) : FnOk P w K mg base CX0 1 T.expr_in.a T.expr_in.d ["row"] (spD A_expr_in) := by
  refine fun_okC T.expr_in.F sc_expr_in (fun vs H Q E h => ?_) (fun cdv A outer s H vs Q E hcd hr h => ?_)
  · exact spD_len h fun ss R ⟨_, e, _⟩ => by rw [e]; rfl
  obtain ⟨ss, R, ⟨r, rfl, rfl⟩, hv, q⟩ := h
  have hs := slots_start ["row"] hv
  refine ⟨_, (pss_cons (ps_if (pt_cmpR op_in_seq (pe_ix ix_seq (pv 0) pe_int (fun _ _ => rfl)) (pe_tup (pa_cons pe_str (pa_cons pe_str pa_nil))) (by rfl)) (pss_one (ps_ret (pe_ix ix_seq (pv 0) pe_int (fun _ _ => rfl)))) pss_nil)
      (pss_cons (ps_if (pt_cmpR op_in_seq (pe_ix ix_seq (pv 0) pe_int (fun _ _ => rfl)) (pe_tup (pa_cons pe_str (pa_cons pe_str pa_nil))) (by rfl)) (pss_one (ps_ret (pe_ix ix_seq (pv 0) pe_int (fun _ _ => rfl)))) pss_nil)
      (pss_one (ps_ret pe_non)))), ?_⟩
  refine s_if (et_test (eb_in2 (ed_row (ed_var hs)) ed_str ed_str)) (fun c H1 e1 => ?_) (fun c H1 e1 => ?_)
  · have hs1 := hs.up e1
    cases r with
    | put x e => exact s_retD (s := .d e.dt) (ed_ix (ed_var hs1) ed_int rfl) fun v H2 e2 h2 => q v H2 _ (e1.trans e2) h2 rfl
    | lt x e => exact s_retD (s := .d e.dt) (ed_ix (ed_var hs1) ed_int rfl) fun v H2 e2 h2 => q v H2 _ (e1.trans e2) h2 rfl
    | get x y => exact absurd c (show decide ((("get" : Str) = "put") ∨ ("get" : Str) = "let") ≠ true by decide +kernel)
    | un x y => exact absurd c (show decide ((("unless" : Str) = "put") ∨ ("unless" : Str) = "let") ≠ true by decide +kernel)
    | tell x => exact absurd c (show decide ((("tell" : Str) = "put") ∨ ("tell" : Str) = "let") ≠ true by decide +kernel)
  have hs1 := hs.up e1
  refine nx_of (X := tSeq _ _ _) ?_
  refine s_if (et_test (eb_in2 (ed_row (ed_var hs1)) ed_str ed_str)) (fun c2 H2 e2 => ?_) (fun c2 H2 e2 => ?_)
  · have hs2 := hs1.up e2
    cases r with
    | un e x => exact s_retD (s := .d e.dt) (ed_ix (ed_var hs2) ed_int rfl) fun v H3 e3 h2 => q v H3 _ ((e1.trans e2).trans e3) h2 rfl
    | tell e => exact s_retD (s := .d e.dt) (ed_ix (ed_var hs2) ed_int rfl) fun v H3 e3 h2 => q v H3 _ ((e1.trans e2).trans e3) h2 rfl
    | get x y => exact absurd c2 (show decide ((("get" : Str) = "unless") ∨ ("get" : Str) = "tell") ≠ true by decide +kernel)
    | put x y => exact absurd c2 (show decide ((("put" : Str) = "unless") ∨ ("put" : Str) = "tell") ≠ true by decide +kernel)
    | lt x y => exact absurd c2 (show decide ((("let" : Str) = "unless") ∨ ("let" : Str) = "tell") ≠ true by decide +kernel)
  · refine nx_of (X := tRet _ _) ?_
    refine s_retD (s := .d .none) ed_non fun v H3 e3 h2 => q v H3 _ ((e1.trans e2).trans e3) h2 ?_
    cases r with
    | get x y => rfl
    | un e x => exact absurd c2 (show decide ((("unless" : Str) = "unless") ∨ ("unless" : Str) = "tell") ≠ false by decide +kernel)
    | tell e => exact absurd c2 (show decide ((("tell" : Str) = "unless") ∨ ("tell" : Str) = "tell") ≠ false by decide +kernel)
    | put x y => exact absurd c (show decide ((("put" : Str) = "put") ∨ ("put" : Str) = "let") ≠ false by decide +kernel)
    | lt x y => exact absurd c (show decide ((("let" : Str) = "put") ∨ ("let" : Str) = "let") ≠ false by decide +kernel)
def A_name_set : List SV → (Dt → Prop) → Prop := fun ss R => ∃ r : Row, ss = [.d r.dt] ∧ R = (· = stD r.sets)
theorem ok_name_set (T : Txt K mg) : FnOk P w K mg base CX0 1 T.name_set.a T.name_set.d ["row"] (spD A_name_set) := by
  refine fun_okC T.name_set.F sc_name_set (fun vs H Q E h => ?_) (fun cdv A outer s H vs Q E hcd hr h => ?_)
  · exact spD_len h fun ss R ⟨_, e, _⟩ => by rw [e]; rfl
  obtain ⟨ss, R, ⟨r, rfl, rfl⟩, hv, q⟩ := h
  have hs := slots_start ["row"] hv
  refine ⟨_, (pss_cons (ps_if (pt_cmpR op_in_seq (pe_ix ix_seq (pv 0) pe_int (fun _ _ => rfl)) (pe_tup (pa_cons pe_str (pa_cons pe_str pa_nil))) (by rfl)) (pss_one (ps_ret (pe_ix ix_seq (pv 0) pe_int (fun _ _ => rfl)))) pss_nil)
      (pss_one (ps_ret pe_non))), ?_⟩
  refine s_if (et_test (eb_in2 (ed_row (ed_var hs)) ed_str ed_str)) (fun c H1 e1 => ?_) (fun c H1 e1 => ?_)
  · have hs1 := hs.up e1
    cases r with
    | get x e => exact s_retD (s := .d (.text x)) (ed_ix (ed_var hs1) ed_int rfl) fun v H2 e2 h2 => q v H2 _ (e1.trans e2) h2 rfl
    | lt x e => exact s_retD (s := .d (.text x)) (ed_ix (ed_var hs1) ed_int rfl) fun v H2 e2 h2 => q v H2 _ (e1.trans e2) h2 rfl
    | put x y => exact absurd c (show decide ((("put" : Str) = "get") ∨ ("put" : Str) = "let") ≠ true by decide +kernel)
    | un x y => exact absurd c (show decide ((("unless" : Str) = "get") ∨ ("unless" : Str) = "let") ≠ true by decide +kernel)
    | tell x => exact absurd c (show decide ((("tell" : Str) = "get") ∨ ("tell" : Str) = "let") ≠ true by decide +kernel)
  · refine nx_of (X := tRet _ _) ?_
    refine s_retD (s := .d .none) ed_non fun v H3 e3 h2 => q v H3 _ (e1.trans e3) h2 ?_
    cases r with
    | put x y => rfl
    | un e x => rfl
    | tell e => rfl
    | get x y => exact absurd c (show decide ((("get" : Str) = "get") ∨ ("get" : Str) = "let") ≠ false by decide +kernel)
    | lt x y => exact absurd c (show decide ((("let" : Str) = "get") ∨ ("let" : Str) = "let") ≠ false by decide +kernel)
theorem row_names (r : Row) : ∀ z, z ∈ r.names ↔ (∃ x, r.sets = some x ∧ z = x) ∨ ∃ e, r.expr = some e ∧ z ∈ e.names := by
  intro z
  cases r with
  | put b e => simp [Row.names, Row.sets, Row.expr]
  | get x b => simp [Row.names, Row.sets, Row.expr]
  | lt x e => simp [Row.names, Row.sets, Row.expr]
  | un e to => simp [Row.names, Row.sets, Row.expr]
  | tell e => simp [Row.names, Row.sets, Row.expr]
def A_variables_of : List SV → (List Dt → Prop) → Prop := fun ss R => ∃ rs : List Row, rs.length ≤ 6 ∧ (∀ r ∈ rs, ∀ e, r.expr = some e → e.deep ≤ 3) ∧ ss = [.d (.tup (rs.map Row.dt))] ∧ R = fun ks => ∃ out, Sorts (rowsNames rs) out ∧ ks = txts out
theorem ok_variables_of (T : Txt K mg) : FnOk P w K mg base CX0 5 T.variables_of.a T.variables_of.d ["rows"] (spL A_variables_of) := by
  refine fun_okC T.variables_of.F sc_variables_of (fun vs H Q E h => ?_) (fun cdv A outer s H vs Q E hcd hr h => ?_)
  · exact spL_len h fun ss R ⟨_, _, _, e, _⟩ => by rw [e]; rfl
  obtain ⟨ss, R, ⟨rs, hl6, hdp, rfl, rfl⟩, hv, q⟩ := h
  have hs := slots_start ["rows", "found", "row", "name"] hv
  refine ⟨_, (pss_cons (ps_set (i := 1) sc_variables_of.nd rfl (Or.inl rfl) (pe_lst pa_nil))
      (pss_cons (ps_for PassesOwn.never rfl (pi_tup (pv 0)) (pg_name (i := 2) sc_variables_of.nd rfl (Or.inl rfl)) (pss_cons (ps_if (pt_cmp (pc_notN (pe_call (ok_name_set T) (hr.mono (by decide)) (by rfl) T.name_set.m T.name_set.F.kp T.name_set.b .nil pass0 (pa_cons (pv 2) pa_nil)))) (pss_one (ps_expr (pe_bm PySem.F.plainAttrs_list PySem.F.slot_list_append PySem.F.type_list_append mt_append (pv 1) (pa_cons (pe_call (ok_name_set T) (hr.mono (by decide)) (by rfl) T.name_set.m T.name_set.F.kp T.name_set.b .nil pass0 (pa_cons (pv 2) pa_nil)) pa_nil)))) pss_nil)
      (pss_one (ps_if (pt_cmp (pc_notN (pe_call (ok_expr_in T) (hr.mono (by decide)) (by rfl) T.expr_in.m T.expr_in.F.kp T.expr_in.b .nil pass0 (pa_cons (pv 2) pa_nil)))) (pss_one (ps_expr (pe_bm PySem.F.plainAttrs_list PySem.F.slot_list_extend PySem.F.type_list_extend mt_extend (pv 1) (pa_cons (pe_call (ok_names_in T 3) (hr.mono (by decide)) (by rfl) T.names_in.m T.names_in.F.kp T.names_in.b .nil pass0 (pa_cons (pe_call (ok_expr_in T) (hr.mono (by decide)) (by rfl) T.expr_in.m T.expr_in.F.kp T.expr_in.b .nil pass0 (pa_cons (pv 2) pa_nil)) pa_nil)) pa_nil)))) pss_nil))))
      (pss_one (ps_ret (pe_callB (cr_sortedX rfl hr) (by rfl) T.b_sorted (by decide +kernel) (pa_cons (pe_callTy (cr_setX rfl) (by rfl) T.b_set (by decide +kernel) (pa_cons (pe_lc (own := [("name", 3)]) (g := (gName 3)) (tt := tTest (tOp (rNeX K) (tVar 3) (tC (.str "v")))) (te := (tVar 3)) rfl sc_variables_of.nd (pi_list (pv 1)) (blkOk_by (by kernel_rfl)) (fun _ _ _ _ _ => (pg_name (i := 3) sc_variables_of.nd rfl (Or.inl rfl))) (fun _ _ _ _ _ => (pts_one (pt_cmpR (op_neX hr.units) (pv 3) (pe_glob rfl T.c_WRITERS_WORTH ⟨_, rfl⟩) (nomark _)))) (fun _ _ _ _ _ => (pv 3))) pa_nil)) pa_nil)))))), ?_⟩
  refine s_setL hs (el_lst [] ea_nil (by simp)) fun p xs ks σ1 H1 hk hp0 e1 hp1 hn1 hs1 => ?_
  subst hk
  refine nx_of (X := tSeq _ _ _) ?_
  refine s_seqJ (fun σ' H' => ∃ ys outs, H' p = some (.lst ys) ∧ NdAll H' ys (txts outs) ∧ (∀ z, z ∈ outs ↔ z ∈ rs.flatMap Row.names) ∧ outs.length ≤ 54 ∧ Same H H' ∧ Slots H' σ' [.d (.tup (rs.map Row.dt)), .v (.ref p), .u, .u]) (fun N hN => ?_) fun σ4 H4 ⟨ys, outs, h1, h2, h3, h4, e4, hs4⟩ => ?_
  · refine s_forT (ed_var hs1) fun H2 e2 => ⟨fun i σ' H' => ∃ ys outs, H' p = some (.lst ys) ∧ NdAll H' ys (txts outs) ∧ (∀ z, z ∈ outs ↔ z ∈ (rs.take i).flatMap Row.names) ∧ outs.length ≤ i * 9 ∧ Same H H' ∧ Tx H2 H' ∧ Slots H' σ' [.d (.tup (rs.map Row.dt)), .v (.ref p), .u, .u], ?_, fun i σ' H' ⟨_, _, _, _, _, _, _, t, _⟩ => t, ?_, ?_⟩
    · exact ⟨xs, [], e2 _ _ hp1, hn1.up e2, fun z => by simp, by simp, e1.trans e2, Tx.refl _, hs1.up e2⟩
    · rintro i k v σ' H' hk ⟨ys, outs, h1, h2, h3, h4, e5, t5, hs5⟩ hv5
      obtain ⟨r, hr, rfl⟩ := map_get hk
      have hrm : r ∈ rs := List.mem_of_getElem? hr
      have hi : i < rs.length := (List.getElem?_eq_some_iff.mp hr).1
      have hs6 : Slots H' (σ'.set 2 (some v)) [.d (.tup (rs.map Row.dt)), .v (.ref p), .d r.dt, .u] := hs5.set (s := .d r.dt) hv5 2
      show tSeq _ _ _ _ _
      refine s_seqJ (fun σ7 H7 => ∃ ys outs, H7 p = some (.lst ys) ∧ NdAll H7 ys (txts outs) ∧ (∀ z, z ∈ outs ↔ z ∈ (rs.take i).flatMap Row.names ∨ ∃ x, r.sets = some x ∧ z = x) ∧ outs.length ≤ i * 9 + 1 ∧ Same H H7 ∧ Tx H2 H7 ∧ Slots H7 σ7 [.d (.tup (rs.map Row.dt)), .v (.ref p), .d r.dt, .u]) (fun N7 hN7 => ?_) fun σ7 H7 ⟨ys7, outs7, g1, g2, g3, g4, g5, g6, hs7⟩ => ?_
      · refine s_if (et_test (eb_notN (k := stD r.sets) (ed_call (ea_cons (ed_var hs6) ea_nil) ⟨r, rfl, rfl⟩))) (fun c H7 e7 => ?_) (fun c H7 e7 => ?_)
        · have hs7 := hs6.up e7
          cases hst : r.sets with
          | none => rw [hst] at c; exact absurd c (by decide)
          | some x =>
            refine s_app (T := "") (e7 _ _ h1) (h2.up e7) (ev_var hs7) (Ed.ev (ed_call (k := stD r.sets) (ea_cons (ed_var hs7) ea_nil) ⟨r, rfl, rfl⟩)) (by simp only [txts, List.length_map]; omega) fun v k H8 hk e8 h8 h9 => hN7 _ _ ⟨_, outs ++ [x], upd_same, ?_, fun z => ?_, by rw [List.length_append]; simp only [List.length_cons, List.length_nil]; omega, same_mut ((e5.trans e7).trans e8) hp0, t5.trans ((tx_of (e7.trans e8)).trans (Tx.lst (e8 _ _ (e7 _ _ h1)))), (hs7.up e8).tx (Tx.lst (e8 _ _ (e7 _ _ h1)))⟩
            · rw [hk, hst] at h9
              unfold txts at h9 ⊢
              rw [List.map_append]
              exact h9
            · rw [List.mem_append, h3, List.mem_singleton, hst]
              simp
        · cases hst : r.sets with
          | some x => rw [hst] at c; exact absurd c (show (!decide (NestedKey.text x = NestedKey.none)) ≠ false by rw [decide_eq_false (by intro z; cases z)]; decide)
          | none =>
            refine hN7 _ _ ⟨ys, outs, e7 _ _ h1, h2.up e7, fun z => ?_, by omega, e5.trans e7, t5.trans (tx_of e7), hs6.up e7⟩
            rw [h3, hst]
            simp
      · refine s_if (et_test (eb_notN (k := exD r.expr) (ed_call (ea_cons (ed_var hs7) ea_nil) ⟨r, rfl, rfl⟩))) (fun c H8 e8 => ?_) (fun c H8 e8 => ?_)
        · have hs8 := hs7.up e8
          cases hst : r.expr with
          | none => rw [hst] at c; exact absurd c (by decide)
          | some e =>
            have hde := hdp r hrm e hst
            refine s_ext (R := fun js => ∃ out, Sorts e.names out ∧ js = txts out) (e8 _ _ g1) (g2.up e8) (ev_var hs8) (el_call (ea_cons (ed_call (k := e.dt) (ea_cons (ed_var hs8) ea_nil) ⟨r, rfl, by rw [hst]; rfl⟩) ea_nil) ⟨e, hde, Nat.le_refl _, rfl, rfl⟩) (fun js hj => ?_) fun zs js H9 hj e9 h9 => ?_
            · obtain ⟨out, ho, rfl⟩ := hj
              have := ho.len
              have := names_len 3 e hde
              simp only [txts, List.length_map]
              omega
            · obtain ⟨out, ho, rfl⟩ := hj
              have := ho.len
              have := names_len 3 e hde
              refine ⟨_, outs7 ++ out, upd_same, ?_, fun z => ?_, by rw [List.length_append]; omega, same_mut ((g5.trans e8).trans e9) hp0, g6.trans ((tx_of (e8.trans e9)).trans (Tx.lst (e9 _ _ (e8 _ _ g1)))), ((hs8.up e9).tx (Tx.lst (e9 _ _ (e8 _ _ g1)))).forget 2⟩
              · unfold txts at h9 ⊢
                rw [List.map_append]; exact h9
              · rw [take_succ hr, List.mem_append, g3, List.flatMap_append, List.mem_append, ho.mem]
                have := row_names r z
                rw [hst] at this
                simp only [List.flatMap_cons, List.flatMap_nil, List.append_nil]
                rw [this, or_assoc]
                simp
        · cases hst : r.expr with
          | some e => rw [hst] at c; exact absurd c (show (!decide (e.dt = NestedKey.none)) ≠ false by rw [decide_eq_false (ex_not_none e)]; decide)
          | none =>
            refine ⟨ys7, outs7, e8 _ _ g1, g2.up e8, fun z => ?_, by omega, g5.trans e8, g6.trans (tx_of e8), (hs7.up e8).forget 2⟩
            rw [take_succ hr, g3, List.flatMap_append, List.mem_append]
            have := row_names r z
            rw [hst] at this
            simp only [List.flatMap_cons, List.flatMap_nil, List.append_nil]
            rw [this]
            simp
    · rintro σ' H' ⟨ys, outs, h1, h2, h3, h4, e5, t5, hs5⟩
      rw [List.length_map] at h3 h4
      rw [List.take_length] at h3
      exact hN _ _ ⟨ys, outs, h1, h2, h3, by omega, e5, hs5⟩
  have hfl := List.length_filter_le (fun x => !decide (x = ("v" : Str))) outs
  refine s_retL (el_sortedTN (l := outs.filter fun x => !decide (x = ("v" : Str))) (El.imp (el_lcL (vs := [3]) NestedKey.text outs hs4 (fun x => !decide (x = ("v" : Str))) NestedKey.text (ev_var hs4) h1 h2 (by omega) (fun x => [.d (.tup (rs.map Row.dt)), .v (.ref p), .u, .d (.text x)]) (fun x _ => tg_name (K := K) (by simp))
    (fun x _ σ2 H2 e2 hs2 => Eb.is (et_test (eb_ne (ed_var hs2) ed_str)) (by rw [decide_eq_decide.mpr txt_eq])) (fun x _ _ σ2 H2 e2 hs2 => ed_var hs2)) fun ks hk => hk) (by omega)) fun p' xs' H5 ks hp' e5 h5 h6 hk => q p' xs' H5 ks (same_back e4 hp') (e4.trans e5) h5 h6 ?_
  obtain ⟨out, ho, rfl⟩ := hk
  refine ⟨out, ⟨ho.pw, ho.nd, fun z => (ho.mem z).trans ?_⟩, rfl⟩
  unfold rowsNames
  rw [List.mem_filter, List.mem_filter, h3]
end
end SB
set_option maxRecDepth 100000
set_option maxHeartbeats 8000000
/-! box_of_row, box_places, first_stand. -/
namespace SB
open PySem L2 PyProof.Rows
theorem mapIdx_take {α β : Type} (r : Nat → α → β) {l : List α} {i : Nat} {a : α} (h : l[i]? = some a) : (l.take (i + 1)).mapIdx r = (l.take i).mapIdx r ++ [r i a] := by
  have hi := (List.getElem?_eq_some_iff.mp h).1
  rw [take_succ h, List.mapIdx_append]
  simp
  congr 1
  omega
section
variable {α : Type} {K : PySem.W.Frag} {σ : L2.St} {H : Hp} {te tx : TE} {g : TG} {ss : List SV}
/-- [.. for i, x in enumerate(t)] -/
theorem el_lcE {vs : List Nat} (enc : α → Dt) (l : List α) (hs : Slots H σ ss) (r : Nat → α → Dt) (h : Ed te σ H (.d (.tup (l.map enc)))) (hz : l.length < 50000) (ss' : Nat → α → List SV) (ht : ∀ i : Nat, ∀ a ∈ l, Tg K g vs (wipeS ss vs) (.tup [.num (i : Int), enc a]) (ss' i a))
    (he : ∀ i : Nat, ∀ a ∈ l, ∀ σ2 H2, Same H H2 → Slots H2 σ2 (ss' i a) → Ed tx σ2 H2 (.d (r i a))) :
    El (tLc (iEnX K (tCons te tNil)) g tYes tx vs) σ H (· = l.mapIdx r) := fun H0 e0 Q q => .inl (h H0 e0 _ fun v H1 e h1 => by
  obtain ⟨a, xs, rfl, h4, h5⟩ := Nd.tup_inv h1
  have hlen : xs.length = l.length := by rw [h5.len, List.length_map]
  refine ⟨a, xs, rfl, SqT.of h4, fun Dl hD => ⟨fun i m H' => m = xs.length - i ∧ i ≤ xs.length ∧ Cw H1 Dl ((l.take i).mapIdx r) H', ⟨xs.length, by simp, Nat.zero_le _, same_new hD, [], upd_same, .nil⟩, ?_⟩⟩
  rintro i m H' ⟨rfl, hi, c⟩
  have h6 := c.1 _ _ h4
  by_cases hlt : i < xs.length
  · refine .inr ⟨⟨SqT.of h6, hlt⟩, fun H2 => Cw H1 Dl ((l.take (i + 1)).mapIdx r) H2, fun H2 c2 => ⟨xs.length - (i + 1), by omega, rfl, hlt, c2⟩, fun x H2 y => ?_⟩
    obtain ⟨T, z, rfl, hT, rfl, hz'⟩ := y
    obtain ⟨k, hk, h7⟩ := h5.getV hz'
    obtain ⟨b, hb1, rfl⟩ := map_get hk
    have hm : b ∈ l := List.mem_of_getElem? hb1
    have s2 : Same H' (upd H' T (.tup [.int (i : Nat), z])) := same_new hT
    have c2 : Cw H1 Dl ((l.take i).mapIdx r) (upd H' T (.tup [.int (i : Nat), z])) := by
      obtain ⟨c1, ys, c2, c3⟩ := c
      exact ⟨c1.trans s2, ys, s2 _ _ c2, c3.up s2⟩
    have e1 := (e0.trans e).trans c2.1
    refine ht i b hm _ _ _ ((hs.wipe vs).up e1) (.tup upd_same (.cons (.int _) (.one (h7.up c2.1)))) _ fun σ' hs' hw => ⟨by rw [hw]; exact wipe_wipe _ _, ?_⟩
    have := cw_turn (t := tYes) (te := tx) (σ2 := σ') (f := true) (kv := r i b) hD c2 (by rw [List.length_mapIdx, List.length_take]; omega) eb_yes (fun _ => he i b hm σ' _ e1 hs')
    rw [if_pos rfl, ← mapIdx_take r hb1] at this
    exact this
  · have hi' : i = l.length := by omega
    subst hi'
    rw [List.take_length] at c
    obtain ⟨c1, ys, c2, c3⟩ := c
    exact .inl ⟨⟨SqT.of h6, by omega⟩, q Dl ys H' _ (same_back e hD) (e.trans c1) c2 c3 rfl⟩)
end
section
variable {P : Program} {w : World} {K : PySem.W.Frag} {mg : Str → Option Value} {base : Heap}
def Row.box : Row → Option Str
  | .put b _ => some b
  | .get _ b => some b
  | _ => none
def A_box_of_row : List SV → (Dt → Prop) → Prop := fun ss R => ∃ (r : Row) (b : Str), r.box = some b ∧ ss = [.d r.dt] ∧ R = (· = .text b)
theorem ok_box_of_row (T : Txt K mg) : FnOk P w K mg base CX0 1 T.box_of_row.a T.box_of_row.d ["row"] (spD A_box_of_row) := by
  refine fun_okC T.box_of_row.F sc_box_of_row (fun vs H Q E h => ?_) (fun cdv A outer s H vs Q E hcd hr h => ?_)
  · exact spD_len h fun ss R ⟨_, _, _, e, _⟩ => by rw [e]; rfl
  obtain ⟨ss, R, ⟨r, b, hb, rfl, rfl⟩, hv, q⟩ := h
  have hs := slots_start ["row"] hv
  refine ⟨_, (pss_cons (ps_if (pt_cmpR (op_eqX hr.units) (pe_ix ix_seq (pv 0) pe_int (fun _ _ => rfl)) pe_str (nomark _)) (pss_one (ps_ret (pe_ix ix_seq (pv 0) pe_int (fun _ _ => rfl)))) pss_nil)
      (pss_one (ps_ret (pe_ix ix_seq (pv 0) pe_int (fun _ _ => rfl))))), ?_⟩
  refine s_if (et_test (eb_eq (ed_row (ed_var hs)) ed_str)) (fun c H1 e1 => ?_) (fun c H1 e1 => ?_)
  · have hs1 := hs.up e1
    have c := txt_eq.mp (of_decide_eq_true c)
    cases r with
    | put x e => cases hb; exact s_retD (s := .d (.text b)) (ed_ix (ed_var hs1) ed_int rfl) fun v H2 e2 h2 => q v H2 _ (e1.trans e2) h2 rfl
    | get x e => exact absurd (show ("get" : Str) = "put" from c) (by decide +kernel)
    | lt x e => cases hb
    | un x y => cases hb
    | tell x => cases hb
  · have hs1 := hs.up e1
    refine nx_of (X := tRet _ _) ?_
    cases r with
    | get x y => cases hb; exact s_retD (s := .d (.text b)) (ed_ix (ed_var hs1) ed_int rfl) fun v H2 e2 h2 => q v H2 _ (e1.trans e2) h2 rfl
    | put x e => exact absurd (show NestedKey.text ("put" : Str) = .text "put" from rfl) (of_decide_eq_false c)
    | lt x e => cases hb
    | un x y => cases hb
    | tell x => cases hb
/-- the boxes' places -/
def placesL (M : Mk) : List (Key × V) := M.bxs.mapIdx fun i b => (.inr b.nm, .int (i : Int))
def places (M : Mk) : List (Key × V) := mergeK [] (placesL M)
def spPlaces : Sp := fun vs H Q _ => ∃ v M, vs = [v] ∧ MkOk M ∧ Nd H v M.dt ∧ ∀ p H' H'', H p = none → Same H H' → H'' = upd H' p (.dK (places M)) → H' p = none → Q (.ref p) H''
theorem pairs_nd {H : Hp} : ∀ (l : List Bx) (n : Nat) (xs : List V), NdAll H xs (l.mapIdx fun i b => NestedKey.tup [.text b.nm, .num ((n + i : Nat) : Int)]) → ∃ ps : List Addr, xs = ps.map V.ref ∧ Paired (fun p (kv : Key × V) => H p = some (.tup [kV kv.1, kv.2])) ps (l.mapIdx fun i b => ((.inr b.nm, .int ((n + i : Nat) : Int)) : Key × V))
  | [], n, xs, h => by cases h; exact ⟨[], rfl, .nil⟩
  | b :: l, n, xs, h => by
    rw [List.mapIdx_cons] at h
    cases h with
    | cons r t =>
      have t' : ∀ zs, NdAll H zs (l.mapIdx fun i b => NestedKey.tup [.text b.nm, .num ((n + (i + 1) : Nat) : Int)]) → NdAll H zs (l.mapIdx fun i b => NestedKey.tup [.text b.nm, .num ((n + 1 + i : Nat) : Int)]) := by
        intro zs hz
        have e : (fun (i : Nat) (b : Bx) => NestedKey.tup [.text b.nm, .num ((n + (i + 1) : Nat) : Int)]) = fun i b => NestedKey.tup [.text b.nm, .num ((n + 1 + i : Nat) : Int)] := by
          funext i b
          rw [show n + (i + 1) = n + 1 + i by omega]
        rw [e] at hz
        exact hz
      obtain ⟨ps, h1, h2⟩ := pairs_nd l (n + 1) _ (t' _ t)
      obtain ⟨a, zs, rfl, h3, h4⟩ := Nd.tup_inv r
      cases h4 with
      | cons r1 t1 =>
        cases t1 with
        | cons r2 t2 =>
          cases t2
          cases r1; cases r2
          refine ⟨a :: ps, by rw [List.map_cons, h1], ?_⟩
          rw [List.mapIdx_cons]
          refine .cons h3 ?_
          have e : (fun (i : Nat) (b : Bx) => ((.inr b.nm, .int ((n + (i + 1) : Nat) : Int)) : Key × V)) = fun i b => (.inr b.nm, .int ((n + 1 + i : Nat) : Int)) := by
            funext i b
            rw [show n + (i + 1) = n + 1 + i by omega]
          rw [e]
          exact h2
theorem paired_imp {α β : Type} {R R' : α → β → Prop} (h : ∀ a b, R a b → R' a b) : ∀ {l : List α} {m : List β}, Paired R l m → Paired R' l m
  | _, _, .nil => .nil
  | _, _, .cons r t => .cons (h _ _ r) (paired_imp h t)
/-- return dict(a new list of pairs) -/
theorem ret_dictP {te : TE} {σ : L2.St} {H : Hp} {D : Ends} {R : List Dt → Prop} (h : El te σ H R) (q : ∀ p xs H1 ks, H p = none → Same H H1 → H1 p = some (.lst xs) → NdAll H1 xs ks → R ks →
    ∃ (a : Addr) (ps : List Addr) (kvs : List (Key × V)), [V.ref p] = [.ref a] ∧ SqL K H1 a (ps.map V.ref) ∧ Paired (fun p kv => SqT K H1 p [kV kv.1, kv.2]) ps kvs ∧ ∀ p', H1 p' = none → D.rt (.ref p') (upd H1 p' (.dK (mergeK [] kvs)))) :
    tRet (tCB (fun xs H Q => ∃ (a : Addr) (ps : List Addr) (kvs : List (Key × V)), xs = [.ref a] ∧ SqL K H a (ps.map V.ref) ∧ Paired (fun p kv => SqT K H p [kV kv.1, kv.2]) ps kvs ∧ ∀ p, H p = none → Q (.ref p) (upd H p (.dK (mergeK [] kvs)))) (tCons te tNil)) D σ H :=
  h H (.refl H) _ fun p xs H1 ks hp e h1 h2 hk => q p xs H1 ks hp e h1 h2 hk
theorem ok_box_places (T : Txt K mg) : FnOk P w K mg base CX0 1 T.box_places.a T.box_places.d ["making"] (spPlaces) := by
  refine fun_okC T.box_places.F sc_box_places (fun vs H Q E h => ?_) (fun cdv A outer s H vs Q E hcd hr h => ?_)
  · obtain ⟨_, _, e, _⟩ := h
    rw [e]; rfl
  obtain ⟨v, M, rfl, hM, hv, q⟩ := h
  have hs : Slots H (L2.start ["making", "k", "box"] [v]) [.d M.dt, .u, .u] := slots_start ["making", "k", "box"] (.cons (s := .d M.dt) hv .nil)
  refine ⟨_, (pss_one (ps_ret (pe_callTy (call_dictP rfl) (by rfl) T.b_dict (by decide +kernel) (pa_cons (pe_lc (own := [("k", 1), ("box", 2)]) (g := (gTup K 2 (gCons (gName 1) (gCons (gName 2) gNil)))) (tt := tYes) (te := (tTup (tCons (tOp (rIx K) (tVar 2) (tC (.int 0))) (tCons (tVar 1) tNil)))) rfl sc_box_places.nd (pi_enumX (by rfl) T.b_enumerate (pa_cons (pe_ix ix_seq (pv 0) pe_int (fun _ _ => rfl)) pa_nil)) (blkOk_by (by kernel_rfl)) (fun _ _ _ _ _ => (pg_tup rfl (pgs_cons (pg_name (i := 1) sc_box_places.nd rfl (Or.inl rfl)) (pgs_cons (pg_name (i := 2) sc_box_places.nd rfl (Or.inl rfl)) pgs_nil)))) (fun _ _ _ _ _ => pts_nil) (fun _ _ _ _ _ => (pe_tup (pa_cons (pe_ix ix_seq (pv 2) pe_int (fun _ _ => rfl)) (pa_cons (pv 1) pa_nil))))) pa_nil)))), ?_⟩
  have hbl := hM.bl
  refine ret_dictP (el_lcE (vs := [1, 2]) Bx.dt M.bxs hs (fun i b => .tup [.text b.nm, .num ((0 + i : Nat) : Int)]) (ed_ix (ed_var hs) ed_int rfl) (by omega) (fun i b => [.d M.dt, .d (.num (i : Int)), .d b.dt]) (fun i b _ => tg_tup2 (K := K) (by simp) (by simp))
    (fun i b _ σ2 H2 e2 hs2 => Ed.is (ed_tup [.text b.nm, .num (i : Int)] (ea_cons (ed_ix (ed_var hs2) ed_int rfl) (ea_cons (ed_var hs2) ea_nil)) (by simp)) (by rw [Nat.zero_add]))) fun p xs H1 ks hp e1 h1 h2 hk => ?_
  subst hk
  obtain ⟨ps, rfl, h3⟩ := pairs_nd M.bxs 0 xs h2
  refine ⟨p, ps, _, rfl, SqL.of h1, paired_imp (fun a b h => SqT.of h) h3, fun p' hp' => q p' H1 _ (same_back e1 hp') e1 ?_ hp'⟩
  have e : (M.bxs.mapIdx fun i b => ((.inr b.nm, .int ((0 + i : Nat) : Int)) : Key × V)) = placesL M := by
    unfold placesL
    congr 1
    funext i b
    rw [Nat.zero_add]
  rw [e]
  rfl
theorem vars_len {M : Mk} {k : Nat} {d : Hn} (D : HnOk M k d) : d.vars.length ≤ 60 := by
  have h1 := D.vars.len
  have h2 : (rowsNames d.rows).length ≤ (d.rows.flatMap Row.names).length := List.length_filter_le _ _
  have h3 : ∀ rs : List Row, (∀ r ∈ rs, ∀ e, r.expr = some e → e.deep ≤ 3) → (rs.flatMap Row.names).length ≤ rs.length * 9 := by
    intro rs
    induction rs with
    | nil => intro _; simp
    | cons r rs ih =>
      intro h
      have i1 := ih fun r' hr' => h r' (List.mem_cons_of_mem _ hr')
      have i2 : r.names.length ≤ 9 := by
        have h4 := h r List.mem_cons_self
        cases r with
        | put b e => have := names_len 3 e (h4 e rfl); show e.names.length ≤ 9; omega
        | get x b => simp [Row.names]
        | lt x e => have := names_len 3 e (h4 e rfl); show e.names.length + 1 ≤ 9; omega
        | un e to => have := names_len 3 e (h4 e rfl); show e.names.length ≤ 9; omega
        | tell e => have := names_len 3 e (h4 e rfl); show e.names.length ≤ 9; omega
      rw [List.flatMap_cons, List.length_append, List.length_cons]
      omega
  have h5 := h3 d.rows fun r hr e he => by
    obtain ⟨j, hj⟩ := List.getElem?_of_mem hr
    exact ((D.row j r hj).ex e he).2
  have := D.rl
  omega
def A_first_stand : List SV → (Dt → Prop) → Prop := fun ss R => ∃ M : Mk, MkOk M ∧ ss = [.d M.dt] ∧ R = (· = M.first.dt)
theorem ok_first_stand (T : Txt K mg) : FnOk P w K mg base CX0 6 T.first_stand.a T.first_stand.d ["making"] (spD A_first_stand) := by
  refine fun_okC T.first_stand.F sc_first_stand (fun vs H Q E h => ?_) (fun cdv A outer s H vs Q E hcd hr h => ?_)
  · exact spD_len h fun ss R ⟨_, _, e, _⟩ => by rw [e]; rfl
  obtain ⟨ss, R, ⟨M, hM, rfl, rfl⟩, hv, q⟩ := h
  have hs := slots_start ["making", "hands", "boxes", "name", "within", "rows", "box"] hv
  have hbl := hM.bl
  have hhl := hM.hl
  refine ⟨_, (pss_cons (ps_setLc (i := 1) (own := [("name", 3), ("within", 4), ("rows", 5)]) (g := (gTup K 3 (gCons (gName 3) (gCons (gName 4) (gCons (gName 5) gNil))))) (tt := tYes) (te := (tTup (tCons (tC (.int (-1))) (tCons (tC .non) (tCons (tC (.int 0)) (tCons (tC (.int 0)) (tCons (tOp (rMulX K) (tTup (tCons (tC (.int 0)) tNil)) (tCB (rLen K) (tCons (tCall (spL A_variables_of) [] E0 (tCons (tVar 5) tNil)) tNil))) tNil))))))) rfl sc_first_stand.nd rfl rfl (sw_true rfl rfl rfl (by decide +kernel)) (pi_tup (pe_ix ix_seq (pv 0) pe_int (fun _ _ => rfl))) (blkOk_by (by kernel_rfl)) (fun _ _ _ _ _ => (pg_tup rfl (pgs_cons (pg_name (i := 3) sc_first_stand.nd rfl (Or.inl rfl)) (pgs_cons (pg_name (i := 4) sc_first_stand.nd rfl (Or.inl rfl)) (pgs_cons (pg_name (i := 5) sc_first_stand.nd rfl (Or.inl rfl)) pgs_nil))))) (fun _ _ _ _ _ => pts_nil) (fun _ _ _ _ _ => (pe_tup (pa_cons (pe_glob rfl T.c_IDLE ⟨_, rfl⟩) (pa_cons pe_non (pa_cons pe_int (pa_cons pe_int (pa_cons (pe_op op_mulX (pe_tup (pa_cons pe_int pa_nil)) (pe_callB call_len (by rfl) T.b_len PySem.boot_len (pa_cons (pe_call (ok_variables_of T) (hr.mono (by decide)) (by rfl) T.variables_of.m T.variables_of.F.kp T.variables_of.b .nil pass0 (pa_cons (pv 5) pa_nil)) pa_nil))) pa_nil))))))))
      (pss_cons (ps_setLc (i := 2) (own := [("box", 6)]) (g := (gName 6)) (tt := tYes) (te := (tTup (tCons (tOp (rIx K) (tVar 6) (tC (.int 3))) (tCons (tUn (rU fun i => .int (-i)) (tC (.int 1))) tNil)))) rfl sc_first_stand.nd rfl rfl (sw_true rfl rfl rfl (by decide +kernel)) (pi_tup (pe_ix ix_seq (pv 0) pe_int (fun _ _ => rfl))) (blkOk_by (by kernel_rfl)) (fun _ _ _ _ _ => (pg_name (i := 6) sc_first_stand.nd rfl (Or.inl rfl))) (fun _ _ _ _ _ => pts_nil) (fun _ _ _ _ _ => (pe_tup (pa_cons (pe_ix ix_seq (pv 6) pe_int (fun _ _ => rfl)) (pa_cons (pe_un un_neg pe_int) pa_nil)))))
      (pss_one (ps_ret (pe_tup (pa_cons (pe_callTy call_tuple_of (by rfl) T.b_tuple (by decide +kernel) (pa_cons (pv 1) pa_nil)) (pa_cons (pe_callTy call_tuple_of (by rfl) T.b_tuple (by decide +kernel) (pa_cons (pv 2) pa_nil)) (pa_cons (pe_call (ok_claim_begun T) (hr.mono (by decide)) (by rfl) T.claim_begun.m T.claim_begun.F.kp T.claim_begun.b .nil pass0 (pa_cons (pv 0) pa_nil)) pa_nil)))))))), ?_⟩
  refine s_setL hs (el_lcM (vs := [3, 4, 5]) Hn.dt M.hds hs (fun _ => true) (fun d => (⟨-1, none, 0, 0, List.replicate d.vars.length 0⟩ : HS).dt) (ed_ix (ed_var hs) ed_int rfl) (by omega) (fun d => [.d M.dt, .u, .u, .d (.text d.nm), .d (.num d.wi), .d (.tup (d.rows.map Row.dt)), .u])
    (fun d _ => tg_tup3 (K := K) (by simp) (by simp) (by simp)) (fun d _ σ2 H2 e2 hs2 => eb_yes) (fun d hd _ σ2 H2 e2 hs2 => ?_)) fun p xs ks σ1 H1 hk hp e1 h1 h2 hs1 => ?_
  · obtain ⟨i, hi⟩ := List.getElem?_of_mem hd
    have D := hM.hd i d hi
    have hvl : d.vars.length ≤ 60 := vars_len D
    refine Ed.is (ed_tup [.num (-1), .none, .num 0, .num 0, .tup (List.replicate d.vars.length [.num 0]).flatten] (ea_cons (Ed.vi ev_c) (ea_cons ed_non (ea_cons ed_int (ea_cons ed_int (ea_cons (ed_rep (n := d.vars.length) (ed_tup [.num 0] (ea_cons ed_int ea_nil) (by simp)) (Ev.ed (Ev.imp (ed_lenN (el_call (ea_cons (ed_var hs2) ea_nil) ⟨d.rows, D.rl, fun r hr e he => ?_, rfl, rfl⟩)) fun k hk => ?_)) (by simp) (by simp) (by omega)) ea_nil))))) (by simp)) ?_
    · obtain ⟨j, hj⟩ := List.getElem?_of_mem hr
      exact ((D.row j r hj).ex e he).2
    · obtain ⟨ks, ⟨out, ho, rfl⟩, rfl⟩ := hk
      rw [ho.one D.vars (fun _ => Iff.rfl)]
      simp [txts]
    · rw [rep_one, nums_rep]
      rfl
  subst hk
  refine nx_of (X := tSeq _ _ _) ?_
  refine s_setL hs1 (el_lcM (vs := [6]) Bx.dt M.bxs hs1 (fun _ => true) (fun b => (⟨b.bg, -1⟩ : BS).dt) (ed_ix (ed_var hs1) ed_int rfl) (by omega) (fun b => [.d M.dt, .v (.ref p), .u, .u, .u, .u, .d b.dt])
    (fun d _ => tg_name (K := K) (by simp)) (fun d _ σ2 H2 e2 hs2 => eb_yes) (fun b _ _ σ2 H2 e2 hs2 => ed_tup [.num b.bg, .num (-1)] (ea_cons (ed_ix (ed_var hs2) ed_int rfl) (ea_cons (ed_neg ed_int) ea_nil)) (by simp))) fun p2 xs2 ks σ2 H2 hk hp2 e2 h3 h4 hs2 => ?_
  subst hk
  refine nx_of (X := tRet _ _) ?_
  refine s_retD (s := .d M.first.dt) (Ed.is (ed_tup [.tup _, .tup _, M.claim0.dt] (ea_cons (ed_tupL (ev_var hs2) (e2 _ _ h1) (h2.up e2)) (ea_cons (ed_tupL (ev_var hs2) h3 h4) (ea_cons (ed_call (ea_cons (ed_var hs2) ea_nil) ⟨M, hM, rfl, rfl⟩) ea_nil))) (by simp)) ?_) fun v H3 e3 h5 => q v H3 _ ((e1.trans e2).trans e3) h5 rfl
  rw [outM_all, outM_all]
  show _ = NestedKey.tup [.tup (List.map HS.dt (List.map _ _)), .tup (List.map BS.dt (List.map _ _)), M.claim0.dt]
  rw [List.map_map, List.map_map]
  rfl
end
end SB
set_option maxRecDepth 100000
set_option maxHeartbeats 8000000
/-! picks_of, steps_of. -/
namespace SB
open PySem L2 PyProof.Rows
theorem ed_hand {M : Mk} {s : Sd} {k : Nat} {h : HS} {K : PySem.W.Frag} {ta tb : TE} {σ : L2.St} {H : Hp} (ha : Ed ta σ H (.d s.dt)) (hb : Ed tb σ H (.d (.num (k : Int)))) (hh : s.hs[k]? = some h) : Ed (tOp (rIx K) (tOp (rIx K) ta (tC (.int 0))) tb) σ H (.d h.dt) :=
  ed_ix (ed_ix (k := .tup (s.hs.map HS.dt)) ha ed_int rfl) hb (atI_nat (by rw [List.getElem?_map, hh]; rfl))
theorem ed_hn {M : Mk} {k : Nat} {d : Hn} {K : PySem.W.Frag} {ta tb : TE} {σ : L2.St} {H : Hp} (ha : Ed ta σ H (.d M.dt)) (hb : Ed tb σ H (.d (.num (k : Int)))) (hd : M.hds[k]? = some d) : Ed (tOp (rIx K) (tOp (rIx K) ta (tC (.int 4))) tb) σ H (.d d.dt) :=
  ed_ix (ed_ix (k := .tup (M.hds.map Hn.dt)) ha ed_int rfl) hb (atI_nat (by rw [List.getElem?_map, hd]; rfl))
theorem ed_rowAt {d : Hn} {r : Row} {i : Int} {K : PySem.W.Frag} {ta tb : TE} {σ : L2.St} {H : Hp} (ha : Ed ta σ H (.d (.tup (d.rows.map Row.dt)))) (hb : Ed tb σ H (.d (.num i))) (h0 : 0 ≤ i) (hr : d.rows[i.toNat]? = some r) : Ed (tOp (rIx K) ta tb) σ H (.d r.dt) := by
  obtain ⟨n, rfl⟩ := Int.eq_ofNat_of_zero_le h0
  exact ed_ix ha hb (atI_nat (by rw [List.getElem?_map, show d.rows[n]? = some r from hr]; rfl))
theorem half_none {o : Option (List Int)} : (tellD o = .none) ↔ o = none := by
  cases o with
  | none => exact ⟨fun _ => rfl, fun _ => rfl⟩
  | some l => exact ⟨(fun h => by cases h), (fun h => by cases h)⟩
section
variable {α : Type} {K : PySem.W.Frag} {σ : L2.St} {H : Hp} {te tx : TE} {t : TT} {g : TG} {ss : List SV}
/-- a comprehension over a new list -/
theorem el_lcN {vs : List Nat} (enc : α → Dt) (l : List α) (hs : Slots H σ ss) (f : α → Bool) (r : α → Dt) (h : El te σ H (· = l.map enc)) (hz : l.length < 50000) (ss' : α → List SV) (ht : ∀ a ∈ l, Tg K g vs (wipeS ss vs) (enc a) (ss' a))
    (hb : ∀ a ∈ l, ∀ σ2 H2, Same H H2 → Slots H2 σ2 (ss' a) → Eb t σ2 H2 (f a)) (he : ∀ a ∈ l, f a = true → ∀ σ2 H2, Same H H2 → Slots H2 σ2 (ss' a) → Ed tx σ2 H2 (.d (r a))) :
    El (tLc (iList K te) g t tx vs) σ H (· = outM f r l) := fun H0 e0 Q q => h H0 e0 _ fun p xs H1 ks hp e h4 h5 hk => by
  subst hk
  have hlen : xs.length = l.length := by rw [h5.len, List.length_map]
  refine ⟨p, rfl, ⟨xs, SqL.of h4⟩, fun Dl hD => lc_list (K := K) (a := p) (xs := xs) (fun i H' => Cw H1 Dl (outM f r (l.take i)) H') ⟨same_new hD, [], upd_same, .nil⟩ (fun i H' _ c => SqL.of (c.1 _ _ h4)) (fun i x H' hi c => ?_) (fun H' c => ?_)⟩
  · obtain ⟨k, hk, h6⟩ := h5.getV hi
    obtain ⟨b, hb1, rfl⟩ := map_get hk
    have hm : b ∈ l := List.mem_of_getElem? hb1
    have e1 := (e0.trans e).trans c.1
    have hi' : i < l.length := (List.getElem?_eq_some_iff.mp hb1).1
    refine ht b hm H' _ x ((hs.wipe vs).up e1) (h6.up c.1) _ fun σ' hs' hw => ⟨by rw [hw]; exact wipe_wipe _ _, ?_⟩
    have := cw_turn (t := t) (te := tx) (σ2 := σ') (f := f b) (kv := r b) hD c (Nat.lt_of_le_of_lt (outM_len _ _ _) (by rw [List.length_take]; omega)) (hb b hm σ' H' e1 hs') (fun hf => he b hm hf σ' H' e1 hs')
    rw [outM_succ hb1] at this
    exact this
  · rw [hlen, List.take_length] at c
    obtain ⟨c1, ys, c2, c3⟩ := c
    exact q Dl ys H' _ (same_back e hD) (e.trans c1) c2 c3 rfl
end
section
variable {P : Program} {w : World} {K : PySem.W.Frag} {mg : Str → Option Value} {base : Heap}
def A_picks_of : List SV → (List Dt → Prop) → Prop := fun ss R => ∃ (M : Mk) (s : Sd) (k : Nat) (d : Hn) (h : HS), MkOk M ∧ M.hds[k]? = some d ∧ s.hs[k]? = some h ∧ HOk M s.bs d h ∧ ss = [.d M.dt, .d s.dt, .d (.num (k : Int))] ∧ R = (· = nums (M.picks k d h))
theorem ok_picks_of (T : Txt K mg) : FnOk P w K mg base CX0 1 T.picks_of.a T.picks_of.d ["making", "stand", "k"] (spL A_picks_of) := by
  refine fun_okC T.picks_of.F sc_picks_of (fun vs H Q E h => ?_) (fun cdv A outer s H vs Q E hcd hr h => ?_)
  · exact spL_len h fun ss R ⟨_, _, _, _, _, _, _, _, _, e, _⟩ => by rw [e]; rfl
  obtain ⟨ss, R, ⟨M, st, k, d, hh, hM, hd, hk, hK, rfl, rfl⟩, hv, q⟩ := h
  have hs := slots_start ["making", "stand", "k", "at", "half", "worth", "count", "numbers"] hv
  have hz := hM.sz
  refine ⟨_, (pss_cons (ps_asg (pe_ix ix_seq (pe_ix ix_seq (pv 1) pe_int (fun _ _ => rfl)) (pv 2) (fun _ _ => rfl)) (pg_tup rfl (pgs_cons (pg_name (i := 3) sc_picks_of.nd rfl (Or.inl rfl)) (pgs_cons (pg_name (i := 4) sc_picks_of.nd rfl (Or.inl rfl)) (pgs_cons (pg_name (i := 5) sc_picks_of.nd rfl (Or.inl rfl)) (pgs_cons (pg_name (i := 6) sc_picks_of.nd rfl (Or.inl rfl)) (pgs_cons (pg_name (i := 7) sc_picks_of.nd rfl (Or.inl rfl)) pgs_nil)))))))
      (pss_cons (ps_if (pt_cmpR (op_eqX hr.units) (pv 3) (pe_glob (v := .int (-1)) rfl T.c_IDLE ⟨_, rfl⟩) (nomark _)) (pss_cons (ps_if (pt_cmpR (op_eqX hr.units) (pv 2) pe_int (nomark _)) (pss_one (ps_ret (pe_listRg rfl (by rfl) T.b_list (prg_1 (by rfl) T.b_range (pe_ix ix_seq (pv 0) pe_int (fun _ _ => rfl)))))) pss_nil)
      (pss_one (ps_ret (pe_lst (pa_cons pe_int pa_nil))))) pss_nil)
      (pss_cons (ps_if (PW.pt (pw_and (pt_cmp (pc_notN (pv 4))) (pw_and1 (pt_cmpR (op_eqX hr.units) (pe_ix ix_seq (pe_ix ix_seq (pe_ix ix_seq (pe_ix ix_seq (pe_ix ix_seq (pv 0) pe_int (fun _ _ => rfl)) (pv 2) (fun _ _ => rfl)) pe_int (fun _ _ => rfl)) (pv 3) (fun _ _ => rfl)) pe_int (fun _ _ => rfl)) pe_str (nomark _))))) (pss_one (ps_ret (pe_callTy call_list_of (by rfl) T.b_list (by decide +kernel) (pa_cons (pv 4) pa_nil)))) pss_nil)
      (pss_one (ps_ret (pe_lst (pa_cons pe_int pa_nil))))))), ?_⟩
  refine s_unp5 hs (ed_hand (M := M) (ed_var hs) (ed_var hs) hk) fun σ1 H1 e1 hs1 => ?_
  refine nx_of (X := tSeq _ _ _) ?_
  refine s_if (et_test (eb_eq (ed_var hs1) (Ed.vi ev_c))) (fun c H2 e2 => ?_) (fun c H2 e2 => ?_)
  · have c : hh.pc = -1 := num_eq.mp (of_decide_eq_true c)
    have hs2 := hs1.up e2
    have e02 := e1.trans e2
    show tSeq _ _ _ _ _
    refine s_if (et_test (eb_eq (ed_var hs2) ed_int)) (fun c2 H3 e3 => ?_) (fun c2 H3 e3 => ?_)
    · have c2 : (k : Int) = 0 := num_eq.mp (of_decide_eq_true c2)
      have hs3 := hs2.up e3
      refine s_retL (el_listRg (ed_ix (ed_var hs3) ed_int rfl) (by omega) (by omega)) fun p xs H4 ks hp e4 h1 h2 hk => q p xs H4 ks (same_back (e02.trans e3) hp) ((e02.trans e3).trans e4) h1 h2 ?_
      rw [hk]
      unfold Mk.picks
      rw [if_pos c, if_pos (by omega)]
    · have c2 : ¬ (k : Int) = 0 := fun z => of_decide_eq_false c2 (num_eq.mpr z)
      refine nx_of (X := tRet _ _) ?_
      refine s_retL (el_lst [.num 0] (ea_cons ed_int ea_nil) (by simp)) fun p xs H4 ks hp e4 h1 h2 hk => q p xs H4 ks (same_back (e02.trans e3) hp) ((e02.trans e3).trans e4) h1 h2 ?_
      rw [hk]
      unfold Mk.picks
      rw [if_pos c, if_neg (by omega)]
      rfl
  have c : ¬ hh.pc = -1 := fun z => of_decide_eq_false c (num_eq.mpr z)
  have hs2 := hs1.up e2
  have e02 := e1.trans e2
  obtain ⟨hp0, r, hr, hpg⟩ : 0 ≤ hh.pc ∧ ∃ r, d.rows[hh.pc.toNat]? = some r ∧ r.pg = true := by
    rcases hK.pc with z | z
    · exact absurd z c
    · exact z
  refine nx_of (X := tSeq _ _ _) ?_
  refine s_if (et_and (et_test (eb_notN (ed_var hs2))) (fun _ => et_test (eb_eq (ed_row (ed_rowAt (d := d) (r := r) (ed_ix (k := .tup (d.rows.map Row.dt)) (ed_hn (ed_var hs2) (ed_var hs2) hd) ed_int rfl) (ed_var hs2) hp0 hr)) ed_str))) (fun c2 H3 e3 => ?_) (fun c2 H3 e3 => ?_)
  · rw [Bool.and_eq_true] at c2
    obtain ⟨c3, c4⟩ := c2
    have c4 := txt_eq.mp (of_decide_eq_true c4)
    cases hhalf : hh.half with
    | none => rw [hhalf] at c3; exact absurd c3 (by decide)
    | some l =>
      have hs3 := hs2.up e3
      rw [hhalf] at hs3
      refine s_retL (el_list (ks := nums l) (ed_var hs3)) fun p xs H4 ks hp e4 h1 h2 hk => q p xs H4 ks (same_back (e02.trans e3) hp) ((e02.trans e3).trans e4) h1 h2 ?_
      rw [hk]
      unfold Mk.picks
      rw [if_neg c, hhalf, hr]
      cases r with
      | get x y => rfl
      | put x y => exact absurd (show ("put" : Str) = "get" from c4) (by decide +kernel)
      | lt x y => cases hpg
      | un x y => cases hpg
      | tell x => cases hpg
  · refine nx_of (X := tRet _ _) ?_
    refine s_retL (el_lst [.num 0] (ea_cons ed_int ea_nil) (by simp)) fun p xs H4 ks hp e4 h1 h2 hk => q p xs H4 ks (same_back (e02.trans e3) hp) ((e02.trans e3).trans e4) h1 h2 ?_
    rw [hk]
    unfold Mk.picks
    rw [if_neg c]
    cases hhalf : hh.half with
    | none => rfl
    | some l =>
      rw [hr]
      cases r with
      | put x y => rfl
      | lt x y => cases hpg
      | un x y => cases hpg
      | tell x => cases hpg
      | get x y =>
        rw [hhalf] at c2
        exact absurd c2 (show (!decide (NestedKey.tup (nums l) = NestedKey.none) && decide (NestedKey.text ("get" : Str) = .text "get")) ≠ false by rw [decide_eq_false (by intro z; cases z), decide_eq_true rfl]; decide)
/-- the steps of a stand, told -/
def stepD (d : Hn) (p : Int) : Dt := .tup [.text d.nm, .num p]
def stepsUp (M : Mk) (s : Sd) (n : Nat) : List Dt := (List.range n).flatMap fun k => match M.hds[k]?, s.hs[k]? with
  | some d, some h => (M.picks k d h).map (stepD d)
  | _, _ => []
def stepsD (M : Mk) (s : Sd) : List Dt := stepsUp M s M.hds.length
theorem mem_steps {M : Mk} {s : Sd} {x : Dt} : x ∈ stepsD M s ↔ ∃ k d p, M.hds[k]? = some d ∧ MayStep M s k p ∧ x = stepD d p := by
  unfold stepsD stepsUp
  rw [List.mem_flatMap]
  constructor
  · rintro ⟨k, hk, hx⟩
    cases hd : M.hds[k]? with
    | none => rw [hd] at hx; cases hx
    | some d =>
      cases hh : s.hs[k]? with
      | none => rw [hd, hh] at hx; cases hx
      | some h =>
        rw [hd, hh] at hx
        obtain ⟨p, hp, rfl⟩ := List.mem_map.mp hx
        exact ⟨k, d, p, hd, ⟨d, h, hd, hh, hp⟩, rfl⟩
  · rintro ⟨k, d, p, hd, ⟨d', h, hd', hh, hp⟩, rfl⟩
    rw [hd] at hd'
    cases hd'
    refine ⟨k, List.mem_range.mpr (List.getElem?_eq_some_iff.mp hd).1, ?_⟩
    rw [hd, hh]
    exact List.mem_map.mpr ⟨p, hp, rfl⟩
theorem picks_len {M : Mk} (O : MkOk M) {k : Nat} {d : Hn} {bs : List BS} {h : HS} (K : HOk M bs d h) : (M.picks k d h).length ≤ 4 := by
  have hz := O.sz
  unfold Mk.picks
  split
  · split
    · rw [rangeD_len]; omega
    · simp
  · split
    · rename_i l _ _ h1 _
      exact K.hl l h1
    · simp
def A_steps_of : List SV → (List Dt → Prop) → Prop := fun ss R => ∃ (M : Mk) (s : Sd), MkOk M ∧ SdOk M s ∧ ss = [.d M.dt, .d s.dt] ∧ R = (· = stepsD M s)
theorem ok_steps_of (T : Txt K mg) : FnOk P w K mg base CX0 2 T.steps_of.a T.steps_of.d ["making", "stand"] (spL A_steps_of) := by
  refine fun_okC T.steps_of.F sc_steps_of (fun vs H Q E h => ?_) (fun cdv A outer s H vs Q E hcd hr h => ?_)
  · exact spL_len h fun ss R ⟨_, _, _, _, e, _⟩ => by rw [e]; rfl
  obtain ⟨ss, R, ⟨M, st, hM, hK, rfl, rfl⟩, hv, q⟩ := h
  have hs := slots_start ["making", "stand", "found", "k", "hand", "pick"] hv
  have hhl := hM.hl
  refine ⟨_, (pss_cons (ps_set (i := 2) sc_steps_of.nd rfl (Or.inl rfl) (pe_lst pa_nil))
      (pss_cons (ps_for PassesOwn.never rfl (pi_enumX (by rfl) T.b_enumerate (pa_cons (pe_ix ix_seq (pv 0) pe_int (fun _ _ => rfl)) pa_nil)) (pg_tup rfl (pgs_cons (pg_name (i := 3) sc_steps_of.nd rfl (Or.inl rfl)) (pgs_cons (pg_name (i := 4) sc_steps_of.nd rfl (Or.inr rfl)) pgs_nil))) (pss_one (ps_expr (pe_bm PySem.F.plainAttrs_list PySem.F.slot_list_extend PySem.F.type_list_extend mt_extend (pv 2) (pa_cons (pe_lc (own := [("pick", 5)]) (g := (gName 5)) (tt := tYes) (te := (tTup (tCons (tOp (rIx K) (tVar 4) (tC (.int 0))) (tCons (tVar 5) tNil)))) rfl sc_steps_of.nd (pi_list (pe_call (ok_picks_of T) (hr.mono (by decide)) (by rfl) T.picks_of.m T.picks_of.F.kp T.picks_of.b .nil pass0 (pa_cons (pv 0) (pa_cons (pv 1) (pa_cons (pv 3) pa_nil))))) (blkOk_by (by kernel_rfl)) (fun _ _ _ _ _ => (pg_name (i := 5) sc_steps_of.nd rfl (Or.inl rfl))) (fun _ _ _ _ _ => pts_nil) (fun _ _ _ _ _ => (pe_tup (pa_cons (pe_ix ix_seq (pv 4) pe_int (fun _ _ => rfl)) (pa_cons (pv 5) pa_nil))))) pa_nil)))))
      (pss_one (ps_ret (pv 2))))), ?_⟩
  refine s_setL hs (el_lst [] ea_nil (by simp)) fun p xs ks σ1 H1 hk hp0 e1 hp1 hn1 hs1 => ?_
  subst hk
  refine nx_of (X := tSeq _ _ _) ?_
  refine s_seqJ (fun σ' H' => ∃ ys, H' p = some (.lst ys) ∧ NdAll H' ys (stepsD M st) ∧ Same H H' ∧ Slots H' σ' [.d M.dt, .d st.dt, .v (.ref p), .u, .u, .u]) (fun N hN => ?_) fun σ4 H4 ⟨ys, h1, h2, e4, hs4⟩ => ?_
  · refine s_forE (ks := M.hds.map Hn.dt) (ed_ix (ed_var hs1) ed_int rfl) fun H2 e2 => ⟨fun i σ' H' => ∃ ys, H' p = some (.lst ys) ∧ NdAll H' ys (stepsUp M st i) ∧ (stepsUp M st i).length ≤ i * 4 ∧ Same H H' ∧ Tx H2 H' ∧ Slots H' σ' [.d M.dt, .d st.dt, .v (.ref p), .u, .u, .u], ?_, fun i σ' H' ⟨_, _, _, _, _, t, _⟩ => t, ?_, ?_⟩
    · exact ⟨xs, e2 _ _ hp1, hn1.up e2, by simp [stepsUp], e1.trans e2, Tx.refl _, hs1.up e2⟩
    · rintro i k v σ' H' H'' hk ⟨ys, h1, h2, h4, e5, t5, hs5⟩ s6 hv6
      obtain ⟨d, hd, rfl⟩ := map_get hk
      obtain ⟨hh, hhd⟩ := hK.hand hd
      have hHO := hK.hok i d hh hd hhd
      have hpl := picks_len hM (k := i) hHO
      have hi := (List.getElem?_eq_some_iff.mp hd).1
      refine tg_tup2 (K := K) (vs := [3, 4]) (by simp) (by simp) H'' σ' v (hs5.up s6) hv6 _ fun σ7 hs7 _ => ?_
      have hup : stepsUp M st (i + 1) = stepsUp M st i ++ (M.picks i d hh).map (stepD d) := by
        unfold stepsUp
        rw [List.range_succ, List.flatMap_append]
        simp [hd, hhd]
      show tDrop _ _ _ _
      refine s_ext (R := fun js => js = outM (fun _ => true) (stepD d) (M.picks i d hh)) (s6 _ _ h1) (h2.up s6) (ev_var hs7) (el_lcN (vs := [5]) NestedKey.num (M.picks i d hh) hs7 (fun _ => true) (stepD d) (el_call (ea_cons (ed_var hs7) (ea_cons (ed_var hs7) (ea_cons (ed_var hs7) ea_nil))) ⟨M, st, i, d, hh, hM, hd, hhd, hHO, rfl, rfl⟩) (by omega)
        (fun p' => [.d M.dt, .d st.dt, .v (.ref p), .d (.num (i : Int)), .d d.dt, .d (.num p')]) (fun x _ => tg_name (K := K) (by simp)) (fun x _ σ2 H2 e2 hs2 => eb_yes) (fun x _ _ σ2 H2 e2 hs2 => ed_tup [.text d.nm, .num x] (ea_cons (ed_ix (ed_var hs2) ed_int rfl) (ea_cons (ed_var hs2) ea_nil)) (by simp))) (fun js hj => ?_) fun zs js H9 hj e9 h9 => ?_
      · rw [hj, outM_all, List.length_map]
        omega
      · rw [outM_all] at hj
        subst hj
        refine ⟨_, upd_same, by rw [hup]; exact h9, by rw [hup, List.length_append, List.length_map]; omega, same_mut ((e5.trans s6).trans e9) hp0, t5.trans ((tx_of (s6.trans e9)).trans (Tx.lst (e9 _ _ (s6 _ _ h1)))), (((hs7.up e9).tx (Tx.lst (e9 _ _ (s6 _ _ h1)))).forget 3).forget 4⟩
    · rintro σ' H' ⟨ys, h1, h2, h4, e5, t5, hs5⟩
      rw [List.length_map] at h2
      exact hN _ _ ⟨ys, h1, h2, e5, hs5⟩
  · exact s_retD (s := .v (.ref p)) (ev_var hs4) fun v H5 e5 h5 => by
      cases h5
      exact q p ys H5 _ hp0 (e4.trans e5) (e5 _ _ h1) (h2.up e5) rfl
end
end SB
set_option maxRecDepth 100000
set_option maxHeartbeats 8000000
/-! A Work on the heap. -/
namespace SB
open PySem L2 PyProof.Rows
def wf (a b c d e f g h : V) : List (Str × V) := [("making", a), ("hands", b), ("boxes", c), ("claim", d), ("places", e), ("names", f), ("events", g), ("broken", h)]
section
variable {a b c d e f g h x : V}
theorem wf_making : (wf a b c d e f g h).lookup ("making" : Str) = some a := rfl
theorem wf_hands : (wf a b c d e f g h).lookup ("hands" : Str) = some b := rfl
theorem wf_boxes : (wf a b c d e f g h).lookup ("boxes" : Str) = some c := rfl
theorem wf_claim : (wf a b c d e f g h).lookup ("claim" : Str) = some d := rfl
theorem wf_places : (wf a b c d e f g h).lookup ("places" : Str) = some e := rfl
theorem wf_names : (wf a b c d e f g h).lookup ("names" : Str) = some f := rfl
theorem wf_events : (wf a b c d e f g h).lookup ("events" : Str) = some g := rfl
theorem wf_broken : (wf a b c d e f g h).lookup ("broken" : Str) = some h := rfl
theorem wf_setClaim : putF ("claim" : Str) x (wf a b c d e f g h) = wf a b c x e f g h := rfl
theorem wf_setBroken : putF ("broken" : Str) x (wf a b c d e f g h) = wf a b c d e f g x := rfl
end
section
variable {K : PySem.W.Frag} {σ : L2.St} {H : Hp} {ta : TE}
theorem ed_fld {w C dx : Addr} {fs : List (Str × V)} {f : Str} {v : V} (h : Ed ta σ H (.v (.ref w))) (ho : H w = some (.ins C dx fs)) (hc : Cls K C) (hn : NoAttr K C f) (hl : fs.lookup f = some v) : Ed (tFld K ta f) σ H (.v v) := fun H1 e Q q =>
  h H1 e _ fun u H2 e2 h2 => by
    cases h2
    exact ⟨w, C, dx, fs, v, rfl, (e.trans e2) _ _ ho, hc, hn, hl, q v H2 e2 rfl⟩
theorem Ed.vd {v : V} {k : Dt} (h : Ed ta σ H (.v v)) (hv : Nd H v k) : Ed ta σ H (.d k) := fun H1 e Q q =>
  h H1 e _ fun u H2 e2 h2 => by
    cases h2
    exact q v H2 e2 (hv.up (e.trans e2))
end
/-- where the parts of a Work lie -/
structure WA where
  w : Addr
  hl : Addr
  bl : Addr
  ev : Addr
  nd : Addr
  pd : Addr
  hA : List Addr
  bA : List Addr
def nmL (ns : List (Nat × Addr)) : List (Key × V) := ns.map fun x => (.inl (x.1 : Int), .ref x.2)
structure WorkAt (C : Addr) (M : Mk) (H0 H : Hp) (A : WA) (s : Sd) (br : Dt) (n : Nat) : Prop where
  same : Same H0 H
  fw : H0 A.w = none
  fev : H0 A.ev = none
  fnd : H0 A.nd = none
  fhA : ∀ a ∈ A.hA, H0 a = none
  fbA : ∀ a ∈ A.bA, H0 a = none
  ob : ∃ dx vm vc vb, H A.w = some (.ins C dx (wf vm (.ref A.hl) (.ref A.bl) vc (.ref A.pd) (.ref A.nd) (.ref A.ev) vb)) ∧ Nd H vm M.dt ∧ Nd H vc s.cl.dt ∧ Nd H vb br
  hl : H A.hl = some (.lst (A.hA.map V.ref))
  bl : H A.bl = some (.lst (A.bA.map V.ref))
  hn : A.hA.length = s.hs.length
  bn : A.bA.length = s.bs.length
  hs : ∀ (i : Nat) (a : Addr) (h : HS), A.hA[i]? = some a → s.hs[i]? = some h → ∃ xs, H a = some (.lst xs) ∧ NdAll H xs h.dts
  bs : ∀ (i : Nat) (a : Addr) (b : BS), A.bA[i]? = some a → s.bs[i]? = some b → ∃ xs, H a = some (.lst xs) ∧ NdAll H xs b.dts
  hnd : A.hA.Nodup
  bnd : A.bA.Nodup
  pd : H A.pd = some (.dK (places M))
  nm : ∃ ns : List (Nat × Addr), H A.nd = some (.dK (nmL ns)) ∧ (ns.map (·.1)).Nodup ∧ ∀ x ∈ ns, x.2 ≠ A.ev ∧ ∃ d xs, M.hds[x.1]? = some d ∧ H x.2 = some (.lst xs) ∧ NdAll H xs (txts d.vars)
  ev : ∃ xs evs, H A.ev = some (.lst xs) ∧ NdAll H xs evs ∧ evs.length ≤ n ∧ ∀ e ∈ evs, ∃ l, e = .tup l
  ne1 : A.ev ≠ A.hl
  ne2 : A.ev ≠ A.bl
  ne3 : A.nd ≠ A.pd
section
variable {C : Addr} {M : Mk} {H0 H : Hp} {A : WA} {s : Sd} {br : Dt} {n : Nat}
theorem WorkAt.up {H' : Hp} (W : WorkAt C M H0 H A s br n) (e : Same H H') : WorkAt C M H0 H' A s br n := by
  obtain ⟨dx, vm, vc, vb, o1, o2, o3, o4⟩ := W.ob
  obtain ⟨ns, n1, n2, n3⟩ := W.nm
  obtain ⟨xs, evs, v1, v2, v3, v4⟩ := W.ev
  refine ⟨W.same.trans e, W.fw, W.fev, W.fnd, W.fhA, W.fbA, ⟨dx, vm, vc, vb, e _ _ o1, o2.up e, o3.up e, o4.up e⟩, e _ _ W.hl, e _ _ W.bl, W.hn, W.bn, fun i a h h1 h2 => ?_, fun i a h h1 h2 => ?_, W.hnd, W.bnd, e _ _ W.pd, ⟨ns, e _ _ n1, n2, fun x hx => ?_⟩, ⟨xs, evs, e _ _ v1, v2.up e, v3, v4⟩, W.ne1, W.ne2, W.ne3⟩
  · obtain ⟨xs, h3, h4⟩ := W.hs i a h h1 h2
    exact ⟨xs, e _ _ h3, h4.up e⟩
  · obtain ⟨xs, h3, h4⟩ := W.bs i a h h1 h2
    exact ⟨xs, e _ _ h3, h4.up e⟩
  · obtain ⟨h0, d, xs, h1, h3, h4⟩ := n3 x hx
    exact ⟨h0, d, xs, h1, e _ _ h3, h4.up e⟩
theorem WorkAt.hAt (W : WorkAt C M H0 H A s br n) {i : Nat} {h : HS} (hh : s.hs[i]? = some h) : ∃ a xs, A.hA[i]? = some a ∧ H a = some (.lst xs) ∧ NdAll H xs h.dts := by
  have hi : i < A.hA.length := by rw [W.hn]; exact (List.getElem?_eq_some_iff.mp hh).1
  have ha : A.hA[i]? = some A.hA[i] := List.getElem?_eq_getElem hi
  obtain ⟨xs, h1, h2⟩ := W.hs i _ h ha hh
  exact ⟨_, xs, ha, h1, h2⟩
theorem WorkAt.bAt (W : WorkAt C M H0 H A s br n) {i : Nat} {h : BS} (hh : s.bs[i]? = some h) : ∃ a xs, A.bA[i]? = some a ∧ H a = some (.lst xs) ∧ NdAll H xs h.dts := by
  have hi : i < A.bA.length := by rw [W.bn]; exact (List.getElem?_eq_some_iff.mp hh).1
  have ha : A.bA[i]? = some A.bA[i] := List.getElem?_eq_getElem hi
  obtain ⟨xs, h1, h2⟩ := W.bs i _ h ha hh
  exact ⟨_, xs, ha, h1, h2⟩
/-- the shapes that keep the parts apart -/
theorem nd5 {xs : List V} {h : HS} (hn : NdAll H xs h.dts) : xs.length = 5 ∧ ∃ i ys, xs = .int i :: ys := by
  refine ⟨hn.len, ?_⟩
  unfold HS.dts at hn
  cases hn with
  | cons r t => cases r; exact ⟨_, _, rfl⟩
theorem nd2 {xs : List V} {h : BS} (hn : NdAll H xs h.dts) : xs.length = 2 ∧ ∃ i ys, xs = .int i :: ys := by
  refine ⟨hn.len, ?_⟩
  unfold BS.dts at hn
  cases hn with
  | cons r t => cases r; exact ⟨_, _, rfl⟩
theorem refs_ne {l : List Addr} {i : Int} {ys : List V} (e : l.map V.ref = .int i :: ys) : False := by
  cases l with
  | nil => cases e
  | cons a l => cases e
theorem strs_ne {l : List Str} {i : Int} {ys : List V} (h : NdAll H (.int i :: ys) (txts l)) : False := by
  cases l with
  | nil => cases h
  | cons x l => cases h with | cons r t => cases r
theorem evs_ne {l : List Dt} {i : Int} {ys : List V} (h : NdAll H (.int i :: ys) l) (hl : ∀ e ∈ l, ∃ m, e = .tup m) : False := by
  cases h with
  | cons r t =>
    obtain ⟨m, rfl⟩ := hl _ List.mem_cons_self
    cases r
/-- a list of ints at the front changes: what of the Work is not it stays -/
theorem WorkAt.lists (W : WorkAt C M H0 H A s br n) {x : Addr} {i : Int} {ys zs : List V} (hx : H x = some (.lst (.int i :: ys))) (fx : H0 x = none) {hs' : List HS} {bs' : List BS} (l1 : hs'.length = s.hs.length) (l2 : bs'.length = s.bs.length)
    (g1 : ∀ (i : Nat) (a : Addr) (h : HS), A.hA[i]? = some a → hs'[i]? = some h → ∃ xs, (upd H x (.lst zs)) a = some (.lst xs) ∧ NdAll (upd H x (.lst zs)) xs h.dts)
    (g2 : ∀ (i : Nat) (a : Addr) (b : BS), A.bA[i]? = some a → bs'[i]? = some b → ∃ xs, (upd H x (.lst zs)) a = some (.lst xs) ∧ NdAll (upd H x (.lst zs)) xs b.dts) :
    WorkAt C M H0 (upd H x (.lst zs)) A ⟨hs', bs', s.cl⟩ br n := by
  obtain ⟨dx, vm, vc, vb, o1, o2, o3, o4⟩ := W.ob
  obtain ⟨ns, n1, n2, n3⟩ := W.nm
  obtain ⟨xs, evs, v1, v2, v3, v4⟩ := W.ev
  have tx : Tx H (upd H x (.lst zs)) := Tx.lst hx
  have k : ∀ {b : Addr} {u : HO}, H b = some u → u ≠ .lst (.int i :: ys) → (upd H x (.lst zs)) b = some u := fun {b u} hb hu => by
    rw [upd_ne]; exact hb
    intro z
    rw [z, hx] at hb
    exact hu (Option.some.inj hb).symm
  refine ⟨same_mut W.same fx, W.fw, W.fev, W.fnd, W.fhA, W.fbA, ⟨dx, vm, vc, vb, k o1 (fun z => by cases z), o2.tx tx, o3.tx tx, o4.tx tx⟩, k W.hl (fun z => refs_ne (by injection z)), k W.bl (fun z => refs_ne (by injection z)), W.hn.trans l1.symm, W.bn.trans l2.symm, g1, g2, W.hnd, W.bnd, k W.pd (fun z => by cases z),
    ⟨ns, k n1 (fun z => by cases z), n2, fun y hy => ?_⟩, ⟨xs, evs, k v1 (fun z => ?_), v2.tx tx, v3, v4⟩, W.ne1, W.ne2, W.ne3⟩
  · obtain ⟨h0, d, ws, h1, h3, h4⟩ := n3 y hy
    refine ⟨h0, d, ws, h1, k h3 (fun z => ?_), h4.tx tx⟩
    injection z with z
    rw [z] at h4
    exact strs_ne h4
  · injection z with z
    rw [z] at v2
    exact evs_ne v2 v4
theorem WorkAt.setHand (W : WorkAt C M H0 H A s br n) {i : Nat} {a : Addr} {h h' : HS} {zs : List V} (ha : A.hA[i]? = some a) (hh : s.hs[i]? = some h) (hz : NdAll H zs h'.dts) : WorkAt C M H0 (upd H a (.lst zs)) A ⟨s.hs.set i h', s.bs, s.cl⟩ br n := by
  obtain ⟨xs, h1, h2⟩ := W.hs i a h ha hh
  obtain ⟨l5, i0, ys, rfl⟩ := nd5 h2
  have tx : Tx H (upd H a (.lst zs)) := Tx.lst h1
  refine W.lists h1 (W.fhA a (List.mem_of_getElem? ha)) (by rw [List.length_set]) rfl (fun j b x hb hx => ?_) (fun j b x hb hx => ?_)
  · rcases set_get hx with ⟨rfl, rfl, _⟩ | ⟨ne, hx⟩
    · rw [ha] at hb; cases hb
      exact ⟨zs, upd_same, hz.tx tx⟩
    · obtain ⟨ws, h3, h4⟩ := W.hs j b x hb hx
      have : b ≠ a := fun z => ne (nodup_get W.hnd hb (by rw [z]; exact ha))
      exact ⟨ws, by rw [upd_ne this]; exact h3, h4.tx tx⟩
  · obtain ⟨ws, h3, h4⟩ := W.bs j b x hb hx
    have : b ≠ a := fun z => by
      rw [z, h1] at h3
      have e := Option.some.inj h3
      injection e with e
      have := (nd2 h4).1
      rw [← e, l5] at this
      cases this
    exact ⟨ws, by rw [upd_ne this]; exact h3, h4.tx tx⟩
theorem WorkAt.setBox (W : WorkAt C M H0 H A s br n) {i : Nat} {a : Addr} {h h' : BS} {zs : List V} (ha : A.bA[i]? = some a) (hh : s.bs[i]? = some h) (hz : NdAll H zs h'.dts) : WorkAt C M H0 (upd H a (.lst zs)) A ⟨s.hs, s.bs.set i h', s.cl⟩ br n := by
  obtain ⟨xs, h1, h2⟩ := W.bs i a h ha hh
  obtain ⟨l2, i0, ys, rfl⟩ := nd2 h2
  have tx : Tx H (upd H a (.lst zs)) := Tx.lst h1
  refine W.lists h1 (W.fbA a (List.mem_of_getElem? ha)) rfl (by rw [List.length_set]) (fun j b x hb hx => ?_) (fun j b x hb hx => ?_)
  · obtain ⟨ws, h3, h4⟩ := W.hs j b x hb hx
    have : b ≠ a := fun z => by
      rw [z, h1] at h3
      have e := Option.some.inj h3
      injection e with e
      have := (nd5 h4).1
      rw [← e, l2] at this
      cases this
    exact ⟨ws, by rw [upd_ne this]; exact h3, h4.tx tx⟩
  · rcases set_get hx with ⟨rfl, rfl, _⟩ | ⟨ne, hx⟩
    · rw [ha] at hb; cases hb
      exact ⟨zs, upd_same, hz.tx tx⟩
    · obtain ⟨ws, h3, h4⟩ := W.bs j b x hb hx
      have : b ≠ a := fun z => ne (nodup_get W.bnd hb (by rw [z]; exact ha))
      exact ⟨ws, by rw [upd_ne this]; exact h3, h4.tx tx⟩
/-- another claim, another break -/
theorem WorkAt.setFld (W : WorkAt C M H0 H A s br n) {dx : Addr} {vm vc vb vc' vb' : V} {cl' : Cl} {br' : Dt} (ho : H A.w = some (.ins C dx (wf vm (.ref A.hl) (.ref A.bl) vc (.ref A.pd) (.ref A.nd) (.ref A.ev) vb))) (hm : Nd H vm M.dt) (hc : Nd H vc' cl'.dt) (hb : Nd H vb' br') :
    WorkAt C M H0 (upd H A.w (.ins C dx (wf vm (.ref A.hl) (.ref A.bl) vc' (.ref A.pd) (.ref A.nd) (.ref A.ev) vb'))) A ⟨s.hs, s.bs, cl'⟩ br' n := by
  obtain ⟨ns, n1, n2, n3⟩ := W.nm
  obtain ⟨xs, evs, v1, v2, v3, v4⟩ := W.ev
  generalize hu : HO.ins C dx (wf vm (.ref A.hl) (.ref A.bl) vc' (.ref A.pd) (.ref A.nd) (.ref A.ev) vb') = u at *
  have tx : Tx H (upd H A.w u) := Tx.upd fun xs z => by rw [ho] at z; cases z
  have k : ∀ {b : Addr} {o : HO}, H b = some o → (∀ D' d' f', o ≠ .ins D' d' f') → (upd H A.w u) b = some o := fun {b o} hb hn => by
    rw [upd_ne]; exact hb
    intro z
    rw [z, ho] at hb
    exact hn _ _ _ (Option.some.inj hb).symm
  refine ⟨same_mut W.same W.fw, W.fw, W.fev, W.fnd, W.fhA, W.fbA, ⟨dx, vm, vc', vb', by rw [upd_same, hu], hm.tx tx, hc.tx tx, hb.tx tx⟩, k W.hl (fun _ _ _ z => by cases z), k W.bl (fun _ _ _ z => by cases z), W.hn, W.bn, fun i a h h1 h2 => ?_, fun i a h h1 h2 => ?_, W.hnd, W.bnd, k W.pd (fun _ _ _ z => by cases z), ⟨ns, k n1 (fun _ _ _ z => by cases z), n2, fun x hx => ?_⟩,
    ⟨xs, evs, k v1 (fun _ _ _ z => by cases z), v2.tx tx, v3, v4⟩, W.ne1, W.ne2, W.ne3⟩
  · obtain ⟨ws, h3, h4⟩ := W.hs i a h h1 h2
    exact ⟨ws, k h3 (fun _ _ _ z => by cases z), h4.tx tx⟩
  · obtain ⟨ws, h3, h4⟩ := W.bs i a h h1 h2
    exact ⟨ws, k h3 (fun _ _ _ z => by cases z), h4.tx tx⟩
  · obtain ⟨h0, d, ws, h1, h3, h4⟩ := n3 x hx
    exact ⟨h0, d, ws, h1, k h3 (fun _ _ _ z => by cases z), h4.tx tx⟩
/-- one event more -/
theorem WorkAt.addEv (W : WorkAt C M H0 H A s br n) (hne : A.hA ≠ []) {xs : List V} {evs : List Dt} {v : V} {l : List Dt} (hx : H A.ev = some (.lst xs)) (hn : NdAll H xs evs) (hl : evs.length ≤ n) (ht : ∀ e ∈ evs, ∃ l, e = .tup l) (hv : Nd H v (.tup l)) :
    WorkAt C M H0 (upd H A.ev (.lst (xs ++ [v]))) A s br (n + 1) := by
  obtain ⟨dx, vm, vc, vb, o1, o2, o3, o4⟩ := W.ob
  obtain ⟨ns, n1, n2, n3⟩ := W.nm
  have tx : Tx H (upd H A.ev (.lst (xs ++ [v]))) := Tx.lst hx
  have k : ∀ {b : Addr} {u : HO}, H b = some u → b ≠ A.ev → (upd H A.ev (.lst (xs ++ [v]))) b = some u := fun {b u} hb hu => by rw [upd_ne hu]; exact hb
  have kc : ∀ {b : Addr} {u : HO}, H b = some u → (∀ ys, u ≠ .lst ys) → b ≠ A.ev := fun {b u} hb hu z => by
    rw [z, hx] at hb
    exact hu _ (Option.some.inj hb).symm
  refine ⟨same_mut W.same W.fev, W.fw, W.fev, W.fnd, W.fhA, W.fbA, ⟨dx, vm, vc, vb, k o1 (kc o1 fun _ z => by cases z), o2.tx tx, o3.tx tx, o4.tx tx⟩, k W.hl (Ne.symm W.ne1), k W.bl (Ne.symm W.ne2), W.hn, W.bn, fun i a h h1 h2 => ?_, fun i a h h1 h2 => ?_, W.hnd, W.bnd, k W.pd (kc W.pd fun _ z => by cases z),
    ⟨ns, k n1 (kc n1 fun _ z => by cases z), n2, fun x hx => ?_⟩, ⟨xs ++ [v], evs ++ [.tup l], upd_same, (NdAll.app hn (.one hv)).tx tx, by rw [List.length_append]; simp only [List.length_cons, List.length_nil]; omega, fun e he => ?_⟩, W.ne1, W.ne2, W.ne3⟩
  · obtain ⟨ws, h3, h4⟩ := W.hs i a h h1 h2
    refine ⟨ws, k h3 (fun z => ?_), h4.tx tx⟩
    rw [z, hx] at h3
    have e := Option.some.inj h3
    injection e with e
    obtain ⟨_, i0, ys, rfl⟩ := nd5 h4
    rw [e] at hn
    exact evs_ne hn ht
  · obtain ⟨ws, h3, h4⟩ := W.bs i a h h1 h2
    refine ⟨ws, k h3 (fun z => ?_), h4.tx tx⟩
    rw [z, hx] at h3
    have e := Option.some.inj h3
    injection e with e
    obtain ⟨_, i0, ys, rfl⟩ := nd2 h4
    rw [e] at hn
    exact evs_ne hn ht
  · obtain ⟨h0, d, ws, h1, h3, h4⟩ := n3 x hx
    exact ⟨h0, d, ws, h1, k h3 h0, h4.tx tx⟩
  · rcases List.mem_append.mp he with z | z
    · exact ht e z
    · exact ⟨l, List.mem_singleton.mp z⟩
/-- the names of one hand more -/
theorem WorkAt.addName (W : WorkAt C M H0 H A s br n) {ns : List (Nat × Addr)} {i : Nat} {p : Addr} {d : Hn} {xs : List V} (hx : H A.nd = some (.dK (nmL ns))) (h1 : (ns.map (·.1)).Nodup) (h2 : ∀ x ∈ ns, x.2 ≠ A.ev ∧ ∃ d xs, M.hds[x.1]? = some d ∧ H x.2 = some (.lst xs) ∧ NdAll H xs (txts d.vars))
    (hi : i ∉ ns.map (·.1)) (hd : M.hds[i]? = some d) (hp : H p = some (.lst xs)) (hn : NdAll H xs (txts d.vars)) (hpe : p ≠ A.ev) : WorkAt C M H0 (upd H A.nd (.dK (nmL (ns ++ [(i, p)])))) A s br n := by
  obtain ⟨dx, vm, vc, vb, o1, o2, o3, o4⟩ := W.ob
  obtain ⟨ws, evs, v1, v2, v3, v4⟩ := W.ev
  generalize hu : HO.dK (nmL (ns ++ [(i, p)])) = u at *
  have tx : Tx H (upd H A.nd u) := Tx.upd fun xs z => by rw [hx] at z; cases z
  have k : ∀ {b : Addr} {o : HO}, H b = some o → (∀ kv, o ≠ .dK kv) → (upd H A.nd u) b = some o := fun {b o} hb hn => by
    rw [upd_ne]; exact hb
    intro z
    rw [z, hx] at hb
    exact hn _ (Option.some.inj hb).symm
  refine ⟨same_mut W.same W.fnd, W.fw, W.fev, W.fnd, W.fhA, W.fbA, ⟨dx, vm, vc, vb, k o1 (fun _ z => by cases z), o2.tx tx, o3.tx tx, o4.tx tx⟩, k W.hl (fun _ z => by cases z), k W.bl (fun _ z => by cases z), W.hn, W.bn, fun i a h h1 h2 => ?_, fun i a h h1 h2 => ?_, W.hnd, W.bnd, by rw [upd_ne (Ne.symm W.ne3)]; exact W.pd, ⟨ns ++ [(i, p)], by rw [upd_same, hu], ?_, fun x hx => ?_⟩,
    ⟨ws, evs, k v1 (fun _ z => by cases z), v2.tx tx, v3, v4⟩, W.ne1, W.ne2, W.ne3⟩
  · obtain ⟨ws, h3, h4⟩ := W.hs i a h h1 h2
    exact ⟨ws, k h3 (fun _ z => by cases z), h4.tx tx⟩
  · obtain ⟨ws, h3, h4⟩ := W.bs i a h h1 h2
    exact ⟨ws, k h3 (fun _ z => by cases z), h4.tx tx⟩
  · rw [List.map_append, List.nodup_append]
    refine ⟨h1, by simp, fun a ha b hb e => hi ?_⟩
    have : b = i := by simpa using hb
    rw [← this, ← e]
    exact ha
  · rcases List.mem_append.mp hx with z | z
    · obtain ⟨h0, d, ws, h1, h3, h4⟩ := h2 x z
      exact ⟨h0, d, ws, h1, k h3 (fun _ z => by cases z), h4.tx tx⟩
    · rw [List.mem_singleton.mp z]
      exact ⟨hpe, d, xs, hd, k hp (fun _ z => by cases z), hn.tx tx⟩
end
end SB

set_option maxRecDepth 100000
set_option maxHeartbeats 8000000
/-! Work.rows, names_of, number. -/
namespace SB
open PySem L2 PyProof.Rows
/-- tuples and what is tracked by a word stay -/
def Fr (H H' : Hp) : Prop := Tx H H' ∧ ∀ a φ, H a = some (.ext φ) → H' a = some (.ext φ)
theorem Fr.refl (H : Hp) : Fr H H := ⟨Tx.refl H, fun _ _ h => h⟩
theorem Fr.trans {H H1 H2 : Hp} (a : Fr H H1) (b : Fr H1 H2) : Fr H H2 := ⟨a.1.trans b.1, fun x φ h => b.2 x φ (a.2 x φ h)⟩
theorem fr_of {H H' : Hp} (e : Same H H') : Fr H H' := ⟨tx_of e, fun a φ h => e a _ h⟩
theorem Fr.upd {H : Hp} {p : Addr} {o u : HO} (h : H p = some u) (h1 : ∀ xs, u ≠ .tup xs) (h2 : ∀ φ, u ≠ .ext φ) : Fr H (upd H p o) :=
  ⟨Tx.upd fun xs z => h1 xs (by rw [h] at z; exact Option.some.inj z), fun a φ z => by
    rw [upd_ne]; exact z
    intro e
    rw [e, h] at z
    exact h2 φ (Option.some.inj z)⟩
theorem Fr.lst {H : Hp} {p : Addr} {o : HO} {xs : List V} (h : H p = some (.lst xs)) : Fr H (L2.upd H p o) := Fr.upd h (fun _ z => by cases z) (fun _ z => by cases z)
theorem Fr.dk {H : Hp} {p : Addr} {o : HO} {xs : List (Key × V)} (h : H p = some (.dK xs)) : Fr H (L2.upd H p o) := Fr.upd h (fun _ z => by cases z) (fun _ z => by cases z)
theorem Fr.ins {H : Hp} {p : Addr} {o : HO} {C d : Addr} {fs : List (Str × V)} (h : H p = some (.ins C d fs)) : Fr H (L2.upd H p o) := Fr.upd h (fun _ z => by cases z) (fun _ z => by cases z)
section
variable {K : PySem.W.Frag} {σ : L2.St} {H : Hp} {ta tb : TE}
theorem eb_dnotin {p : Addr} {kvs : List (Key × V)} {i : Int} (ha : Ed ta σ H (.d (.num i))) (hb : Ed tb σ H (.v (.ref p))) (hp : H p = some (.dK kvs)) : Ed (tDNotIn ta tb) σ H (.v (.bl (!(valV kvs (.inl i)).isSome))) := fun H1 e Q q =>
  ha H1 e _ fun v H2 e2 h2 => hb H2 (e.trans e2) _ fun v' H3 e3 h3 => by
    cases h2; cases h3
    exact ⟨p, _, rfl, DGet.k (k := .inl i) (((e.trans e2).trans e3) _ _ hp), q _ H3 (e2.trans e3) rfl⟩
theorem ed_dgetI {p : Addr} {kvs : List (Key × V)} {i : Int} {v : V} (ha : Ed ta σ H (.v (.ref p))) (hb : Ed tb σ H (.d (.num i))) (hp : H p = some (.dK kvs)) (hv : valV kvs (.inl i) = some v) : Ed (tDGet ta tb) σ H (.v v) := fun H1 e1 Q q =>
  ha H1 e1 _ fun u H2 e2 h2 => hb H2 (e1.trans e2) _ fun u' H3 e3 h3 => by
    cases h2; cases h3
    refine ⟨p, v, rfl, ?_, q v H3 (e2.trans e3) rfl⟩
    have := DGet.k (k := .inl i) (((e1.trans e2).trans e3) _ _ hp)
    rw [hv] at this
    exact this
end
theorem nmL_get {ns : List (Nat × Addr)} {i : Nat} {v : V} (h : valV (nmL ns) (.inl (i : Int)) = some v) : ∃ p, (i, p) ∈ ns ∧ v = .ref p := by
  induction ns with
  | nil => cases h
  | cons x ns ih =>
    have h : valV ((.inl (x.1 : Int), V.ref x.2) :: nmL ns) (.inl (i : Int)) = some v := h
    by_cases e : ((Sum.inl (x.1 : Int) : Key)) = .inl (i : Int)
    · rw [valV_pos e] at h
      have e : (x.1 : Int) = i := by injection e
      refine ⟨x.2, ?_, (Option.some.inj h).symm⟩
      rw [show (i, x.2) = x by rw [show i = x.1 by omega]]
      exact List.mem_cons_self
    · rw [valV_neg e] at h
      obtain ⟨p, h1, h2⟩ := ih h
      exact ⟨p, List.mem_cons_of_mem _ h1, h2⟩
theorem nmL_none {ns : List (Nat × Addr)} {i : Nat} (h : valV (nmL ns) (.inl (i : Int)) = none) : i ∉ ns.map (·.1) := by
  induction ns with
  | nil => simp
  | cons x ns ih =>
    have h : valV ((.inl (x.1 : Int), V.ref x.2) :: nmL ns) (.inl (i : Int)) = none := h
    by_cases e : ((Sum.inl (x.1 : Int) : Key)) = .inl (i : Int)
    · rw [valV_pos e] at h; cases h
    · rw [valV_neg e] at h
      intro z
      rcases List.mem_cons.mp z with z | z
      · exact e (by rw [z])
      · exact ih h z
theorem nmL_put {ns : List (Nat × Addr)} {i : Nat} {p : Addr} (h : valV (nmL ns) (.inl (i : Int)) = none) : putK (nmL ns) (.inl (i : Int)) (.ref p) = nmL (ns ++ [(i, p)]) := by
  unfold putK
  rw [valV_any, h]
  show nmL ns ++ [(.inl (i : Int), .ref p)] = nmL (ns ++ [(i, p)])
  unfold nmL
  rw [List.map_append]
  rfl
section
variable {P : Program} {w : World} {K : PySem.W.Frag} {mg : Str → Option Value} {base : Heap}
def spRows (C : Addr) : Sp := fun vs H Q _ => ∃ (M : Mk) (H0 : Hp) (A : WA) (s : Sd) (br : Dt) (n k : Nat) (d : Hn), vs = [.ref A.w, .int (k : Int)] ∧ WorkAt C M H0 H A s br n ∧ M.hds[k]? = some d ∧ ∀ v H', Same H H' → Nd H' v (.tup (d.rows.map Row.dt)) → Q v H'
theorem ok_Work_rows (T : Txt K mg) : FnOk P w K mg base CX0 1 T.Work_rows.a T.Work_rows.d ["self", "k"] (spRows T.C_Work) := by
  refine fun_okC T.Work_rows.F sc_Work_rows (fun vs H Q E h => ?_) (fun cdv A outer s H vs Q E hcd hr h => ?_)
  · obtain ⟨_, _, _, _, _, _, _, _, e, _⟩ := h
    rw [e]; rfl
  obtain ⟨M, H0, A', st, br, n, k, d, rfl, W, hd, q⟩ := h
  have hs : Slots H (L2.start ["self", "k"] [.ref A'.w, .int (k : Int)]) [.v (.ref A'.w), .d (.num (k : Int))] := slots_start ["self", "k"] (.cons (s := .v (.ref A'.w)) (show V.ref _ = V.ref _ from rfl) (.cons (s := .d (.num (k : Int))) (.int _) .nil))
  obtain ⟨dx, vm, vc, vb, o1, o2, o3, o4⟩ := W.ob
  refine ⟨_, (pss_one (ps_ret (pe_ix ix_seq (pe_ix ix_seq (pe_ix ix_seq (pe_fld (pv 0) rfl) pe_int (fun _ _ => rfl)) (pv 1) (fun _ _ => rfl)) pe_int (fun _ _ => rfl)))), ?_⟩
  exact s_retD (s := .d (.tup (d.rows.map Row.dt))) (ed_ix (ed_hn ((ed_fld (ev_var hs) o1 T.cl_Work T.n_Work_making wf_making).vd o2) (ed_var hs) hd) ed_int rfl) fun v H1 e h1 => q v H1 e h1
theorem ed_rows {C : Addr} {M : Mk} {H0 H : Hp} {A : WA} {s : Sd} {br : Dt} {n k : Nat} {d : Hn} {σ : L2.St} {ta tb : TE} {E : XK} (W : WorkAt C M H0 H A s br n) (ha : Ed ta σ H (.v (.ref A.w))) (hb : Ed tb σ H (.d (.num (k : Int)))) (hd : M.hds[k]? = some d) :
    Ed (tMeth C "rows" (spRows C) [] E ta (tCons tb tNil)) σ H (.d (.tup (d.rows.map Row.dt))) := fun H1 e Q q =>
  ha H1 e _ fun v H2 e2 h2 => by
    cases h2
    have W2 := W.up (e.trans e2)
    obtain ⟨dx, vm, vc, vb, o1, o2, o3, o4⟩ := W2.ob
    refine ⟨A.w, dx, _, rfl, o1, rfl, hb H2 (e.trans e2) _ fun v' H3 e3 h3 => ?_⟩
    cases h3
    exact ⟨M, H0, A, s, br, n, k, d, rfl, W2.up e3, hd, fun v H4 e4 h4 => q v H4 ((e2.trans e3).trans e4) h4⟩
def spNames (C : Addr) : Sp := fun vs H Q _ => ∃ (M : Mk) (H0 : Hp) (A : WA) (s : Sd) (br : Dt) (n k : Nat) (d : Hn), MkOk M ∧ vs = [.ref A.w, .int (k : Int)] ∧ WorkAt C M H0 H A s br n ∧ M.hds[k]? = some d ∧
  ∀ p xs H', WorkAt C M H0 H' A s br n → Fr H H' → H' p = some (.lst xs) → NdAll H' xs (txts d.vars) → Q (.ref p) H'
theorem ok_Work_names_of (T : Txt K mg) : FnOk P w K mg base CX0 6 T.Work_names_of.a T.Work_names_of.d ["self", "k"] (spNames T.C_Work) := by
  refine fun_okC T.Work_names_of.F sc_Work_names_of (fun vs H Q E h => ?_) (fun cdv A outer s H vs Q E hcd hr h => ?_)
  · obtain ⟨_, _, _, _, _, _, _, _, _, e, _⟩ := h
    rw [e]; rfl
  obtain ⟨M, H0, A', st, br, n, k, d, hM, rfl, W, hd, q⟩ := h
  have hs : Slots H (L2.start ["self", "k"] [.ref A'.w, .int (k : Int)]) [.v (.ref A'.w), .d (.num (k : Int))] := slots_start ["self", "k"] (.cons (s := .v (.ref A'.w)) (show V.ref _ = V.ref _ from rfl) (.cons (s := .d (.num (k : Int))) (.int _) .nil))
  obtain ⟨dx, vm, vc, vb, o1, o2, o3, o4⟩ := W.ob
  obtain ⟨ns, n1, n2, n3⟩ := W.nm
  have D := hM.hd k d hd
  refine ⟨_, (pss_cons (ps_if (pt_cmp (pc_dnotin (hu_of hr) (pv 1) (pe_fld (pv 0) rfl))) (pss_one (ps_asg (pe_call (ok_variables_of T) (hr.mono (by decide)) (by rfl) T.variables_of.m T.variables_of.F.kp T.variables_of.b .nil pass0 (pa_cons (pe_meth (pv 0) T.cl_Work T.Work_rows.m (ok_Work_rows T) (hr.mono (by decide)) T.Work_rows.b .nil pass0 (pa_cons (pv 1) pa_nil)) pa_nil)) (pg_sub (pe_fld (pv 0) rfl) (pv 1) (set_dict (hu_of hr))))) pss_nil)
      (pss_one (ps_ret (pe_dget (hu_of hr) (pe_fld (pv 0) rfl) (pv 1) (fun _ _ => rfl))))), ?_⟩
  refine s_seqJ (fun σ' H' => ∃ (ns : List (Nat × Addr)) (p : Addr), WorkAt T.C_Work M H0 H' A' st br n ∧ Fr H H' ∧ Slots H' σ' [.v (.ref A'.w), .d (.num (k : Int))] ∧ H' A'.nd = some (.dK (nmL ns)) ∧ valV (nmL ns) (.inl (k : Int)) = some (.ref p) ∧ ∃ xs, H' p = some (.lst xs) ∧ NdAll H' xs (txts d.vars)) (fun N hN => ?_) fun σ1 H1 ⟨ns, p, W1, f1, hs1, hn1, hv1, xs, hp1, hx1⟩ => ?_
  · refine s_if (et_test (eb_dnotin (ed_var hs) (ed_fld (ev_var hs) o1 T.cl_Work T.n_Work_names wf_names) n1)) (fun c H1 e1 => ?_) (fun c H1 e1 => ?_)
    · have hnone : valV (nmL ns) (.inl (k : Int)) = none := by
        cases hh : valV (nmL ns) (.inl (k : Int)) with
        | none => rfl
        | some v => rw [hh] at c; cases c
      have hs1 := hs.up e1
      have W1 := W.up e1
      have hdp : ∀ r ∈ d.rows, ∀ e, r.expr = some e → e.deep ≤ 3 := fun r hr e he => by
        obtain ⟨j, hj⟩ := List.getElem?_of_mem hr
        exact ((D.row j r hj).ex e he).2
      refine (el_call (A := A_variables_of) (R := fun ks => ∃ out, Sorts (rowsNames d.rows) out ∧ ks = txts out) (ea_cons (ed_rows W1 (ev_var hs1) (ed_var hs1) hd) ea_nil) ⟨d.rows, D.rl, hdp, rfl, rfl⟩) H1 (.refl _) _ fun p xs H2 ks hp e2 h2 h3 hk => ?_
      obtain ⟨out, ho, rfl⟩ := hk
      have eo : out = d.vars := ho.one D.vars fun _ => Iff.rfl
      subst eo
      have W2 := W1.up e2
      have hpe : p ≠ A'.ev := fun z => by
        obtain ⟨ys, _, v1, _⟩ := W1.ev
        rw [← z, hp] at v1; cases v1
      have e12 := e1.trans e2
      refine (ed_fld (ev_var (hs1.up e2)) (e12 _ _ o1) T.cl_Work T.n_Work_names wf_names) H2 (.refl _) _ fun v H3 e3 hv3 => ?_
      cases hv3
      refine (ed_var (hs1.up (e2.trans e3)) : Ed (tVar 1) _ H3 (.d (.num (k : Int)))) H3 (.refl _) _ fun v H4 e4 hv4 => ?_
      cases hv4
      have e24 := e3.trans e4
      have W4 := W2.up e24
      have hnd4 := (e12.trans e24) _ _ n1
      have n3' : ∀ x ∈ ns, x.2 ≠ A'.ev ∧ ∃ d xs, M.hds[x.1]? = some d ∧ H4 x.2 = some (.lst xs) ∧ NdAll H4 xs (txts d.vars) := fun x hx => by
        obtain ⟨h0, d, xs, h1, h5, h6⟩ := n3 x hx
        exact ⟨h0, d, xs, h1, (e12.trans e24) _ _ h5, h6.up (e12.trans e24)⟩
      have hlen : (nmL ns).length < 100000 := by
        have : (ns.map (·.1)).length ≤ 3 := nodup_lt 3 _ n2 fun i hi => by
          obtain ⟨x, hx, rfl⟩ := List.mem_map.mp hi
          obtain ⟨_, d, _, h1, _⟩ := n3 x hx
          have := (List.getElem?_eq_some_iff.mp h1).1
          have := hM.hl
          omega
        unfold nmL
        rw [List.length_map] at this ⊢
        omega
      refine ⟨A'.nd, _, rfl, DPut.k (k := .inl (k : Int)) hnd4 (size_lt hlen), ?_⟩
      rw [nmL_put hnone]
      have W5 := W4.addName hnd4 n2 n3' (nmL_none hnone) hd (e24 _ _ h2) (h3.up e24) hpe
      have f5 : Fr H4 (upd H4 A'.nd (.dK (nmL (ns ++ [(k, p)])))) := Fr.dk hnd4
      refine hN _ _ ⟨ns ++ [(k, p)], p, W5, (fr_of (e12.trans e24)).trans f5, (hs.up (e12.trans e24)).tx f5.1, upd_same, ?_, xs, ?_, (h3.up e24).tx f5.1⟩
      · rw [← nmL_put hnone, valV_put, if_pos rfl]
      · rw [upd_ne]; exact e24 _ _ h2
        intro z
        have := e24 _ _ h2
        rw [z, hnd4] at this
        cases this
    · cases hh : valV (nmL ns) (.inl (k : Int)) with
      | none => rw [hh] at c; cases c
      | some v =>
        obtain ⟨p, hp, rfl⟩ := nmL_get hh
        obtain ⟨_, d', xs, h1, h2, h3⟩ := n3 _ hp
        rw [hd] at h1; cases h1
        exact hN _ _ ⟨ns, p, W.up e1, fr_of e1, hs.up e1, e1 _ _ n1, hh, xs, e1 _ _ h2, h3.up e1⟩
  · obtain ⟨dx, vm, vc, vb, o1, o2, o3, o4⟩ := W1.ob
    exact s_retD (s := .v (.ref p)) (ed_dgetI (ed_fld (ev_var hs1) o1 T.cl_Work T.n_Work_names wf_names) (ed_var hs1) hn1 hv1) fun v H2 e2 h2 => by
      cases h2
      exact q p xs H2 (W1.up e2) (f1.trans (fr_of e2)) (e2 _ _ hp1) (hx1.up e2)
end
end SB

set_option maxRecDepth 100000
set_option maxHeartbeats 8000000
/-! Work.number. -/
namespace SB
open PySem L2 PyProof.Rows
theorem valV_none {kvs : List (Key × V)} {k : Key} (h : k ∉ kvs.map (·.1)) : valV kvs k = none := by
  induction kvs with
  | nil => rfl
  | cons x l ih =>
    rw [valV_neg fun e => h (by rw [List.map_cons, e]; exact List.mem_cons_self)]
    exact ih fun z => h (List.mem_cons_of_mem _ z)
theorem valV_merge : ∀ (l acc : List (Key × V)) (k : Key), (l.map (·.1)).Nodup → valV (mergeK acc l) k = match valV l k with | some v => some v | none => valV acc k
  | [], acc, k, _ => rfl
  | (k0, v0) :: l, acc, k, h => by
    obtain ⟨h1, h2⟩ := List.nodup_cons.mp h
    show valV (mergeK (putK acc k0 v0) l) k = _
    rw [valV_merge l _ k h2]
    by_cases e : k0 = k
    · rw [valV_pos (p := (k0, v0)) e]
      subst e
      rw [valV_none h1]
      show valV (putK acc k0 v0) k0 = some v0
      rw [valV_put, if_pos rfl]
    · rw [valV_neg (p := (k0, v0)) e]
      cases valV l k with
      | some v => rfl
      | none =>
        show valV (putK acc k0 v0) k = valV acc k
        rw [valV_put, if_neg (fun z => e z.symm)]
theorem pairD_keys : ∀ (vs : List Str) (ns : List Int), ns.length = vs.length → (pairD vs (ns.map V.int)).map (·.1) = vs.map (Sum.inr : Str → Key)
  | [], [], _ => rfl
  | [], _ :: _, h => by cases h
  | _ :: _, [], h => by cases h
  | v :: vs, n :: ns, h => by
    have ih := pairD_keys vs ns (by simpa using h)
    show (Sum.inr v : Key) :: (pairD vs (ns.map V.int)).map (·.1) = _
    rw [ih]
    rfl
theorem pairD_get : ∀ (vs : List Str) (ns : List Int) (x : Str), ns.length = vs.length → x ∈ vs → valV (pairD vs (ns.map V.int)) (.inr x) = some (.int (getN vs ns x))
  | [], _, _, _, h => by cases h
  | _ :: _, [], _, h, _ => by cases h
  | v :: vs, n :: ns, x, h, hx => by
    show valV ((.inr v, V.int n) :: pairD vs (ns.map V.int)) (.inr x) = _
    unfold getN
    by_cases e : v = x
    · rw [valV_pos (p := ((Sum.inr v : Key), V.int n)) (by rw [e]), if_pos e]
    · rw [valV_neg (p := ((Sum.inr v : Key), V.int n)) (fun z => e (by injection z)), if_neg e]
      refine pairD_get vs ns x (by simpa using h) ?_
      rcases List.mem_cons.mp hx with z | z
      · exact absurd z.symm e
      · exact z
theorem nodup_inr {vs : List Str} (h : vs.Nodup) : (vs.map (Sum.inr : Str → Key)).Nodup := by
  induction vs with
  | nil => exact List.nodup_nil
  | cons v vs ih =>
    obtain ⟨h1, h2⟩ := List.nodup_cons.mp h
    refine List.nodup_cons.mpr ⟨fun z => ?_, ih h2⟩
    obtain ⟨y, hy, e⟩ := List.mem_map.mp z
    injection e with e
    rw [e] at hy
    exact h1 hy
theorem numbers_get {d : Hn} {ns : List Int} {wo : Int} {x : Str} (hl : ns.length = d.vars.length) (hnd : d.vars.Nodup) (hx : x = "v" ∨ x ∈ d.vars) : valV (putK (mergeK [] (pairD d.vars (ns.map V.int))) (.inr "v") (.int wo)) (.inr x) = some (.int (d.env wo ns x)) := by
  rw [valV_put]
  unfold Hn.env
  by_cases e : x = ("v" : Str)
  · rw [if_pos (by rw [e]), if_pos e]
  · rw [if_neg (fun z => e (by injection z)), if_neg e, valV_merge _ _ _ (by rw [pairD_keys _ _ hl]; exact nodup_inr hnd), pairD_get _ _ _ hl (hx.resolve_left e)]
theorem atI_refs {l : List Addr} {k : Nat} {a : Addr} (h : l[k]? = some a) : atI (l.map V.ref) (k : Int) = some (.ref a) := atI_nat (by rw [List.getElem?_map, h]; rfl)
section
variable {P : Program} {w : World} {K : PySem.W.Frag} {mg : Str → Option Value} {base : Heap}
def spNumber (C : Addr) : Sp := fun vs H Q _ => ∃ (M : Mk) (H0 : Hp) (A : WA) (s : Sd) (br : Dt) (n k : Nat) (d : Hn) (h : HS) (v : V) (e : Ex), MkOk M ∧ vs = [.ref A.w, .int (k : Int), v] ∧ WorkAt C M H0 H A s br n ∧ M.hds[k]? = some d ∧ s.hs[k]? = some h ∧ h.ns.length = d.vars.length ∧
  Nd H v e.dt ∧ e.deep ≤ 3 ∧ (∀ x ∈ e.names, x = "v" ∨ x ∈ d.vars) ∧ ∀ H', WorkAt C M H0 H' A s br n → Fr H H' → Q (.int (e.val (d.env h.wo h.ns))) H'
/-- self.hands[k] -/
theorem ed_handL (T : Txt K mg) {M : Mk} {H0 H : Hp} {A : WA} {s : Sd} {br : Dt} {n k : Nat} {a : Addr} {σ : L2.St} {ta tb : TE} (W : WorkAt T.C_Work M H0 H A s br n) (ha : Ed ta σ H (.v (.ref A.w))) (hb : Ed tb σ H (.d (.num (k : Int)))) (hk : A.hA[k]? = some a) : Ed (tOp (rIx K) (tFld K ta "hands") tb) σ H (.v (.ref a)) := by
  obtain ⟨dx, vm, vc, vb, o1, o2, o3, o4⟩ := W.ob
  exact ed_ixL (ed_fld ha o1 T.cl_Work T.n_Work_hands wf_hands) hb W.hl (atI_refs hk)
/-- an item of a hand's list -/
theorem ed_item {p : Addr} {xs : List V} {ks : List Dt} {i : Int} {k : Dt} {σ : L2.St} {H : Hp} {ta tb : TE} (ha : Ed ta σ H (.v (.ref p))) (hb : Ed tb σ H (.d (.num i))) (hp : H p = some (.lst xs)) (hn : NdAll H xs ks) (hk : atI ks i = some k) : Ed (tOp (rIx K) ta tb) σ H (.d k) := ed_ixLd ha hb hp hn hk
theorem sq_asg {te : TE} {g : TG} {u : TS} {D : Ends} {σ : L2.St} {H : Hp} (h : te σ H fun x H1 => g x σ H1 fun σ2 H2 => u D σ2 H2) : tSeq (tAsg te g) u D σ H := h
theorem gn_of {n : Nat} {v : V} {σ : L2.St} {H : Hp} {Q : L2.St → Hp → Prop} (h : Q (σ.set n (some v)) H) : gName n v σ H Q := h
theorem c_zip {ta tb : TE} {σ : L2.St} {H : Hp} {Q : VK} (h : ta σ H fun v H1 => tb σ H1 fun v2 H2 => ∃ (a b : Addr) (ns : List Str) (ys : List V), [v, v2] = [V.ref a, .ref b] ∧ SqL K H2 a (ns.map V.str) ∧ SqT K H2 b ys ∧ ∀ p, H2 p = none → Q (.ref p) (upd H2 p (.dK (mergeK [] (pairD ns ys))))) :
    tDictZip K (tCons ta (tCons tb tNil)) σ H Q := h
theorem c_names {C : Addr} {M : Mk} {H0 H : Hp} {A : WA} {s : Sd} {br : Dt} {n k : Nat} {d : Hn} {σ : L2.St} {ta tb : TE} {E : XK} {Q : VK} (W : WorkAt C M H0 H A s br n) (hM : MkOk M) (ha : Ed ta σ H (.v (.ref A.w))) (hb : Ed tb σ H (.d (.num (k : Int)))) (hd : M.hds[k]? = some d)
    (q : ∀ p xs H', WorkAt C M H0 H' A s br n → Fr H H' → H' p = some (.lst xs) → NdAll H' xs (txts d.vars) → Q (.ref p) H') : tMeth C "names_of" (spNames C) [] E ta (tCons tb tNil) σ H Q :=
  ha H (.refl H) _ fun v H2 e2 h2 => by
    cases h2
    have W2 := W.up e2
    obtain ⟨dx, vm, vc, vb, o1, o2, o3, o4⟩ := W2.ob
    refine ⟨A.w, dx, _, rfl, o1, rfl, hb H2 e2 _ fun v' H3 e3 h3 => ?_⟩
    cases h3
    exact ⟨M, H0, A, s, br, n, k, d, hM, rfl, W2.up e3, hd, fun p xs H4 W4 f4 h4 h5 => q p xs H4 W4 ((fr_of (e2.trans e3)).trans f4) h4 h5⟩
theorem ok_Work_number (T : Txt K mg) : FnOk P w K mg base CX0 7 T.Work_number.a T.Work_number.d ["self", "k", "expression"] (spNumber T.C_Work) := by
  refine fun_okC T.Work_number.F sc_Work_number (fun vs H Q E h => ?_) (fun cdv A outer s H vs Q E hcd hr h => ?_)
  · obtain ⟨_, _, _, _, _, _, _, _, _, _, _, _, e, _⟩ := h
    rw [e]; rfl
  obtain ⟨M, H0, A', st, br, n, k, d, hh, v, ex, hM, rfl, W, hd, hhk, hnl, hv, hdp, hnm, q⟩ := h
  have hs : Slots H (L2.start ["self", "k", "expression", "hand", "numbers"] [.ref A'.w, .int (k : Int), v]) [.v (.ref A'.w), .d (.num (k : Int)), .d ex.dt, .u, .u] := slots_start ["self", "k", "expression", "hand", "numbers"] (.cons (s := .v (.ref A'.w)) (show V.ref _ = V.ref _ from rfl) (.cons (s := .d (.num (k : Int))) (.int _) (.cons (s := .d ex.dt) hv .nil)))
  obtain ⟨a, xs, ha, hx1, hx2⟩ := W.hAt hhk
  have D := hM.hd k d hd
  refine ⟨_, (pss_cons (ps_set (i := 3) sc_Work_number.nd rfl (Or.inl rfl) (pe_ix ix_seq (pe_fld (pv 0) rfl) (pv 1) (fun _ _ => rfl)))
      (pss_cons (ps_set (i := 4) sc_Work_number.nd rfl (Or.inl rfl) (pe_dictZip rfl (by rfl) T.b_dict (by rfl) T.b_zip (pa_cons (pe_meth (pv 0) T.cl_Work T.Work_names_of.m (ok_Work_names_of T) (hr.mono (by decide)) T.Work_names_of.b .nil pass0 (pa_cons (pv 1) pa_nil)) (pa_cons (pe_ix ix_seq (pv 3) pe_int (fun _ _ => rfl)) pa_nil))))
      (pss_cons (ps_asg (pe_ix ix_seq (pv 3) pe_int (fun _ _ => rfl)) (pg_sub (pv 4) pe_str (set_dict (hu_of hr))))
      (pss_one (ps_ret (pe_call (ok_number_of T 3) (hr.mono (by decide)) (by rfl) T.number_of.m T.number_of.F.kp T.number_of.b .nil pass0 (pa_cons (pv 2) (pa_cons (pv 4) pa_nil)))))))), ?_⟩
  refine s_setD hs (s := .v (.ref a)) (ed_handL T W (ev_var hs) (ed_var hs) ha) fun σ1 H1 e1 hs1 => ?_
  have W1 := W.up e1
  obtain ⟨dx, vm, vc, vb, o1, o2, o3, o4⟩ := W1.ob
  refine nx_of (X := tSeq _ _ _) ?_
  refine sq_asg (c_zip (c_names W1 hM (ev_var hs1) (ed_var hs1) hd fun p ps H4 W4 f4 hp4 hn4 => ?_))
  have eps := NdAll.strs _ _ hn4
  subst eps
  have hs4 : Slots H4 σ1 [.v (.ref A'.w), .d (.num (k : Int)), .d ex.dt, .v (.ref a), .u] := hs1.tx f4.1
  obtain ⟨a', xs4, ha4, hx4, hn5⟩ := W4.hAt hhk
  rw [ha] at ha4; cases ha4
  refine (ed_item (ev_var hs4) ed_int hx4 hn5 (show atI hh.dts 4 = some (.tup (nums hh.ns)) from rfl)) H4 (.refl _) _ fun v5 H5 e5 hv5 => ?_
  obtain ⟨b, zs, rfl, hb5, hz5⟩ := hv5.tup_inv
  have ezs := NdAll.ints _ _ hz5
  subst ezs
  refine ⟨p, b, d.vars, _, rfl, SqL.of (e5 _ _ hp4), SqT.of hb5, fun r hr => ?_⟩
  have e6 : Same H5 (upd H5 r (.dK (mergeK [] (pairD d.vars (hh.ns.map V.int))))) := same_new hr
  have hs6 : Slots (upd H5 r (.dK (mergeK [] (pairD d.vars (hh.ns.map V.int))))) (σ1.set 4 (some (.ref r))) [.v (.ref A'.w), .d (.num (k : Int)), .d ex.dt, .v (.ref a), .v (.ref r)] := ((hs4.up e5).up e6).set (s := .v (.ref r)) (show V.ref r = V.ref r from rfl) 4
  have W6 := (W4.up e5).up e6
  have f6 : Fr H (upd H5 r (.dK (mergeK [] (pairD d.vars (hh.ns.map V.int))))) := ((fr_of e1).trans f4).trans (fr_of (e5.trans e6))
  have hr6 : (upd H5 r (.dK (mergeK [] (pairD d.vars (hh.ns.map V.int))))) r = some (.dK (mergeK [] (pairD d.vars (hh.ns.map V.int)))) := upd_same
  have W5 := W4.up e5
  have hr5 : H5 r = none := hr
  have f5 : Fr H H5 := ((fr_of e1).trans f4).trans (fr_of e5)
  generalize upd H5 r (.dK (mergeK [] (pairD d.vars (hh.ns.map V.int)))) = H6 at *
  refine gn_of ?_
  obtain ⟨a', xs6, ha6, hx6, hn6⟩ := W6.hAt hhk
  rw [ha] at ha6; cases ha6
  refine sq_asg ?_
  refine (ed_item (ev_var hs6) ed_int hx6 hn6 (show atI hh.dts 2 = some (.num hh.wo) from rfl)) H6 (.refl _) _ fun v7 H7 e7 hv7 => ?_
  cases hv7
  refine (ev_var (hs6.up e7) : Ed (tVar 4) _ _ (.v (.ref r))) H7 (.refl _) _ fun v8 H8 e8 hv8 => ?_
  cases hv8
  have e68 := e7.trans e8
  have hr8 := e68 _ _ hr6
  have hlen : (mergeK [] (pairD d.vars (hh.ns.map V.int))).length < 100000 := by
    have h1 := length_mergeK (pairD d.vars (hh.ns.map V.int)) []
    have h2 : (pairD d.vars (hh.ns.map V.int)).length = d.vars.length := by
      have := congrArg List.length (pairD_keys d.vars hh.ns hnl)
      simpa using this
    have := vars_len D
    rw [h2] at h1
    simp only [List.length_nil] at h1
    omega
  refine ⟨r, _, rfl, DPut.k (k := .inr "v") hr8 (size_lt hlen), ?_⟩
  have s9 : Same H5 (upd H8 r (.dK (putK (mergeK [] (pairD d.vars (hh.ns.map V.int))) (.inr "v") (.int hh.wo)))) := same_mut (e6.trans e68) hr5
  have hs9 : Slots (upd H8 r (.dK (putK (mergeK [] (pairD d.vars (hh.ns.map V.int))) (.inr "v") (.int hh.wo)))) (σ1.set 4 (some (.ref r))) [.v (.ref A'.w), .d (.num (k : Int)), .d ex.dt, .v (.ref a), .v (.ref r)] := (hs6.up e68).tx (Fr.dk hr8).1
  have hr9 : (upd H8 r (.dK (putK (mergeK [] (pairD d.vars (hh.ns.map V.int))) (.inr "v") (.int hh.wo)))) r = some (.dK (putK (mergeK [] (pairD d.vars (hh.ns.map V.int))) (.inr "v") (.int hh.wo))) := upd_same
  generalize upd H8 r (.dK (putK (mergeK [] (pairD d.vars (hh.ns.map V.int))) (.inr "v") (.int hh.wo))) = H9 at *
  refine s_retD (s := .d (.num (ex.val (d.env hh.wo hh.ns)))) (ed_num (env := d.env hh.wo hh.ns) (ed_var hs9) (ev_var hs9) hdp hr9 fun x hx => numbers_get hnl D.vars.nd (hnm x hx)) fun v10 H10 e10 hv10 => ?_
  cases hv10
  exact q H10 (W5.up (s9.trans e10)) (f5.trans (fr_of (s9.trans e10)))
end
end SB

set_option maxRecDepth 100000
set_option maxHeartbeats 8000000
/-! Work.set_number, break_by, end. -/
namespace SB
open PySem L2 PyProof.Rows
theorem ixN_nat {n i : Nat} (h : i < n) : ixN n (i : Int) = some i := by
  unfold ixN
  rw [if_pos (by omega), if_pos (by omega)]
  simp
theorem setN_at : ∀ {vs : List Str} {ns : List Int} {x : Str} {z : Int}, ns.length = vs.length → x ∈ vs → ∃ j, vs[j]? = some x ∧ (∀ m, m < j → vs[m]? ≠ some x) ∧ setN vs ns x z = ns.set j z
  | [], _, _, _, _, h => by cases h
  | _ :: _, [], _, _, h, _ => by cases h
  | v :: vs, n :: ns, x, z, hl, hx => by
    unfold setN
    by_cases e : v = x
    · rw [if_pos e]
      exact ⟨0, by rw [e]; rfl, fun m hm => absurd hm (Nat.not_lt_zero _), rfl⟩
    · rw [if_neg e]
      obtain ⟨j, h1, h2, h3⟩ := setN_at (vs := vs) (ns := ns) (x := x) (z := z) (by simpa using hl) (by
        rcases List.mem_cons.mp hx with q | q
        · exact absurd q.symm e
        · exact q)
      refine ⟨j + 1, by simpa using h1, fun m hm => ?_, by rw [h3]; rfl⟩
      cases m with
      | zero => intro q; exact e (by simpa using q)
      | succ m => simpa using h2 m (by omega)
section
variable {P : Program} {w : World} {K : PySem.W.Frag} {mg : Str → Option Value} {base : Heap}
theorem c_number {C : Addr} {M : Mk} {H0 H : Hp} {A : WA} {s : Sd} {br : Dt} {n k : Nat} {d : Hn} {h : HS} {e : Ex} {σ : L2.St} {ta tb tc : TE} {E : XK} {Q : VK} (W : WorkAt C M H0 H A s br n) (hM : MkOk M) (ha : Ed ta σ H (.v (.ref A.w))) (hb : Ed tb σ H (.d (.num (k : Int)))) (hc : Ed tc σ H (.d e.dt))
    (hd : M.hds[k]? = some d) (hh : s.hs[k]? = some h) (hl : h.ns.length = d.vars.length) (h3 : e.deep ≤ 3) (hn : ∀ x ∈ e.names, x = "v" ∨ x ∈ d.vars) (q : ∀ H', WorkAt C M H0 H' A s br n → Fr H H' → Q (.int (e.val (d.env h.wo h.ns))) H') : tMeth C "number" (spNumber C) [] E ta (tCons tb (tCons tc tNil)) σ H Q :=
  ha H (.refl H) _ fun v H2 e2 h2 => by
    cases h2
    have W2 := W.up e2
    obtain ⟨dx, vm, vc, vb, o1, o2, o3, o4⟩ := W2.ob
    refine ⟨A.w, dx, _, rfl, o1, rfl, hb H2 e2 _ fun v' H3 e3 h3' => ?_⟩
    cases h3'
    exact hc H3 (e2.trans e3) _ fun v'' H4 e4 h4 => ⟨M, H0, A, s, br, n, k, d, h, v'', e, hM, rfl, W2.up (e3.trans e4), hd, hh, hl, h4, h3, hn, fun H5 W5 f5 => q H5 W5 ((fr_of ((e2.trans e3).trans e4)).trans f5)⟩
def spSetNum (C : Addr) : Sp := fun vs H Q _ => ∃ (M : Mk) (H0 : Hp) (A : WA) (s : Sd) (br : Dt) (n k : Nat) (d : Hn) (h : HS) (x : Str) (z : Int), MkOk M ∧ vs = [.ref A.w, .int (k : Int), .str x, .int z] ∧ WorkAt C M H0 H A s br n ∧ M.hds[k]? = some d ∧ s.hs[k]? = some h ∧ h.ns.length = d.vars.length ∧ x ∈ d.vars ∧
  ∀ H', WorkAt C M H0 H' A ⟨s.hs.set k { h with ns := setN d.vars h.ns x z }, s.bs, s.cl⟩ br n → Fr H H' → Q .non H'
theorem ok_Work_set_number (T : Txt K mg) : FnOk P w K mg base CX0 7 T.Work_set_number.a T.Work_set_number.d ["self", "k", "name", "number"] (spSetNum T.C_Work) := by
  refine fun_okC T.Work_set_number.F sc_Work_set_number (fun vs H Q E h => ?_) (fun cdv A outer s H vs Q E hcd hr h => ?_)
  · obtain ⟨_, _, _, _, _, _, _, _, _, _, _, _, e, _⟩ := h
    rw [e]; rfl
  obtain ⟨M, H0, A', st, br, n, k, d, hh, x, z, hM, rfl, W, hd, hhk, hnl, hx, q⟩ := h
  have hs : Slots H (L2.start ["self", "k", "name", "number", "place", "numbers"] [.ref A'.w, .int (k : Int), .str x, .int z]) [.v (.ref A'.w), .d (.num (k : Int)), .d (.text x), .d (.num z), .u, .u] := slots_start ["self", "k", "name", "number", "place", "numbers"] (.cons (s := .v (.ref A'.w)) (show V.ref _ = V.ref _ from rfl) (.cons (s := .d (.num (k : Int))) (.int _) (.cons (s := .d (.text x)) (.str _) (.cons (s := .d (.num z)) (.int _) .nil))))
  have D := hM.hd k d hd
  obtain ⟨j, hj1, hj2, hj3⟩ := setN_at (z := z) hnl hx
  refine ⟨_, (pss_cons (ps_set (i := 4) sc_Work_set_number.nd rfl (Or.inl rfl) (pe_bm PySem.F.plainAttrs_list PySem.F.slot_list_index PySem.F.type_list_index mt_index (pe_meth (pv 0) T.cl_Work T.Work_names_of.m (ok_Work_names_of T) (hr.mono (by decide)) T.Work_names_of.b .nil pass0 (pa_cons (pv 1) pa_nil)) (pa_cons (pv 2) pa_nil)))
      (pss_cons (ps_set (i := 5) sc_Work_set_number.nd rfl (Or.inl rfl) (pe_callTy call_list_of (by rfl) T.b_list (by decide +kernel) (pa_cons (pe_ix ix_seq (pe_ix ix_seq (pe_fld (pv 0) rfl) (pv 1) (fun _ _ => rfl)) pe_int (fun _ _ => rfl)) pa_nil)))
      (pss_cons (ps_asg (pv 3) (pg_sub (pv 5) (pv 4) set_list))
      (pss_one (ps_asg (pe_callTy call_tuple_of (by rfl) T.b_tuple (by decide +kernel) (pa_cons (pv 5) pa_nil)) (pg_sub (pe_ix ix_seq (pe_fld (pv 0) rfl) (pv 1) (fun _ _ => rfl)) pe_int set_list)))))), ?_⟩
  -- place = self.names_of(k).index(name)
  refine sq_asg ?_
  show tMeth _ _ _ _ _ _ _ _ _ _
  refine c_names W hM (ev_var hs) (ed_var hs) hd fun p ps H1 W1 f1 hp1 hn1 => ?_
  have eps := NdAll.strs _ _ hn1
  subst eps
  have hs1 := hs.tx f1.1
  refine ⟨.inl ⟨rfl, _, SqL.of hp1⟩, ?_⟩
  refine (ed_var hs1 : Ed (tVar 2) _ _ (.d (.text x))) H1 (.refl _) _ fun v2 H2 e2 hv2 => ?_
  cases hv2
  refine ⟨p, _, .str x, j, .str x, rfl, rfl, SqL.of (e2 _ _ hp1), rfl, ?_, by rw [List.getElem?_map, hj1]; rfl, by simp [eqV], fun m y hm hy => ?_, ?_⟩
  · exact List.all_eq_true.mpr fun y hy => by obtain ⟨u, _, rfl⟩ := List.mem_map.mp hy; rfl
  · rw [List.getElem?_map] at hy
    cases hu : d.vars[m]? with
    | none => rw [hu] at hy; cases hy
    | some u =>
      rw [hu] at hy
      have hy : V.str u = y := Option.some.inj hy
      have : u ≠ x := fun e => hj2 m hm (by rw [hu, e])
      rw [← hy]
      simp [eqV, this]
  refine gn_of ?_
  have W2 := W1.up e2
  have f2 : Fr H H2 := f1.trans (fr_of e2)
  have hs2 : Slots H2 ((L2.start ["self", "k", "name", "number", "place", "numbers"] [.ref A'.w, .int (k : Int), .str x, .int z]).set 4 (some (.int (j : Nat)))) [.v (.ref A'.w), .d (.num (k : Int)), .d (.text x), .d (.num z), .d (.num (j : Int)), .u] := (hs1.up e2).set (s := .d (.num (j : Int))) (.int _) 4
  obtain ⟨a, xs2, ha, hx2, hn2⟩ := W2.hAt hhk
  -- numbers = list(self.hands[k][4])
  show tSeq _ _ _ _ _
  refine s_setL hs2 (el_list (ks := nums hh.ns) (ed_item (ed_handL T W2 (ev_var hs2) (ed_var hs2) ha) ed_int hx2 hn2 rfl)) fun r zs ks σ3 H3 hk hr0 e3 hr3 hz3 hs3 => ?_
  subst hk
  have ezs := NdAll.ints _ _ hz3
  subst ezs
  have W3 := W2.up e3
  have hjl : j < hh.ns.length := by rw [hnl]; exact (List.getElem?_eq_some_iff.mp hj1).1
  -- numbers[place] = number
  refine nx_of (X := tSeq _ _ _) ?_
  refine sq_asg ?_
  refine (ed_var hs3 : Ed (tVar 3) _ _ (.d (.num z))) H3 (.refl _) _ fun v4 H4 e4 hv4 => ?_
  cases hv4
  refine (ev_var (hs3.up e4) : Ed (tVar 5) _ _ (.v (.ref r))) H4 (.refl _) _ fun v5 H5 e5 hv5 => ?_
  cases hv5
  refine (ed_var ((hs3.up e4).up e5) : Ed (tVar 4) _ _ (.d (.num (j : Int)))) H5 (.refl _) _ fun v6 H6 e6 hv6 => ?_
  cases hv6
  have e36 := (e4.trans e5).trans e6
  have hr6 := e36 _ _ hr3
  refine ⟨r, _, _, j, rfl, rfl, hr6, ixN_nat (by rw [List.length_map]; exact hjl), ?_⟩
  have s7 : Same H2 (upd H6 r (.lst ((hh.ns.map V.int).set j (.int z)))) := same_mut (e3.trans e36) hr0
  have hr7 : (upd H6 r (.lst ((hh.ns.map V.int).set j (.int z)))) r = some (.lst ((hh.ns.set j z).map V.int)) := by rw [upd_same, List.map_set]
  have hs7 : Slots (upd H6 r (.lst ((hh.ns.map V.int).set j (.int z)))) σ3 [.v (.ref A'.w), .d (.num (k : Int)), .d (.text x), .d (.num z), .d (.num (j : Int)), .v (.ref r)] := (hs3.up e36).tx (Fr.lst hr6).1
  generalize upd H6 r (.lst ((hh.ns.map V.int).set j (.int z))) = H7 at *
  have W7 := W2.up s7
  obtain ⟨a', xs7, ha7, hx7, hn7⟩ := W7.hAt hhk
  rw [ha] at ha7; cases ha7
  -- self.hands[k][4] = tuple(numbers)
  refine (ed_tupL (ev_var hs7) hr7 (nd_ints _)) H7 (.refl _) _ fun v8 H8 e8 hv8 => ?_
  have hs8 := hs7.up e8
  have W8 := W7.up e8
  refine (ed_handL T W8 (ev_var hs8) (ed_var hs8) ha) H8 (.refl _) _ fun v9 H9 e9 hv9 => ?_
  cases hv9
  have e79 := e8.trans e9
  have hx9 := e79 _ _ hx7
  have l5 := (nd5 hn7).1
  refine ⟨a, xs7, 4, 4, rfl, rfl, hx9, by rw [l5]; rfl, ?_⟩
  have hn9 : NdAll H9 (xs7.set 4 v8) ({ hh with ns := setN d.vars hh.ns x z } : HS).dts := by
    have := (hn7.up e79).set (hv8.up e9 : Nd H9 v8 (.tup (nums (hh.ns.set j z)))) 4
    rw [hj3]
    exact this
  exact q _ ((W7.up e79).setHand ha hhk hn9) ((f2.trans (fr_of (s7.trans e79))).trans (Fr.lst hx9))
def spBreak (C : Addr) : Sp := fun vs H Q _ => ∃ (M : Mk) (H0 : Hp) (A : WA) (s : Sd) (br : Dt) (n k : Nat) (d : Hn) (x : Str), vs = [.ref A.w, .str x, .int (k : Int)] ∧ WorkAt C M H0 H A s br n ∧ M.hds[k]? = some d ∧
  ∀ H', WorkAt C M H0 H' A s (.tup [.text x, .text d.nm]) n → Fr H H' → Q .non H'
theorem ok_Work_break_by (T : Txt K mg) : FnOk P w K mg base CX0 1 T.Work_break_by.a T.Work_break_by.d ["self", "word", "k"] (spBreak T.C_Work) := by
  refine fun_okC T.Work_break_by.F sc_Work_break_by (fun vs H Q E h => ?_) (fun cdv A outer s H vs Q E hcd hr h => ?_)
  · obtain ⟨_, _, _, _, _, _, _, _, _, e, _⟩ := h
    rw [e]; rfl
  obtain ⟨M, H0, A', st, br, n, k, d, x, rfl, W, hd, q⟩ := h
  have hs : Slots H (L2.start ["self", "word", "k"] [.ref A'.w, .str x, .int (k : Int)]) [.v (.ref A'.w), .d (.text x), .d (.num (k : Int))] := slots_start ["self", "word", "k"] (.cons (s := .v (.ref A'.w)) (show V.ref _ = V.ref _ from rfl) (.cons (s := .d (.text x)) (.str _) (.cons (s := .d (.num (k : Int))) (.int _) .nil)))
  obtain ⟨dx, vm, vc, vb, o1, o2, o3, o4⟩ := W.ob
  refine ⟨_, (pss_one (ps_fld (pv 0) (pe_tup (pa_cons (pv 1) (pa_cons (pe_ix ix_seq (pe_ix ix_seq (pe_ix ix_seq (pe_fld (pv 0) rfl) pe_int (fun _ _ => rfl)) (pv 2) (fun _ _ => rfl)) pe_int (fun _ _ => rfl)) pa_nil))) rfl)), ?_⟩
  refine (ed_tup [.text x, .text d.nm] (ea_cons (ed_var hs) (ea_cons (ed_ix (ed_hn ((ed_fld (ev_var hs) o1 T.cl_Work T.n_Work_making wf_making).vd o2) (ed_var hs) hd) ed_int rfl) ea_nil)) (by simp)) H (.refl H) _ fun v H1 e1 hv1 => ?_
  refine (ev_var (hs.up e1) : Ed (tVar 0) _ _ (.v (.ref A'.w))) H1 (.refl _) _ fun v2 H2 e2 hv2 => ?_
  cases hv2
  have e12 := e1.trans e2
  refine ⟨A'.w, T.C_Work, dx, _, rfl, e12 _ _ o1, T.cl_Work, T.n_Work_broken, (show (8 : Nat) < 1000 by decide), ?_⟩
  rw [wf_setBroken]
  exact q _ ((W.up e12).setFld (e12 _ _ o1) (o2.up e12) (o3.up e12) (hv1.up e2)) ((fr_of e12).trans (Fr.ins (e12 _ _ o1)))
def spEnd (C : Addr) : Sp := fun vs H Q _ => ∃ (M : Mk) (H0 : Hp) (A : WA) (s : Sd) (br : Dt) (n k : Nat) (h : HS) (v : V) (l : List Dt), n ≤ 100 ∧ vs = [.ref A.w, .int (k : Int), v] ∧ WorkAt C M H0 H A s br n ∧ s.hs[k]? = some h ∧ Nd H v (.tup l) ∧
  ∀ H', WorkAt C M H0 H' A ⟨s.hs.set k (idleH h.ns), s.bs, s.cl⟩ br (n + 1) → Fr H H' → Q .non H'
theorem ok_Work_end (T : Txt K mg) : FnOk P w K mg base CX0 1 T.Work_end.a T.Work_end.d ["self", "k", "event"] (spEnd T.C_Work) := by
  refine fun_okC T.Work_end.F sc_Work_end (fun vs H Q E h => ?_) (fun cdv A outer s H vs Q E hcd hr h => ?_)
  · obtain ⟨_, _, _, _, _, _, _, _, _, _, _, e, _⟩ := h
    rw [e]; rfl
  obtain ⟨M, H0, A', st, br, n, k, hh, v, l, hn, rfl, W, hhk, hv, q⟩ := h
  have hs : Slots H (L2.start ["self", "k", "event"] [.ref A'.w, .int (k : Int), v]) [.v (.ref A'.w), .d (.num (k : Int)), .d (.tup l)] := slots_start ["self", "k", "event"] (.cons (s := .v (.ref A'.w)) (show V.ref _ = V.ref _ from rfl) (.cons (s := .d (.num (k : Int))) (.int _) (.cons (s := .d (.tup l)) hv .nil)))
  obtain ⟨dx, vm, vc, vb, o1, o2, o3, o4⟩ := W.ob
  obtain ⟨xs, evs, v1, v2, v3, v4⟩ := W.ev
  have hne : A'.hA ≠ [] := fun z => by
    have h1 := W.hn
    have h2 := (List.getElem?_eq_some_iff.mp hhk).1
    rw [z] at h1
    simp at h1
    omega
  refine ⟨_, (pss_cons (ps_expr (pe_bm PySem.F.plainAttrs_list PySem.F.slot_list_append PySem.F.type_list_append mt_append (pe_fld (pv 0) rfl) (pa_cons (pv 2) pa_nil)))
      (pss_one (ps_asg (pe_lst (pa_cons (pe_glob (v := .int (-1)) rfl T.c_IDLE ⟨_, rfl⟩) (pa_cons pe_non (pa_cons pe_int (pa_cons pe_int pa_nil))))) (pg_head (pe_ix ix_seq (pe_fld (pv 0) rfl) (pv 1) (fun _ _ => rfl)) (po_some pe_int))))), ?_⟩
  refine s_app (T := "") v1 v2 (ed_fld (ev_var hs) o1 T.cl_Work T.n_Work_events wf_events) (Ed.ev (ed_var hs)) (by omega) fun v' k' H1 hk' e1 h1 h2 => ?_
  subst hk'
  have W1 := (W.up e1).addEv hne (e1 _ _ v1) (v2.up e1) v3 v4 h1
  have f1 : Fr H (upd H1 A'.ev (.lst (xs ++ [v']))) := (fr_of e1).trans (Fr.lst (e1 _ _ v1))
  have hs1 := hs.tx f1.1
  generalize upd H1 A'.ev (.lst (xs ++ [v'])) = H2 at *
  refine nx_of (X := tAsg _ _ _) ?_
  obtain ⟨a, xs2, ha, hx2, hn2⟩ := W1.hAt hhk
  refine (el_lst [.num (-1), .none, .num 0, .num 0] (ea_cons (Ed.vi ev_c) (ea_cons ed_non (ea_cons ed_int (ea_cons ed_int ea_nil)))) (by simp) : El (tLst _) _ _ _) H2 (.refl _) _ fun b ys H3 js hb e3 hb3 hy3 hj => ?_
  subst hj
  refine (ed_handL T (W1.up e3) (ev_var (hs1.up e3)) (ed_var (hs1.up e3)) ha) H3 (.refl _) _ fun v5 H4 e4 hv5 => ?_
  cases hv5
  refine (eo_some (ed_int (i := 4)) : Eo _ _ H4 _) H4 (.refl _) _ fun H5 e5 => ?_
  have e35 := (e3.trans e4).trans e5
  have hx5 := e35 _ _ hx2
  have hb5 := (e4.trans e5) _ _ hb3
  have l5 := (nd5 hn2).1
  have l4 : ys.length = 4 := hy3.len
  have hab : a ≠ b := fun z => by
    rw [z, hb5] at hx5
    have e := Option.some.inj hx5
    injection e with e
    rw [e, l5] at l4
    cases l4
  refine ⟨a, b, xs2, ys, 4, rfl, rfl, hab, rfl, hx5, hb5, by decide, by omega, size_ok (by omega), ?_⟩
  have hnew : NdAll H5 (ys ++ xs2.drop 4) (idleH hh.ns).dts := (hy3.up (e4.trans e5)).app ((hn2.up e35).drop 4)
  exact q _ ((W1.up e35).setHand ha hhk hnew) ((f1.trans (fr_of e35)).trans (Fr.lst hx5))
end
end SB

set_option maxRecDepth 100000
set_option maxHeartbeats 8000000
/-! Work.led_on. -/
namespace SB
open PySem L2 PyProof.Rows
def ledD (d : Hn) (wo : Int) (p : Nat) (ns : List Int) : Row → Nat × List Int
  | .lt x e => (p + 1, setN d.vars ns x (e.val (d.env wo ns)))
  | .un e to => (if e.val (d.env wo ns) = 0 then to else p + 1, ns)
  | _ => (p, ns)
theorem row_vars {M : Mk} {k : Nat} {d : Hn} (D : HnOk M k d) {i : Nat} {r : Row} {e : Ex} (hr : d.rows[i]? = some r) (he : r.expr = some e) : ∀ x ∈ e.names, x = "v" ∨ x ∈ d.vars := by
  intro x hx
  by_cases c : x = ("v" : Str)
  · exact .inl c
  · right
    rw [D.vars.mem]
    unfold rowsNames
    rw [List.mem_filter, List.mem_flatMap]
    refine ⟨⟨r, List.mem_of_getElem? hr, (row_names r x).mpr (.inr ⟨e, he, hx⟩)⟩, ?_⟩
    rw [decide_eq_false c]
    rfl
theorem row_sets {M : Mk} {k : Nat} {d : Hn} (D : HnOk M k d) {i : Nat} {r : Row} {x : Str} (hr : d.rows[i]? = some r) (hx : r.sets = some x) : x ∈ d.vars := by
  have c : x ≠ ("v" : Str) := (D.row i r hr).nv x (by
    cases r with
    | lt y e => cases hx; exact .inl ⟨e, rfl⟩
    | get y b => cases hx; exact .inr ⟨b, rfl⟩
    | put _ _ => cases hx
    | un _ _ => cases hx
    | tell _ => cases hx)
  rw [D.vars.mem]
  unfold rowsNames
  rw [List.mem_filter, List.mem_flatMap]
  refine ⟨⟨r, List.mem_of_getElem? hr, (row_names r x).mpr (.inl ⟨x, hx, rfl⟩)⟩, ?_⟩
  rw [decide_eq_false c]
  rfl
theorem set_self {α : Type} {l : List α} {k : Nat} {x : α} (h : l[k]? = some x) : l.set k x = l := by
  apply List.ext_getElem?
  intro i
  rw [List.getElem?_set]
  by_cases e : k = i
  · subst e
    rw [if_pos rfl, if_pos (List.getElem?_eq_some_iff.mp h).1, h]
  · rw [if_neg e]
section
variable {P : Program} {w : World} {K : PySem.W.Frag} {mg : Str → Option Value} {base : Heap}
variable {C : Addr} {M : Mk} {H0 H : Hp} {A : WA} {s : Sd} {br : Dt} {n k : Nat} {d : Hn} {h : HS} {σ : L2.St} {ta tb tc td : TE} {E : XK} {Q : VK}
/-- self.m(..), its arguments plain -/
theorem c_m {m : Str} {sp : Sp} {t : TA} {ss : List SV} (W : WorkAt C M H0 H A s br n) (hl : ∀ a b c d e f g h, (wf a b c d e f g h).lookup m = none) (ha : Ed ta σ H (.v (.ref A.w))) (ht : Ea t σ H ss) (q : ∀ vs H2, Same H H2 → SvAll H2 vs ss → sp (.ref A.w :: (vs ++ [])) H2 Q E) : tMeth C m sp [] E ta t σ H Q :=
  ha H (.refl H) _ fun v H2 e2 h2 => by
    cases h2
    obtain ⟨dx, vm, vc, vb, o1, _⟩ := (W.up e2).ob
    exact ⟨A.w, dx, _, rfl, o1, hl _ _ _ _ _ _ _ _, ht H2 e2 _ fun vs H3 e3 h3 => q vs H3 (e2.trans e3) h3⟩
theorem c_setNum {x : Str} {z : Int} (W : WorkAt C M H0 H A s br n) (hM : MkOk M) (ha : Ed ta σ H (.v (.ref A.w))) (hb : Ed tb σ H (.d (.num (k : Int)))) (hc : Ed tc σ H (.d (.text x))) (hd : M.hds[k]? = some d) (hh : s.hs[k]? = some h) (hl : h.ns.length = d.vars.length) (hx : x ∈ d.vars)
    (ht : ∀ H1, Same H H1 → ∀ Q : VK, (∀ H2, WorkAt C M H0 H2 A s br n → Fr H1 H2 → Q (.int z) H2) → td σ H1 Q)
    (q : ∀ v H', WorkAt C M H0 H' A ⟨s.hs.set k { h with ns := setN d.vars h.ns x z }, s.bs, s.cl⟩ br n → Fr H H' → Q v H') : tMeth C "set_number" (spSetNum C) [] E ta (tCons tb (tCons tc (tCons td tNil))) σ H Q :=
  ha H (.refl H) _ fun v H2 e2 h2 => by
    cases h2
    obtain ⟨dx, vm, vc, vb, o1, _⟩ := (W.up e2).ob
    refine ⟨A.w, dx, _, rfl, o1, rfl, hb H2 e2 _ fun v' H3 e3 h3' => ?_⟩
    cases h3'
    refine hc H3 (e2.trans e3) _ fun v'' H4 e4 h4 => ?_
    cases h4
    refine ht H4 ((e2.trans e3).trans e4) _ fun H5 W5 f5 => ?_
    exact ⟨M, H0, A, s, br, n, k, d, h, x, z, hM, rfl, W5, hd, hh, hl, hx, fun H6 W6 f6 => q _ H6 W6 (((fr_of ((e2.trans e3).trans e4)).trans f5).trans f6)⟩
theorem s_dropC {te : TE} {D : Ends} {u : TS} (h : te σ H fun _ H1 => u D σ H1) : tSeq (tDrop te) u D σ H := h
theorem s_if0 {te : TE} {z : Int} {R : Hp → Prop} {D : Ends} {tu tw : TS} (ht : ∀ Q : VK, (∀ H2, R H2 → Q (.int z) H2) → te σ H Q) (h1 : ∀ H2, R H2 → z = 0 → tu D σ H2) (h2 : ∀ H2, R H2 → z ≠ 0 → tw D σ H2) : tIfS (tTest (tOp (rEqX K) te (tC (.int 0)))) tu tw D σ H :=
  ht _ fun H2 r => .inl ⟨rfl, decide (V.int z = V.int 0), rfl, by
    show if decide (V.int z = V.int 0) = true then tu D σ H2 else tw D σ H2
    by_cases c : z = 0
    · rw [if_pos (decide_eq_true (by rw [c]))]; exact h1 H2 r c
    · rw [if_neg (by rw [decide_eq_false (fun e => c (by injection e))]; decide)]; exact h2 H2 r c⟩
def spLed (C : Addr) : Sp := fun vs H Q _ => ∃ (M : Mk) (H0 : Hp) (A : WA) (s : Sd) (br : Dt) (n k : Nat) (d : Hn) (h : HS) (r : Row) (p : Nat) (v : V), MkOk M ∧ vs = [.ref A.w, .int (k : Int), v, .int (p : Int)] ∧ WorkAt C M H0 H A s br n ∧ M.hds[k]? = some d ∧ s.hs[k]? = some h ∧ h.ns.length = d.vars.length ∧
  d.rows[p]? = some r ∧ r.lu = true ∧ Nd H v r.dt ∧ ∀ H', WorkAt C M H0 H' A ⟨s.hs.set k { h with ns := (ledD d h.wo p h.ns r).2 }, s.bs, s.cl⟩ br n → Fr H H' → Q (.int ((ledD d h.wo p h.ns r).1 : Int)) H'
theorem ok_Work_led_on (T : Txt K mg) : FnOk P w K mg base CX0 8 T.Work_led_on.a T.Work_led_on.d ["self", "k", "row", "at"] (spLed T.C_Work) := by
  refine fun_okC T.Work_led_on.F sc_Work_led_on (fun vs H Q E h => ?_) (fun cdv A outer s H vs Q E hcd hr h => ?_)
  · obtain ⟨_, _, _, _, _, _, _, _, _, _, _, _, _, e, _⟩ := h
    rw [e]; rfl
  obtain ⟨M, H0, A', st, br, n, k, d, hh, r, p, v, hM, rfl, W, hd, hhk, hnl, hrow, hlu, hv, q⟩ := h
  have hs : Slots H (L2.start ["self", "k", "row", "at"] [.ref A'.w, .int (k : Int), v, .int (p : Int)]) [.v (.ref A'.w), .d (.num (k : Int)), .d r.dt, .d (.num (p : Int))] := slots_start ["self", "k", "row", "at"] (.cons (s := .v (.ref A'.w)) (show V.ref _ = V.ref _ from rfl) (.cons (s := .d (.num (k : Int))) (.int _) (.cons (s := .d r.dt) hv (.cons (s := .d (.num (p : Int))) (.int _) .nil))))
  have D := hM.hd k d hd
  refine ⟨_, (pss_cons (ps_if (pt_cmpR (op_eqX hr.units) (pe_ix ix_seq (pv 2) pe_int (fun _ _ => rfl)) pe_str (nomark _)) (pss_cons (ps_expr (pe_meth (pv 0) T.cl_Work T.Work_set_number.m (ok_Work_set_number T) (hr.mono (by decide)) T.Work_set_number.b .nil pass0 (pa_cons (pv 1) (pa_cons (pe_ix ix_seq (pv 2) pe_int (fun _ _ => rfl)) (pa_cons (pe_meth (pv 0) T.cl_Work T.Work_number.m (ok_Work_number T) (hr.mono (by decide)) T.Work_number.b .nil pass0 (pa_cons (pv 1) (pa_cons (pe_ix ix_seq (pv 2) pe_int (fun _ _ => rfl)) pa_nil))) pa_nil)))))
      (pss_one (ps_ret (pe_op op_addX (pv 3) pe_int)))) pss_nil)
      (pss_cons (ps_if (pt_cmpR (op_eqX hr.units) (pe_ix ix_seq (pv 2) pe_int (fun _ _ => rfl)) pe_str (nomark _)) (pss_one ps_never) pss_nil)
      (pss_cons (ps_if (pt_cmpR (op_eqX hr.units) (pe_meth (pv 0) T.cl_Work T.Work_number.m (ok_Work_number T) (hr.mono (by decide)) T.Work_number.b .nil pass0 (pa_cons (pv 1) (pa_cons (pe_ix ix_seq (pv 2) pe_int (fun _ _ => rfl)) pa_nil))) pe_int (nomark _)) (pss_one (ps_ret (pe_ix ix_seq (pv 2) pe_int (fun _ _ => rfl)))) pss_nil)
      (pss_one (ps_ret (pe_op op_addX (pv 3) pe_int)))))), ?_⟩
  cases r with
  | put _ _ => cases hlu
  | get _ _ => cases hlu
  | tell _ => cases hlu
  | lt x e =>
    refine s_if (et_test (eb_eq (ed_ix (k := .text "let") (ed_var hs) ed_int rfl) ed_str)) (fun c H1 e1 => ?_) (fun c H1 e1 => absurd rfl (of_decide_eq_false c))
    have hs1 := hs.up e1
    have W1 := W.up e1
    refine s_dropC (c_setNum (z := e.val (d.env hh.wo hh.ns)) W1 hM (ev_var hs1) (ed_var hs1) (ed_ix (ed_var hs1) ed_int rfl) hd hhk hnl (row_sets D hrow rfl) (fun H2 e2 Q' q' => c_number (W1.up e2) hM (ev_var (hs1.up e2)) (ed_var (hs1.up e2)) (ed_ix (ed_var (hs1.up e2)) ed_int rfl) hd hhk hnl ((D.row _ _ hrow).ex e rfl).2 (row_vars D hrow rfl) q') fun v0 H3 W3 f3 => ?_)
    have hs3 := hs1.tx f3.1
    exact s_retD (s := .d (.num ((p + 1 : Nat) : Int))) (Ed.is (ed_add (ed_var hs3) ed_int) (by rw [Int.natCast_add]; rfl)) fun v4 H4 e4 hv4 => by
      cases hv4
      exact q H4 (W3.up e4) (((fr_of e1).trans f3).trans (fr_of e4))
  | un e to =>
    refine s_if (et_test (eb_eq (ed_ix (k := .text "unless") (ed_var hs) ed_int rfl) ed_str)) (fun c H1 e1 => absurd (txt_eq.mp (of_decide_eq_true c)) (by decide +kernel)) (fun c H1 e1 => ?_)
    have hs1 := hs.up e1
    refine nx_of (X := tSeq _ _ _) ?_
    refine s_if (et_test (eb_eq (ed_ix (k := .text "unless") (ed_var hs1) ed_int rfl) ed_str)) (fun c H2 e2 => absurd (txt_eq.mp (of_decide_eq_true c)) (by decide +kernel)) (fun c H2 e2 => ?_)
    have hs2 := hs1.up e2
    have W2 := (W.up e1).up e2
    refine nx_of (X := tSeq _ _ _) ?_
    have hst : (⟨st.hs.set k { hh with ns := hh.ns }, st.bs, st.cl⟩ : Sd) = st := by
      rw [show ({ hh with ns := hh.ns } : HS) = hh from rfl, set_self hhk]
    refine s_if0 (R := fun H3 => WorkAt T.C_Work M H0 H3 A' st br n ∧ Fr H2 H3) (fun Q' q' => c_number W2 hM (ev_var hs2) (ed_var hs2) (ed_ix (ed_var hs2) ed_int rfl) hd hhk hnl ((D.row _ _ hrow).ex e rfl).2 (row_vars D hrow rfl) fun H3 W3 f3 => q' H3 ⟨W3, f3⟩) (fun H3 r3 hz => ?_) (fun H3 r3 hz => ?_)
    · obtain ⟨W3, f3⟩ := r3
      have hs3 := hs2.tx f3.1
      refine s_retD (s := .d (.num (to : Int))) (ed_ix (ed_var hs3) ed_int rfl) fun v4 H4 e4 hv4 => ?_
      cases hv4
      have := q H4 (by show WorkAt _ _ _ _ _ ⟨st.hs.set k { hh with ns := hh.ns }, st.bs, st.cl⟩ _ _; rw [hst]; exact W3.up e4) (((fr_of (e1.trans e2)).trans f3).trans (fr_of e4))
      rw [show ledD d hh.wo p hh.ns (.un e to) = (if e.val (d.env hh.wo hh.ns) = 0 then to else p + 1, hh.ns) from rfl, if_pos hz] at this
      exact this
    · obtain ⟨W3, f3⟩ := r3
      have hs3 := hs2.tx f3.1
      refine nx_of (X := tRet _ _) ?_
      refine s_retD (s := .d (.num ((p + 1 : Nat) : Int))) (Ed.is (ed_add (ed_var hs3) ed_int) (by rw [Int.natCast_add]; rfl)) fun v4 H4 e4 hv4 => ?_
      cases hv4
      have := q H4 (by show WorkAt _ _ _ _ _ ⟨st.hs.set k { hh with ns := hh.ns }, st.bs, st.cl⟩ _ _; rw [hst]; exact W3.up e4) (((fr_of (e1.trans e2)).trans f3).trans (fr_of e4))
      rw [show ledD d hh.wo p hh.ns (.un e to) = (if e.val (d.env hh.wo hh.ns) = 0 then to else p + 1, hh.ns) from rfl, if_neg hz] at this
      exact this
end
end SB
set_option maxRecDepth 100000
set_option maxHeartbeats 8000000
/-! Work.tell. -/
namespace SB
open PySem L2 PyProof.Rows
/-- what a Work has come to -/
def Res (s' : Sd) (br' : Dt) (o : Option Sd) : Prop := (o = none ∧ br' ≠ .none) ∨ (o = some s' ∧ br' = .none)
inductive TellR (M : Mk) (k : Nat) (z : Int) (h : HS) (s : Sd) : Option Sd → Prop
  | great : M.sz ≤ z → TellR M k z h s none
  | lie : z < M.sz → ClTold M (k - 1) z s.cl none → TellR M k z h s none
  | told {c : Cl} : z < M.sz → ClTold M (k - 1) z s.cl (some c) → TellR M k z h s (some ⟨s.hs.set k (idleH h.ns), s.bs, c⟩)
section
variable {P : Program} {w : World} {K : PySem.W.Frag} {mg : Str → Option Value} {base : Heap}
variable {C : Addr} {M : Mk} {H0 H : Hp} {A : WA} {s : Sd} {br : Dt} {n k : Nat} {d : Hn} {h : HS} {σ : L2.St} {ta tb tc td : TE} {E : XK} {Q : VK}
theorem WorkAt.le {m : Nat} (W : WorkAt C M H0 H A s br n) (hm : n ≤ m) : WorkAt C M H0 H A s br m := by
  obtain ⟨xs, evs, v1, v2, v3, v4⟩ := W.ev
  exact ⟨W.same, W.fw, W.fev, W.fnd, W.fhA, W.fbA, W.ob, W.hl, W.bl, W.hn, W.bn, W.hs, W.bs, W.hnd, W.bnd, W.pd, W.nm, ⟨xs, evs, v1, v2, Nat.le_trans v3 hm, v4⟩, W.ne1, W.ne2, W.ne3⟩
theorem c_break {x : Str} (W : WorkAt C M H0 H A s br n) (ha : Ed ta σ H (.v (.ref A.w))) (hb : Ed tb σ H (.d (.text x))) (hc : Ed tc σ H (.d (.num (k : Int)))) (hd : M.hds[k]? = some d) (q : ∀ v H', WorkAt C M H0 H' A s (.tup [.text x, .text d.nm]) n → Fr H H' → Q v H') : tMeth C "break_by" (spBreak C) [] E ta (tCons tb (tCons tc tNil)) σ H Q :=
  c_m W (fun _ _ _ _ _ _ _ _ => rfl) ha (ea_cons hb (ea_cons hc ea_nil)) fun vs H2 e2 hv => by
    cases hv with
    | cons r1 t1 =>
      cases t1 with
      | cons r2 t2 =>
        cases t2
        cases r1; cases r2
        exact ⟨M, H0, A, s, br, n, k, d, x, rfl, W.up e2, hd, fun H3 W3 f3 => q _ H3 W3 ((fr_of e2).trans f3)⟩
theorem c_end {l : List Dt} (W : WorkAt C M H0 H A s br n) (hn : n ≤ 100) (ha : Ed ta σ H (.v (.ref A.w))) (hb : Ed tb σ H (.d (.num (k : Int)))) (hc : Ed tc σ H (.d (.tup l))) (hh : s.hs[k]? = some h) (q : ∀ v H', WorkAt C M H0 H' A ⟨s.hs.set k (idleH h.ns), s.bs, s.cl⟩ br (n + 1) → Fr H H' → Q v H') :
    tMeth C "end" (spEnd C) [] E ta (tCons tb (tCons tc tNil)) σ H Q :=
  c_m W (fun _ _ _ _ _ _ _ _ => rfl) ha (ea_cons hb (ea_cons hc ea_nil)) fun vs H2 e2 hv => by
    cases hv with
    | cons r1 t1 =>
      cases t1 with
      | cons r2 t2 =>
        cases t2
        cases r1
        exact ⟨M, H0, A, s, br, n, k, h, _, l, hn, rfl, W.up e2, hh, r2, fun H3 W3 f3 => q _ H3 W3 ((fr_of e2).trans f3)⟩
/-- self.claim = a claim -/
theorem s_claim (T : Txt K mg) {c' : Cl} {D : Ends} {te : TE} (W : WorkAt T.C_Work M H0 H A s br n) (ha : Ed ta σ H (.v (.ref A.w))) (he : Ed te σ H (.d c'.dt)) (q : ∀ H', WorkAt T.C_Work M H0 H' A ⟨s.hs, s.bs, c'⟩ br n → Fr H H' → D.nx σ H') : sFld K ta te "claim" D σ H :=
  he H (.refl H) _ fun v H1 e1 h1 => ha H1 e1 _ fun v2 H2 e2 h2 => by
    cases h2
    have e12 := e1.trans e2
    obtain ⟨dx, vm, vc, vb, o1, o2, o3, o4⟩ := (W.up e12).ob
    refine ⟨A.w, T.C_Work, dx, _, rfl, o1, T.cl_Work, T.n_Work_claim, (show (8 : Nat) < 1000 by decide), ?_⟩
    rw [wf_setClaim]
    exact q _ ((W.up e12).setFld o1 o2 (Nd.up h1 e2) o4) ((fr_of e12).trans (Fr.ins o1))
def spTell (C : Addr) : Sp := fun vs H Q _ => ∃ (M : Mk) (H0 : Hp) (A : WA) (s : Sd) (n k : Nat) (d : Hn) (h : HS) (z : Int), MkOk M ∧ n ≤ 50 ∧ k ≠ 0 ∧ vs = [.ref A.w, .int (k : Int), .int z] ∧ WorkAt C M H0 H A s .none n ∧ M.hds[k]? = some d ∧ s.hs[k]? = some h ∧ ClOk M s.cl ∧ ReadIn s.cl (k - 1) ∧
  ∀ H' s' br' o, WorkAt C M H0 H' A s' br' (n + 1) → Fr H H' → TellR M k z h s o → Res s' br' o → Q .non H'
theorem ok_Work_tell (T : Txt K mg) : FnOk P w K mg base CX0 5 T.Work_tell.a T.Work_tell.d ["self", "k", "number"] (spTell T.C_Work) := by
  refine fun_okC T.Work_tell.F sc_Work_tell (fun vs H Q E h => ?_) (fun cdv A outer s H vs Q E hcd hr h => ?_)
  · obtain ⟨_, _, _, _, _, _, _, _, _, _, _, _, e, _⟩ := h
    rw [e]; rfl
  obtain ⟨M, H0, A', st, n, k, d, hh, z, hM, hn, hk0, rfl, W, hd, hhk, hC, hRI, q⟩ := h
  have hs : Slots H (L2.start ["self", "k", "number", "later"] [.ref A'.w, .int (k : Int), .int z]) [.v (.ref A'.w), .d (.num (k : Int)), .d (.num z), .u] := slots_start ["self", "k", "number", "later"] (.cons (s := .v (.ref A'.w)) (show V.ref _ = V.ref _ from rfl) (.cons (s := .d (.num (k : Int))) (.int _) (.cons (s := .d (.num z)) (.int _) .nil)))
  obtain ⟨dx, vm, vc, vb, o1, o2, o3, o4⟩ := W.ob
  refine ⟨_, (pss_cons (ps_if (pt_cmpR op_ge (pv 2) (pe_ix ix_seq (pe_fld (pv 0) rfl) pe_int (fun _ _ => rfl)) (nomark _)) (pss_cons (ps_expr (pe_meth (pv 0) T.cl_Work T.Work_break_by.m (ok_Work_break_by T) (hr.mono (by decide)) T.Work_break_by.b .nil pass0 (pa_cons pe_str (pa_cons (pv 1) pa_nil))))
      (pss_one ps_retN)) pss_nil)
      (pss_cons (ps_set (i := 3) sc_Work_tell.nd rfl (Or.inl rfl) (pe_call (ok_claim_told T) (hr.mono (by decide)) (by rfl) T.claim_told.m T.claim_told.F.kp T.claim_told.b .nil pass0 (pa_cons (pe_fld (pv 0) rfl) (pa_cons (pe_fld (pv 0) rfl) (pa_cons (pe_op op_sub (pv 1) pe_int) (pa_cons (pv 2) pa_nil))))))
      (pss_cons (ps_expr (pe_meth (pv 0) T.cl_Work T.Work_end.m (ok_Work_end T) (hr.mono (by decide)) T.Work_end.b .nil pass0 (pa_cons (pv 1) (pa_cons (pe_tup (pa_cons pe_str (pa_cons (pe_ix ix_seq (pe_ix ix_seq (pe_ix ix_seq (pe_fld (pv 0) rfl) pe_int (fun _ _ => rfl)) (pv 1) (fun _ _ => rfl)) pe_int (fun _ _ => rfl)) (pa_cons (pv 2) pa_nil)))) pa_nil))))
      (pss_one (ps_if (pt_cmp (pc_isN (pv 3))) (pss_one (ps_expr (pe_meth (pv 0) T.cl_Work T.Work_break_by.m (ok_Work_break_by T) (hr.mono (by decide)) T.Work_break_by.b .nil pass0 (pa_cons pe_str (pa_cons (pv 1) pa_nil))))) (pss_one (ps_fld (pv 0) (pv 3) rfl))))))), ?_⟩
  refine s_if (et_test (eb_ge (ed_var hs) (ed_ix ((ed_fld (ev_var hs) o1 T.cl_Work T.n_Work_making wf_making).vd o2) ed_int rfl))) (fun c H1 e1 => ?_) (fun c H1 e1 => ?_)
  · have c := of_decide_eq_true c
    have hs1 := hs.up e1
    refine s_dropC (c_break (W.up e1) (ev_var hs1) ed_str (ed_var hs1) hd fun v H2 W2 f2 => ?_)
    exact q H2 _ _ none (W2.le (Nat.le_succ _)) ((fr_of e1).trans f2) (.great c) (.inl ⟨rfl, fun e => by cases e⟩)
  have c : z < M.sz := by have := of_decide_eq_false c; omega
  have hs1 := hs.up e1
  have W1 := W.up e1
  refine nx_of (X := tSeq _ _ _) ?_
  refine s_set hs1 (ev_call (ea_cons ((ed_fld (ev_var hs1) (e1 _ _ o1) T.cl_Work T.n_Work_making wf_making).vd (o2.up e1)) (ea_cons ((ed_fld (ev_var hs1) (e1 _ _ o1) T.cl_Work T.n_Work_claim wf_claim).vd (o3.up e1)) (ea_cons (Ed.is (k' := .num ((k - 1 : Nat) : Int)) (ed_sub (ed_var hs1) ed_int) (by congr 1; omega)) (ea_cons (ed_var hs1) ea_nil))))
    ⟨M, st.cl, k - 1, z, hM, hC, rd_lt hd hk0, hRI, rfl, rfl⟩) fun later σ2 H2 hlat e2 hs2 => ?_
  have W2 := W1.up e2
  obtain ⟨dx, vm, vc, vb, o1, o2, o3, o4⟩ := W2.ob
  refine nx_of (X := tSeq _ _ _) ?_
  refine s_dropC (c_end W2 (by omega) (ev_var hs2) (ed_var hs2) (ed_tup [.text "end", .text d.nm, .num z] (ea_cons ed_str (ea_cons (ed_ix (ed_hn ((ed_fld (ev_var hs2) o1 T.cl_Work T.n_Work_making wf_making).vd o2) (ed_var hs2) hd) ed_int rfl) (ea_cons (ed_var hs2) ea_nil))) (by simp)) hhk fun v H3 W3 f3 => ?_)
  have hs3 := hs2.tx f3.1
  have f03 := (fr_of (e1.trans e2)).trans f3
  refine s_if (et_test (eb_isN (ed_var hs3))) (fun c2 H4 e4 => ?_) (fun c2 H4 e4 => ?_)
  · have c2 : later = .none := of_decide_eq_true c2
    have hs4 := hs3.up e4
    show tMeth _ _ _ _ _ _ _ _ _ _
    refine c_break (W3.up e4) (ev_var hs4) ed_str (ed_var hs4) hd fun v H5 W5 f5 => ?_
    refine q H5 _ _ none W5 ((f03.trans (fr_of e4)).trans f5) (.lie c ?_) (.inl ⟨rfl, fun e => by cases e⟩)
    rcases hlat with ⟨c', _, e9⟩ | ⟨h9, _⟩
    · rw [c2] at e9
      cases c' <;> cases e9
    · exact h9
  · rcases hlat with ⟨c', h9, rfl⟩ | ⟨_, e9⟩
    · have hs4 := hs3.up e4
      refine s_claim T (W3.up e4) (ev_var hs4) (ed_var hs4) fun H5 W5 f5 => ?_
      exact q H5 _ _ _ W5 ((f03.trans (fr_of e4)).trans f5) (.told c h9) (.inr ⟨rfl, rfl⟩)
    · rw [e9] at c2
      exact absurd c2 (by decide)
end
end SB
set_option maxRecDepth 100000
set_option maxHeartbeats 8000000
/-! What go_on wants of plain Lean and of the heap. -/
namespace SB
open PySem L2 PyProof.Rows
theorem run_none {d : Hn} {wo : Int} {p : Nat} {ns : List Int} (h : ∀ r, d.rows[p]? = some r → r.lu = false) : ∀ f, d.run wo f p ns = (p, ns)
  | 0 => rfl
  | f + 1 => by
    unfold Hn.run
    split
    · rename_i x e he
      exact Bool.noConfusion (show true = false from h _ he)
    · rename_i e to he
      exact Bool.noConfusion (show true = false from h _ he)
    · rfl
theorem run_step {d : Hn} {wo : Int} {p f : Nat} {ns : List Int} {r : Row} (hr : d.rows[p]? = some r) (hl : r.lu = true) : d.run wo (f + 1) p ns = d.run wo f (ledD d wo p ns r).1 (ledD d wo p ns r).2 := by
  conv => lhs; unfold Hn.run
  rw [hr]
  cases r with
  | lt x e => rfl
  | un e to => rfl
  | put _ _ => cases hl
  | get _ _ => cases hl
  | tell _ => cases hl
theorem led_fwd {M : Mk} {k : Nat} {d : Hn} (D : HnOk M k d) {wo : Int} {p : Nat} {ns : List Int} {r : Row} (hr : d.rows[p]? = some r) (hl : r.lu = true) : p < (ledD d wo p ns r).1 ∧ (ledD d wo p ns r).1 ≤ d.rows.length := by
  have hp := (List.getElem?_eq_some_iff.mp hr).1
  cases r with
  | lt x e => exact ⟨Nat.lt_succ_self p, hp⟩
  | un e to =>
    have := (D.row p _ hr).un e to rfl
    show p < (if e.val (d.env wo ns) = 0 then to else p + 1) ∧ (if e.val (d.env wo ns) = 0 then to else p + 1) ≤ d.rows.length
    split <;> omega
  | put _ _ => cases hl
  | get _ _ => cases hl
  | tell _ => cases hl
theorem run_fuel {M : Mk} {k : Nat} {d : Hn} (D : HnOk M k d) {wo : Int} : ∀ (f g p : Nat) (ns : List Int), d.rows.length - p ≤ f → d.rows.length - p ≤ g → d.run wo f p ns = d.run wo g p ns := by
  intro f
  induction f with
  | zero =>
    intro g p ns h1 h2
    have hn : ∀ r, d.rows[p]? = some r → r.lu = false := fun r hr => by
      have := (List.getElem?_eq_some_iff.mp hr).1
      omega
    rw [run_none hn, run_none hn]
  | succ f ih =>
    intro g p ns h1 h2
    by_cases c : ∃ r, d.rows[p]? = some r ∧ r.lu = true
    · obtain ⟨r, hr, hl⟩ := c
      have hp := (List.getElem?_eq_some_iff.mp hr).1
      cases g with
      | zero => omega
      | succ g =>
        rw [run_step hr hl, run_step hr hl]
        have := (led_fwd D (wo := wo) (ns := ns) hr hl).1
        exact ih g _ _ (by omega) (by omega)
    · have hn : ∀ r, d.rows[p]? = some r → r.lu = false := fun r hr => by
        cases h : r.lu with
        | false => rfl
        | true => exact absurd ⟨r, hr, h⟩ c
      rw [run_none hn, run_none hn]
theorem led_ok {M : Mk} {k : Nat} {d : Hn} (D : HnOk M k d) {wo : Int} (hw : 0 ≤ wo) {p : Nat} {ns : List Int} {r : Row} (hr : d.rows[p]? = some r) (hl : ns.length = d.vars.length) : (ledD d wo p ns r).2.length = d.vars.length := by
  cases r with
  | lt x e => show (setN _ _ _ _).length = _; rw [setN_len]; exact hl
  | un e to => exact hl
  | put _ _ => exact hl
  | get _ _ => exact hl
  | tell _ => exact hl
theorem goR_set {M : Mk} {k : Nat} {d : Hn} {h x : HS} {s : Sd} {p : Nat} {ns : List Int} {o : Option Sd} (g : GoR M k d h ⟨s.hs.set k x, s.bs, s.cl⟩ p ns o) : GoR M k d h s p ns o := by
  cases g with
  | wait hr hpg => show GoR M k d h s p ns (some ⟨(s.hs.set k x).set k _, _, _⟩); rw [List.set_set]; exact .wait hr hpg
  | wrote hk hnr hc => show GoR M k d h s p ns (some ⟨(s.hs.set k x).set k _, _, _⟩); rw [List.set_set]; exact .wrote hk hnr hc
  | silent hk hr => exact .silent hk hr
  | great hk hr hv => exact .great hk hr hv
  | lie hk hr hv hc => exact .lie hk hr hv hc
  | told hk hr hv hc => show GoR M k d h s p ns (some ⟨(s.hs.set k x).set k _, _, _⟩); rw [List.set_set]; exact .told hk hr hv hc
def keyD (x : Nat × List Int) : Dt := .tup [.num (x.1 : Int), .tup (nums x.2)]
theorem key_depth (x : Nat × List Int) : (keyD x).depth ≤ 8 := by
  have h := depthAll_nums x.2
  show NestedKey.depth (.tup [.num (x.1 : Int), .tup (nums x.2)]) ≤ 8
  simp only [NestedKey.depth, NestedKey.depthAll]
  omega
theorem key_ne {x : Nat × List Int} {l : List (Nat × List Int)} (h : ∀ y ∈ l, y.1 < x.1) : keyD x ∉ l.map keyD := by
  intro hm
  obtain ⟨y, hy, e⟩ := List.mem_map.mp hm
  have h1 := h y hy
  have e : NestedKey.tup [.num (y.1 : Int), .tup (nums y.2)] = NestedKey.tup [.num (x.1 : Int), .tup (nums x.2)] := e
  injection e with e
  injection e with e1 e2
  injection e1 with e1
  omega
theorem Fr.new {H H1 : Hp} {b : Addr} {o : HO} (f : Fr H H1) (h : H b = none) : Fr H (L2.upd H1 b o) :=
  ⟨fun a xs z => by rw [upd_ne (ne_of_none z h)]; exact f.1 a xs z, fun a φ z => by rw [upd_ne (ne_of_none z h)]; exact f.2 a φ z⟩
section
variable {C : Addr} {M : Mk} {H0 H : Hp} {A : WA} {s : Sd} {br : Dt} {n : Nat}
/-- what is tracked by a word is no part of a Work -/
theorem WorkAt.other (W : WorkAt C M H0 H A s br n) {x : Addr} {φ : Heap → Prop} {o : HO} (hx : H x = some (.ext φ)) (fx : H0 x = none) : WorkAt C M H0 (upd H x o) A s br n := by
  obtain ⟨dx, vm, vc, vb, o1, o2, o3, o4⟩ := W.ob
  obtain ⟨ns, n1, n2, n3⟩ := W.nm
  obtain ⟨xs, evs, v1, v2, v3, v4⟩ := W.ev
  have tx : Tx H (upd H x o) := Tx.upd fun xs z => by rw [hx] at z; cases z
  have k : ∀ {b : Addr} {u : HO}, H b = some u → (∀ ψ, u ≠ .ext ψ) → (upd H x o) b = some u := fun {b u} hb hn => by
    rw [upd_ne]; exact hb
    intro z
    rw [z, hx] at hb
    exact hn _ (Option.some.inj hb).symm
  refine ⟨same_mut W.same fx, W.fw, W.fev, W.fnd, W.fhA, W.fbA, ⟨dx, vm, vc, vb, k o1 (fun _ z => by cases z), o2.tx tx, o3.tx tx, o4.tx tx⟩, k W.hl (fun _ z => by cases z), k W.bl (fun _ z => by cases z), W.hn, W.bn, fun i a h h1 h2 => ?_, fun i a h h1 h2 => ?_, W.hnd, W.bnd, k W.pd (fun _ z => by cases z), ⟨ns, k n1 (fun _ z => by cases z), n2, fun x hx => ?_⟩,
    ⟨xs, evs, k v1 (fun _ z => by cases z), v2.tx tx, v3, v4⟩, W.ne1, W.ne2, W.ne3⟩
  · obtain ⟨ws, h3, h4⟩ := W.hs i a h h1 h2
    exact ⟨ws, k h3 (fun _ z => by cases z), h4.tx tx⟩
  · obtain ⟨ws, h3, h4⟩ := W.bs i a h h1 h2
    exact ⟨ws, k h3 (fun _ z => by cases z), h4.tx tx⟩
  · obtain ⟨h0, d, ws, h1, h3, h4⟩ := n3 x hx
    exact ⟨h0, d, ws, h1, k h3 (fun _ z => by cases z), h4.tx tx⟩
theorem DictAt.ext {P : Program} {w : World} {d : Addr} {ks : List Dt} (h : DictAt P w H d ks) : ∃ φ, H d = some (.ext φ) := by
  obtain ⟨xs, h1, _⟩ := h
  exact ⟨_, h1⟩
theorem DictAt.fr {P : Program} {w : World} {H' : Hp} {d : Addr} {ks : List Dt} (h : DictAt P w H d ks) (f : Fr H H') : DictAt P w H' d ks := h.move f.1 fun o ho => by
  obtain ⟨φ, e⟩ := h.ext
  rw [e] at ho
  cases ho
  exact f.2 _ _ e
end
theorem preOk_set {M : Mk} {k : Nat} {d : Hn} {h x : HS} {s : Sd} (P : PreOk M k d h s) : PreOk M k d h ⟨s.hs.set k x, s.bs, s.cl⟩ := by
  refine ⟨by show (s.hs.set k x).length = _; rw [List.length_set]; exact P.hl, P.bl, fun i d' h' ne a b => ?_, P.bok, P.cok, fun i h' ne a b => ?_, fun h' ne a b => ?_, P.hd, P.half, P.nl, P.nn, P.wo, P.me⟩
  · rcases set_get b with ⟨e, _, _⟩ | ⟨_, b⟩
    · exact absurd e ne
    · exact P.hok i d' h' ne a b
  · rcases set_get a with ⟨e, _, _⟩ | ⟨_, a⟩
    · exact absurd e ne
    · exact P.rok i h' ne a b
  · rcases set_get a with ⟨e, _, _⟩ | ⟨_, a⟩
    · exact absurd e ne
    · exact P.wok h' ne a b
end SB

set_option maxRecDepth 100000
set_option maxHeartbeats 8000000
/-! Work.go_on. -/
namespace SB
open PySem L2 PyProof.Rows
section
variable {P : Program} {w : World} {K : PySem.W.Frag} {mg : Str → Option Value} {base : Heap}
variable {C : Addr} {M : Mk} {H0 H : Hp} {A : WA} {s : Sd} {br : Dt} {n k : Nat} {d : Hn} {h : HS} {σ : L2.St} {ta tb tc td : TE} {E : XK} {Q : VK}
theorem eb_in3 {x a b c : Str} {te : TE} (h : Ed te σ H (.d (.text x))) (h1 : Ed ta σ H (.d (.text a))) (h2 : Ed tb σ H (.d (.text b))) (h3 : Ed tc σ H (.d (.text c))) : Ed (tOp (rIn K false) te (tTup (tCons ta (tCons tb (tCons tc tNil))))) σ H (.v (.bl (decide (x = a ∨ x = b ∨ x = c)))) := by
  have := eb_inT (K := K) h (ed_tup [.text a, .text b, .text c] (ea_cons h1 (ea_cons h2 (ea_cons h3 ea_nil))) (by simp)) rfl (by intro j hj; simp at hj; rcases hj with rfl | rfl | rfl <;> rfl)
  have e : decide (NestedKey.text x ∈ [NestedKey.text a, .text b, .text c]) = decide (x = a ∨ x = b ∨ x = c) := by
    apply decide_eq_decide.mpr
    simp
  rw [e] at this
  exact this
theorem lu_word (r : Row) : decide (r.word = "let" ∨ r.word = "jump" ∨ r.word = ("unless" : Str)) = r.lu := by
  cases r with
  | put _ _ => show decide (("put" : Str) = "let" ∨ ("put" : Str) = "jump" ∨ ("put" : Str) = "unless") = false; decide +kernel
  | get _ _ => show decide (("get" : Str) = "let" ∨ ("get" : Str) = "jump" ∨ ("get" : Str) = "unless") = false; decide +kernel
  | lt _ _ => show decide (("let" : Str) = "let" ∨ ("let" : Str) = "jump" ∨ ("let" : Str) = "unless") = true; decide +kernel
  | un _ _ => show decide (("unless" : Str) = "let" ∨ ("unless" : Str) = "jump" ∨ ("unless" : Str) = "unless") = true; decide +kernel
  | tell _ => show decide (("tell" : Str) = "let" ∨ ("tell" : Str) = "jump" ∨ ("tell" : Str) = "unless") = false; decide +kernel
theorem pg_word (r : Row) : decide (r.word = "put" ∨ r.word = ("get" : Str)) = r.pg := by
  cases r with
  | put _ _ => show decide (("put" : Str) = "put" ∨ ("put" : Str) = "get") = true; decide +kernel
  | get _ _ => show decide (("get" : Str) = "put" ∨ ("get" : Str) = "get") = true; decide +kernel
  | lt _ _ => show decide (("let" : Str) = "put" ∨ ("let" : Str) = "get") = false; decide +kernel
  | un _ _ => show decide (("unless" : Str) = "put" ∨ ("unless" : Str) = "get") = false; decide +kernel
  | tell _ => show decide (("tell" : Str) = "put" ∨ ("tell" : Str) = "get") = false; decide +kernel
/-- at < len(rows) -/
theorem eb_more {p : Nat} (ha : Ed ta σ H (.d (.num (p : Int)))) (hb : Ed tb σ H (.d (.tup (d.rows.map Row.dt)))) : Ed (tOp (rI0 fun i j => .bl (decide (i < j))) ta (tCB (rLen K) (tCons tb tNil))) σ H (.v (.bl (decide (p < d.rows.length)))) := by
  have := eb_lt ha (ed_len (K := K) hb)
  rw [List.length_map] at this
  rw [show decide ((p : Int) < (d.rows.length : Int)) = decide (p < d.rows.length) from decide_eq_decide.mpr (by omega)] at this
  exact this
theorem c_led {r : Row} {p : Nat} (W : WorkAt C M H0 H A s br n) (hM : MkOk M) (ha : Ed ta σ H (.v (.ref A.w))) (hb : Ed tb σ H (.d (.num (k : Int)))) (hc : Ed tc σ H (.d r.dt)) (hp : Ed td σ H (.d (.num (p : Int)))) (hd : M.hds[k]? = some d) (hh : s.hs[k]? = some h) (hl : h.ns.length = d.vars.length)
    (hr : d.rows[p]? = some r) (hlu : r.lu = true) (q : ∀ H', WorkAt C M H0 H' A ⟨s.hs.set k { h with ns := (ledD d h.wo p h.ns r).2 }, s.bs, s.cl⟩ br n → Fr H H' → Q (.int ((ledD d h.wo p h.ns r).1 : Int)) H') : tMeth C "led_on" (spLed C) [] E ta (tCons tb (tCons tc (tCons td tNil))) σ H Q :=
  c_m W (fun _ _ _ _ _ _ _ _ => rfl) ha (ea_cons hb (ea_cons hc (ea_cons hp ea_nil))) fun vs H2 e2 hv => by
    cases hv with
    | cons r1 t1 =>
      cases t1 with
      | cons r2 t2 =>
        cases t2 with
        | cons r3 t3 =>
          cases t3
          cases r1; cases r3
          exact ⟨M, H0, A, s, br, n, k, d, h, r, p, _, hM, rfl, W.up e2, hd, hh, hl, hr, hlu, r2, fun H3 W3 f3 => q H3 W3 ((fr_of e2).trans f3)⟩
theorem c_tell {z : Int} (W : WorkAt C M H0 H A s .none n) (hM : MkOk M) (hn : n ≤ 50) (hk : k ≠ 0) (ha : Ed ta σ H (.v (.ref A.w))) (hb : Ed tb σ H (.d (.num (k : Int)))) (hd : M.hds[k]? = some d) (hh : s.hs[k]? = some h) (hC : ClOk M s.cl) (hR : ReadIn s.cl (k - 1))
    (ht : ∀ H1, Same H H1 → ∀ Q : VK, (∀ H2, WorkAt C M H0 H2 A s .none n → Fr H1 H2 → Q (.int z) H2) → tc σ H1 Q)
    (q : ∀ v H' s' br' o, WorkAt C M H0 H' A s' br' (n + 1) → Fr H H' → TellR M k z h s o → Res s' br' o → Q v H') : tMeth C "tell" (spTell C) [] E ta (tCons tb (tCons tc tNil)) σ H Q :=
  ha H (.refl H) _ fun v H2 e2 h2 => by
    cases h2
    obtain ⟨dx, vm, vc, vb, o1, _⟩ := (W.up e2).ob
    refine ⟨A.w, dx, _, rfl, o1, rfl, hb H2 e2 _ fun v' H3 e3 h3' => ?_⟩
    cases h3'
    refine ht H3 (e2.trans e3) _ fun H5 W5 f5 => ?_
    exact ⟨M, H0, A, s, n, k, d, h, z, hM, hn, hk, rfl, W5, hd, hh, hC, hR, fun H6 s' br' o W6 f6 t6 r6 => q _ H6 s' br' o W6 (((fr_of (e2.trans e3)).trans f5).trans f6) t6 r6⟩
/-- self.claim = a claim of a kind -/
theorem s_claimE (T : Txt K mg) {Pc : Cl → Prop} {D : Ends} {te : TE} (W : WorkAt T.C_Work M H0 H A s br n) (ha : Ed ta σ H (.v (.ref A.w))) (he : Ev te σ H (fun k => ∃ c', Pc c' ∧ k = c'.dt)) (q : ∀ c' H', Pc c' → WorkAt T.C_Work M H0 H' A ⟨s.hs, s.bs, c'⟩ br n → Fr H H' → D.nx σ H') : sFld K ta te "claim" D σ H :=
  he H (.refl H) _ fun v H1 k e1 h1 hk => ha H1 e1 _ fun v2 H2 e2 h2 => by
    obtain ⟨c', hc', rfl⟩ := hk
    cases h2
    have e12 := e1.trans e2
    obtain ⟨dx, vm, vc, vb, o1, o2, o3, o4⟩ := (W.up e12).ob
    refine ⟨A.w, T.C_Work, dx, _, rfl, o1, T.cl_Work, T.n_Work_claim, (show (8 : Nat) < 1000 by decide), ?_⟩
    rw [wf_setClaim]
    exact q c' _ hc' ((W.up e12).setFld o1 o2 (Nd.up h1 e2) o4) ((fr_of e12).trans (Fr.ins o1))
theorem goR_end {k : Nat} {d : Hn} {h x : HS} {s : Sd} {p p' : Nat} {ns : List Int} {c' : Cl} (hg : ∀ o, GoR M k d h s p ns o → GoOn M k d h s p' o) (g : GoR M k d h s p ns (some ⟨s.hs.set k (idleH ns), s.bs, c'⟩)) : GoOn M k d h s p' (some ⟨(s.hs.set k x).set k (idleH ns), s.bs, c'⟩) := by
  rw [List.set_set]
  exact hg _ g
def spGo (C : Addr) : Sp := fun vs H Q _ => ∃ (M : Mk) (H0 : Hp) (A : WA) (s : Sd) (n k : Nat) (d : Hn) (h : HS) (p : Nat), MkOk M ∧ n ≤ 40 ∧ vs = [.ref A.w, .int (k : Int), .int (p : Int)] ∧ WorkAt C M H0 H A s .none n ∧ s.hs[k]? = some h ∧ PreOk M k d h s ∧ p ≤ d.rows.length ∧
  ∀ H' s' br' o, WorkAt C M H0 H' A s' br' (n + 1) → Fr H H' → GoOn M k d h s p o → Res s' br' o → Q .non H'
theorem Fr.dict {H H1 : Hp} {b : Addr} {o : HO} (f : Fr H H1) (h : H b = none) : Fr H (L2.upd H1 b o) := f.new h
theorem ok_Work_go_on (T : Txt K mg) : FnOk P w K mg base CX0 9 T.Work_go_on.a T.Work_go_on.d ["self", "k", "at"] (spGo T.C_Work) := by
  refine fun_okC T.Work_go_on.F sc_Work_go_on (fun vs H Q E h => ?_) (fun cdv A outer s H vs Q E hcd hr h => ?_)
  · obtain ⟨_, _, _, _, _, _, _, _, _, _, _, e, _⟩ := h
    rw [e]; rfl
  obtain ⟨M, H0, A', st, n, k, d, hh, p, hM, hn, rfl, W, hhk, Pre, hpl, q⟩ := h
  have hs : Slots H (L2.start ["self", "k", "at", "rows", "been"] [.ref A'.w, .int (k : Int), .int (p : Int)]) [.v (.ref A'.w), .d (.num (k : Int)), .d (.num (p : Int)), .u, .u] := slots_start ["self", "k", "at", "rows", "been"] (.cons (s := .v (.ref A'.w)) (show V.ref _ = V.ref _ from rfl) (.cons (s := .d (.num (k : Int))) (.int _) (.cons (s := .d (.num (p : Int))) (.int _) .nil)))
  have hd := Pre.hd
  have D := hM.hd k d hd
  have hnl := Pre.nl
  refine ⟨_, (pss_cons (ps_set (i := 3) sc_Work_go_on.nd rfl (Or.inl rfl) (pe_meth (pv 0) T.cl_Work T.Work_rows.m (ok_Work_rows T) (hr.mono (by decide)) T.Work_rows.b .nil pass0 (pa_cons (pv 1) pa_nil)))
      (pss_cons (ps_set (i := 4) sc_Work_go_on.nd rfl (Or.inl rfl) pe_dnewN)
      (pss_cons (ps_while PassesOwn.never (PW.pt (pw_and (pt_cmpR op_lt (pv 2) (pe_callB call_len (by rfl) T.b_len PySem.boot_len (pa_cons (pv 3) pa_nil)) (nomark _)) (pw_and1 (pt_cmpR op_in_seq (pe_ix ix_seq (pe_ix ix_seq (pv 3) (pv 2) (fun _ _ => rfl)) pe_int (fun _ _ => rfl)) (pe_tup (pa_cons pe_str (pa_cons pe_str (pa_cons pe_str pa_nil)))) (by rfl))))) (pss_cons (ps_if (pt_cmpR (op_inN hr.units) (pe_tup (pa_cons (pv 2) (pa_cons (pe_ix ix_seq (pe_ix ix_seq (pe_fld (pv 0) rfl) (pv 1) (fun _ _ => rfl)) pe_int (fun _ _ => rfl)) pa_nil))) (pv 4) (by rfl)) (pss_cons (ps_expr (pe_meth (pv 0) T.cl_Work T.Work_break_by.m (ok_Work_break_by T) (hr.mono (by decide)) T.Work_break_by.b .nil pass0 (pa_cons pe_str (pa_cons (pv 1) pa_nil))))
      (pss_one ps_retN)) pss_nil)
      (pss_cons (ps_asg pe_bl (pg_sub (pv 4) (pe_tup (pa_cons (pv 2) (pa_cons (pe_ix ix_seq (pe_ix ix_seq (pe_fld (pv 0) rfl) (pv 1) (fun _ _ => rfl)) pe_int (fun _ _ => rfl)) pa_nil))) (set_nd hr.units)))
      (pss_one (ps_set (i := 2) sc_Work_go_on.nd rfl (Or.inl rfl) (pe_meth (pv 0) T.cl_Work T.Work_led_on.m (ok_Work_led_on T) (hr.mono (by decide)) T.Work_led_on.b .nil pass0 (pa_cons (pv 1) (pa_cons (pe_ix ix_seq (pv 3) (pv 2) (fun _ _ => rfl)) (pa_cons (pv 2) pa_nil)))))))))
      (pss_one (ps_if (PW.pt (pw_and (pt_cmpR op_lt (pv 2) (pe_callB call_len (by rfl) T.b_len PySem.boot_len (pa_cons (pv 3) pa_nil)) (nomark _)) (pw_and1 (pt_cmpR op_in_seq (pe_ix ix_seq (pe_ix ix_seq (pv 3) (pv 2) (fun _ _ => rfl)) pe_int (fun _ _ => rfl)) (pe_tup (pa_cons pe_str (pa_cons pe_str pa_nil))) (by rfl))))) (pss_one (ps_asg (pv 2) (pg_sub (pe_ix ix_seq (pe_fld (pv 0) rfl) (pv 1) (fun _ _ => rfl)) pe_int set_list))) (pss_one (ps_if (pt_cmpR (op_eqX hr.units) (pv 1) pe_int (nomark _)) (pss_cons (ps_fld (pv 0) (pe_call (ok_claim_written T) (hr.mono (by decide)) (by rfl) T.claim_written.m T.claim_written.F.kp T.claim_written.b .nil pass0 (pa_cons (pe_fld (pv 0) rfl) (pa_cons (pe_fld (pv 0) rfl) pa_nil))) rfl)
      (pss_one (ps_expr (pe_meth (pv 0) T.cl_Work T.Work_end.m (ok_Work_end T) (hr.mono (by decide)) T.Work_end.b .nil pass0 (pa_cons (pv 1) (pa_cons (pe_tup (pa_cons pe_str (pa_cons (pe_ix ix_seq (pe_ix ix_seq (pe_ix ix_seq (pe_fld (pv 0) rfl) pe_int (fun _ _ => rfl)) (pv 1) (fun _ _ => rfl)) pe_int (fun _ _ => rfl)) pa_nil))) pa_nil)))))) (pss_one (ps_if (pt_cmpR (op_eqX hr.units) (pv 2) (pe_callB call_len (by rfl) T.b_len PySem.boot_len (pa_cons (pv 3) pa_nil)) (nomark _)) (pss_one (ps_expr (pe_meth (pv 0) T.cl_Work T.Work_break_by.m (ok_Work_break_by T) (hr.mono (by decide)) T.Work_break_by.b .nil pass0 (pa_cons pe_str (pa_cons (pv 1) pa_nil))))) (pss_one (ps_expr (pe_meth (pv 0) T.cl_Work T.Work_tell.m (ok_Work_tell T) (hr.mono (by decide)) T.Work_tell.b .nil pass0 (pa_cons (pv 1) (pa_cons (pe_meth (pv 0) T.cl_Work T.Work_number.m (ok_Work_number T) (hr.mono (by decide)) T.Work_number.b .nil pass0 (pa_cons (pv 1) (pa_cons (pe_ix ix_seq (pe_ix ix_seq (pv 3) (pv 2) (fun _ _ => rfl)) pe_int (fun _ _ => rfl)) pa_nil))) pa_nil)))))))))))))), ?_⟩
  refine s_setD hs (s := .d (.tup (d.rows.map Row.dt))) (ed_rows W (ev_var hs) (ed_var hs) hd) fun σ1 H1 e1 hs1 => ?_
  -- been = {}
  refine nx_of (X := tSeq _ _ _) ?_
  refine sq_asg ?_
  intro bd hbd
  refine gn_of ?_
  have s2 : Same H1 (upd H1 bd (NDict P w bd [])) := same_new hbd
  have hb0 : H bd = none := same_back e1 hbd
  have hb00 : H0 bd = none := same_back W.same hb0
  have hs2 : Slots (upd H1 bd (NDict P w bd [])) (σ1.set 4 (some (.ref bd))) [.v (.ref A'.w), .d (.num (k : Int)), .d (.num (p : Int)), .d (.tup (d.rows.map Row.dt)), .v (.ref bd)] := (hs1.up s2).set (s := .v (.ref bd)) (show V.ref bd = V.ref bd from rfl) 4
  have W2 := W.up (e1.trans s2)
  have D2 : DictAt P w (upd H1 bd (NDict P w bd [])) bd [] := dictAt_new
  have f2 : Fr H (upd H1 bd (NDict P w bd [])) := fr_of (e1.trans s2)
  show tSeq (tWhile _ _) _ _ _ (upd H1 bd (NDict P w bd []))
  generalize upd H1 bd (NDict P w bd []) = H2 at *
  -- the while
  refine s_seqJ (fun σ' H' => ∃ (p' : Nat) (ns' : List Int), d.run hh.wo d.rows.length p hh.ns = (p', ns') ∧ p' ≤ d.rows.length ∧ ns'.length = d.vars.length ∧ (∀ r, d.rows[p']? = some r → r.lu = false) ∧ WorkAt T.C_Work M H0 H' A' ⟨st.hs.set k { hh with ns := ns' }, st.bs, st.cl⟩ .none n ∧ Fr H H' ∧
    Slots H' σ' [.v (.ref A'.w), .d (.num (k : Int)), .d (.num (p' : Int)), .d (.tup (d.rows.map Row.dt)), .v (.ref bd)]) (fun N hN => ?_) fun σ3 H3 ⟨p', ns', hrun, hp', hns', hend, W3, f3, hs3⟩ => ?_
  · refine s_while (m := d.rows.length - p) (fun m σ' H' => ∃ (p' : Nat) (ns' : List Int) (keys : List (Nat × List Int)), m = d.rows.length - p' ∧ d.run hh.wo d.rows.length p hh.ns = d.run hh.wo d.rows.length p' ns' ∧ p' ≤ d.rows.length ∧ ns'.length = d.vars.length ∧ (∀ y ∈ keys, y.1 < p') ∧ keys.length ≤ p' ∧
      WorkAt T.C_Work M H0 H' A' ⟨st.hs.set k { hh with ns := ns' }, st.bs, st.cl⟩ .none n ∧ Fr H H' ∧ DictAt P w H' bd (keys.map keyD) ∧ Slots H' σ' [.v (.ref A'.w), .d (.num (k : Int)), .d (.num (p' : Int)), .d (.tup (d.rows.map Row.dt)), .v (.ref bd)]) ⟨p, hh.ns, [], rfl, rfl, hpl, hnl, (by intro y hy; cases hy), Nat.zero_le _, ?_, f2, D2, hs2⟩ ?_
    · rw [show (⟨st.hs.set k { hh with ns := hh.ns }, st.bs, st.cl⟩ : Sd) = st by rw [show ({ hh with ns := hh.ns } : HS) = hh from rfl, set_self hhk]]
      exact W2
    rintro m σ' H' ⟨p', ns', keys, rfl, hrun, hp', hns', hky, hkl, W', f', D', hs'⟩
    by_cases hlt : p' < d.rows.length
    · obtain ⟨r, hrow⟩ : ∃ r, d.rows[p']? = some r := ⟨_, List.getElem?_eq_getElem hlt⟩
      have hrw : ∀ {σ'' : L2.St} {H'' : Hp}, Slots H'' σ'' [.v (.ref A'.w), .d (.num (k : Int)), .d (.num (p' : Int)), .d (.tup (d.rows.map Row.dt)), .v (.ref bd)] → Ed (tOp (rIx K) (tVar 3) (tVar 2)) σ'' H'' (.d r.dt) := fun hs'' => ed_rowAt (d := d) (i := (p' : Int)) (ed_var hs'') (ed_var hs'') (by omega) (by rw [Int.toNat_natCast]; exact hrow)
      refine ⟨decide (p' < d.rows.length) && decide (r.word = "let" ∨ r.word = "jump" ∨ r.word = ("unless" : Str)), et_and (et_test (eb_more (ed_var hs') (ed_var hs'))) (fun _ => et_test (eb_in3 (ed_row (hrw hs')) ed_str ed_str ed_str)), fun c H4 e4 => ?_, fun c H4 e4 => ?_⟩
      · rw [Bool.and_eq_true, lu_word] at c
        have hlu := c.2
        have hs4 := hs'.up e4
        have W4 := W'.up e4
        have D4 := D'.up e4
        have f4 : Fr H H4 := f'.trans (fr_of e4)
        have hhk' : (st.hs.set k { hh with ns := ns' })[k]? = some { hh with ns := ns' } := set_at hhk
        obtain ⟨a, xs, ha, hx, hxn⟩ := W4.hAt hhk'
        have hkey : ∀ {σ'' : L2.St} {H'' : Hp}, Slots H'' σ'' [.v (.ref A'.w), .d (.num (k : Int)), .d (.num (p' : Int)), .d (.tup (d.rows.map Row.dt)), .v (.ref bd)] → WorkAt T.C_Work M H0 H'' A' ⟨st.hs.set k { hh with ns := ns' }, st.bs, st.cl⟩ .none n →
            Ed (tTup (tCons (tVar 2) (tCons (tOp (rIx K) (tOp (rIx K) (tFld K (tVar 0) "hands") (tVar 1)) (tC (.int 4))) tNil))) σ'' H'' (.d (.tup [.num (p' : Int), .tup (nums ns')])) := fun hs'' W'' => by
          obtain ⟨a, xs, ha, hx, hxn⟩ := W''.hAt hhk'
          exact ed_tup [.num (p' : Int), .tup (nums ns')] (ea_cons (ed_var hs'') (ea_cons (ed_item (ed_handL T W'' (ev_var hs'') (ed_var hs'') ha) ed_int hx hxn rfl) ea_nil)) (by simp)
        have hnk : keyD (p', ns') ∉ keys.map keyD := key_ne (x := (p', ns')) hky
        show tSeq _ _ _ _ _
        refine s_if (et_test (eb_inN (hkey hs4 W4) (ev_var hs4) D4 (key_depth (p', ns')))) (fun c5 H5 e5 => absurd (of_decide_eq_true c5) hnk) (fun _ H5 e5 => ?_)
        have hs5 := hs4.up e5
        refine nx_of (X := tSeq _ _ _) ?_
        have hkl9 : (keys.map keyD).length < 100000 := by rw [List.length_map]; have := D.rl; omega
        refine s_putN (ev_var hs5) (hkey hs5 (W4.up e5)) (D4.up e5) (key_depth (p', ns')) hnk hkl9 fun ob H6 e6 D6 tx6 => ?_
        obtain ⟨φ, hφ⟩ := ((D4.up e5).up e6).ext
        have W6 := ((W4.up e5).up e6).other (o := ob) hφ hb00
        have f6 : Fr H (upd H6 bd ob) := (f4.trans (fr_of (e5.trans e6))).new hb0
        have hs6 := (hs5.up e6).tx tx6
        generalize upd H6 bd ob = H7 at *
        refine nx_of (X := tAsg _ _ _) ?_
        refine c_led (p := p') (h := { hh with ns := ns' }) W6 hM (ev_var hs6) (ed_var hs6) (hrw hs6) (ed_var hs6) hd hhk' hns' hrow hlu fun H8 W8 f8 => ?_
        refine gn_of ?_
        obtain ⟨g1, g2⟩ := led_fwd D (wo := hh.wo) (ns := ns') hrow hlu
        have hs8 : Slots H8 (σ'.set 2 (some (.int ((ledD d hh.wo p' ns' r).1 : Int)))) [.v (.ref A'.w), .d (.num (k : Int)), .d (.num ((ledD d hh.wo p' ns' r).1 : Int)), .d (.tup (d.rows.map Row.dt)), .v (.ref bd)] := (hs6.tx f8.1).set (s := .d (.num ((ledD d hh.wo p' ns' r).1 : Int))) (.int _) 2
        have W9 : WorkAt T.C_Work M H0 H8 A' ⟨st.hs.set k { hh with ns := (ledD d hh.wo p' ns' r).2 }, st.bs, st.cl⟩ .none n := by
          have := W8
          rw [List.set_set] at this
          exact this
        refine ⟨d.rows.length - (ledD d hh.wo p' ns' r).1, by omega, (ledD d hh.wo p' ns' r).1, (ledD d hh.wo p' ns' r).2, keys ++ [(p', ns')], rfl, ?_, g2, led_ok D Pre.wo hrow hns', fun y hy => ?_, ?_, W9, f6.trans f8, ?_, hs8⟩
        · rw [hrun]
          have h1 : d.run hh.wo d.rows.length p' ns' = d.run hh.wo (d.rows.length + 1) p' ns' := run_fuel D _ _ _ _ (by omega) (by omega)
          rw [h1, run_step hrow hlu]
        · rcases List.mem_append.mp hy with z | z
          · have := hky y z; omega
          · rw [List.mem_singleton.mp z]; exact g1
        · rw [List.length_append]; simp only [List.length_cons, List.length_nil]; omega
        · rw [List.map_append]
          exact D6.fr f8
      · have hnl : r.lu = false := by
          rw [lu_word, decide_eq_true hlt, Bool.true_and] at c
          exact c
        refine hN _ _ ⟨p', ns', ?_, hp', hns', fun r' hr' => by rw [hrow] at hr'; cases hr'; exact hnl, W'.up e4, f'.trans (fr_of e4), hs'.up e4⟩
        rw [hrun]
        exact run_none (fun r' hr' => by rw [hrow] at hr'; cases hr'; exact hnl) _
    · refine ⟨decide (p' < d.rows.length) && true, et_and (et_test (eb_more (ed_var hs') (ed_var hs'))) (fun c => absurd (of_decide_eq_true c) hlt), fun c H4 e4 => ?_, fun c H4 e4 => ?_⟩
      · rw [decide_eq_false hlt] at c
        cases c
      · have hno : ∀ r, d.rows[p']? = some r → r.lu = false := fun r hr' => absurd (List.getElem?_eq_some_iff.mp hr').1 hlt
        exact hN _ _ ⟨p', ns', by rw [hrun]; exact run_none hno _, hp', hns', hno, W'.up e4, f'.trans (fr_of e4), hs'.up e4⟩
  have hgo : ∀ o, GoR M k d hh st p' ns' o → GoOn M k d hh st p o := fun o g => by unfold GoOn; rw [hrun]; exact g
  have hhk3 : (st.hs.set k { hh with ns := ns' })[k]? = some { hh with ns := ns' } := set_at hhk
  have Pre3 : PreOk M k d hh ⟨st.hs.set k { hh with ns := ns' }, st.bs, st.cl⟩ := preOk_set Pre
  have hrw : ∀ {r : Row} {σ'' : L2.St} {H'' : Hp}, d.rows[p']? = some r → Slots H'' σ'' [.v (.ref A'.w), .d (.num (k : Int)), .d (.num (p' : Int)), .d (.tup (d.rows.map Row.dt)), .v (.ref bd)] → Ed (tOp (rIx K) (tVar 3) (tVar 2)) σ'' H'' (.d r.dt) := fun hrow hs'' => ed_rowAt (d := d) (i := (p' : Int)) (ed_var hs'') (ed_var hs'') (by omega) (by rw [Int.toNat_natCast]; exact hrow)
  have htest : ∃ b : Bool, (b = true → ∃ r, d.rows[p']? = some r ∧ r.pg = true) ∧ (b = false → ∀ r, d.rows[p']? = some r → r.pg = false) ∧ Eb (tAnd (tTest (tOp (rI0 fun i j => .bl (decide (i < j))) (tVar 2) (tCB (rLen K) (tCons (tVar 3) tNil)))) (tTest (tOp (rIn K false) (tOp (rIx K) (tOp (rIx K) (tVar 3) (tVar 2)) (tC (.int 0))) (tTup (tCons (tC (.str "put")) (tCons (tC (.str "get")) tNil)))))) σ3 H3 b := by
    by_cases hlt : p' < d.rows.length
    · obtain ⟨r, hrow⟩ : ∃ r, d.rows[p']? = some r := ⟨_, List.getElem?_eq_getElem hlt⟩
      refine ⟨_, fun c => ?_, fun c => ?_, et_and (et_test (eb_more (ed_var hs3) (ed_var hs3))) (fun _ => et_test (eb_in2 (ed_row (hrw hrow hs3)) ed_str ed_str))⟩
      · rw [Bool.and_eq_true, pg_word] at c
        exact ⟨r, hrow, c.2⟩
      · rw [pg_word, decide_eq_true hlt, Bool.true_and] at c
        intro r' hr'
        rw [hrow] at hr'; cases hr'
        exact c
    · refine ⟨decide (p' < d.rows.length) && true, fun c => ?_, fun c r hr => absurd (List.getElem?_eq_some_iff.mp hr).1 hlt, et_and (et_test (eb_more (ed_var hs3) (ed_var hs3))) (fun c => absurd (of_decide_eq_true c) hlt)⟩
      rw [decide_eq_false hlt] at c
      cases c
  obtain ⟨bt, ht1, ht2, ht⟩ := htest
  refine s_if ht (fun c H4 e4 => ?_) (fun c H4 e4 => ?_)
  · -- waits at a put or get
    obtain ⟨r, hrow, hpg⟩ := ht1 c
    have hs4 := hs3.up e4
    have W4 := W3.up e4
    obtain ⟨a, xs4, ha, hx4, hn4⟩ := W4.hAt hhk3
    refine (ed_var hs4 : Ed (tVar 2) _ _ (.d (.num (p' : Int)))) H4 (.refl _) _ fun v5 H5 e5 hv5 => ?_
    cases hv5
    refine (ed_handL T (W4.up e5) (ev_var (hs4.up e5)) (ed_var (hs4.up e5)) ha) H5 (.refl _) _ fun v6 H6 e6 hv6 => ?_
    cases hv6
    have e46 := e5.trans e6
    have hx6 := e46 _ _ hx4
    have l5 := (nd5 hn4).1
    refine ⟨a, xs4, 0, 0, rfl, rfl, hx6, by rw [l5]; rfl, ?_⟩
    have hn6 : NdAll H6 (xs4.set 0 (.int (p' : Int))) ({ hh with pc := (p' : Int), ns := ns' } : HS).dts := (hn4.up e46).set (.int (p' : Int)) 0
    have W6 := (W4.up e46).setHand ha hhk3 hn6
    rw [List.set_set] at W6
    exact q _ _ _ _ (W6.le (Nat.le_succ _)) ((f3.trans (fr_of (e4.trans e46))).trans (Fr.lst hx6)) (hgo _ (.wait hrow hpg)) (.inr ⟨rfl, rfl⟩)
  have hnpg := ht2 c
  have hs4 := hs3.up e4
  have W4 := W3.up e4
  have f4 := f3.trans (fr_of e4)
  refine s_if (et_test (eb_eq (ed_var hs4) ed_int)) (fun c5 H5 e5 => ?_) (fun c5 H5 e5 => ?_)
  · -- the writer's deed ends
    have k0 : k = 0 := by have := of_decide_eq_true c5; injection this with this; omega
    subst k0
    have hs5 := hs4.up e5
    have W5 := W4.up e5
    obtain ⟨dx, vm, vc, vb, o1, o2, o3, o4⟩ := W5.ob
    have hme := Pre.me
    rw [if_pos rfl] at hme
    show tSeq _ _ _ _ _
    refine s_claimE T (Pc := ClWritten M st.cl) W5 (ev_var hs5) (ev_call (ea_cons ((ed_fld (ev_var hs5) o1 T.cl_Work T.n_Work_making wf_making).vd o2) (ea_cons ((ed_fld (ev_var hs5) o1 T.cl_Work T.n_Work_claim wf_claim).vd o3) ea_nil)) ⟨M, st.cl, hM, Pre.cok, rfl, rfl⟩) fun c' H6 hc' W6 f6 => ?_
    have hs6 := hs5.tx f6.1
    obtain ⟨dx, vm, vc, vb, o1, o2, o3, o4⟩ := W6.ob
    refine nx_of (X := tDrop _ _) ?_
    show tMeth _ _ _ _ _ _ _ _ _ _
    refine c_end W6 (by omega) (ev_var hs6) (ed_var hs6) (ed_tup [.text "end", .text d.nm] (ea_cons ed_str (ea_cons (ed_ix (ed_hn ((ed_fld (ev_var hs6) o1 T.cl_Work T.n_Work_making wf_making).vd o2) (ed_var hs6) hd) ed_int rfl) ea_nil)) (by simp)) hhk3 fun v H7 W7 f7 => ?_
    exact q _ _ _ _ W7 (((f4.trans (fr_of e5)).trans f6).trans f7) (goR_end hgo (.wrote rfl hnpg hc')) (.inr ⟨rfl, rfl⟩)
  have k0 : k ≠ 0 := fun z => of_decide_eq_false c5 (by rw [z]; rfl)
  have hs5 := hs4.up e5
  have W5 := W4.up e5
  have f5 := f4.trans (fr_of e5)
  refine s_if (et_test (eb_eq (ed_var hs5) (ed_len (K := K) (ed_var hs5)))) (fun c6 H6 e6 => ?_) (fun c6 H6 e6 => ?_)
  · have hp'' : p' = d.rows.length := by
      have := of_decide_eq_true c6
      injection this with this
      rw [List.length_map] at this
      omega
    have hs6 := hs5.up e6
    show tMeth _ _ _ _ _ _ _ _ _ _
    refine c_break (W5.up e6) (ev_var hs6) ed_str (ed_var hs6) hd fun v H7 W7 f7 => ?_
    exact q _ _ _ none (W7.le (Nat.le_succ _)) ((f5.trans (fr_of e6)).trans f7) (hgo _ (.silent k0 (by rw [hp'']; exact List.getElem?_eq_none (Nat.le_refl _)))) (.inl ⟨rfl, fun e => by cases e⟩)
  · have hlt : p' < d.rows.length := by
      have h1 := of_decide_eq_false c6
      rw [List.length_map] at h1
      have : p' ≠ d.rows.length := fun z => h1 (by rw [z])
      omega
    obtain ⟨r, hrow⟩ : ∃ r, d.rows[p']? = some r := ⟨_, List.getElem?_eq_getElem hlt⟩
    obtain ⟨e, rfl⟩ : ∃ e, r = .tell e := by
      have h1 := hnpg r hrow
      have h2 := hend r hrow
      cases r with
      | tell e => exact ⟨e, rfl⟩
      | put _ _ => cases h1
      | get _ _ => cases h1
      | lt _ _ => cases h2
      | un _ _ => cases h2
    have hs6 := hs5.up e6
    have W6 := W5.up e6
    have hme := Pre.me
    rw [if_neg k0] at hme
    show tMeth _ _ _ _ _ _ _ _ _ _
    refine c_tell (z := e.val (d.env hh.wo ns')) W6 hM (by omega) k0 (ev_var hs6) (ed_var hs6) hd hhk3 Pre.cok hme (fun H7 e7 Q' q' => c_number (h := { hh with ns := ns' }) (W6.up e7) hM (ev_var (hs6.up e7)) (ed_var (hs6.up e7)) (ed_ix (hrw hrow (hs6.up e7)) ed_int rfl) hd hhk3 hns' ((D.row _ _ hrow).ex e rfl).2 (row_vars D hrow rfl) q') fun v H7 s' br' o W7 f7 t7 r7 => ?_
    refine q _ _ _ _ W7 ((f5.trans (fr_of e6)).trans f7) (hgo _ (goR_set (x := { hh with ns := ns' }) ?_)) r7
    cases t7 with
    | great hz => exact .great k0 hrow hz
    | lie hz hc => exact .lie k0 hrow hz hc
    | told hz hc => exact .told k0 hrow hz hc
end
end SB

set_option maxRecDepth 100000
set_option maxHeartbeats 8000000
/-! Work.begin. -/
namespace SB
open PySem L2 PyProof.Rows
section
variable {P : Program} {w : World} {K : PySem.W.Frag} {mg : Str → Option Value} {base : Heap}
variable {C : Addr} {M : Mk} {H0 H : Hp} {A : WA} {s : Sd} {br : Dt} {n k : Nat} {d : Hn} {h : HS} {σ : L2.St} {ta tb tc td : TE} {E : XK} {Q : VK}
/-- one event more -/
theorem s_event (T : Txt K mg) {D : Ends} {te : TE} {l : List Dt} (W : WorkAt T.C_Work M H0 H A s br n) (hn : n ≤ 100) (hh : s.hs[k]? = some h) (ha : Ed ta σ H (.v (.ref A.w))) (he : Ed te σ H (.d (.tup l))) (q : ∀ H', WorkAt T.C_Work M H0 H' A s br (n + 1) → Fr H H' → D.nx σ H') :
    tDrop (tBM K "list" rAppend (tFld K ta "events") (tCons te tNil)) D σ H := by
  obtain ⟨dx, vm, vc, vb, o1, o2, o3, o4⟩ := W.ob
  obtain ⟨xs, evs, v1, v2, v3, v4⟩ := W.ev
  have hne : A.hA ≠ [] := fun z => by
    have h1 := W.hn
    have h2 := (List.getElem?_eq_some_iff.mp hh).1
    rw [z] at h1
    simp at h1
    omega
  refine s_app (T := "") v1 v2 (ed_fld ha o1 T.cl_Work T.n_Work_events wf_events) (Ed.ev he) (by omega) fun v' k' H1 hk' e1 h1 h2 => ?_
  subst hk'
  exact q _ ((W.up e1).addEv hne (e1 _ _ v1) (v2.up e1) v3 v4 h1) ((fr_of e1).trans (Fr.lst (e1 _ _ v1)))
/-- the hand k: one of its five things is set -/
theorem s_hset {D : Ends} {te : TE} {x : Dt} {i : Nat} {h' : HS} {a : Addr} (W : WorkAt C M H0 H A s br n) (hh : s.hs[k]? = some h) (ha : A.hA[k]? = some a) (he : Ed te σ H (.d x)) (ho : Ed ta σ H (.v (.ref a))) (hi : Ed tb σ H (.d (.num (i : Int)))) (h5 : i < 5) (hx : h.dts.set i x = h'.dts)
    (q : ∀ H', WorkAt C M H0 H' A ⟨s.hs.set k h', s.bs, s.cl⟩ br n → Fr H H' → D.nx σ H') : tAsg te (gSub ta tb rSetL) D σ H :=
  he H (.refl H) _ fun v H1 e1 h1 => ho H1 e1 _ fun v2 H2 e2 h2 => by
    cases h2
    refine hi H2 (e1.trans e2) _ fun v3 H3 e3 h3 => ?_
    cases h3
    have e13 := (e1.trans e2).trans e3
    have W3 := W.up e13
    obtain ⟨a', xs, ha', hx3, hn3⟩ := W3.hAt hh
    rw [ha] at ha'; cases ha'
    have l5 := (nd5 hn3).1
    refine ⟨a, xs, _, i, rfl, rfl, hx3, ixN_nat (by omega), ?_⟩
    have hn : NdAll H3 (xs.set i v) h'.dts := by
      rw [← hx]
      exact hn3.set (Nd.up h1 (e2.trans e3)) i
    exact q _ (W3.setHand ha hh hn) ((fr_of e13).trans (Fr.lst hx3))
theorem c_go {p : Nat} (W : WorkAt C M H0 H A s .none n) (hM : MkOk M) (hn : n ≤ 40) (ha : Ed ta σ H (.v (.ref A.w))) (hb : Ed tb σ H (.d (.num (k : Int)))) (hc : Ed tc σ H (.d (.num (p : Int)))) (hh : s.hs[k]? = some h) (hP : PreOk M k d h s) (hp : p ≤ d.rows.length)
    (q : ∀ v H' s' br' o, WorkAt C M H0 H' A s' br' (n + 1) → Fr H H' → GoOn M k d h s p o → Res s' br' o → Q v H') : tMeth C "go_on" (spGo C) [] E ta (tCons tb (tCons tc tNil)) σ H Q :=
  c_m W (fun _ _ _ _ _ _ _ _ => rfl) ha (ea_cons hb (ea_cons hc ea_nil)) fun vs H2 e2 hv => by
    cases hv with
    | cons r1 t1 =>
      cases t1 with
      | cons r2 t2 =>
        cases t2
        cases r1; cases r2
        exact ⟨M, H0, A, s, n, k, d, h, p, hM, hn, rfl, W.up e2, hh, hP, hp, fun H3 s' br' o W3 f3 g3 r3 => q _ H3 s' br' o W3 ((fr_of e2).trans f3) g3 r3⟩
theorem goOn_set {x : HS} {p : Nat} {o : Option Sd} (g : GoOn M k d h ⟨s.hs.set k x, s.bs, s.cl⟩ p o) : GoOn M k d h s p o := by
  unfold GoOn at g ⊢
  exact goR_set (x := x) g
def spBegin (C : Addr) : Sp := fun vs H Q _ => ∃ (M : Mk) (H0 : Hp) (A : WA) (s : Sd) (n k : Nat) (d : Hn) (h : HS) (pick : Int), MkOk M ∧ n ≤ 20 ∧ vs = [.ref A.w, .int (k : Int), .int pick] ∧ WorkAt C M H0 H A s .none n ∧ SdOk M s ∧ M.hds[k]? = some d ∧ s.hs[k]? = some h ∧ h.pc = -1 ∧ MayStep M s k pick ∧
  ∀ H' s' br' o, WorkAt C M H0 H' A s' br' (n + 2) → Fr H H' → StepR M s k pick o → Res s' br' o → Q .non H'
theorem ok_Work_begin (T : Txt K mg) : FnOk P w K mg base CX0 10 T.Work_begin.a T.Work_begin.d ["self", "k", "pick"] (spBegin T.C_Work) := by
  refine fun_okC T.Work_begin.F sc_Work_begin (fun vs H Q E h => ?_) (fun cdv A outer s H vs Q E hcd hr h => ?_)
  · obtain ⟨_, _, _, _, _, _, _, _, _, _, _, e, _⟩ := h
    rw [e]; rfl
  obtain ⟨M, H0, A', st, n, k, d, hh, pick, hM, hn, rfl, W, hS, hd, hhk, hpc, hmay, q⟩ := h
  have hs : Slots H (L2.start ["self", "k", "pick", "name"] [.ref A'.w, .int (k : Int), .int pick]) [.v (.ref A'.w), .d (.num (k : Int)), .d (.num pick), .u] := slots_start ["self", "k", "pick", "name"] (.cons (s := .v (.ref A'.w)) (show V.ref _ = V.ref _ from rfl) (.cons (s := .d (.num (k : Int))) (.int _) (.cons (s := .d (.num pick)) (.int _) .nil)))
  have D := hM.hd k d hd
  have hmk : ∀ {H'' : Hp} {σ'' : L2.St} {ss : List SV} {st' : Sd} {br' : Dt} {n' : Nat}, WorkAt T.C_Work M H0 H'' A' st' br' n' → Slots H'' σ'' (.v (.ref A'.w) :: ss) → Ed (tFld K (tVar 0) "making") σ'' H'' (.d M.dt) := fun W'' hs'' => by
    obtain ⟨dx, vm, vc, vb, o1, o2, o3, o4⟩ := W''.ob
    exact (ed_fld (ev_var hs'') o1 T.cl_Work T.n_Work_making wf_making).vd o2
  have hcl : ∀ {H'' : Hp} {σ'' : L2.St} {ss : List SV} {st' : Sd} {br' : Dt} {n' : Nat}, WorkAt T.C_Work M H0 H'' A' st' br' n' → Slots H'' σ'' (.v (.ref A'.w) :: ss) → Ed (tFld K (tVar 0) "claim") σ'' H'' (.d st'.cl.dt) := fun W'' hs'' => by
    obtain ⟨dx, vm, vc, vb, o1, o2, o3, o4⟩ := W''.ob
    exact (ed_fld (ev_var hs'') o1 T.cl_Work T.n_Work_claim wf_claim).vd o3
  refine ⟨_, (pss_cons (ps_set (i := 3) sc_Work_begin.nd rfl (Or.inl rfl) (pe_ix ix_seq (pe_ix ix_seq (pe_ix ix_seq (pe_fld (pv 0) rfl) pe_int (fun _ _ => rfl)) (pv 1) (fun _ _ => rfl)) pe_int (fun _ _ => rfl)))
      (pss_cons (ps_if (pt_cmpR (op_eqX hr.units) (pv 1) pe_int (nomark _)) (pss_cons (ps_asg (pv 2) (pg_sub (pe_ix ix_seq (pe_fld (pv 0) rfl) (pv 1) (fun _ _ => rfl)) pe_int set_list))
      (pss_cons (ps_fld (pv 0) (pe_call (ok_claim_writes T) (hr.mono (by decide)) (by rfl) T.claim_writes.m T.claim_writes.F.kp T.claim_writes.b .nil pass0 (pa_cons (pe_fld (pv 0) rfl) (pa_cons (pe_fld (pv 0) rfl) (pa_cons (pv 2) pa_nil)))) rfl)
      (pss_one (ps_expr (pe_bm PySem.F.plainAttrs_list PySem.F.slot_list_append PySem.F.type_list_append mt_append (pe_fld (pv 0) rfl) (pa_cons (pe_tup (pa_cons pe_str (pa_cons (pv 3) (pa_cons (pv 2) pa_nil)))) pa_nil)))))) (pss_cons (ps_fld (pv 0) (pe_call (ok_claim_reads T) (hr.mono (by decide)) (by rfl) T.claim_reads.m T.claim_reads.F.kp T.claim_reads.b .nil pass0 (pa_cons (pe_fld (pv 0) rfl) (pa_cons (pe_fld (pv 0) rfl) (pa_cons (pe_op op_sub (pv 1) pe_int) pa_nil)))) rfl)
      (pss_one (ps_expr (pe_bm PySem.F.plainAttrs_list PySem.F.slot_list_append PySem.F.type_list_append mt_append (pe_fld (pv 0) rfl) (pa_cons (pe_tup (pa_cons pe_str (pa_cons (pv 3) pa_nil))) pa_nil))))))
      (pss_one (ps_expr (pe_meth (pv 0) T.cl_Work T.Work_go_on.m (ok_Work_go_on T) (hr.mono (by decide)) T.Work_go_on.b .nil pass0 (pa_cons (pv 1) (pa_cons pe_int pa_nil))))))), ?_⟩
  refine s_setD hs (s := .d (.text d.nm)) (ed_ix (ed_hn (hmk W hs) (ed_var hs) hd) ed_int rfl) fun σ1 H1 e1 hs1 => ?_
  have W1 := W.up e1
  refine nx_of (X := tSeq _ _ _) ?_
  by_cases k0 : k = 0
  · subst k0
    obtain ⟨h0, h1⟩ := pick_w (may_pick hmay hd hhk) hpc
    refine s_seqJ (fun σ' H' => ∃ c', ClWrites M pick st.cl c' ∧ WorkAt T.C_Work M H0 H' A' ⟨st.hs.set 0 { hh with wo := pick }, st.bs, c'⟩ .none (n + 1) ∧ Fr H H' ∧ Slots H' σ' [.v (.ref A'.w), .d (.num (0 : Int)), .d (.num pick), .d (.text d.nm)]) (fun N hN => ?_) fun σ2 H2 ⟨c', hc', W2, f2, hs2⟩ => ?_
    · refine s_if (et_test (eb_eq (ed_var hs1) ed_int)) (fun c H2 e2 => ?_) (fun c H2 e2 => absurd rfl (of_decide_eq_false c))
      have hs2 := hs1.up e2
      have W2 := W1.up e2
      obtain ⟨a, xs, ha, _, _⟩ := W2.hAt hhk
      refine s_hset (h' := { hh with wo := pick }) (i := 2) W2 hhk ha (ed_var hs2) (ed_handL T W2 (ev_var hs2) (ed_var hs2) ha) ed_int (by decide) rfl fun H3 W3 f3 => ?_
      have hs3 := hs2.tx f3.1
      refine nx_of (X := tSeq _ _ _) ?_
      refine s_claimE T (Pc := ClWrites M pick st.cl) W3 (ev_var hs3) (ev_call (ea_cons (hmk W3 hs3) (ea_cons (hcl W3 hs3) (ea_cons (ed_var hs3) ea_nil))) ⟨M, st.cl, pick, hM, hS.cok, ⟨h0, h1⟩, rfl, rfl⟩) fun c' H4 hc' W4 f4 => ?_
      have hs4 := hs3.tx f4.1
      refine nx_of (X := tDrop _ _) ?_
      refine s_event T W4 (by omega) (set_at hhk) (ev_var hs4) (ed_tup [.text "begin", .text d.nm, .num pick] (ea_cons ed_str (ea_cons (ed_var hs4) (ea_cons (ed_var hs4) ea_nil))) (by simp)) fun H5 W5 f5 => ?_
      exact hN _ _ ⟨c', hc', W5, ((((fr_of e1).trans (fr_of e2)).trans f3).trans f4).trans f5, hs4.tx f5.1⟩
    · show tMeth _ _ _ _ _ _ _ _ _ _
      have P2 := pre_beginW hM hS hd hhk hpc hc' h0 h1
      refine c_go (p := 0) W2 hM (by omega) (ev_var hs2) (ed_var hs2) ed_int (set_at hhk) (preOk_set P2) (Nat.zero_le _) fun v H3 s' br' o W3 f3 g3 r3 => ?_
      exact q H3 s' br' o W3 (f2.trans f3) (.beginW rfl hd hhk hpc hc' (goOn_set (s := ⟨st.hs, st.bs, c'⟩) g3)) r3
  · refine s_seqJ (fun σ' H' => ∃ c', ClReads M (k - 1) st.cl c' ∧ WorkAt T.C_Work M H0 H' A' ⟨st.hs, st.bs, c'⟩ .none (n + 1) ∧ Fr H H' ∧ Slots H' σ' [.v (.ref A'.w), .d (.num (k : Int)), .d (.num pick), .d (.text d.nm)]) (fun N hN => ?_) fun σ2 H2 ⟨c', hc', W2, f2, hs2⟩ => ?_
    · refine s_if (et_test (eb_eq (ed_var hs1) ed_int)) (fun c H2 e2 => absurd (of_decide_eq_true c) (fun z => by injection z with z; omega)) (fun c H2 e2 => ?_)
      have hs2 := hs1.up e2
      have W2 := W1.up e2
      show tSeq _ _ _ _ _
      refine s_claimE T (Pc := ClReads M (k - 1) st.cl) W2 (ev_var hs2) (ev_call (ea_cons (hmk W2 hs2) (ea_cons (hcl W2 hs2) (ea_cons (Ed.is (k' := .num ((k - 1 : Nat) : Int)) (ed_sub (ed_var hs2) ed_int) (by congr 1; omega)) ea_nil))) ⟨M, st.cl, k - 1, hM, hS.cok, rd_lt hd k0, rfl, rfl⟩) fun c' H4 hc' W4 f4 => ?_
      have hs4 := hs2.tx f4.1
      refine nx_of (X := tDrop _ _) ?_
      refine s_event T W4 (by omega) hhk (ev_var hs4) (ed_tup [.text "begin", .text d.nm] (ea_cons ed_str (ea_cons (ed_var hs4) ea_nil)) (by simp)) fun H5 W5 f5 => ?_
      exact hN _ _ ⟨c', hc', W5, ((fr_of (e1.trans e2)).trans f4).trans f5, hs4.tx f5.1⟩
    · show tMeth _ _ _ _ _ _ _ _ _ _
      have P2 := pre_beginR hM hS k0 hd hhk hpc hc'
      refine c_go (p := 0) W2 hM (by omega) (ev_var hs2) (ed_var hs2) ed_int hhk P2 (Nat.zero_le _) fun v H3 s' br' o W3 f3 g3 r3 => ?_
      exact q H3 s' br' o W3 (f2.trans f3) (.beginR k0 hd hhk hpc hc' g3) r3
end
end SB

set_option maxRecDepth 100000
set_option maxHeartbeats 8000000
/-! Work.beside. -/
namespace SB
open PySem L2 PyProof.Rows
theorem put_get : ¬ (("put" : Str) = "get") := by decide +kernel
theorem four_three {l : List Int} (h : ∀ z ∈ l, 0 ≤ z ∧ z < 3) : (four (memS l)).length ≤ 3 := by
  have h3 : memS l 3 = false := decide_eq_false fun z => by have := (h _ z).2; omega
  rw [four_eq, h3]
  cases memS l 0 <;> cases memS l 1 <;> cases memS l 2 <;> decide
theorem memS_app (l : List Int) (k : Nat) : memS (l ++ [(k : Int)]) = fun j => memS l j || j == k := by
  funext j
  unfold memS
  by_cases h : (j : Int) ∈ l
  · rw [decide_eq_true (List.mem_append_left _ h), decide_eq_true h]; rfl
  · rw [decide_eq_false h, Bool.false_or]
    by_cases e : j = k
    · subst e; simp
    · have : ¬ ((j : Int) = (k : Int)) := fun z => e (by omega)
      simp [h, e, this]
theorem memS_two (k m : Nat) : memS [(k : Int), (m : Int)] = fun j => j == k || j == m := by
  funext j
  unfold memS
  by_cases e : j = k
  · subst e; simp
  · by_cases e2 : j = m
    · subst e2; simp
    · have h1 : ¬ ((j : Int) = (k : Int)) := fun z => e (by omega)
      have h2 : ¬ ((j : Int) = (m : Int)) := fun z => e2 (by omega)
      simp [e, e2, h1, h2]
section
variable {P : Program} {w : World} {K : PySem.W.Frag} {mg : Str → Option Value} {base : Heap}
variable {C : Addr} {M : Mk} {H0 H : Hp} {A : WA} {s : Sd} {br : Dt} {n k : Nat} {d : Hn} {h : HS} {σ : L2.St} {ta tb tc td : TE} {E : XK} {Q : VK}
/-- tuple(sorted(set(ints) | {n})) -/
theorem ed_riseOr {l : List Int} {z : Int} (hsm : ∀ y ∈ l, 0 ≤ y ∧ y < 3) (hz : 0 ≤ z ∧ z < 4) (h : Ed ta σ H (.d (.tup (nums l)))) (hn : Ed tb σ H (.d (.num z))) :
    Ed (tCB (rTupOf K) (tCons (tCB (rSortedX P w) (tCons (tOp (rOrC w) (tCB (rSetX K w) (tCons ta tNil)) (tSetD1 w tb)) tNil)) tNil)) σ H (.d (.tup (nums (fourI (memS (l ++ [z])))))) := fun H1 e Q q =>
  h H1 e _ fun v H2 e2 h2 => by
    obtain ⟨b, ys, rfl, hb, hys⟩ := Nd.tup_inv h2
    have ex := NdAll.ints l ys hys
    subst ex
    obtain ⟨kz, rfl⟩ := Int.eq_ofNat_of_zero_le hz.1
    refine .inl ⟨b, l, rfl, .inr (SqT.of hb), fun y hy => by have := hsm y hy; omega, fun a ha => ?_⟩
    intro c hc
    have eac : a ≠ c := fun e => by rw [e, upd_same] at hc; cases hc
    refine hn _ (((e.trans e2).trans (same_new ha)).trans (same_new hc)) _ fun v3 H3 e3 h3 => ?_
    cases h3
    have hc3 := e3 _ _ (upd_same : (upd (upd H2 a (SetCO w a (memS l))) c (SetCO w c fun _ => false)) c = _)
    have ha3 : H3 a = some (SetCO w a (memS l)) := e3 _ _ (by rw [upd_ne eac]; exact upd_same)
    refine ⟨kz, by omega, rfl, hc3, ?_⟩
    refine ⟨a, c, memS l, kz, rfl, rfl, eac, by omega, four_three hsm, by rw [upd_ne eac]; exact ha3, upd_same, fun r hr => ?_⟩
    rw [← memS_app]
    refine .inl (.inl ⟨r, memS (l ++ [(kz : Int)]), rfl, upd_same, fun b' hb' => ?_⟩)
    refine ⟨b', _, rfl, .inl ⟨SqL.of upd_same, fun c' hc' => ?_⟩⟩
    have s1 : Same (upd H2 a (SetCO w a (memS l))) (upd H3 c (SetCO w c fun j => j == kz)) := same_mut ((same_new hc).trans e3) hc
    exact q _ _ (((((e2.trans (same_new ha)).trans s1).trans (same_new hr)).trans (same_new hb')).trans (same_new hc')) (.tup upd_same (nd_ints _))
/-- tuple(sorted({m, n})) -/
theorem ed_rise2 {y z : Int} (hy : 0 ≤ y ∧ y < 4) (hz : 0 ≤ z ∧ z < 4) (h : Ed ta σ H (.d (.num y))) (hn : Ed tb σ H (.d (.num z))) :
    Ed (tCB (rTupOf K) (tCons (tCB (rSortedX P w) (tCons (tSetD2 w ta tb) tNil)) tNil)) σ H (.d (.tup (nums (fourI (memS [y, z]))))) := fun H1 e Q q => by
  obtain ⟨ky, rfl⟩ := Int.eq_ofNat_of_zero_le hy.1
  obtain ⟨kz, rfl⟩ := Int.eq_ofNat_of_zero_le hz.1
  intro c hc
  refine h _ (e.trans (same_new hc)) _ fun v2 H2 e2 h2 => hn H2 ((e.trans (same_new hc)).trans e2) _ fun v3 H3 e3 h3 => ?_
  cases h2
  cases h3
  have hc3 := (e2.trans e3) _ _ (upd_same : (upd H1 c (SetCO w c fun _ => false)) c = _)
  refine ⟨ky, kz, by omega, by omega, rfl, rfl, hc3, ?_⟩
  rw [← memS_two]
  refine .inl (.inl ⟨c, memS [(ky : Int), (kz : Int)], rfl, upd_same, fun b' hb' => ?_⟩)
  refine ⟨b', _, rfl, .inl ⟨SqL.of upd_same, fun c' hc' => ?_⟩⟩
  have s1 : Same H1 (upd H3 c (SetCO w c (memS [(ky : Int), (kz : Int)]))) := same_mut ((same_new hc).trans (e2.trans e3)) hc
  exact q _ _ ((s1.trans (same_new hb')).trans (same_new hc')) (.tup upd_same (nd_ints _))
theorem ed_bx {b : Bx} {j : Nat} (ha : Ed ta σ H (.d M.dt)) (hb : Ed tb σ H (.d (.num (j : Int)))) (hd : M.bxs[j]? = some b) : Ed (tOp (rIx K) (tOp (rIx K) ta (tC (.int 3))) tb) σ H (.d b.dt) :=
  ed_ix (ed_ix (k := .tup (M.bxs.map Bx.dt)) ha ed_int rfl) hb (atI_nat (by rw [List.getElem?_map, hd]; rfl))
theorem ed_mk (T : Txt K mg) (W : WorkAt T.C_Work M H0 H A s br n) (ha : Ed ta σ H (.v (.ref A.w))) : Ed (tFld K ta "making") σ H (.d M.dt) := by
  obtain ⟨dx, vm, vc, vb, o1, o2, o3, o4⟩ := W.ob
  exact (ed_fld ha o1 T.cl_Work T.n_Work_making wf_making).vd o2
theorem ed_handsF (T : Txt K mg) (W : WorkAt T.C_Work M H0 H A s br n) (ha : Ed ta σ H (.v (.ref A.w))) : Ed (tFld K ta "hands") σ H (.v (.ref A.hl)) := by
  obtain ⟨dx, vm, vc, vb, o1, o2, o3, o4⟩ := W.ob
  exact ed_fld ha o1 T.cl_Work T.n_Work_hands wf_hands
def spBeside (C : Addr) : Sp := fun vs H Q _ => ∃ (M : Mk) (H0 : Hp) (A : WA) (s : Sd) (br : Dt) (n j : Nat) (b : Bx) (z : Int), MkOk M ∧ vs = [.ref A.w, .int (j : Int), .int z] ∧ WorkAt C M H0 H A s br n ∧ s.hs.length = M.hds.length ∧ M.bxs[j]? = some b ∧ (0 ≤ z ∧ z < b.sz) ∧
  (∀ (i : Nat) (d : Hn) (h : HS) (l : List Int), M.hds[i]? = some d → s.hs[i]? = some h → h.half = some l → 0 ≤ h.pc ∧ ∃ r, d.rows[h.pc.toNat]? = some r ∧ r.pg = true ∧ ∀ x, r = .get x b.nm → ∀ y ∈ l, 0 ≤ y ∧ y < b.sz) ∧
  ∀ H', WorkAt C M H0 H' A ⟨besideS b z M.hds s.hs, s.bs, s.cl⟩ br n → Fr H H' → Q .non H'
theorem ok_Work_beside (T : Txt K mg) : FnOk P w K mg base CX0 2 T.Work_beside.a T.Work_beside.d ["self", "place", "number"] (spBeside T.C_Work) := by
  refine fun_okC T.Work_beside.F sc_Work_beside (fun vs H Q E h => ?_) (fun cdv A outer s H vs Q E hcd hr h => ?_)
  · obtain ⟨_, _, _, _, _, _, _, _, _, _, e, _⟩ := h
    rw [e]; rfl
  obtain ⟨M, H0, A', st, br, n, j, b, z, hM, rfl, W, hlen, hb, hz, hhalf, q⟩ := h
  have hs : Slots H (L2.start ["self", "place", "number", "name", "kind", "size", "k", "hand"] [.ref A'.w, .int (j : Int), .int z]) [.v (.ref A'.w), .d (.num (j : Int)), .d (.num z), .u, .u, .u, .u, .u] := slots_start ["self", "place", "number", "name", "kind", "size", "k", "hand"] (.cons (s := .v (.ref A'.w)) (show V.ref _ = V.ref _ from rfl) (.cons (s := .d (.num (j : Int))) (.int _) (.cons (s := .d (.num z)) (.int _) .nil)))
  have hsz := (hM.bx b (List.mem_of_getElem? hb)).sz
  refine ⟨_, (pss_cons (ps_asg (pe_slice sl_X (pe_ix ix_seq (pe_ix ix_seq (pe_fld (pv 0) rfl) pe_int (fun _ _ => rfl)) (pv 1) (fun _ _ => rfl)) po_none (po_some pe_int)) (pg_tup rfl (pgs_cons (pg_name (i := 3) sc_Work_beside.nd rfl (Or.inl rfl)) (pgs_cons (pg_name (i := 4) sc_Work_beside.nd rfl (Or.inl rfl)) (pgs_cons (pg_name (i := 5) sc_Work_beside.nd rfl (Or.inl rfl)) pgs_nil)))))
      (pss_one (ps_for PassesOwn.never rfl (pi_enumX (by rfl) T.b_enumerate (pa_cons (pe_fld (pv 0) rfl) pa_nil)) (pg_tup rfl (pgs_cons (pg_name (i := 6) sc_Work_beside.nd rfl (Or.inl rfl)) (pgs_cons (pg_name (i := 7) sc_Work_beside.nd rfl (Or.inl rfl)) pgs_nil))) (pss_one (ps_if (PW.pt (pw_and (pt_cmp (pc_notN (pe_ix ix_seq (pv 7) pe_int (fun _ _ => rfl)))) (pw_and (pt_cmpR (op_eqX hr.units) (pe_ix ix_seq (pe_ix ix_seq (pe_meth (pv 0) T.cl_Work T.Work_rows.m (ok_Work_rows T) (hr.mono (by decide)) T.Work_rows.b .nil pass0 (pa_cons (pv 6) pa_nil)) (pe_ix ix_seq (pv 7) pe_int (fun _ _ => rfl)) (fun _ _ => rfl)) pe_int (fun _ _ => rfl)) pe_str (nomark _)) (pw_and1 (pt_cmpR (op_eqX hr.units) (pe_ix ix_seq (pe_ix ix_seq (pe_meth (pv 0) T.cl_Work T.Work_rows.m (ok_Work_rows T) (hr.mono (by decide)) T.Work_rows.b .nil pass0 (pa_cons (pv 6) pa_nil)) (pe_ix ix_seq (pv 7) pe_int (fun _ _ => rfl)) (fun _ _ => rfl)) pe_int (fun _ _ => rfl)) (pv 3) (nomark _)))))) (pss_one (ps_if (pt_cmpR (op_eqX hr.units) (pv 4) pe_str (nomark _)) (pss_one (ps_asg (pe_tupRg rfl (by rfl) T.b_tuple (prg_1 (by rfl) T.b_range (pv 5))) (pg_sub (pv 7) pe_int set_list))) (pss_one (ps_asg (pe_callTy call_tuple_of (by rfl) T.b_tuple (by decide +kernel) (pa_cons (pe_callB (cr_sortedX rfl hr) (by rfl) T.b_sorted (by decide +kernel) (pa_cons (pe_op op_orX (pe_callTy (cr_setX rfl) (by rfl) T.b_set (by decide +kernel) (pa_cons (pe_ix ix_seq (pv 7) pe_int (fun _ _ => rfl)) pa_nil)) (pe_setD1 (pv 2) hcd rfl)) pa_nil)) pa_nil)) (pg_sub (pv 7) pe_int set_list))))) pss_nil))))), ?_⟩
  refine s_unp3 hs (k1 := .text b.nm) (k2 := .text (kdT b.kd)) (k3 := .num b.sz) (ed_sl (ed_bx (ed_mk T W (ev_var hs)) (ed_var hs) hb) eo_none (eo_some ed_int)) fun σ1 H1 e1 hs1 => ?_
  have W1 := W.up e1
  have eb0 : ∀ i, (besideS b z M.hds st.hs)[i]? = match M.hds[i]?, st.hs[i]? with | some d, some h => some (besideR b z d h) | _, _ => none := fun i => by
    unfold besideS
    rw [List.getElem?_zipWith]
    cases M.hds[i]? <;> cases st.hs[i]? <;> rfl
  have hAl : A'.hA.length = st.hs.length := W.hn
  refine nx_of (X := tFor _ _ _ _) ?_
  refine s_forEL (ed_handsF T W1 (ev_var hs1)) W1.hl fun H2 e2 => ?_
  have W2 := W1.up e2
  have f02 := fr_of (e1.trans e2)
  refine ⟨fun i σ' H' => ∃ hsi : List HS, hsi.length = st.hs.length ∧ (∀ m, hsi[m]? = if m < i then (besideS b z M.hds st.hs)[m]? else st.hs[m]?) ∧ WorkAt T.C_Work M H0 H' A' ⟨hsi, st.bs, st.cl⟩ br n ∧ Fr H H' ∧ Slots H' σ' [.v (.ref A'.w), .d (.num (j : Int)), .d (.num z), .d (.text b.nm), .d (.text (kdT b.kd)), .d (.num b.sz), .u, .u],
    ⟨st.hs, rfl, fun m => by rw [if_neg (Nat.not_lt_zero m)], W2, f02, hs1.up e2⟩, fun i σ' H' ⟨_, _, _, W', _, _⟩ => W'.hl, fun i x Tp σ' H' H'' hx ⟨hsi, hl, hg, W', f', hs'⟩ e'' hT => ?_, fun σ' H' ⟨hsi, hl, hg, W', f', hs'⟩ => ?_⟩
  rotate_left
  · have : hsi = besideS b z M.hds st.hs := by
      apply List.ext_getElem?
      intro m
      rw [hg m]
      by_cases c : m < (A'.hA.map V.ref).length
      · rw [if_pos c]
      · rw [if_neg c]
        rw [List.length_map, hAl] at c
        rw [eb0 m]
        rw [List.getElem?_eq_none (by omega)]
        cases M.hds[m]? <;> rfl
    rw [this] at W'
    exact q H' W' f'
  rw [List.getElem?_map] at hx
  obtain ⟨a, ha, rfl⟩ : ∃ a, A'.hA[i]? = some a ∧ x = .ref a := by
    cases ha : A'.hA[i]? with
    | none => rw [ha] at hx; cases hx
    | some a => rw [ha] at hx; exact ⟨a, rfl, (Option.some.inj hx).symm⟩
  have hi : i < st.hs.length := by rw [← hAl]; exact (List.getElem?_eq_some_iff.mp ha).1
  obtain ⟨h, hh⟩ : ∃ h, st.hs[i]? = some h := ⟨_, List.getElem?_eq_getElem hi⟩
  obtain ⟨d, hd⟩ : ∃ d, M.hds[i]? = some d := ⟨_, List.getElem?_eq_getElem (by omega)⟩
  have hhi : hsi[i]? = some h := by rw [hg i, if_neg (Nat.lt_irrefl i)]; exact hh
  refine tg_pair hT ?_
  have W3 := W'.up e''
  have hs3 : Slots H'' ((σ'.set 6 (some (.int (i : Int)))).set 7 (some (.ref a))) [.v (.ref A'.w), .d (.num (j : Int)), .d (.num z), .d (.text b.nm), .d (.text (kdT b.kd)), .d (.num b.sz), .d (.num (i : Int)), .v (.ref a)] := ((hs'.up e'').set (s := .d (.num (i : Int))) (.int _) 6).set (s := .v (.ref a)) (show V.ref a = V.ref a from rfl) 7
  have f3 := f'.trans (fr_of e'')
  generalize ((σ'.set 6 (some (.int (i : Int)))).set 7 (some (.ref a))) = σ3 at *
  obtain ⟨a', xs3, ha', hx3, hn3⟩ := W3.hAt hhi
  rw [ha] at ha'; cases ha'
  have hdone : ∀ σ4 H4, WorkAt T.C_Work M H0 H4 A' ⟨hsi.set i (besideR b z d h), st.bs, st.cl⟩ br n → Fr H'' H4 → Slots H4 σ4 [.v (.ref A'.w), .d (.num (j : Int)), .d (.num z), .d (.text b.nm), .d (.text (kdT b.kd)), .d (.num b.sz), .d (.num (i : Int)), .v (.ref a)] →
      ∃ hsi : List HS, hsi.length = st.hs.length ∧ (∀ m, hsi[m]? = if m < i + 1 then (besideS b z M.hds st.hs)[m]? else st.hs[m]?) ∧ WorkAt T.C_Work M H0 H4 A' ⟨hsi, st.bs, st.cl⟩ br n ∧ Fr H H4 ∧ Slots H4 σ4 [.v (.ref A'.w), .d (.num (j : Int)), .d (.num z), .d (.text b.nm), .d (.text (kdT b.kd)), .d (.num b.sz), .u, .u] := fun σ4 H4 W4 f4 hs4 => by
    refine ⟨hsi.set i (besideR b z d h), by rw [List.length_set]; exact hl, fun m => ?_, W4, f3.trans f4, (hs4.forget 6).forget 7⟩
    rw [List.getElem?_set]
    by_cases c : i = m
    · subst c
      rw [if_pos rfl, if_pos (by omega), if_pos (by omega), eb0 i, hd, hh]
    · rw [if_neg c, hg m]
      by_cases c2 : m < i
      · rw [if_pos c2, if_pos (by omega)]
      · rw [if_neg c2, if_neg (by omega)]
  have hsame : besideR b z d h = h → hsi.set i (besideR b z d h) = hsi := fun e => by rw [e]; exact set_self hhi
  have hhf : ∀ {σ4 : L2.St} {H4 : Hp}, Same H'' H4 → Slots H4 σ4 [.v (.ref A'.w), .d (.num (j : Int)), .d (.num z), .d (.text b.nm), .d (.text (kdT b.kd)), .d (.num b.sz), .d (.num (i : Int)), .v (.ref a)] → Ed (tOp (rIx K) (tVar 7) (tC (.int 1))) σ4 H4 (.d (tellD h.half)) := fun e4 hs4 => ed_item (ev_var hs4) ed_int (e4 _ _ hx3) (hn3.up e4) rfl
  cases hf : h.half with
  | none =>
    have hR : besideR b z d h = h := by unfold besideR; rw [hf]
    refine s_if (b := (!decide (tellD h.half = .none)) && true) (et_and (et_test (eb_notN (hhf (.refl _) hs3))) (fun c => by rw [hf] at c; cases c)) (fun c H4 e4 => by rw [hf] at c; cases c) (fun c H4 e4 => ?_)
    exact hdone _ _ (by rw [hsame hR]; exact W3.up e4) (fr_of e4) (hs3.up e4)
  | some l =>
    obtain ⟨hp0, r, hrow, hpg, hget⟩ := hhalf i d h l hd hh hf
    have hrw : Ed (tOp (rIx K) (tMeth T.C_Work "rows" (spRows T.C_Work) [] E0 (tVar 0) (tCons (tVar 6) tNil)) (tOp (rIx K) (tVar 7) (tC (.int 0)))) σ3 H'' (.d r.dt) := ed_rowAt (d := d) (i := h.pc) (ed_rows W3 (ev_var hs3) (ed_var hs3) hd) (ed_item (ev_var hs3) ed_int hx3 hn3 rfl) hp0 hrow
    cases r with
    | lt _ _ => cases hpg
    | un _ _ => cases hpg
    | tell _ => cases hpg
    | put y e =>
      have hR : besideR b z d h = h := by unfold besideR; rw [hf]; simp only [hrow]
      refine s_if (et_and (et_test (eb_notN (hhf (.refl _) hs3))) (fun c => et_and (b := true) (et_test (eb_eq (ed_row hrw) ed_str)) (fun c => absurd (txt_eq.mp (of_decide_eq_true c)) put_get))) (fun c H4 e4 => ?_) (fun c H4 e4 => ?_)
      · rw [Bool.and_eq_true, Bool.and_eq_true] at c
        exact absurd (txt_eq.mp (of_decide_eq_true c.2.1)) put_get
      · exact hdone _ _ (by rw [hsame hR]; exact W3.up e4) (fr_of e4) (hs3.up e4)
    | get x y =>
      refine s_if (et_and (et_test (eb_notN (hhf (.refl _) hs3))) (fun c => et_and (et_test (eb_eq (ed_row hrw) ed_str)) (fun c => et_test (eb_eq (ed_ix (k := .text y) hrw ed_int rfl) (ed_var hs3))))) (fun c H4 e4 => ?_) (fun c H4 e4 => ?_)
      · rw [Bool.and_eq_true, Bool.and_eq_true] at c
        have ey : y = b.nm := txt_eq.mp (of_decide_eq_true c.2.2)
        subst ey
        have hR : besideR b z d h = { h with half := some (besideH b z l) } := besideR_hit hf hrow
        have hin := hget x rfl
        have hs4 := hs3.up e4
        have W4 := W3.up e4
        refine s_if (et_test (eb_eq (ed_var hs4) ed_str)) (fun c5 H5 e5 => ?_) (fun c5 H5 e5 => ?_)
        · have k0 : b.kd = 0 := kd_safe.mp (txt_eq.mp (of_decide_eq_true c5))
          have hs5 := hs4.up e5
          refine s_hset (h' := besideR b z d h) (i := 1) (W4.up e5) hhi ha (ed_tupRg (ed_var hs5) (by omega) (by omega)) (ev_var hs5) ed_int (by decide) (by rw [hR]; unfold besideH; rw [if_pos k0]; rfl) fun H6 W6 f6 => ?_
          exact hdone _ _ W6 ((fr_of (e4.trans e5)).trans f6) (hs5.tx f6.1)
        · have k0 : ¬ b.kd = 0 := fun z => of_decide_eq_false c5 (by rw [kd_safe.mpr z])
          have hs5 := hs4.up e5
          have e45 := e4.trans e5
          refine s_hset (h' := besideR b z d h) (i := 1) (W4.up e5) hhi ha (ed_riseOr (l := l) (z := z) (fun y hy => by have := hin y hy; omega) (by omega) (by have := hhf e45 hs5; rw [hf] at this; exact this) (ed_var hs5)) (ev_var hs5) ed_int (by decide) (by rw [hR]; unfold besideH; rw [if_neg k0]; rfl) fun H6 W6 f6 => ?_
          exact hdone _ _ W6 ((fr_of e45).trans f6) (hs5.tx f6.1)
      · have hR : besideR b z d h = h := by
          unfold besideR
          rw [hf]
          simp only [hrow]
          rw [if_neg]
          intro ey
          subst ey
          revert c
          rw [hf, show (!decide (tellD (some l) = NestedKey.none)) = true from rfl, show decide (NestedKey.text (Row.get x b.nm).word = NestedKey.text "get") = true from decide_eq_true rfl, decide_eq_true rfl]
          intro c
          cases c
        exact hdone _ _ (by rw [hsame hR]; exact W3.up e4) (fr_of e4) (hs3.up e4)
end
end SB

set_option maxRecDepth 100000
set_option maxHeartbeats 8000000
/-! Work.put_step. -/
namespace SB
open PySem L2 PyProof.Rows
section
variable {P : Program} {w : World} {K : PySem.W.Frag} {mg : Str → Option Value} {base : Heap}
variable {C : Addr} {M : Mk} {H0 H : Hp} {A : WA} {s : Sd} {br : Dt} {n k : Nat} {d : Hn} {h : HS} {σ : L2.St} {ta tb tc td : TE} {E : XK} {Q : VK}
/-- the box j: one of its two things is set -/
theorem s_bset {D : Ends} {te : TE} {x : Dt} {i j : Nat} {b b' : BS} {a : Addr} (W : WorkAt C M H0 H A s br n) (hh : s.bs[j]? = some b) (ha : A.bA[j]? = some a) (he : Ed te σ H (.d x)) (ho : Ed ta σ H (.v (.ref a))) (hi : Ed tb σ H (.d (.num (i : Int)))) (h5 : i < 2) (hx : b.dts.set i x = b'.dts)
    (q : ∀ H', WorkAt C M H0 H' A ⟨s.hs, s.bs.set j b', s.cl⟩ br n → Fr H H' → D.nx σ H') : tAsg te (gSub ta tb rSetL) D σ H :=
  he H (.refl H) _ fun v H1 e1 h1 => ho H1 e1 _ fun v2 H2 e2 h2 => by
    cases h2
    refine hi H2 (e1.trans e2) _ fun v3 H3 e3 h3 => ?_
    cases h3
    have e13 := (e1.trans e2).trans e3
    have W3 := W.up e13
    obtain ⟨a', xs, ha', hx3, hn3⟩ := W3.bAt hh
    rw [ha] at ha'; cases ha'
    have l5 := (nd2 hn3).1
    refine ⟨a, xs, _, i, rfl, rfl, hx3, ixN_nat (by omega), ?_⟩
    have hn : NdAll H3 (xs.set i v) b'.dts := by
      rw [← hx]
      exact hn3.set (Nd.up h1 (e2.trans e3)) i
    exact q _ (W3.setBox ha hh hn) ((fr_of e13).trans (Fr.lst hx3))
theorem ed_boxL (T : Txt K mg) {j : Nat} {a : Addr} (W : WorkAt T.C_Work M H0 H A s br n) (ha : Ed ta σ H (.v (.ref A.w))) (hb : Ed tb σ H (.d (.num (j : Int)))) (hk : A.bA[j]? = some a) : Ed (tOp (rIx K) (tFld K ta "boxes") tb) σ H (.v (.ref a)) := by
  obtain ⟨dx, vm, vc, vb, o1, o2, o3, o4⟩ := W.ob
  exact ed_ixL (ed_fld ha o1 T.cl_Work T.n_Work_boxes wf_boxes) hb W.bl (atI_refs hk)
theorem kdB_whole {b : Bx} (O : BxOk b) : (kdT b.kd = ("whole" : Str)) ↔ b.kd = 2 := by
  have := O.kd
  rw [kd_ne]
  omega
theorem c_beside {j : Nat} {b : Bx} {z : Int} (W : WorkAt C M H0 H A s br n) (hM : MkOk M) (ha : Ed ta σ H (.v (.ref A.w))) (hb : Ed tb σ H (.d (.num (j : Int)))) (hc : Ed tc σ H (.d (.num z))) (hl : s.hs.length = M.hds.length) (hx : M.bxs[j]? = some b) (hz : 0 ≤ z ∧ z < b.sz)
    (hh : ∀ (i : Nat) (d : Hn) (h : HS) (l : List Int), M.hds[i]? = some d → s.hs[i]? = some h → h.half = some l → 0 ≤ h.pc ∧ ∃ r, d.rows[h.pc.toNat]? = some r ∧ r.pg = true ∧ ∀ x, r = .get x b.nm → ∀ y ∈ l, 0 ≤ y ∧ y < b.sz)
    (q : ∀ v H', WorkAt C M H0 H' A ⟨besideS b z M.hds s.hs, s.bs, s.cl⟩ br n → Fr H H' → Q v H') : tMeth C "beside" (spBeside C) [] E ta (tCons tb (tCons tc tNil)) σ H Q :=
  c_m W (fun _ _ _ _ _ _ _ _ => rfl) ha (ea_cons hb (ea_cons hc ea_nil)) fun vs H2 e2 hv => by
    cases hv with
    | cons r1 t1 =>
      cases t1 with
      | cons r2 t2 =>
        cases t2
        cases r1; cases r2
        exact ⟨M, H0, A, s, br, n, j, b, z, hM, rfl, W.up e2, hl, hx, hz, hh, fun H3 W3 f3 => q _ H3 W3 ((fr_of e2).trans f3)⟩
def spPut (C : Addr) : Sp := fun vs H Q _ => ∃ (M : Mk) (H0 : Hp) (A : WA) (s : Sd) (n k j : Nat) (d : Hn) (h : HS) (x : Str) (e : Ex) (b : Bx) (v : V) (pick : Int), MkOk M ∧ n ≤ 20 ∧ vs = [.ref A.w, .int (k : Int), v, .int (j : Int)] ∧ WorkAt C M H0 H A ⟨s.hs.set k { h with ct := h.ct + 1 }, s.bs, s.cl⟩ .none n ∧ SdOk M s ∧ M.hds[k]? = some d ∧ s.hs[k]? = some h ∧ h.pc ≠ -1 ∧ h.ct < d.wi ∧
  d.rows[h.pc.toNat]? = some (.put x e) ∧ M.bxs[j]? = some b ∧ b.nm = x ∧ Nd H v (Row.put x e).dt ∧
  ∀ H' s' br' o, WorkAt C M H0 H' A s' br' (n + 1) → Fr H H' → StepR M s k pick o → Res s' br' o → Q .non H'
theorem ok_Work_put_step (T : Txt K mg) : FnOk P w K mg base CX0 10 T.Work_put_step.a T.Work_put_step.d ["self", "k", "row", "place"] (spPut T.C_Work) := by
  refine fun_okC T.Work_put_step.F sc_Work_put_step (fun vs H Q E h => ?_) (fun cdv A outer s H vs Q E hcd hr h => ?_)
  · obtain ⟨_, _, _, _, _, _, _, _, _, _, _, _, _, _, _, _, e, _⟩ := h
    rw [e]; rfl
  obtain ⟨M, H0, A', st, n, k, j, d, hh, x, ex, b, v, pick, hM, hn, rfl, W, hS, hd, hhk, hpc, hct, hrow, hb, hnm, hv, q⟩ := h
  have hs : Slots H (L2.start ["self", "k", "row", "place", "hand", "box", "number"] [.ref A'.w, .int (k : Int), v, .int (j : Int)]) [.v (.ref A'.w), .d (.num (k : Int)), .d (Row.put x ex).dt, .d (.num (j : Int)), .u, .u, .u] := slots_start ["self", "k", "row", "place", "hand", "box", "number"] (.cons (s := .v (.ref A'.w)) (show V.ref _ = V.ref _ from rfl) (.cons (s := .d (.num (k : Int))) (.int _) (.cons (s := .d (Row.put x ex).dt) hv (.cons (s := .d (.num (j : Int))) (.int _) .nil))))
  have D := hM.hd k d hd
  have O := hM.bx b (List.mem_of_getElem? hb)
  obtain ⟨bs, hbs⟩ := hS.box hb
  have q0 := hS.hk hd hhk
  have hpc0 : 0 ≤ hh.pc := by rcases q0.pc with e | e; exact absurd e hpc; exact e.1
  have hpl : hh.pc.toNat + 1 ≤ d.rows.length := (List.getElem?_eq_some_iff.mp hrow).1
  have hhk1 : (st.hs.set k { hh with ct := hh.ct + 1 })[k]? = some { hh with ct := hh.ct + 1 } := set_at hhk
  obtain ⟨a, xs, ha, hx, hxn⟩ := W.hAt hhk1
  obtain ⟨ab, xb, hab, hxb, hxbn⟩ := W.bAt hbs
  refine ⟨_, (pss_cons (ps_set (i := 4) sc_Work_put_step.nd rfl (Or.inl rfl) (pe_ix ix_seq (pe_fld (pv 0) rfl) (pv 1) (fun _ _ => rfl)))
      (pss_cons (ps_set (i := 5) sc_Work_put_step.nd rfl (Or.inl rfl) (pe_ix ix_seq (pe_fld (pv 0) rfl) (pv 3) (fun _ _ => rfl)))
      (pss_cons (ps_if (pt_cmp (pc_notN (pe_ix ix_seq (pv 4) pe_int (fun _ _ => rfl)))) (pss_cons (ps_asg (pe_ix ix_seq (pv 5) pe_int (fun _ _ => rfl)) (pg_sub (pv 5) pe_int set_list))
      (pss_cons (ps_asg (pe_un un_neg pe_int) (pg_sub (pv 5) pe_int set_list))
      (pss_cons (ps_asg pe_non (pg_sub (pv 4) pe_int set_list))
      (pss_cons (ps_expr (pe_meth (pv 0) T.cl_Work T.Work_go_on.m (ok_Work_go_on T) (hr.mono (by decide)) T.Work_go_on.b .nil pass0 (pa_cons (pv 1) (pa_cons (pe_op op_addX (pe_ix ix_seq (pv 4) pe_int (fun _ _ => rfl)) pe_int) pa_nil))))
      (pss_one ps_retN))))) pss_nil)
      (pss_cons (ps_set (i := 6) sc_Work_put_step.nd rfl (Or.inl rfl) (pe_meth (pv 0) T.cl_Work T.Work_number.m (ok_Work_number T) (hr.mono (by decide)) T.Work_number.b .nil pass0 (pa_cons (pv 1) (pa_cons (pe_ix ix_seq (pv 2) pe_int (fun _ _ => rfl)) pa_nil))))
      (pss_one (ps_if (pt_cmpR op_ge (pv 6) (pe_ix ix_seq (pe_ix ix_seq (pe_ix ix_seq (pe_fld (pv 0) rfl) pe_int (fun _ _ => rfl)) (pv 3) (fun _ _ => rfl)) pe_int (fun _ _ => rfl)) (nomark _)) (pss_one (ps_expr (pe_meth (pv 0) T.cl_Work T.Work_break_by.m (ok_Work_break_by T) (hr.mono (by decide)) T.Work_break_by.b .nil pass0 (pa_cons pe_str (pa_cons (pv 1) pa_nil))))) (pss_one (ps_if (pt_cmpR (op_eqX hr.units) (pe_ix ix_seq (pe_ix ix_seq (pe_ix ix_seq (pe_fld (pv 0) rfl) pe_int (fun _ _ => rfl)) (pv 3) (fun _ _ => rfl)) pe_int (fun _ _ => rfl)) pe_str (nomark _)) (pss_cons (ps_asg (pv 6) (pg_sub (pv 5) pe_int set_list))
      (pss_one (ps_expr (pe_meth (pv 0) T.cl_Work T.Work_go_on.m (ok_Work_go_on T) (hr.mono (by decide)) T.Work_go_on.b .nil pass0 (pa_cons (pv 1) (pa_cons (pe_op op_addX (pe_ix ix_seq (pv 4) pe_int (fun _ _ => rfl)) pe_int) pa_nil)))))) (pss_cons (ps_asg (pv 6) (pg_sub (pv 5) pe_int set_list))
      (pss_cons (ps_asg (pe_tup pa_nil) (pg_sub (pv 4) pe_int set_list))
      (pss_one (ps_expr (pe_meth (pv 0) T.cl_Work T.Work_beside.m (ok_Work_beside T) (hr.mono (by decide)) T.Work_beside.b .nil pass0 (pa_cons (pv 3) (pa_cons (pv 6) pa_nil))))))))))))))), ?_⟩
  refine s_setD hs (s := .v (.ref a)) (ed_handL T W (ev_var hs) (ed_var hs) ha) fun σ1 H1 e1 hs1 => ?_
  refine nx_of (X := tSeq _ _ _) ?_
  refine s_setD hs1 (s := .v (.ref ab)) (ed_boxL T (W.up e1) (ev_var hs1) (ed_var hs1) hab) fun σ2 H2 e2 hs2 => ?_
  refine nx_of (X := tSeq _ _ _) ?_
  have e12 := e1.trans e2
  have W2 := W.up e12
  have hpcE : ∀ {σ' : L2.St} {H' : Hp} {st' : Sd} {h' : HS} {n' : Nat} {ss : List SV}, WorkAt T.C_Work M H0 H' A' st' .none n' → st'.hs[k]? = some h' → h'.pc = hh.pc → Slots H' σ' ss → ss[4]? = some (.v (.ref a)) → Ed (tOp (rAddX K) (tOp (rIx K) (tVar 4) (tC (.int 0))) (tC (.int 1))) σ' H' (.d (.num ((hh.pc.toNat + 1 : Nat) : Int))) := fun W' hk' hp' hs' h4 => by
    obtain ⟨a', xs', ha', hx', hn'⟩ := W'.hAt hk'
    rw [ha] at ha'; cases ha'
    exact Ed.is (ed_add (ed_item (k := .num hh.pc) (ev_var hs' h4) ed_int hx' hn' (by rw [← hp']; rfl)) ed_int) (by congr 1; omega)
  cases hf : hh.half with
  | some l =>
    refine s_if (et_test (eb_notN (ed_item (k := tellD hh.half) (ev_var hs2) ed_int (e12 _ _ hx) (hxn.up e12) rfl))) (fun c H3 e3 => ?_) (fun c H3 e3 => by rw [hf] at c; cases c)
    have hs3 := hs2.up e3
    have W3 := W2.up e3
    have hxb3 := (e12.trans e3) _ _ hxb
    refine s_bset (b' := ⟨bs.c, bs.c⟩) (i := 0) W3 hbs hab (ed_item (k := .num bs.c) (ev_var hs3) ed_int hxb3 (hxbn.up (e12.trans e3)) rfl) (ev_var hs3) ed_int (by decide) rfl fun H4 W4 f4 => ?_
    have hs4 := hs3.tx f4.1
    refine nx_of (X := tSeq _ _ _) ?_
    refine s_bset (b' := ⟨bs.c, -1⟩) (i := 1) W4 (set_at hbs) hab (ed_neg ed_int) (ev_var hs4) ed_int (by decide) rfl fun H5 W5 f5 => ?_
    have hs5 := hs4.tx f5.1
    refine nx_of (X := tSeq _ _ _) ?_
    refine s_hset (h' := { hh with half := none, ct := hh.ct + 1 }) (i := 1) W5 hhk1 ha ed_non (ev_var hs5) ed_int (by decide) rfl fun H6 W6 f6 => ?_
    have hs6 := hs5.tx f6.1
    refine nx_of (X := tSeq _ _ _) ?_
    have f06 := (((fr_of (e12.trans e3)).trans f4).trans f5).trans f6
    have W6' : WorkAt T.C_Work M H0 H6 A' ⟨st.hs.set k { hh with half := none, ct := hh.ct + 1 }, st.bs.set j ⟨bs.c, -1⟩, st.cl⟩ .none n := by
      have := W6
      simp only [List.set_set] at this
      exact this
    have P2 := pre_put2 hM hS hd hhk hpc hrow hb hnm hbs hf
    refine s_dropC (c_go (p := hh.pc.toNat + 1) W6' hM (by omega) (ev_var hs6) (ed_var hs6) (hpcE W6' (set_at hhk) rfl hs6 rfl) (set_at hhk) (preOk_set P2) hpl fun v H7 s' br' o W7 f7 g7 r7 => ?_)
    exact q H7 s' br' o W7 (f06.trans f7) (.put2 hd hhk hpc hct hrow hb hnm hbs hf (goOn_set (s := ⟨st.hs, st.bs.set j ⟨bs.c, -1⟩, st.cl⟩) g7)) r7
  | none =>
    refine s_if (et_test (eb_notN (ed_item (k := tellD hh.half) (ev_var hs2) ed_int (e12 _ _ hx) (hxn.up e12) rfl))) (fun c H3 e3 => by rw [hf] at c; cases c) (fun c H3 e3 => ?_)
    have hs3 := hs2.up e3
    have W3 := W2.up e3
    refine nx_of (X := tSeq _ _ _) ?_
    refine sq_asg ?_
    show tMeth _ _ _ _ _ _ _ _ _ _
    have hex := (D.row _ _ hrow).ex ex rfl
    refine c_number (e := ex) (h := { hh with ct := hh.ct + 1 }) W3 hM (ev_var hs3) (ed_var hs3) (ed_ix (k := ex.dt) (ed_var hs3) ed_int rfl) hd hhk1 q0.nl hex.2 (row_vars D hrow rfl) fun H4 W4 f4 => ?_
    refine gn_of ?_
    have hs4 := (hs3.tx f4.1).set (s := .d (.num (ex.val (d.env hh.wo hh.ns)))) (.int _) 6
    have f04 := (fr_of (e12.trans e3)).trans f4
    generalize (σ2.set 6 _) = σ4 at *
    refine s_if (et_test (eb_ge (ed_var hs4) (ed_ix (k := .num b.sz) (ed_bx (ed_mk T W4 (ev_var hs4)) (ed_var hs4) hb) ed_int rfl))) (fun c H5 e5 => ?_) (fun c H5 e5 => ?_)
    · have c := of_decide_eq_true c
      have hs5 := hs4.up e5
      show tMeth _ _ _ _ _ _ _ _ _ _
      refine c_break (W4.up e5) (ev_var hs5) ed_str (ed_var hs5) hd fun v H6 W6 f6 => ?_
      exact q _ _ _ none (W6.le (Nat.le_succ _)) ((f04.trans (fr_of e5)).trans f6) (.putGreat hd hhk hpc hct hrow hb hnm hf c) (.inl ⟨rfl, fun e => by cases e⟩)
    have c : ex.val (d.env hh.wo hh.ns) < b.sz := by have := of_decide_eq_false c; omega
    have hv0 : 0 ≤ ex.val (d.env hh.wo hh.ns) := val_ok hM hS hd hhk hrow rfl
    have hs5 := hs4.up e5
    have W5 := W4.up e5
    refine s_if (et_test (eb_eq (ed_ix (k := .text (kdT b.kd)) (ed_bx (ed_mk T W5 (ev_var hs5)) (ed_var hs5) hb) ed_int rfl) ed_str)) (fun c6 H6 e6 => ?_) (fun c6 H6 e6 => ?_)
    · have k2 : b.kd = 2 := (kdB_whole O).mp (txt_eq.mp (of_decide_eq_true c6))
      have hs6 := hs5.up e6
      show tSeq _ _ _ _ _
      refine s_bset (b' := ⟨ex.val (d.env hh.wo hh.ns), bs.c⟩) (i := 0) (W5.up e6) hbs hab (ed_var hs6) (ev_var hs6) ed_int (by decide) rfl fun H7 W7 f7 => ?_
      have hs7 := hs6.tx f7.1
      refine nx_of (X := tDrop _ _) ?_
      show tMeth _ _ _ _ _ _ _ _ _ _
      have P2 := pre_putWhole hM hS hd hhk hpc hrow hb hnm hbs hf c
      refine c_go (p := hh.pc.toNat + 1) W7 hM (by omega) (ev_var hs7) (ed_var hs7) (hpcE W7 (set_at hhk) rfl hs7 rfl) (set_at hhk) (preOk_set P2) hpl fun v H8 s' br' o W8 f8 g8 r8 => ?_
      exact q H8 s' br' o W8 (((f04.trans (fr_of (e5.trans e6))).trans f7).trans f8) (.putWhole hd hhk hpc hct hrow hb hnm hbs hf c k2 (goOn_set (s := ⟨st.hs, st.bs.set j ⟨ex.val (d.env hh.wo hh.ns), bs.c⟩, st.cl⟩) g8)) r8
    · have k2 : b.kd ≠ 2 := fun z => of_decide_eq_false c6 (txt_eq.mpr ((kdB_whole O).mpr z))
      have hs6 := hs5.up e6
      show tSeq _ _ _ _ _
      refine s_bset (b' := ⟨bs.w, ex.val (d.env hh.wo hh.ns)⟩) (i := 1) (W5.up e6) hbs hab (ed_var hs6) (ev_var hs6) ed_int (by decide) rfl fun H7 W7 f7 => ?_
      have hs7 := hs6.tx f7.1
      refine nx_of (X := tSeq _ _ _) ?_
      refine s_hset (h' := { hh with half := some [], ct := hh.ct + 1 }) (i := 1) W7 hhk1 ha (ed_tup [] ea_nil (by simp)) (ev_var hs7) ed_int (by decide) rfl fun H8 W8 f8 => ?_
      have hs8 := hs7.tx f8.1
      refine nx_of (X := tDrop _ _) ?_
      show tMeth _ _ _ _ _ _ _ _ _ _
      have W8' : WorkAt T.C_Work M H0 H8 A' ⟨st.hs.set k { hh with half := some [], ct := hh.ct + 1 }, st.bs.set j ⟨bs.w, ex.val (d.env hh.wo hh.ns)⟩, st.cl⟩ .none n := by
        have := W8
        simp only [List.set_set] at this
        exact this
      refine c_beside W8' hM (ev_var hs8) (ed_var hs8) (ed_var hs8) (by show (st.hs.set k _).length = _; rw [List.length_set]; exact hS.hl) hb ⟨hv0, c⟩ (fun i d' h' l h1 h2 h3 => ?_) fun v H9 W9 f9 => ?_
      · rcases set_get h2 with ⟨rfl, rfl, _⟩ | ⟨ne, h2⟩
        · rw [hd] at h1
          cases h1
          exact ⟨hpc0, _, hrow, rfl, fun x e => by cases e⟩
        · have qi := hS.hok i d' h' h1 h2
          have hi : h'.pc ≠ -1 := fun z => by have := qi.idle z; rw [h3] at this; cases this
          rcases qi.pc with e | ⟨e1, r, e2, e3⟩
          · exact absurd e hi
          · refine ⟨e1, r, e2, e3, fun x hx => ?_⟩
            subst hx
            exact (qi.get x b.nm l e2 h3 j b hb rfl).2
      · exact q _ _ _ _ (W9.le (Nat.le_succ _)) ((((f04.trans (fr_of (e5.trans e6))).trans f7).trans f8).trans f9) (.put1 hd hhk hpc hct hrow hb hnm hbs hf c k2) (.inr ⟨rfl, rfl⟩)
end
end SB

set_option maxRecDepth 100000
set_option maxHeartbeats 8000000
/-! Work.get_step. -/
namespace SB
open PySem L2 PyProof.Rows
section
variable {P : Program} {w : World} {K : PySem.W.Frag} {mg : Str → Option Value} {base : Heap}
variable {C : Addr} {M : Mk} {H0 H : Hp} {A : WA} {s : Sd} {br : Dt} {n k : Nat} {d : Hn} {h : HS} {σ : L2.St} {ta tb tc td : TE} {E : XK} {Q : VK}
/-- x, y = a list of two -/
theorem s_unl2 {D : Ends} {te : TE} {n m : Nat} {k1 k2 : Dt} {p : Addr} {xs : List V} {ss : List SV} (hs : Slots H σ ss) (h : Ed te σ H (.v (.ref p))) (hp : H p = some (.lst xs)) (hn : NdAll H xs [k1, k2]) (q : ∀ σ' H1, Same H H1 → Slots H1 σ' ((ss.set n (.d k1)).set m (.d k2)) → D.nx σ' H1) :
    tAsg te (gUnl K 2 (gCons (gName n) (gCons (gName m) gNil))) D σ H :=
  h H (.refl H) _ fun v H1 e1 h1 => by
    cases h1
    cases hn with
    | cons r1 t1 =>
      cases t1 with
      | cons r2 t2 =>
        cases t2
        exact ⟨p, _, rfl, SqL.of (e1 _ _ hp), rfl, _, _, rfl, _, _, rfl, rfl, q _ H1 e1 (((hs.up e1).set (s := .d k1) (Nd.up r1 e1) n).set (s := .d k2) (Nd.up r2 e1) m)⟩
def spGet (C : Addr) : Sp := fun vs H Q _ => ∃ (M : Mk) (H0 : Hp) (A : WA) (s : Sd) (n k j : Nat) (d : Hn) (h : HS) (x y : Str) (b : Bx) (v : V) (pick : Int), MkOk M ∧ n ≤ 20 ∧ vs = [.ref A.w, .int (k : Int), v, .int (j : Int), .int pick] ∧ WorkAt C M H0 H A ⟨s.hs.set k { h with ct := h.ct + 1 }, s.bs, s.cl⟩ .none n ∧ SdOk M s ∧ M.hds[k]? = some d ∧ s.hs[k]? = some h ∧ h.pc ≠ -1 ∧ h.ct < d.wi ∧
  d.rows[h.pc.toNat]? = some (.get x y) ∧ M.bxs[j]? = some b ∧ b.nm = y ∧ Nd H v (Row.get x y).dt ∧ MayStep M s k pick ∧
  ∀ H' s' br' o, WorkAt C M H0 H' A s' br' (n + 1) → Fr H H' → StepR M s k pick o → Res s' br' o → Q .non H'
theorem ok_Work_get_step (T : Txt K mg) : FnOk P w K mg base CX0 10 T.Work_get_step.a T.Work_get_step.d ["self", "k", "row", "place", "pick"] (spGet T.C_Work) := by
  refine fun_okC T.Work_get_step.F sc_Work_get_step (fun vs H Q E h => ?_) (fun cdv A outer s H vs Q E hcd hr h => ?_)
  · obtain ⟨_, _, _, _, _, _, _, _, _, _, _, _, _, _, _, _, e, _⟩ := h
    rw [e]; rfl
  obtain ⟨M, H0, A', st, n, k, j, d, hh, x, y, b, v, pick, hM, hn, rfl, W, hS, hd, hhk, hpc, hct, hrow, hb, hnm, hv, hmay, q⟩ := h
  have hs : Slots H (L2.start ["self", "k", "row", "place", "pick", "hand", "worth", "coming", "kind", "size"] [.ref A'.w, .int (k : Int), v, .int (j : Int), .int pick]) [.v (.ref A'.w), .d (.num (k : Int)), .d (Row.get x y).dt, .d (.num (j : Int)), .d (.num pick), .u, .u, .u, .u, .u] := slots_start ["self", "k", "row", "place", "pick", "hand", "worth", "coming", "kind", "size"] (.cons (s := .v (.ref A'.w)) (show V.ref _ = V.ref _ from rfl) (.cons (s := .d (.num (k : Int))) (.int _) (.cons (s := .d (Row.get x y).dt) hv (.cons (s := .d (.num (j : Int))) (.int _) (.cons (s := .d (.num pick)) (.int _) .nil)))))
  have D := hM.hd k d hd
  have O := hM.bx b (List.mem_of_getElem? hb)
  obtain ⟨bs, hbs⟩ := hS.box hb
  have bk := hS.bok j b bs hb hbs
  have hsz := O.sz
  have q0 := hS.hk hd hhk
  have hpc0 : 0 ≤ hh.pc := by rcases q0.pc with e | e; exact absurd e hpc; exact e.1
  have hpl : hh.pc.toNat + 1 ≤ d.rows.length := (List.getElem?_eq_some_iff.mp hrow).1
  have hhk1 : (st.hs.set k { hh with ct := hh.ct + 1 })[k]? = some { hh with ct := hh.ct + 1 } := set_at hhk
  obtain ⟨a, xs, ha, hx, hxn⟩ := W.hAt hhk1
  obtain ⟨ab, xb, hab, hxb, hxbn⟩ := W.bAt hbs
  refine ⟨_, (pss_cons (ps_set (i := 5) sc_Work_get_step.nd rfl (Or.inl rfl) (pe_ix ix_seq (pe_fld (pv 0) rfl) (pv 1) (fun _ _ => rfl)))
      (pss_cons (ps_asg (pe_ix ix_seq (pe_fld (pv 0) rfl) (pv 3) (fun _ _ => rfl)) (pg_unl rfl (pgs_cons (pg_name (i := 6) sc_Work_get_step.nd rfl (Or.inl rfl)) (pgs_cons (pg_name (i := 7) sc_Work_get_step.nd rfl (Or.inl rfl)) pgs_nil))))
      (pss_cons (ps_asg (pe_slice sl_X (pe_ix ix_seq (pe_ix ix_seq (pe_fld (pv 0) rfl) pe_int (fun _ _ => rfl)) (pv 3) (fun _ _ => rfl)) (po_some pe_int) (po_some pe_int)) (pg_tup rfl (pgs_cons (pg_name (i := 8) sc_Work_get_step.nd rfl (Or.inl rfl)) (pgs_cons (pg_name (i := 9) sc_Work_get_step.nd rfl (Or.inl rfl)) pgs_nil))))
      (pss_one (ps_if (pt_cmpR (op_eqX hr.units) (pv 8) pe_str (nomark _)) (pss_cons (ps_expr (pe_meth (pv 0) T.cl_Work T.Work_set_number.m (ok_Work_set_number T) (hr.mono (by decide)) T.Work_set_number.b .nil pass0 (pa_cons (pv 1) (pa_cons (pe_ix ix_seq (pv 2) pe_int (fun _ _ => rfl)) (pa_cons (pv 6) pa_nil)))))
      (pss_one (ps_expr (pe_meth (pv 0) T.cl_Work T.Work_go_on.m (ok_Work_go_on T) (hr.mono (by decide)) T.Work_go_on.b .nil pass0 (pa_cons (pv 1) (pa_cons (pe_op op_addX (pe_ix ix_seq (pv 5) pe_int (fun _ _ => rfl)) pe_int) pa_nil)))))) (pss_one (ps_if (pt_cmp (pc_notN (pe_ix ix_seq (pv 5) pe_int (fun _ _ => rfl)))) (pss_cons (ps_asg pe_non (pg_sub (pv 5) pe_int set_list))
      (pss_cons (ps_expr (pe_meth (pv 0) T.cl_Work T.Work_set_number.m (ok_Work_set_number T) (hr.mono (by decide)) T.Work_set_number.b .nil pass0 (pa_cons (pv 1) (pa_cons (pe_ix ix_seq (pv 2) pe_int (fun _ _ => rfl)) (pa_cons (pv 4) pa_nil)))))
      (pss_one (ps_expr (pe_meth (pv 0) T.cl_Work T.Work_go_on.m (ok_Work_go_on T) (hr.mono (by decide)) T.Work_go_on.b .nil pass0 (pa_cons (pv 1) (pa_cons (pe_op op_addX (pe_ix ix_seq (pv 5) pe_int (fun _ _ => rfl)) pe_int) pa_nil))))))) (pss_one (ps_if (pt_cmpR (op_eqX hr.units) (pv 7) (pe_un un_neg pe_int) (nomark _)) (pss_one (ps_asg (pe_tup (pa_cons (pv 6) pa_nil)) (pg_sub (pv 5) pe_int set_list))) (pss_one (ps_if (pt_cmpR (op_eqX hr.units) (pv 8) pe_str (nomark _)) (pss_one (ps_asg (pe_tupRg rfl (by rfl) T.b_tuple (prg_1 (by rfl) T.b_range (pv 9))) (pg_sub (pv 5) pe_int set_list))) (pss_one (ps_asg (pe_callTy call_tuple_of (by rfl) T.b_tuple (by decide +kernel) (pa_cons (pe_callB (cr_sortedX rfl hr) (by rfl) T.b_sorted (by decide +kernel) (pa_cons (pe_setD2 (pv 6) (pv 7) hcd rfl) pa_nil)) pa_nil)) (pg_sub (pv 5) pe_int set_list)))))))))))))), ?_⟩
  refine s_setD hs (s := .v (.ref a)) (ed_handL T W (ev_var hs) (ed_var hs) ha) fun σ1 H1 e1 hs1 => ?_
  refine nx_of (X := tSeq _ _ _) ?_
  refine s_unl2 hs1 (ed_boxL T (W.up e1) (ev_var hs1) (ed_var hs1) hab) (e1 _ _ hxb) (hxbn.up e1) fun σ2 H2 e2 hs2 => ?_
  refine nx_of (X := tSeq _ _ _) ?_
  refine s_unp2 hs2 (k1 := .text (kdT b.kd)) (k2 := .num b.sz) (ed_sl (ed_bx (ed_mk T (W.up (e1.trans e2)) (ev_var hs2)) (ed_var hs2) hb) (eo_some ed_int) (eo_some ed_int)) fun σ3 H3 e3 hs3 => ?_
  have e13 := (e1.trans e2).trans e3
  have W3 := W.up e13
  refine nx_of (X := tIfS _ _ _ _) ?_
  have hpcE : ∀ {σ' : L2.St} {H' : Hp} {st' : Sd} {h' : HS} {n' : Nat} {ss : List SV}, WorkAt T.C_Work M H0 H' A' st' .none n' → st'.hs[k]? = some h' → h'.pc = hh.pc → Slots H' σ' ss → ss[5]? = some (.v (.ref a)) → Ed (tOp (rAddX K) (tOp (rIx K) (tVar 5) (tC (.int 0))) (tC (.int 1))) σ' H' (.d (.num ((hh.pc.toNat + 1 : Nat) : Int))) := fun W' hk' hp' hs' h4 => by
    obtain ⟨a', xs', ha', hx', hn'⟩ := W'.hAt hk'
    rw [ha] at ha'; cases ha'
    exact Ed.is (ed_add (ed_item (k := .num hh.pc) (ev_var hs' h4) ed_int hx' hn' (by rw [← hp']; rfl)) ed_int) (by congr 1; omega)
  have hT : ∀ {σ' : L2.St} {H' : Hp} {st' : Sd} {n' i : Nat} {z : Int} {ss : List SV}, WorkAt T.C_Work M H0 H' A' st' .none n' → Slots H' σ' ss → ss[i]? = some (.d (.num z)) → ∀ H1, Same H' H1 → ∀ Q : VK, (∀ H2, WorkAt T.C_Work M H0 H2 A' st' .none n' → Fr H1 H2 → Q (.int z) H2) → tVar i σ' H1 Q := fun W' hs' hi H1 e1 Q q =>
    (ed_var (hs'.up e1) hi) H1 (.refl _) _ fun v H2 e2 hv => by cases hv; exact q H2 (W'.up (e1.trans e2)) (fr_of e2)
  have hxv := row_sets D (x := x) hrow rfl
  refine s_if (et_test (eb_eq (ed_var hs3) ed_str)) (fun c H4 e4 => ?_) (fun c H4 e4 => ?_)
  · have k2 : b.kd = 2 := (kdB_whole O).mp (txt_eq.mp (of_decide_eq_true c))
    have hs4 := hs3.up e4
    have W4 := W3.up e4
    show tSeq _ _ _ _ _
    refine s_dropC (c_setNum (z := bs.w) (h := { hh with ct := hh.ct + 1 }) W4 hM (ev_var hs4) (ed_var hs4) (ed_ix (k := .text x) (ed_var hs4) ed_int rfl) hd hhk1 q0.nl hxv (hT W4 hs4 rfl) fun v0 H5 W5 f5 => ?_)
    have hs5 := hs4.tx f5.1
    have W5' : WorkAt T.C_Work M H0 H5 A' ⟨st.hs.set k { hh with ct := hh.ct + 1, ns := setN d.vars hh.ns x bs.w }, st.bs, st.cl⟩ .none n := by
      have := W5
      simp only [List.set_set] at this
      exact this
    have P2 := pre_getWhole hM hS hd hhk hpc hrow hb hnm hbs k2
    show tMeth _ _ _ _ _ _ _ _ _ _
    refine c_go (p := hh.pc.toNat + 1) W5' hM (by omega) (ev_var hs5) (ed_var hs5) (hpcE W5' (set_at hhk) rfl hs5 rfl) (set_at hhk) (preOk_set P2) hpl fun v H8 s' br' o W8 f8 g8 r8 => ?_
    exact q H8 s' br' o W8 (((fr_of (e13.trans e4)).trans f5).trans f8) (.getWhole hd hhk hpc hct hrow hb hnm hbs k2 (goOn_set (s := st) g8)) r8
  have k2 : b.kd ≠ 2 := fun z => of_decide_eq_false c (txt_eq.mpr ((kdB_whole O).mpr z))
  have hs4 := hs3.up e4
  have W4 := W3.up e4
  have e14 := e13.trans e4
  cases hf : hh.half with
  | some l =>
    refine s_if (et_test (eb_notN (ed_item (k := tellD hh.half) (ev_var hs4) ed_int (e14 _ _ hx) (hxn.up e14) rfl))) (fun c H5 e5 => ?_) (fun c H5 e5 => by rw [hf] at c; cases c)
    have hs5 := hs4.up e5
    show tSeq _ _ _ _ _
    refine s_hset (h' := { hh with half := none, ct := hh.ct + 1 }) (i := 1) (W4.up e5) hhk1 ha ed_non (ev_var hs5) ed_int (by decide) rfl fun H6 W6 f6 => ?_
    have hs6 := hs5.tx f6.1
    refine nx_of (X := tSeq _ _ _) ?_
    have W6' : WorkAt T.C_Work M H0 H6 A' ⟨st.hs.set k { hh with half := none, ct := hh.ct + 1 }, st.bs, st.cl⟩ .none n := by
      have := W6
      simp only [List.set_set] at this
      exact this
    refine s_dropC (c_setNum (z := pick) (h := { hh with half := none, ct := hh.ct + 1 }) W6' hM (ev_var hs6) (ed_var hs6) (ed_ix (k := .text x) (ed_var hs6) ed_int rfl) hd (set_at hhk) q0.nl hxv (hT W6' hs6 rfl) fun v0 H7 W7 f7 => ?_)
    have hs7 := hs6.tx f7.1
    have W7' : WorkAt T.C_Work M H0 H7 A' ⟨st.hs.set k { hh with half := none, ct := hh.ct + 1, ns := setN d.vars hh.ns x pick }, st.bs, st.cl⟩ .none n := by
      have := W7
      simp only [List.set_set] at this
      exact this
    have hin := pick_get (may_pick hmay hd hhk) hpc hrow hf
    have P2 := pre_get2 hM hS hd hhk hpc hrow hb hnm hf hin
    show tMeth _ _ _ _ _ _ _ _ _ _
    refine c_go (p := hh.pc.toNat + 1) W7' hM (by omega) (ev_var hs7) (ed_var hs7) (hpcE W7' (set_at hhk) rfl hs7 rfl) (set_at hhk) (preOk_set P2) hpl fun v H8 s' br' o W8 f8 g8 r8 => ?_
    exact q H8 s' br' o W8 ((((fr_of (e14.trans e5)).trans f6).trans f7).trans f8) (.get2 hd hhk hpc hct hrow hb hnm k2 hf (goOn_set (s := st) g8)) r8
  | none =>
    refine s_if (et_test (eb_notN (ed_item (k := tellD hh.half) (ev_var hs4) ed_int (e14 _ _ hx) (hxn.up e14) rfl))) (fun c H5 e5 => by rw [hf] at c; cases c) (fun c H5 e5 => ?_)
    have hs5 := hs4.up e5
    have W5 := W4.up e5
    have e15 := e14.trans e5
    have hfin : ∀ H6, WorkAt T.C_Work M H0 H6 A' ⟨(st.hs.set k { hh with ct := hh.ct + 1 }).set k { hh with half := some (if bs.c = -1 then [bs.w] else if b.kd = 0 then rangeD b.sz else fourI (memS [bs.w, bs.c])), ct := hh.ct + 1 }, st.bs, st.cl⟩ .none n → Fr H5 H6 → Q .non H6 := fun H6 W6 f6 => by
      rw [List.set_set] at W6
      exact q _ _ _ _ (W6.le (Nat.le_succ _)) ((fr_of e15).trans f6) (.get1 hd hhk hpc hct hrow hb hnm hbs k2 hf) (.inr ⟨rfl, rfl⟩)
    refine s_if (et_test (eb_eq (ed_var hs5) (ed_neg ed_int))) (fun c6 H6 e6 => ?_) (fun c6 H6 e6 => ?_)
    · have c6 : bs.c = -1 := by have := of_decide_eq_true c6; injection this
      have hs6 := hs5.up e6
      refine s_hset (h' := { hh with half := some [bs.w], ct := hh.ct + 1 }) (i := 1) (W5.up e6) hhk1 ha (ed_tup [.num bs.w] (ea_cons (ed_var hs6) ea_nil) (by simp)) (ev_var hs6) ed_int (by decide) rfl fun H7 W7 f7 => ?_
      exact hfin H7 (by rw [if_pos c6]; exact W7) ((fr_of e6).trans f7)
    have c6 : ¬ bs.c = -1 := fun z => of_decide_eq_false c6 (by rw [z])
    have hs6 := hs5.up e6
    refine s_if (et_test (eb_eq (ed_var hs6) ed_str)) (fun c7 H7 e7 => ?_) (fun c7 H7 e7 => ?_)
    · have k0 : b.kd = 0 := kd_safe.mp (txt_eq.mp (of_decide_eq_true c7))
      have hs7 := hs6.up e7
      refine s_hset (h' := { hh with half := some (rangeD b.sz), ct := hh.ct + 1 }) (i := 1) (W5.up (e6.trans e7)) hhk1 ha (ed_tupRg (ed_var hs7) (by omega) (by omega)) (ev_var hs7) ed_int (by decide) rfl fun H8 W8 f8 => ?_
      exact hfin H8 (by rw [if_neg c6, if_pos k0]; exact W8) ((fr_of (e6.trans e7)).trans f8)
    · have k0 : ¬ b.kd = 0 := fun z => of_decide_eq_false c7 (by rw [kd_safe.mpr z])
      have hs7 := hs6.up e7
      refine s_hset (h' := { hh with half := some (fourI (memS [bs.w, bs.c])), ct := hh.ct + 1 }) (i := 1) (W5.up (e6.trans e7)) hhk1 ha (ed_rise2 (by omega) (by omega) (ed_var hs7) (ed_var hs7)) (ev_var hs7) ed_int (by decide) rfl fun H8 W8 f8 => ?_
      exact hfin H8 (by rw [if_neg c6, if_neg k0]; exact W8) ((fr_of (e6.trans e7)).trans f8)
end
end SB
namespace SB
open PySem L2 PyProof.Rows
theorem valV_idx : ∀ (l : List Bx) (o j : Nat) (b : Bx), (l.map Bx.nm).Nodup → l[j]? = some b → valV (l.mapIdx fun i b => ((.inr b.nm, .int ((o + i : Nat) : Int)) : Key × V)) (.inr b.nm) = some (.int ((o + j : Nat) : Int))
  | [], _, _, _, _, h => by simp at h
  | x :: l, o, 0, b, hn, h => by
    have e : x = b := by simpa using h
    subst e
    rw [List.mapIdx_cons, valV_pos rfl]
  | x :: l, o, j + 1, b, hn, h => by
    obtain ⟨h1, h2⟩ := List.nodup_cons.mp hn
    have h : l[j]? = some b := by simpa using h
    rw [List.mapIdx_cons, valV_neg (p := ((Sum.inr x.nm : Key), V.int ((o + 0 : Nat) : Int))) (fun e => h1 (by
      injection e with e
      rw [e]
      exact List.mem_map_of_mem (List.mem_of_getElem? h)))]
    have := valV_idx l (o + 1) j b h2 h
    rw [show o + (j + 1) = o + 1 + j by omega]
    rw [← this]
    congr 1
    apply List.ext_getElem?
    intro m
    simp only [List.getElem?_mapIdx]
    cases l[m]? with
    | none => rfl
    | some y => simp; omega
theorem placesL_keys (M : Mk) : (placesL M).map (·.1) = (M.bxs.map Bx.nm).map (Sum.inr : Str → Key) := by
  unfold placesL
  apply List.ext_getElem?
  intro m
  simp only [List.getElem?_map, List.getElem?_mapIdx]
  cases M.bxs[m]? <;> rfl
theorem places_get {M : Mk} (O : MkOk M) {j : Nat} {b : Bx} (h : M.bxs[j]? = some b) : valV (places M) (.inr b.nm) = some (.int (j : Int)) := by
  have h1 := valV_idx M.bxs 0 j b O.bn h
  simp only [Nat.zero_add] at h1
  unfold places
  rw [valV_merge _ _ _ (by rw [placesL_keys]; exact nodup_inr O.bn)]
  rw [show valV (placesL M) (.inr b.nm) = some (.int (j : Int)) from h1]
end SB

set_option maxRecDepth 100000
set_option maxHeartbeats 8000000
/-! Work.step. -/
namespace SB
open PySem L2 PyProof.Rows
section
variable {P : Program} {w : World} {K : PySem.W.Frag} {mg : Str → Option Value} {base : Heap}
variable {C : Addr} {M : Mk} {H0 H : Hp} {A : WA} {s : Sd} {br : Dt} {n k : Nat} {d : Hn} {h : HS} {σ : L2.St} {ta tb tc td : TE} {E : XK} {Q : VK}
theorem ed_dgetS {p : Addr} {kvs : List (Key × V)} {x : Str} {v : V} (ha : Ed ta σ H (.v (.ref p))) (hb : Ed tb σ H (.d (.text x))) (hp : H p = some (.dK kvs)) (hv : valV kvs (.inr x) = some v) : Ed (tDGet ta tb) σ H (.v v) := fun H1 e1 Q q =>
  ha H1 e1 _ fun u H2 e2 h2 => hb H2 (e1.trans e2) _ fun u' H3 e3 h3 => by
    cases h2; cases h3
    refine ⟨p, v, rfl, ?_, q v H3 (e2.trans e3) rfl⟩
    have := DGet.k (k := .inr x) (((e1.trans e2).trans e3) _ _ hp)
    rw [hv] at this
    exact this
theorem sq_augS {to ti te : TE} {g : V → V → Hp → VK → Prop} {ip : TIp} {st : TSet} {u : TS} {D : Ends} (h : to σ H fun o H1 => ti σ H1 fun i H2 => g o i H2 fun x H3 => te σ H3 fun y H4 => ip x y H4 fun z H5 => st o i z H5 fun H6 => u D σ H6) : tSeq (tAugS to ti te g ip st) u D σ H := h
theorem nd_ct {xs : List V} (hn : NdAll H xs h.dts) : xs[3]? = some (.int h.ct) := by
  unfold HS.dts at hn
  cases hn with
  | cons r0 t0 => cases t0 with
    | cons r1 t1 => cases t1 with
      | cons r2 t2 => cases t2 with
        | cons r3 t3 => cases r3; rfl
theorem c_begin {pick : Int} (W : WorkAt C M H0 H A s .none n) (hM : MkOk M) (hn : n ≤ 20) (ha : Ed ta σ H (.v (.ref A.w))) (hb : Ed tb σ H (.d (.num (k : Int)))) (hc : Ed tc σ H (.d (.num pick))) (hS : SdOk M s) (hd : M.hds[k]? = some d) (hh : s.hs[k]? = some h) (hp : h.pc = -1) (hm : MayStep M s k pick)
    (q : ∀ v H' s' br' o, WorkAt C M H0 H' A s' br' (n + 2) → Fr H H' → StepR M s k pick o → Res s' br' o → Q v H') : tMeth C "begin" (spBegin C) [] E ta (tCons tb (tCons tc tNil)) σ H Q :=
  c_m W (fun _ _ _ _ _ _ _ _ => rfl) ha (ea_cons hb (ea_cons hc ea_nil)) fun vs H2 e2 hv => by
    cases hv with
    | cons r1 t1 =>
      cases t1 with
      | cons r2 t2 =>
        cases t2
        cases r1; cases r2
        exact ⟨M, H0, A, s, n, k, d, h, pick, hM, hn, rfl, W.up e2, hS, hd, hh, hp, hm, fun H3 s' br' o W3 f3 g3 r3 => q _ H3 s' br' o W3 ((fr_of e2).trans f3) g3 r3⟩
def spStep (C : Addr) : Sp := fun vs H Q _ => ∃ (M : Mk) (H0 : Hp) (A : WA) (s : Sd) (n k : Nat) (pick : Int), MkOk M ∧ n ≤ 20 ∧ vs = [.ref A.w, .int (k : Int), .int pick] ∧ WorkAt C M H0 H A s .none n ∧ SdOk M s ∧ MayStep M s k pick ∧
  ∀ H' s' br' o, WorkAt C M H0 H' A s' br' (n + 2) → Fr H H' → StepR M s k pick o → Res s' br' o → Q .non H'
theorem ok_Work_step (T : Txt K mg) : FnOk P w K mg base CX0 11 T.Work_step.a T.Work_step.d ["self", "k", "pick"] (spStep T.C_Work) := by
  refine fun_okC T.Work_step.F sc_Work_step (fun vs H Q E h => ?_) (fun cdv A outer s H vs Q E hcd hr h => ?_)
  · obtain ⟨_, _, _, _, _, _, _, _, _, e, _⟩ := h
    rw [e]; rfl
  obtain ⟨M, H0, A', st, n, k, pick, hM, hn, rfl, W, hS, hmay, q⟩ := h
  have hs : Slots H (L2.start ["self", "k", "pick", "hand", "row", "place"] [.ref A'.w, .int (k : Int), .int pick]) [.v (.ref A'.w), .d (.num (k : Int)), .d (.num pick), .u, .u, .u] := slots_start ["self", "k", "pick", "hand", "row", "place"] (.cons (s := .v (.ref A'.w)) (show V.ref _ = V.ref _ from rfl) (.cons (s := .d (.num (k : Int))) (.int _) (.cons (s := .d (.num pick)) (.int _) .nil)))
  obtain ⟨d, hh, hd, hhk, -⟩ := id hmay
  have D := hM.hd k d hd
  have q0 := hS.hk hd hhk
  obtain ⟨a, xs, ha, hx, hxn⟩ := W.hAt hhk
  refine ⟨_, (pss_cons (ps_set (i := 3) sc_Work_step.nd rfl (Or.inl rfl) (pe_ix ix_seq (pe_fld (pv 0) rfl) (pv 1) (fun _ _ => rfl)))
      (pss_cons (ps_if (pt_cmpR (op_eqX hr.units) (pe_ix ix_seq (pv 3) pe_int (fun _ _ => rfl)) (pe_glob (v := .int (-1)) rfl T.c_IDLE ⟨_, rfl⟩) (nomark _)) (pss_cons (ps_expr (pe_meth (pv 0) T.cl_Work T.Work_begin.m (ok_Work_begin T) (hr.mono (by decide)) T.Work_begin.b .nil pass0 (pa_cons (pv 1) (pa_cons (pv 2) pa_nil))))
      (pss_one ps_retN)) pss_nil)
      (pss_cons (ps_if (pt_cmpR op_ge (pe_ix ix_seq (pv 3) pe_int (fun _ _ => rfl)) (pe_ix ix_seq (pe_ix ix_seq (pe_ix ix_seq (pe_fld (pv 0) rfl) pe_int (fun _ _ => rfl)) (pv 1) (fun _ _ => rfl)) pe_int (fun _ _ => rfl)) (nomark _)) (pss_cons (ps_expr (pe_meth (pv 0) T.cl_Work T.Work_break_by.m (ok_Work_break_by T) (hr.mono (by decide)) T.Work_break_by.b .nil pass0 (pa_cons pe_str (pa_cons (pv 1) pa_nil))))
      (pss_one ps_retN)) pss_nil)
      (pss_cons (ps_augS (pv 3) pe_int get_list pe_int ip_add set_list)
      (pss_cons (ps_set (i := 4) sc_Work_step.nd rfl (Or.inl rfl) (pe_ix ix_seq (pe_meth (pv 0) T.cl_Work T.Work_rows.m (ok_Work_rows T) (hr.mono (by decide)) T.Work_rows.b .nil pass0 (pa_cons (pv 1) pa_nil)) (pe_ix ix_seq (pv 3) pe_int (fun _ _ => rfl)) (fun _ _ => rfl)))
      (pss_cons (ps_set (i := 5) sc_Work_step.nd rfl (Or.inl rfl) (pe_dget (hu_of hr) (pe_fld (pv 0) rfl) (pe_call (ok_box_of_row T) (hr.mono (by decide)) (by rfl) T.box_of_row.m T.box_of_row.F.kp T.box_of_row.b .nil pass0 (pa_cons (pv 4) pa_nil)) (fun _ _ => rfl)))
      (pss_one (ps_if (pt_cmpR (op_eqX hr.units) (pe_ix ix_seq (pv 4) pe_int (fun _ _ => rfl)) pe_str (nomark _)) (pss_one (ps_expr (pe_meth (pv 0) T.cl_Work T.Work_put_step.m (ok_Work_put_step T) (hr.mono (by decide)) T.Work_put_step.b .nil pass0 (pa_cons (pv 1) (pa_cons (pv 4) (pa_cons (pv 5) pa_nil)))))) (pss_one (ps_expr (pe_meth (pv 0) T.cl_Work T.Work_get_step.m (ok_Work_get_step T) (hr.mono (by decide)) T.Work_get_step.b .nil pass0 (pa_cons (pv 1) (pa_cons (pv 4) (pa_cons (pv 5) (pa_cons (pv 2) pa_nil))))))))))))))), ?_⟩
  refine s_setD hs (s := .v (.ref a)) (ed_handL T W (ev_var hs) (ed_var hs) ha) fun σ1 H1 e1 hs1 => ?_
  refine nx_of (X := tSeq _ _ _) ?_
  refine s_if (et_test (eb_eq (ed_item (k := .num hh.pc) (ev_var hs1) ed_int (e1 _ _ hx) (hxn.up e1) rfl) (Ed.vi ev_c))) (fun c H2 e2 => ?_) (fun c H2 e2 => ?_)
  · have hp : hh.pc = -1 := by have := of_decide_eq_true c; injection this
    have hs2 := hs1.up e2
    refine s_dropC (c_begin (W.up (e1.trans e2)) hM hn (ev_var hs2) (ed_var hs2) (ed_var hs2) hS hd hhk hp hmay fun v H3 s' br' o W3 f3 g3 r3 => ?_)
    exact q H3 s' br' o W3 ((fr_of (e1.trans e2)).trans f3) g3 r3
  have hp : hh.pc ≠ -1 := fun z => of_decide_eq_false c (by rw [z])
  have hs2 := hs1.up e2
  have W2 := W.up (e1.trans e2)
  refine nx_of (X := tSeq _ _ _) ?_
  refine s_if (et_test (eb_ge (ed_item (k := .num hh.ct) (ev_var hs2) ed_int ((e1.trans e2) _ _ hx) (hxn.up (e1.trans e2)) rfl) (ed_ix (k := .num d.wi) (ed_hn (ed_mk T W2 (ev_var hs2)) (ed_var hs2) hd) ed_int rfl))) (fun c H3 e3 => ?_) (fun c H3 e3 => ?_)
  · have c := of_decide_eq_true c
    have hs3 := hs2.up e3
    refine s_dropC (c_break (W2.up e3) (ev_var hs3) ed_str (ed_var hs3) hd fun v H4 W4 f4 => ?_)
    exact q H4 _ _ none (W4.le (by omega)) ((fr_of ((e1.trans e2).trans e3)).trans f4) (.long hd hhk hp c) (.inl ⟨rfl, fun e => by cases e⟩)
  have hct : hh.ct < d.wi := by have := of_decide_eq_false c; omega
  have hs3 := hs2.up e3
  have W3 := W2.up e3
  have e13 := (e1.trans e2).trans e3
  refine nx_of (X := tSeq _ _ _) ?_
  refine sq_augS ?_
  refine (ev_var hs3 : Ed (tVar 3) _ _ (.v (.ref a))) H3 (.refl _) _ fun v4 H4 e4 hv4 => ?_
  cases hv4
  refine (ed_int : Ed (tC (.int 3)) σ1 H4 (.d (.num 3))) H4 (.refl _) _ fun v5 H5 e5 hv5 => ?_
  cases hv5
  have e15 := (e13.trans e4).trans e5
  refine ⟨a, xs, 3, .int hh.ct, rfl, rfl, e15 _ _ hx, by decide, by decide, nd_ct hxn, ?_⟩
  refine (ed_int : Ed (tC (.int 1)) σ1 H5 (.d (.num 1))) H5 (.refl _) _ fun v6 H6 e6 hv6 => ?_
  cases hv6
  have e16 := e15.trans e6
  have W6 := W.up e16
  have l5 := (nd5 hxn).1
  refine ⟨hh.ct, 1, rfl, rfl, a, xs, 3, 3, rfl, rfl, e16 _ _ hx, by rw [l5]; rfl, ?_⟩
  have hn6 : NdAll H6 (xs.set 3 (.int (hh.ct + 1))) ({ hh with ct := hh.ct + 1 } : HS).dts := (hxn.up e16).set (.int (hh.ct + 1)) 3
  have W7 := W6.setHand ha hhk hn6
  have f7 : Fr H (upd H6 a (.lst (xs.set 3 (.int (hh.ct + 1))))) := (fr_of e16).trans (Fr.lst (e16 _ _ hx))
  have hs7 := ((hs1.up e2).up e3).up ((e4.trans e5).trans e6)
  have hs7 := hs7.tx (Fr.lst (o := .lst (xs.set 3 (.int (hh.ct + 1)))) (e16 _ _ hx)).1
  generalize upd H6 a (.lst (xs.set 3 (.int (hh.ct + 1)))) = H7 at *
  show tSeq _ _ _ _ _
  obtain ⟨hpc0, r, hrow, hpg⟩ : 0 ≤ hh.pc ∧ ∃ r, d.rows[hh.pc.toNat]? = some r ∧ r.pg = true := by
    rcases q0.pc with e | e
    · exact absurd e hp
    · exact e
  have hhk7 : (st.hs.set k { hh with ct := hh.ct + 1 })[k]? = some { hh with ct := hh.ct + 1 } := set_at hhk
  obtain ⟨a', xs7, ha', hx7, hn7⟩ := W7.hAt hhk7
  rw [ha] at ha'; cases ha'
  refine s_setD hs7 (s := .d r.dt) (ed_rowAt (d := d) (i := hh.pc) (ed_rows W7 (ev_var hs7) (ed_var hs7) hd) (ed_item (ev_var hs7) ed_int hx7 hn7 rfl) hpc0 hrow) fun σ8 H8 e8 hs8 => ?_
  refine nx_of (X := tSeq _ _ _) ?_
  have W8 := W7.up e8
  obtain ⟨y, j, b, hy, hb, hnm⟩ : ∃ (y : Str) (j : Nat) (b : Bx), r.box = some y ∧ M.bxs[j]? = some b ∧ b.nm = y := by
    have R := D.row _ _ hrow
    cases r with
    | put y e => obtain ⟨_, j, b, h1, h2⟩ := R.put y e rfl; exact ⟨y, j, b, rfl, h1, h2⟩
    | get x y => obtain ⟨j, b, h1, h2⟩ := R.get x y rfl; exact ⟨y, j, b, rfl, h1, h2⟩
    | lt _ _ => cases hpg
    | un _ _ => cases hpg
    | tell _ => cases hpg
  subst hnm
  obtain ⟨dx, vm, vc, vb, o1, o2, o3, o4⟩ := W8.ob
  refine s_setD hs8 (s := .d (.num (j : Int))) (Ed.vi (ed_dgetS (ed_fld (ev_var hs8) o1 T.cl_Work T.n_Work_places wf_places) (ed_call (k := .text b.nm) (ea_cons (ed_var hs8) ea_nil) ⟨r, b.nm, hy, rfl, rfl⟩) W8.pd (places_get hM hb))) fun σ9 H9 e9 hs9 => ?_
  have W9 := W8.up e9
  have f9 := f7.trans (fr_of (e8.trans e9))
  refine nx_of (X := tIfS _ _ _ _) ?_
  cases r with
  | lt _ _ => cases hpg
  | un _ _ => cases hpg
  | tell _ => cases hpg
  | put y e =>
    cases hy
    refine s_if (et_test (eb_eq (ed_ix (k := .text "put") (ed_var hs9) ed_int rfl) ed_str)) (fun c5 H10 e10 => ?_) (fun c5 => absurd rfl (of_decide_eq_false c5))
    have hs10 := hs9.up e10
    show tMeth _ _ _ _ _ _ _ _ _ _
    refine c_m (W9.up e10) (fun _ _ _ _ _ _ _ _ => rfl) (ev_var hs10) (ea_cons (ed_var hs10) (ea_cons (ed_var hs10) (ea_cons (ed_var hs10) ea_nil))) fun vs H11 e11 hv => ?_
    cases hv with
    | cons r1 t1 =>
      cases t1 with
      | cons r2 t2 =>
        cases t2 with
        | cons r3 t3 =>
          cases t3
          cases r1; cases r3
          exact ⟨M, H0, A', st, n, k, j, d, hh, b.nm, e, b, _, pick, hM, hn, rfl, W9.up (e10.trans e11), hS, hd, hhk, hp, hct, hrow, hb, rfl, r2, fun H' s' br' o W' f' r' rs => q H' s' br' o (W'.le (Nat.le_succ _)) ((f9.trans (fr_of (e10.trans e11))).trans f') r' rs⟩
  | get x y =>
    cases hy
    refine s_if (et_test (eb_eq (ed_ix (k := .text "get") (ed_var hs9) ed_int rfl) ed_str)) (fun c5 => absurd (txt_eq.mp (of_decide_eq_true c5)) (by decide +kernel)) (fun c5 H10 e10 => ?_)
    have hs10 := hs9.up e10
    show tMeth _ _ _ _ _ _ _ _ _ _
    refine c_m (W9.up e10) (fun _ _ _ _ _ _ _ _ => rfl) (ev_var hs10) (ea_cons (ed_var hs10) (ea_cons (ed_var hs10) (ea_cons (ed_var hs10) (ea_cons (ed_var hs10) ea_nil)))) fun vs H11 e11 hv => ?_
    cases hv with
    | cons r1 t1 =>
      cases t1 with
      | cons r2 t2 =>
        cases t2 with
        | cons r3 t3 =>
          cases t3 with
          | cons r4 t4 =>
            cases t4
            cases r1; cases r3; cases r4
            exact ⟨M, H0, A', st, n, k, j, d, hh, x, b.nm, b, _, pick, hM, hn, rfl, W9.up (e10.trans e11), hS, hd, hhk, hp, hct, hrow, hb, rfl, r2, hmay, fun H' s' br' o W' f' r' rs => q H' s' br' o (W'.le (Nat.le_succ _)) ((f9.trans (fr_of (e10.trans e11))).trans f') r' rs⟩
end
end SB
set_option maxRecDepth 100000
set_option maxHeartbeats 8000000
/-! A comprehension that gives a list of new lists. -/
namespace SB
open PySem L2 PyProof.Rows
structure Nl (H1 : Hp) (p : Addr) (as : List Addr) (out : List (List Dt)) (H' : Hp) : Prop where
  same : Same H1 H'
  at_ : H' p = some (.lst (as.map V.ref))
  len : as.length = out.length
  nd : as.Nodup
  ne : p ∉ as
  fr : ∀ a ∈ as, H1 a = none
  it : ∀ (i : Nat) (a : Addr) (ks : List Dt), as[i]? = some a → out[i]? = some ks → ∃ xs, H' a = some (.lst xs) ∧ NdAll H' xs ks
section
variable {α : Type} {K : PySem.W.Frag} {σ : L2.St} {H : Hp} {te tx ta tb : TE} {t : TT} {g : TG} {ss : List SV} {ks : List Dt}
theorem Nl.step {H1 H' H4 : Hp} {D p : Addr} {as : List Addr} {out : List (List Dt)} {ks : List Dt} {xs : List V} (N : Nl H1 D as out H') (hD : H1 D = none) (e : Same H' H4) (hp : H' p = none) (h4 : H4 p = some (.lst xs)) (hn : NdAll H4 xs ks) : Nl H1 D (as ++ [p]) (out ++ [ks]) (upd H4 D (.lst (as.map V.ref ++ [.ref p]))) := by
  have hD4 := e _ _ N.at_
  have tx : Tx H4 (upd H4 D (.lst (as.map V.ref ++ [.ref p]))) := Tx.lst hD4
  have pD : p ≠ D := fun z => by have := N.at_; rw [← z, hp] at this; cases this
  have hin : ∀ a ∈ as, ∃ o, H' a = some o := fun a ha => by
    obtain ⟨i, hi⟩ := List.getElem?_of_mem ha
    have hl : i < out.length := by rw [← N.len]; exact (List.getElem?_eq_some_iff.mp hi).1
    obtain ⟨ys, h, _⟩ := N.it i a _ hi (List.getElem?_eq_getElem hl)
    exact ⟨_, h⟩
  have pas : p ∉ as := fun z => by obtain ⟨o, ho⟩ := hin p z; rw [hp] at ho; cases ho
  refine ⟨same_mut (N.same.trans e) hD, by rw [upd_same, List.map_append]; rfl, by rw [List.length_append, List.length_append, N.len]; rfl, ?_, ?_, fun a ha => ?_, fun i a js ha hj => ?_⟩
  · rw [List.nodup_append]
    refine ⟨N.nd, by simp, fun a ha b hb => ?_⟩
    rw [List.mem_singleton.mp hb]
    intro z
    exact pas (z ▸ ha)
  · intro z
    rcases List.mem_append.mp z with q | q
    · exact N.ne q
    · exact pD (List.mem_singleton.mp q).symm
  · rcases List.mem_append.mp ha with q | q
    · exact N.fr a q
    · rw [List.mem_singleton.mp q]
      exact same_back N.same hp
  · by_cases c : i < as.length
    · rw [List.getElem?_append_left c] at ha
      rw [List.getElem?_append_left (by rw [← N.len]; exact c)] at hj
      obtain ⟨ys, h1, h2⟩ := N.it i a js ha hj
      have : a ≠ D := fun z => N.ne (z ▸ List.mem_of_getElem? ha)
      exact ⟨ys, by rw [upd_ne this]; exact e _ _ h1, (h2.up e).tx tx⟩
    · rw [List.getElem?_append_right (by omega)] at ha
      rw [List.getElem?_append_right (by rw [← N.len]; omega)] at hj
      have i0 : i - as.length = 0 := by
        have := (List.getElem?_eq_some_iff.mp ha).1
        simp at this
        omega
      rw [i0] at ha
      rw [← N.len, i0] at hj
      have ha : p = a := by simpa using ha
      have hj : ks = js := by simpa using hj
      subst ha
      subst hj
      exact ⟨xs, by rw [upd_ne pD]; exact h4, hn.tx tx⟩
theorem el_lcNew {vs : List Nat} (enc : α → Dt) (l : List α) (hs : Slots H σ ss) (r : α → List Dt) (h : Ed te σ H (.d (.tup (l.map enc)))) (hz : l.length < 50000) (ss' : α → List SV) (ht : ∀ a ∈ l, Tg K g vs (wipeS ss vs) (enc a) (ss' a))
    (he : ∀ a ∈ l, ∀ σ2 H2, Same H H2 → Slots H2 σ2 (ss' a) → El tx σ2 H2 (· = r a)) {H0 : Hp} (e0 : Same H H0) {Q : VK} (q : ∀ p as H2, H0 p = none → Nl H0 p as (l.map r) H2 → Q (.ref p) H2) :
    tLc (iTup K te) g tYes tx vs σ H0 Q := h H0 e0 _ fun v H1 e h1 => by
  obtain ⟨a, xs, rfl, h4, h5⟩ := Nd.tup_inv h1
  have hlen : xs.length = l.length := by rw [h5.len, List.length_map]
  refine ⟨a, rfl, ⟨xs, SqT.of h4⟩, fun Dl hD => lc_tup (K := K) (a := a) (xs := xs) (fun i H' => ∃ as, Nl H1 Dl as ((l.take i).map r) H') ⟨[], same_new hD, upd_same, rfl, .nil, (by simp), (fun a ha => by cases ha), (fun i a ks ha => by simp at ha)⟩ (fun i H' _ ⟨_, c⟩ => SqT.of (c.same _ _ h4)) (fun i x H' hi ⟨as, c⟩ => ?_) (fun H' ⟨as, c⟩ => ?_)⟩
  · obtain ⟨k, hk, h6⟩ := h5.getV hi
    obtain ⟨b, hb1, rfl⟩ := map_get hk
    have hm : b ∈ l := List.mem_of_getElem? hb1
    have e1 := (e0.trans e).trans c.same
    have hi' : i < l.length := (List.getElem?_eq_some_iff.mp hb1).1
    refine ht b hm H' _ x ((hs.wipe vs).up e1) (h6.up c.same) _ fun σ' hs' hw => ⟨by rw [hw]; exact wipe_wipe _ _, ?_⟩
    refine eb_yes H' (.refl _) _ fun H3 e3 => ?_
    show tx σ' H3 _
    refine he b hm σ' H3 (e1.trans e3) (hs'.up e3) H3 (.refl _) _ fun p ys H4 ks hp e4 h4 hn hk => ?_
    subst hk
    refine ⟨as.map V.ref, e4 _ _ (e3 _ _ c.at_), size_lt (by rw [List.length_map, c.len, List.length_map, List.length_take]; omega), as ++ [p], ?_⟩
    rw [take_succ hb1, List.map_append]
    exact c.step hD (e3.trans e4) (same_back e3 hp) h4 hn
  · rw [hlen, List.take_length] at c
    exact q Dl as H' (same_back e hD) ⟨e.trans c.same, c.at_, c.len, c.nd, c.ne, fun a ha => same_back e (c.fr a ha), c.it⟩
end
end SB

set_option maxRecDepth 100000
set_option maxHeartbeats 8000000
/-! Work.__init__. -/
namespace SB
open PySem L2 PyProof.Rows
/-- all but x stays -/
structure Mv (x : Addr) (H H' : Hp) : Prop where
  k : ∀ a o, a ≠ x → H a = some o → H' a = some o
  tx : Tx H H'
theorem Mv.of {x : Addr} {H H' : Hp} (e : Same H H') : Mv x H H' := ⟨fun a o _ h => e a o h, tx_of e⟩
theorem Mv.trans {x : Addr} {H H1 H2 : Hp} (a : Mv x H H1) (b : Mv x H1 H2) : Mv x H H2 := ⟨fun y o n h => b.k y o n (a.k y o n h), a.tx.trans b.tx⟩
theorem Mv.ins {x C d : Addr} {H : Hp} {fs : List (Str × V)} {o : HO} (h : H x = some (.ins C d fs)) : Mv x H (upd H x o) := ⟨fun a u n z => by rw [upd_ne n]; exact z, (Fr.ins h).1⟩
theorem Mv.fr {x C d : Addr} {H H' : Hp} {fs : List (Str × V)} (m : Mv x H H') (h : H x = some (.ins C d fs)) : Fr H H' := ⟨m.tx, fun a φ z => m.k a _ (fun e => by rw [e, h] at z; cases z) z⟩
/-- a list of lists -/
structure Ls (p : Addr) (as : List Addr) (out : List (List Dt)) (H : Hp) : Prop where
  at_ : H p = some (.lst (as.map V.ref))
  len : as.length = out.length
  nd : as.Nodup
  it : ∀ (i : Nat) (a : Addr) (ks : List Dt), as[i]? = some a → out[i]? = some ks → ∃ xs, H a = some (.lst xs) ∧ NdAll H xs ks
theorem Nl.ls {H1 H' : Hp} {p : Addr} {as : List Addr} {out : List (List Dt)} (N : Nl H1 p as out H') : Ls p as out H' := ⟨N.at_, N.len, N.nd, N.it⟩
theorem Ls.mv {x p : Addr} {H H' : Hp} {as : List Addr} {out : List (List Dt)} (L : Ls p as out H) (m : Mv x H H') (hp : p ≠ x) (ha : x ∉ as) : Ls p as out H' :=
  ⟨m.k _ _ hp L.at_, L.len, L.nd, fun i a ks h1 h2 => by
    obtain ⟨xs, h3, h4⟩ := L.it i a ks h1 h2
    exact ⟨xs, m.k _ _ (fun z => ha (z ▸ List.mem_of_getElem? h1)) h3, h4.tx m.tx⟩⟩
section
variable {P : Program} {w : World} {K : PySem.W.Frag} {mg : Str → Option Value} {base : Heap}
variable {C : Addr} {M : Mk} {H0 H : Hp} {A : WA} {s : Sd} {br : Dt} {n k : Nat} {d : Hn} {h : HS} {σ : L2.St} {ta tb tc td : TE} {E : XK} {Q : VK}
theorem s_fldI {f : Str} {te : TE} {D : Ends} {ss : List SV} {x dx : Addr} {fs : List (Str × V)} {G : Hp} (R : V → Hp → Prop) (hs : Slots G σ (.v (.ref x) :: ss)) (hx : G x = some (.ins C dx fs)) (hl : fs.length < 1000) (hc : Cls K C) (hn : NoAttr K C f) (hR : ∀ v H1, R v H1 → Same G H1)
    (he : ∀ Q : VK, (∀ v H1, R v H1 → Q v H1) → te σ G Q)
    (q : ∀ v H1 G', R v H1 → Mv x H1 G' → Mv x G G' → (∀ H0, Same H0 G → H0 x = none → Same H0 G') → G' x = some (.ins C dx (putF f v fs)) → Slots G' σ (.v (.ref x) :: ss) → D.nx σ G') : sFld K (tVar 0) te f D σ G := by
  obtain ⟨o, h1, h2⟩ := hs.get (i := 0) rfl
  refine he _ fun v H1 r => ?_
  have e := hR v H1 r
  have m : Mv x H1 (upd H1 x (.ins C dx (putF f v fs))) := Mv.ins (e _ _ hx)
  exact ⟨.ref x, by rw [h1]; exact congrArg some h2, x, C, dx, fs, rfl, e _ _ hx, hc, hn, hl, q v H1 _ r m ((Mv.of e).trans m) (fun H0 g h => same_mut (g.trans e) h) upd_same ((hs.up e).tx m.tx)⟩
theorem ne_of {G : Hp} {x p : Addr} {o : HO} (hx : G x = some o) (hp : G p = none) : p ≠ x := fun z => by rw [z, hx] at hp; cases hp
def spInit (C : Addr) : Sp := fun vs H Q _ => ∃ (M : Mk) (H0 : Hp) (x dx : Addr) (s : Sd) (vM vS : V), MkOk M ∧ s.hs.length ≤ 100 ∧ s.bs.length ≤ 100 ∧ vs = [.ref x, vM, vS] ∧ H0 x = none ∧ Same H0 H ∧ H x = some (.ins C dx []) ∧ Nd H vM M.dt ∧ Nd H vS s.dt ∧
  ∀ A H', A.w = x → WorkAt C M H0 H' A s .none 0 → Q .non H'
theorem ok_Work_init (T : Txt K mg) : FnOk P w K mg base CX0 2 T.Work_init.a T.Work_init.d ["self", "making", "stand"] (spInit T.C_Work) := by
  refine fun_okC T.Work_init.F sc_Work_init (fun vs H Q E h => ?_) (fun cdv A outer s H vs Q E hcd hr h => ?_)
  · obtain ⟨_, _, _, _, _, _, _, _, _, _, e, _⟩ := h
    rw [e]; rfl
  obtain ⟨M, H0, x, dx, st, vM, vS, hM, hl1, hl2, rfl, hx0, hsm, hx, hvM, hvS, q⟩ := h
  have hs : Slots H (L2.start ["self", "making", "stand", "hand", "box"] [.ref x, vM, vS]) [.v (.ref x), .d M.dt, .d st.dt, .u, .u] := slots_start ["self", "making", "stand", "hand", "box"] (.cons (s := .v (.ref x)) (show V.ref _ = V.ref _ from rfl) (.cons (s := .d M.dt) hvM (.cons (s := .d st.dt) hvS .nil)))
  refine ⟨_, (pss_cons (ps_fld (pv 0) (pv 1) rfl)
      (pss_cons (ps_fld (pv 0) (pe_lc (own := [("hand", 3)]) (g := (gName 3)) (tt := tYes) (te := (tCB (rLstOf K) (tCons (tVar 3) tNil))) rfl sc_Work_init.nd (pi_tup (pe_ix ix_seq (pv 2) pe_int (fun _ _ => rfl))) (blkOk_by (by kernel_rfl)) (fun _ _ _ _ _ => (pg_name (i := 3) sc_Work_init.nd rfl (Or.inl rfl))) (fun _ _ _ _ _ => pts_nil) (fun _ _ _ _ _ => (pe_callTy call_list_of (by rfl) T.b_list (by decide +kernel) (pa_cons (pv 3) pa_nil)))) rfl)
      (pss_cons (ps_fld (pv 0) (pe_lc (own := [("box", 4)]) (g := (gName 4)) (tt := tYes) (te := (tCB (rLstOf K) (tCons (tVar 4) tNil))) rfl sc_Work_init.nd (pi_tup (pe_ix ix_seq (pv 2) pe_int (fun _ _ => rfl))) (blkOk_by (by kernel_rfl)) (fun _ _ _ _ _ => (pg_name (i := 4) sc_Work_init.nd rfl (Or.inl rfl))) (fun _ _ _ _ _ => pts_nil) (fun _ _ _ _ _ => (pe_callTy call_list_of (by rfl) T.b_list (by decide +kernel) (pa_cons (pv 4) pa_nil)))) rfl)
      (pss_cons (ps_fld (pv 0) (pe_ix ix_seq (pv 2) pe_int (fun _ _ => rfl)) rfl)
      (pss_cons (ps_fld (pv 0) (pe_call (ok_box_places T) (hr.mono (by decide)) (by rfl) T.box_places.m T.box_places.F.kp T.box_places.b .nil pass0 (pa_cons (pv 1) pa_nil)) rfl)
      (pss_cons (ps_fld (pv 0) pe_dnewX rfl)
      (pss_cons (ps_fld (pv 0) (pe_lst pa_nil) rfl)
      (pss_one (ps_fld (pv 0) pe_non rfl))))))))), ?_⟩
  -- making
  refine s_fldI (fun v H1 => Same H H1 ∧ Nd H1 v M.dt) hs hx (show (0 : Nat) < 1000 by decide) T.cl_Work T.n_Work_making (fun _ _ h => h.1) (fun Q q => (ed_var hs : Ed (tVar 1) _ _ (.d M.dt)) H (.refl _) _ fun v H1 e h => q v H1 ⟨e, h⟩) fun v1 K1 G1 ⟨_, n1⟩ a1 m1 s1 x1 hs1 => ?_
  have g1 := s1 H0 hsm hx0
  have n1 := n1.tx a1.tx
  have x1 : G1 x = some (.ins T.C_Work dx [("making", v1)]) := x1
  refine nx_of (X := tSeq _ _ _) ?_
  -- hands
  refine s_fldI (fun v H1 => ∃ p as, v = .ref p ∧ G1 p = none ∧ Nl G1 p as (st.hs.map HS.dts) H1) hs1 x1 (show (1 : Nat) < 1000 by decide) T.cl_Work T.n_Work_hands (fun _ _ ⟨_, _, _, _, N⟩ => N.same)
    (fun Q q => el_lcNew (vs := [3]) HS.dt st.hs hs1 HS.dts (ed_ix (k := .tup (st.hs.map HS.dt)) (ed_var hs1) ed_int rfl) (by omega) (fun a => [.v (.ref x), .d M.dt, .d st.dt, .d a.dt, .u]) (fun a _ => tg_name (K := K) (by simp)) (fun a _ σ2 H2 e2 hs2 => el_list (ed_var hs2)) (.refl _) fun p as H2 hp N => q _ _ ⟨p, as, rfl, hp, N⟩) fun v2 K2 G2 ⟨hlp, has, hv2, hp2, N2⟩ a2 m2 s2 x2 hs2 => ?_
  subst hv2
  have g2 := s2 H0 g1 hx0
  have n1 := n1.tx m2.tx
  have L2 := N2.ls.mv a2 (ne_of x1 hp2) (fun z => by have := N2.fr x z; rw [x1] at this; cases this)
  have f2 : ∀ a ∈ has, H0 a = none := fun a ha => same_back g1 (N2.fr a ha)
  have y2 : x ∉ has := fun z => by have := N2.fr x z; rw [x1] at this; cases this
  have z2 := ne_of x1 hp2
  have x2 : G2 x = some (.ins T.C_Work dx [("making", v1), ("hands", .ref hlp)]) := x2
  refine nx_of (X := tSeq _ _ _) ?_
  -- boxes
  refine s_fldI (fun v H1 => ∃ p as, v = .ref p ∧ G2 p = none ∧ Nl G2 p as (st.bs.map BS.dts) H1) hs2 x2 (show (2 : Nat) < 1000 by decide) T.cl_Work T.n_Work_boxes (fun _ _ ⟨_, _, _, _, N⟩ => N.same)
    (fun Q q => el_lcNew (vs := [4]) BS.dt st.bs hs2 BS.dts (ed_ix (k := .tup (st.bs.map BS.dt)) (ed_var hs2) ed_int rfl) (by omega) (fun a => [.v (.ref x), .d M.dt, .d st.dt, .u, .d a.dt]) (fun a _ => tg_name (K := K) (by simp)) (fun a _ σ2 H2 e2 hs2 => el_list (ed_var hs2)) (.refl _) fun p as H2 hp N => q _ _ ⟨p, as, rfl, hp, N⟩) fun v3 K3 G3 ⟨blp, bas, hv3, hp3, N3⟩ a3 m3 s3 x3 hs3 => ?_
  subst hv3
  have g3 := s3 H0 g2 hx0
  have n1 := n1.tx m3.tx
  have L2 := L2.mv m3 z2 y2
  have z3 := ne_of x2 hp3
  have y3 : x ∉ bas := fun z => by have := N3.fr x z; rw [x2] at this; cases this
  have L3 := N3.ls.mv a3 z3 y3
  have f3 : ∀ a ∈ bas, H0 a = none := fun a ha => same_back g2 (N3.fr a ha)
  have x3 : G3 x = some (.ins T.C_Work dx [("making", v1), ("hands", .ref hlp), ("boxes", .ref blp)]) := x3
  refine nx_of (X := tSeq _ _ _) ?_
  -- claim
  refine s_fldI (fun v H1 => Same G3 H1 ∧ Nd H1 v st.cl.dt) hs3 x3 (show (3 : Nat) < 1000 by decide) T.cl_Work T.n_Work_claim (fun _ _ h => h.1)
    (fun Q q => (ed_ix (K := K) (k := st.cl.dt) (ed_var hs3 : Ed (tVar 2) _ _ (.d st.dt)) (ed_int (i := 2)) rfl) G3 (.refl _) _ fun v H1 e h => q v H1 ⟨e, h⟩) fun v4 K4 G4 ⟨_, n4⟩ a4 m4 s4 x4 hs4 => ?_
  have g4 := s4 H0 g3 hx0
  have n1 := n1.tx m4.tx
  have n4 := n4.tx a4.tx
  have L2 := L2.mv m4 z2 y2
  have L3 := L3.mv m4 z3 y3
  have x4 : G4 x = some (.ins T.C_Work dx [("making", v1), ("hands", .ref hlp), ("boxes", .ref blp), ("claim", v4)]) := x4
  refine nx_of (X := tSeq _ _ _) ?_
  -- places
  refine s_fldI (fun v H1 => ∃ p, v = .ref p ∧ G4 p = none ∧ Same G4 H1 ∧ H1 p = some (.dK (places M))) hs4 x4 (show (4 : Nat) < 1000 by decide) T.cl_Work T.n_Work_places (fun _ _ ⟨_, _, _, h, _⟩ => h)
    (fun Q q => (ea_cons (ed_var hs4 : Ed (tVar 1) _ _ (.d M.dt)) ea_nil) G4 (.refl _) _ fun vs H1 e1 h1 => by
      cases h1 with
      | cons r t =>
        cases t
        exact ⟨_, M, rfl, hM, r, fun p H' H'' hp e2 hH hp' => q _ _ ⟨p, rfl, same_back e1 hp, (e1.trans e2).trans (by rw [hH]; exact same_new hp'), by rw [hH]; exact upd_same⟩⟩) fun v5 K5 G5 ⟨pdp, hv5, hp5, _, d5⟩ a5 m5 s5 x5 hs5 => ?_
  subst hv5
  have g5 := s5 H0 g4 hx0
  have n1 := n1.tx m5.tx
  have n4 := n4.tx m5.tx
  have L2 := L2.mv m5 z2 y2
  have L3 := L3.mv m5 z3 y3
  have z5 := ne_of x4 hp5
  have d5 := a5.k _ _ z5 d5
  have x5 : G5 x = some (.ins T.C_Work dx [("making", v1), ("hands", .ref hlp), ("boxes", .ref blp), ("claim", v4), ("places", .ref pdp)]) := x5
  refine nx_of (X := tSeq _ _ _) ?_
  -- names
  refine s_fldI (fun v H1 => ∃ p, v = .ref p ∧ G5 p = none ∧ Same G5 H1 ∧ H1 p = some (.dK [])) hs5 x5 (show (5 : Nat) < 1000 by decide) T.cl_Work T.n_Work_names (fun _ _ ⟨_, _, _, h, _⟩ => h)
    (fun Q q => .inr fun p hp => q _ _ ⟨p, rfl, hp, same_new hp, upd_same⟩) fun v6 K6 G6 ⟨ndp, hv6, hp6, _, d6⟩ a6 m6 s6 x6 hs6 => ?_
  subst hv6
  have g6 := s6 H0 g5 hx0
  have n1 := n1.tx m6.tx
  have n4 := n4.tx m6.tx
  have L2 := L2.mv m6 z2 y2
  have L3 := L3.mv m6 z3 y3
  have ne3 : ndp ≠ pdp := Ne.symm (ne_of_none d5 hp6)
  have d5 := m6.k _ _ z5 d5
  have z6 := ne_of x5 hp6
  have d6 := a6.k _ _ z6 d6
  have x6 : G6 x = some (.ins T.C_Work dx [("making", v1), ("hands", .ref hlp), ("boxes", .ref blp), ("claim", v4), ("places", .ref pdp), ("names", .ref ndp)]) := x6
  refine nx_of (X := tSeq _ _ _) ?_
  -- events
  refine s_fldI (fun v H1 => ∃ p, v = .ref p ∧ G6 p = none ∧ Same G6 H1 ∧ H1 p = some (.lst [])) hs6 x6 (show (6 : Nat) < 1000 by decide) T.cl_Work T.n_Work_events (fun _ _ ⟨_, _, _, h, _⟩ => h)
    (fun Q q => (el_lst [] ea_nil (by simp)) G6 (.refl _) _ fun p xs H1 ks hp e h1 h2 hk => q _ _ ⟨p, rfl, hp, e, by
      subst hk
      cases h2
      exact h1⟩) fun v7 K7 G7 ⟨evp, hv7, hp7, _, d7⟩ a7 m7 s7 x7 hs7 => ?_
  subst hv7
  have g7 := s7 H0 g6 hx0
  have n1 := n1.tx m7.tx
  have n4 := n4.tx m7.tx
  have ne1 : evp ≠ hlp := Ne.symm (ne_of_none L2.at_ hp7)
  have ne2 : evp ≠ blp := Ne.symm (ne_of_none L3.at_ hp7)
  have L2 := L2.mv m7 z2 y2
  have L3 := L3.mv m7 z3 y3
  have d5 := m7.k _ _ z5 d5
  have d6 := m7.k _ _ z6 d6
  have z7 := ne_of x6 hp7
  have d7 := a7.k _ _ z7 d7
  have x7 : G7 x = some (.ins T.C_Work dx [("making", v1), ("hands", .ref hlp), ("boxes", .ref blp), ("claim", v4), ("places", .ref pdp), ("names", .ref ndp), ("events", .ref evp)]) := x7
  refine nx_of (X := sFld K (tVar 0) (tC .non) "broken" _) ?_
  -- broken
  refine s_fldI (fun v H1 => v = .non ∧ Same G7 H1) hs7 x7 (show (7 : Nat) < 1000 by decide) T.cl_Work T.n_Work_broken (fun _ _ h => h.2) (fun Q q => q _ _ ⟨rfl, .refl _⟩) fun v8 K8 G8 ⟨hv8, _⟩ a8 m8 s8 x8 hs8 => ?_
  subst hv8
  have g8 := s8 H0 g7 hx0
  have L2 := L2.mv m8 z2 y2
  have L3 := L3.mv m8 z3 y3
  refine q ⟨x, hlp, blp, evp, ndp, pdp, has, bas⟩ G8 rfl ⟨g8, hx0, same_back g6 hp7, same_back g5 hp6, f2, f3, ⟨dx, v1, v4, .non, x8, n1.tx m8.tx, n4.tx m8.tx, .non⟩, L2.at_, L3.at_, by rw [L2.len, List.length_map], by rw [L3.len, List.length_map], fun i a h h1 h2 => ?_, fun i a h h1 h2 => ?_, L2.nd, L3.nd, m8.k _ _ z5 d5, ⟨[], m8.k _ _ z6 d6, .nil, fun y hy => by cases hy⟩, ⟨[], [], m8.k _ _ z7 d7, .nil, Nat.le_refl _, fun e he => by cases he⟩, ne1, ne2, ne3⟩
  · exact L2.it i a _ h1 (by rw [List.getElem?_map, h2]; rfl)
  · exact L3.it i a _ h1 (by rw [List.getElem?_map, h2]; rfl)
end
end SB

set_option maxRecDepth 100000
set_option maxHeartbeats 8000000
/-! Work.stand, stepped. -/
namespace SB
open PySem L2 PyProof.Rows
section
variable {K : PySem.W.Frag} {σ : L2.St} {H : Hp} {te tx ta tb : TE} {ss : List SV} {ks : List Dt} {k : Dt}
/-- over a list whose items are told by their places -/
theorem el_lcV {vs : List Nat} {n : Nat} {p : Addr} {xs : List V} {out : List Dt} (hs : Slots H σ ss) (h : Ed te σ H (.v (.ref p))) (hp : H p = some (.lst xs)) (hl : xs.length = out.length) (hz : out.length < 50000) (hn : n ∈ vs)
    (he : ∀ (i : Nat) (v : V) (k : Dt), xs[i]? = some v → out[i]? = some k → ∀ σ2 H2, Same H H2 → Slots H2 σ2 ((wipeS ss vs).set n (.v v)) → Ed tx σ2 H2 (.d k)) : El (tLc (iList K te) (gName n) tYes tx vs) σ H (· = out) := fun H0 e0 Q q => h H0 e0 _ fun v H1 e h1 => by
  cases h1
  have h4 := (e0.trans e) _ _ hp
  refine ⟨p, rfl, ⟨xs, SqL.of h4⟩, fun Dl hD => lc_list (K := K) (a := p) (xs := xs) (fun i H' => Cw H1 Dl (out.take i) H') ⟨same_new hD, [], upd_same, .nil⟩ (fun i H' _ c => SqL.of (c.1 _ _ h4)) (fun i x H' hi c => ?_) (fun H' c => ?_)⟩
  · have hi' : i < out.length := by rw [← hl]; exact (List.getElem?_eq_some_iff.mp hi).1
    have hk := List.getElem?_eq_getElem hi'
    have e1 := (e0.trans e).trans c.1
    refine ⟨by rw [wipe_set hn]; exact wipe_wipe _ _, ?_⟩
    have hs2 : Slots H' ((wipe σ vs).set n (some x)) ((wipeS ss vs).set n (.v x)) := ((hs.wipe vs).up e1).set (s := .v x) rfl n
    have := cw_turn (t := tYes) (te := tx) (σ2 := (wipe σ vs).set n (some x)) (f := true) (kv := out[i]) hD c (Nat.lt_of_le_of_lt (List.length_take_le _ _) (by omega)) eb_yes (fun _ => he i x _ hi hk _ _ e1 hs2)
    rw [take_succ hk]
    exact this
  · rw [hl, List.take_length] at c
    obtain ⟨c1, ys, c2, c3⟩ := c
    exact q Dl ys H' _ (same_back e hD) (e.trans c1) c2 c3 rfl
theorem eb_isi {n : String} {t : Value} {b : Bool} (ha : Ed ta σ H (.d k)) (ht : ∀ H v, Nd H v k → TyX K H v t) (hk : PySem.W.kitOne K t (.type n) = some b) : Ed (tCB (rIsi K) (tCons ta (tCons (tC (.ty n)) tNil))) σ H (.v (.bl b)) := fun H1 e Q q =>
  ha H1 e _ fun v H2 e2 h2 => ⟨v, .ty n, t, .type n, b, rfl, .ty n, ht H2 v h2, hk, q _ H2 e2 rfl⟩
theorem ty_tup {H : Hp} {v : V} {ks : List Dt} (h : Nd H v (.tup ks)) : TyX K H v (.type "tuple") := by
  obtain ⟨a, xs, rfl, h4, _⟩ := h.tup_inv
  exact .base (.tup h4)
theorem ty_text {H : Hp} {v : V} {x : Str} (h : Nd H v (.text x)) : TyX K H v (.type "str") := by
  cases h
  exact .base (.str _)
theorem ty_num {H : Hp} {v : V} {x : Int} (h : Nd H v (.num x)) : TyX K H v (.type "int") := by
  cases h
  exact .base (.int _)
theorem ed_index {names : List Str} {x : Str} {j : Nat} (h : El te σ H (· = txts names)) (ha : Ed ta σ H (.d (.text x))) (hj : names[j]? = some x) (hm : ∀ m, m < j → names[m]? ≠ some x) : Ed (tBM K "list" (rIndex K) te (tCons ta tNil)) σ H (.d (.num (j : Int))) := fun H1 e Q q =>
  h H1 e _ fun p xs H2 ks hp e2 h1 h2 hk => ⟨.inl ⟨rfl, _, SqL.of h1⟩, ha H2 (e.trans e2) _ fun v H3 e3 h3 => by
    subst hk
    have := NdAll.strs _ _ h2
    subst this
    cases h3
    refine ⟨p, _, .str x, j, .str x, rfl, rfl, SqL.of (e3 _ _ h1), rfl, ?_, by rw [List.getElem?_map, hj]; rfl, by simp [eqV], fun m y hm' hy => ?_, q _ H3 (e2.trans e3) (.int _)⟩
    · exact List.all_eq_true.mpr fun y hy => by obtain ⟨u, _, rfl⟩ := List.mem_map.mp hy; rfl
    · rw [List.getElem?_map] at hy
      cases hu : names[m]? with
      | none => rw [hu] at hy; cases hy
      | some u =>
        rw [hu] at hy
        have hy : V.str u = y := Option.some.inj hy
        have : u ≠ x := fun e => hm m hm' (by rw [hu, e])
        rw [← hy]
        simp [eqV, this]⟩
theorem dp_listE {p : Addr} {xs : List V} (hp : H p = some (.lst xs)) (hn : NdAll H xs ks) : Dp K H (.ref p) (.list (NestedKey.datas ks)) := .lst (SqL.of hp) (NdAll.dp ks xs hn)
theorem any_datas (k : Dt) : ∀ ks : List Dt, ((NestedKey.datas ks).any fun z => PyData.eqv z k.data) = decide (k ∈ ks)
  | [] => by simp [NestedKey.datas]
  | j :: ks => by
    show (PyData.eqv j.data k.data || (NestedKey.datas ks).any fun z => PyData.eqv z k.data) = _
    rw [any_datas k ks, eqv_data, beq_dec]
    by_cases e : j = k
    · subst e; simp
    · have e' : ¬ k = j := fun z => e z.symm
      simp [e, e']
theorem eb_notInL {P : Program} {w : World} (ha : Ed ta σ H (.d k)) (hb : El tb σ H (· = ks)) (o1 : okT k = true) (o2 : okTs ks = true) (d1 : k.depth ≤ 60) (d2 : NestedKey.depthAll ks ≤ 60) : Ed (tOp (rNotInA P w K) ta tb) σ H (.v (.bl (!decide (k ∈ ks)))) := fun H1 e Q q =>
  ha H1 e _ fun v H2 e2 h2 => hb H2 (e.trans e2) _ fun p xs H3 ks' hp e3 h3 h4 hk => by
    subst hk
    exact .inr ⟨k.data, _, Nd.dp k v (h2.up e3), dp_listE h3 h4, shaped_data o1 d1, shaped_list o2 d2, q _ H3 (e2.trans e3) (by show V.bl _ = V.bl _; rw [any_datas])⟩
end
section
variable {P : Program} {w : World} {K : PySem.W.Frag} {mg : Str → Option Value} {base : Heap}
theorem map_getV {l : List Addr} {i : Nat} {v : V} (h : (l.map V.ref)[i]? = some v) : ∃ a, l[i]? = some a ∧ v = .ref a := by
  rw [List.getElem?_map] at h
  cases e : l[i]? with
  | none => rw [e] at h; cases h
  | some a => rw [e] at h; exact ⟨a, rfl, (Option.some.inj h).symm⟩
def spStand (C : Addr) : Sp := fun vs H Q _ => ∃ (M : Mk) (H0 : Hp) (A : WA) (s : Sd) (br : Dt) (n : Nat), s.hs.length ≤ 100 ∧ s.bs.length ≤ 100 ∧ vs = [.ref A.w] ∧ WorkAt C M H0 H A s br n ∧ ∀ v H', Same H H' → Nd H' v s.dt → Q v H'
theorem ok_Work_stand (T : Txt K mg) : FnOk P w K mg base CX0 1 T.Work_stand.a T.Work_stand.d ["self"] (spStand T.C_Work) := by
  refine fun_okC T.Work_stand.F sc_Work_stand (fun vs H Q E h => ?_) (fun cdv A outer s H vs Q E hcd hr h => ?_)
  · obtain ⟨_, _, _, _, _, _, _, _, e, _⟩ := h
    rw [e]; rfl
  obtain ⟨M, H0, A', st, br, n, l1, l2, rfl, W, q⟩ := h
  have hs : Slots H (L2.start ["self", "hand", "box"] [.ref A'.w]) [.v (.ref A'.w), .u, .u] := slots_start ["self", "hand", "box"] (.cons (s := .v (.ref A'.w)) (show V.ref _ = V.ref _ from rfl) .nil)
  obtain ⟨dx, vm, vc, vb, o1, o2, o3, o4⟩ := W.ob
  refine ⟨_, (pss_one (ps_ret (pe_tup (pa_cons (pe_callTy call_tuple_of (by rfl) T.b_tuple (by decide +kernel) (pa_cons (pe_lc (own := [("hand", 1)]) (g := (gName 1)) (tt := tYes) (te := (tCB (rTupOf K) (tCons (tVar 1) tNil))) rfl sc_Work_stand.nd (pi_list (pe_fld (pv 0) rfl)) (blkOk_by (by kernel_rfl)) (fun _ _ _ _ _ => (pg_name (i := 1) sc_Work_stand.nd rfl (Or.inl rfl))) (fun _ _ _ _ _ => pts_nil) (fun _ _ _ _ _ => (pe_callTy call_tuple_of (by rfl) T.b_tuple (by decide +kernel) (pa_cons (pv 1) pa_nil)))) pa_nil)) (pa_cons (pe_callTy call_tuple_of (by rfl) T.b_tuple (by decide +kernel) (pa_cons (pe_lc (own := [("box", 2)]) (g := (gName 2)) (tt := tYes) (te := (tCB (rTupOf K) (tCons (tVar 2) tNil))) rfl sc_Work_stand.nd (pi_list (pe_fld (pv 0) rfl)) (blkOk_by (by kernel_rfl)) (fun _ _ _ _ _ => (pg_name (i := 2) sc_Work_stand.nd rfl (Or.inl rfl))) (fun _ _ _ _ _ => pts_nil) (fun _ _ _ _ _ => (pe_callTy call_tuple_of (by rfl) T.b_tuple (by decide +kernel) (pa_cons (pv 2) pa_nil)))) pa_nil)) (pa_cons (pe_fld (pv 0) rfl) pa_nil)))))), ?_⟩
  refine s_retD (s := .d st.dt) (ed_tup [.tup (st.hs.map HS.dt), .tup (st.bs.map BS.dt), st.cl.dt]
    (ea_cons (Ev.ed (Ev.imp (ev_tupOf (el_lcV (vs := [1]) (n := 1) (out := st.hs.map HS.dt) hs (ed_fld (ev_var hs) o1 T.cl_Work T.n_Work_hands wf_hands) W.hl (by rw [List.length_map, List.length_map, W.hn]) (by rw [List.length_map]; omega) (by simp) (fun i v k hi hk σ2 H2 e2 hs2 => ?_))) (fun k ⟨ks, h1, h2⟩ => by rw [h2, h1])))
    (ea_cons (Ev.ed (Ev.imp (ev_tupOf (el_lcV (vs := [2]) (n := 2) (out := st.bs.map BS.dt) hs (ed_fld (ev_var hs) o1 T.cl_Work T.n_Work_boxes wf_boxes) W.bl (by rw [List.length_map, List.length_map, W.bn]) (by rw [List.length_map]; omega) (by simp) (fun i v k hi hk σ2 H2 e2 hs2 => ?_))) (fun k ⟨ks, h1, h2⟩ => by rw [h2, h1])))
    (ea_cons ((ed_fld (ev_var hs) o1 T.cl_Work T.n_Work_claim wf_claim).vd o3) ea_nil))) (show (3 : Nat) ≤ 100000 by decide)) fun v H1 e h1 => q v H1 e h1
  · obtain ⟨a, ha, rfl⟩ := map_getV hi
    obtain ⟨h, hh, rfl⟩ := map_get hk
    obtain ⟨xs, h3, h4⟩ := W.hs i a h ha hh
    exact ed_tupL (ks := h.dts) (ev_var hs2) (e2 _ _ h3) (h4.up e2)
  · obtain ⟨a, ha, rfl⟩ := map_getV hi
    obtain ⟨h, hh, rfl⟩ := map_get hk
    obtain ⟨xs, h3, h4⟩ := W.bs i a h ha hh
    exact ed_tupL (ks := h.dts) (ev_var hs2) (e2 _ _ h3) (h4.up e2)
theorem ed_stand {C : Addr} {M : Mk} {H0 H : Hp} {A : WA} {s : Sd} {br : Dt} {n : Nat} {σ : L2.St} {ta : TE} {E : XK} (W : WorkAt C M H0 H A s br n) (l1 : s.hs.length ≤ 100) (l2 : s.bs.length ≤ 100) (ha : Ed ta σ H (.v (.ref A.w))) : Ed (tMeth C "stand" (spStand C) [] E ta tNil) σ H (.d s.dt) := fun H1 e Q q =>
  ha H1 e _ fun v H2 e2 h2 => by
    cases h2
    have W2 := W.up (e.trans e2)
    obtain ⟨dx, vm, vc, vb, o1, o2, o3, o4⟩ := W2.ob
    exact ⟨A.w, dx, _, rfl, o1, rfl, M, H0, A, s, br, n, l1, l2, rfl, W2, fun v H3 e3 h3 => q v H3 (e2.trans e3) h3⟩
theorem ed_anyL {σ : L2.St} {H : Hp} {te : TE} {R : List Dt → Prop} (h : El te σ H R) : Ed te σ H .u := fun H1 e Q q => h H1 e _ fun p xs H2 ks hp e2 h1 h2 hk => q _ H2 e2 trivial
def NmOk (M : Mk) : Prop := ∀ d ∈ M.hds, PyData.strOk d.nm = true
theorem okT_step {d : Hn} {p : Int} (h : PyData.strOk d.nm = true) : okT (stepD d p) = true := by
  show (PyData.strOk d.nm && (true && true)) = true
  rw [h]; rfl
theorem depth_step {d : Hn} {p : Int} : (stepD d p).depth ≤ 1 := by
  show NestedKey.depth (.tup [.text d.nm, .num p]) ≤ 1
  simp [NestedKey.depth, NestedKey.depthAll]
theorem ok_steps {M : Mk} {s : Sd} (N : NmOk M) : okTs (stepsD M s) = true := okTs_of fun k hk => by
  obtain ⟨i, d, p, hd, _, rfl⟩ := mem_steps.mp hk
  exact okT_step (N d (List.mem_of_getElem? hd))
theorem depth_steps {M : Mk} {s : Sd} : NestedKey.depthAll (stepsD M s) ≤ 60 := depthAll_le fun k hk => by
  obtain ⟨i, d, p, hd, _, rfl⟩ := mem_steps.mp hk
  exact Nat.le_trans depth_step (by decide)
theorem nm_first {M : Mk} (O : MkOk M) {k : Nat} {d : Hn} (hd : M.hds[k]? = some d) : (M.hds.map Hn.nm)[k]? = some d.nm ∧ ∀ m, m < k → (M.hds.map Hn.nm)[m]? ≠ some d.nm := by
  have h1 : (M.hds.map Hn.nm)[k]? = some d.nm := by rw [List.getElem?_map, hd]; rfl
  exact ⟨h1, fun m hm h2 => absurd (nodup_get O.hn h2 h1) (by omega)⟩
/-- a triple whose last is a list -/
theorem c_tup3 {σ : L2.St} {H : Hp} {ta tb tc : TE} {s1 s2 s3 : SV} {Q : VK} (h : Ea (tCons ta (tCons tb (tCons tc tNil))) σ H [s1, s2, s3]) (q : ∀ t a b c H', Same H H' → H' t = some (.tup [a, b, c]) → Sv H' a s1 → Sv H' b s2 → Sv H' c s3 → Q (.ref t) H') : tTup (tCons ta (tCons tb (tCons tc tNil))) σ H Q :=
  h H (.refl H) _ fun vs H2 e2 h2 => by
    cases h2 with
    | cons r1 t1 => cases t1 with
      | cons r2 t2 => cases t2 with
        | cons r3 t3 =>
          cases t3
          refine ⟨size_ok (by show 3 ≤ 100000; decide), fun p hp => q p _ _ _ _ (e2.trans (same_new hp)) upd_same ?_ ?_ ?_⟩
          · exact r1.tx (tx_of (same_new hp))
          · exact r2.tx (tx_of (same_new hp))
          · exact r3.tx (tx_of (same_new hp))
def spStepped : Sp := fun vs H Q _ => ∃ (M : Mk) (s : Sd) (k : Nat) (d : Hn) (pick : Int) (vM vS vT : V), MkOk M ∧ NmOk M ∧ SdOk M s ∧ M.hds[k]? = some d ∧ MayStep M s k pick ∧ vs = [vM, vS, vT] ∧ Nd H vM M.dt ∧ Nd H vS s.dt ∧ Nd H vT (stepD d pick) ∧
  ∀ t a b c H' o, Same H H' → H' t = some (.tup [a, b, c]) → StepR M s k pick o → (o = none → ∃ kb, kb ≠ .none ∧ Nd H' b kb) → (∀ s', o = some s' → Nd H' a s'.dt ∧ b = .non) → Q (.ref t) H'
theorem ok_stepped (T : Txt K mg) : FnOk P w K mg base CX0 12 T.stepped.a T.stepped.d ["making", "stand", "step"] (spStepped) := by
  refine fun_okC T.stepped.F sc_stepped (fun vs H Q E h => ?_) (fun cdv A outer s H vs Q E hcd hr h => ?_)
  · obtain ⟨_, _, _, _, _, _, _, _, _, _, _, _, _, e, _⟩ := h
    rw [e]; rfl
  obtain ⟨M, st, k, d, pick, vM, vS, vT, hM, hNm, hS, hd, hmay, rfl, hvM, hvS, hvT, q⟩ := h
  have hs : Slots H (L2.start ["making", "stand", "step", "work", "hand"] [vM, vS, vT]) [.d M.dt, .d st.dt, .d (stepD d pick), .u, .u] := slots_start ["making", "stand", "step", "work", "hand"] (.cons (s := .d M.dt) hvM (.cons (s := .d st.dt) hvS (.cons (s := .d (stepD d pick)) hvT .nil)))
  have hstep : ∀ {σ : L2.St} {H : Hp} {te : TE}, Ed te σ H (.d (stepD d pick)) → Ed te σ H (.d (.tup [.text d.nm, .num pick])) := fun h => h
  refine ⟨_, (pss_cons (ps_if (PW.pt (pw_or (pt_not (pt_val (pe_callB call_isi (by rfl) T.b_isinstance (by decide +kernel) (pa_cons (pv 2) (pa_cons (pe_bltn (v := .ty "tuple") (by rfl) T.b_tuple (by decide +kernel) rfl) pa_nil))))) (pw_or (pt_cmpR (op_neX hr.units) (pe_callB call_len (by rfl) T.b_len PySem.boot_len (pa_cons (pv 2) pa_nil)) pe_int (nomark _)) (pw_or1 (pt_not (pt_val (pe_callB call_isi (by rfl) T.b_isinstance (by decide +kernel) (pa_cons (pe_ix ix_seq (pv 2) pe_int (fun _ _ => rfl)) (pa_cons (pe_bltn (v := .ty "str") (by rfl) T.b_str (by decide +kernel) rfl) pa_nil))))))))) (pss_one ps_never) pss_nil)
      (pss_cons (ps_if (PW.pt (pw_or (pt_val (pe_callB call_isi (by rfl) T.b_isinstance (by decide +kernel) (pa_cons (pe_ix ix_seq (pv 2) pe_int (fun _ _ => rfl)) (pa_cons (pe_bltn (v := .ty "bool") (by rfl) T.b_bool (by decide +kernel) rfl) pa_nil)))) (pw_or (pt_not (pt_val (pe_callB call_isi (by rfl) T.b_isinstance (by decide +kernel) (pa_cons (pe_ix ix_seq (pv 2) pe_int (fun _ _ => rfl)) (pa_cons (pe_bltn (v := .ty "int") (by rfl) T.b_int (by decide +kernel) rfl) pa_nil))))) (pw_or1 (pt_cmpR (op_notInX hr) (pv 2) (pe_call (ok_steps_of T) (hr.mono (by decide)) (by rfl) T.steps_of.m T.steps_of.F.kp T.steps_of.b .nil pass0 (pa_cons (pv 0) (pa_cons (pv 1) pa_nil))) (by rfl)))))) (pss_one ps_never) pss_nil)
      (pss_cons (ps_set (i := 3) sc_stepped.nd rfl (Or.inl rfl) (pe_make T.mk_Work (ok_Work_init T) (hr.mono (by decide)) (by rfl) T.g_Work T.Work_init.b .nil pass0 (pa_cons (pv 0) (pa_cons (pv 1) pa_nil))))
      (pss_cons (ps_expr (pe_meth (pv 3) T.cl_Work T.Work_step.m (ok_Work_step T) (hr.mono (by decide)) T.Work_step.b .nil pass0 (pa_cons (pe_bm PySem.F.plainAttrs_list PySem.F.slot_list_index PySem.F.type_list_index mt_index (pe_lc (own := [("hand", 4)]) (g := (gName 4)) (tt := tYes) (te := (tOp (rIx K) (tVar 4) (tC (.int 0)))) rfl sc_stepped.nd (pi_tup (pe_ix ix_seq (pv 0) pe_int (fun _ _ => rfl))) (blkOk_by (by kernel_rfl)) (fun _ _ _ _ _ => (pg_name (i := 4) sc_stepped.nd rfl (Or.inl rfl))) (fun _ _ _ _ _ => pts_nil) (fun _ _ _ _ _ => (pe_ix ix_seq (pv 4) pe_int (fun _ _ => rfl)))) (pa_cons (pe_ix ix_seq (pv 2) pe_int (fun _ _ => rfl)) pa_nil)) (pa_cons (pe_ix ix_seq (pv 2) pe_int (fun _ _ => rfl)) pa_nil))))
      (pss_cons (ps_if (pt_cmp (pc_notN (pe_fld (pv 3) rfl))) (pss_one (ps_ret (pe_tup (pa_cons pe_non (pa_cons (pe_fld (pv 3) rfl) (pa_cons (pe_callTy call_list_of (by rfl) T.b_list (by decide +kernel) (pa_cons (pe_fld (pv 3) rfl) pa_nil)) pa_nil)))))) pss_nil)
      (pss_one (ps_ret (pe_tup (pa_cons (pe_meth0 (pv 3) T.cl_Work T.Work_stand.m (ok_Work_stand T) (hr.mono (by decide)) T.Work_stand.b .nil pass0) (pa_cons pe_non (pa_cons (pe_callTy call_list_of (by rfl) T.b_list (by decide +kernel) (pa_cons (pe_fld (pv 3) rfl) pa_nil)) pa_nil))))))))))), ?_⟩
  refine s_if (et_or (et_not (et_test (eb_isi (b := true) (hstep (ed_var hs)) (fun _ _ h => ty_tup h) (kit_ty (by decide +kernel))))) (fun _ => et_or (et_test (eb_ne (ed_len (hstep (ed_var hs))) ed_int)) (fun _ => et_not (et_test (eb_isi (b := true) (k := .text d.nm) (ed_ix (hstep (ed_var hs)) ed_int rfl) (fun _ _ h => ty_text h) (kit_ty (by decide +kernel))))))) (fun c => absurd c (show ¬ (!true || (!decide (NestedKey.num 2 = NestedKey.num 2) || !true)) = true by rw [decide_eq_true rfl]; decide)) (fun _ H1 e1 => ?_)
  have hs1 := hs.up e1
  have hmem : stepD d pick ∈ stepsD M st := mem_steps.mpr ⟨k, d, pick, hd, hmay, rfl⟩
  refine nx_of (X := tSeq _ _ _) ?_
  refine s_if (et_or (et_test (eb_isi (b := false) (k := .num pick) (ed_ix (hstep (ed_var hs1)) ed_int rfl) (fun _ _ h => ty_num h) (kit_ty (by decide +kernel)))) (fun _ => et_or (et_not (et_test (eb_isi (b := true) (k := .num pick) (ed_ix (hstep (ed_var hs1)) ed_int rfl) (fun _ _ h => ty_num h) (kit_ty (by decide +kernel))))) (fun _ => et_test (eb_notInL (P := P) (w := w) (ed_var hs1) (el_call (ea_cons (ed_var hs1) (ea_cons (ed_var hs1) ea_nil)) ⟨M, st, hM, hS, rfl, rfl⟩) (okT_step (hNm d (List.mem_of_getElem? hd))) (ok_steps hNm) (Nat.le_trans depth_step (by decide)) depth_steps)))) (fun c => absurd c (by rw [decide_eq_true hmem]; decide)) (fun _ H2 e2 => ?_)
  have hs2 := hs1.up e2
  refine nx_of (X := tSeq _ _ _) ?_
  -- work = Work(making, stand)
  refine sq_asg ?_
  refine (ea_cons (ed_var hs2) (ea_cons (ed_var hs2) ea_nil) : Ea (tCons (tVar 0) (tCons (tVar 1) tNil)) _ H2 [.d M.dt, .d st.dt]) H2 (.refl _) _ fun vs H3 e3 hv => ?_
  cases hv with
  | cons r1 t1 => cases t1 with
    | cons r2 t2 =>
      cases t2
      intro x dx hx0 hd0 hdx
      have en1 : Same H3 (upd H3 dx (.own x)) := same_new hd0
      have en : Same H3 (upd (upd H3 dx (.own x)) x (.ins T.C_Work dx [])) := en1.trans (same_new (by rw [upd_ne (Ne.symm hdx)]; exact hx0))
      have hhl : st.hs.length ≤ 100 := by have := hS.hl; have := hM.hl; omega
      have hbl : st.bs.length ≤ 100 := by have := hS.bl; have := hM.bl; omega
      refine ⟨M, H3, x, dx, st, _, _, hM, hhl, hbl, rfl, hx0, en, upd_same, r1.up en, r2.up en, fun A' H4 hAw W4 => ⟨rfl, ?_⟩⟩
      refine gn_of ?_
      have e04 := ((e1.trans e2).trans e3).trans W4.same
      have hs4 : Slots H4 ((L2.start ["making", "stand", "step", "work", "hand"] [vM, vS, vT]).set 3 (some (.ref x))) [.d M.dt, .d st.dt, .d (stepD d pick), .v (.ref x), .u] := ((hs.up e04).set (s := .v (.ref x)) rfl 3)
      rw [← hAw] at hs4 ⊢
      obtain ⟨hi1, hi2⟩ := nm_first hM hd
      refine s_dropC ?_
      refine c_m W4 (fun _ _ _ _ _ _ _ _ => rfl) (ev_var hs4) (ea_cons (ed_index (El.imp (el_lcM (vs := [4]) Hn.dt M.hds hs4 (fun _ => true) (fun d => .text d.nm) (ed_ix (k := .tup (M.hds.map Hn.dt)) (ed_var hs4) ed_int rfl) (by have := hM.hl; omega) (fun d' => [.d M.dt, .d st.dt, .d (stepD d pick), .v (.ref A'.w), .d d'.dt]) (fun a _ => tg_name (K := K) (by simp)) (fun a _ σ2 H2 e2 hs2 => eb_yes) (fun a _ _ σ2 H2 e2 hs2 => ed_ix (ed_var hs2) ed_int rfl)) (fun ks hk => by rw [hk, outM_all]; simp [txts, List.map_map]))
        (ed_ix (k := .text d.nm) (hstep (ed_var hs4)) ed_int rfl) hi1 hi2) (ea_cons (ed_ix (k := .num pick) (hstep (ed_var hs4)) ed_int rfl) ea_nil)) fun vs H5 e5 hv => ?_
      cases hv with
      | cons r1 t1 => cases t1 with
        | cons r2 t2 =>
          cases t2
          cases r1; cases r2
          refine ⟨M, H3, A', st, 0, k, pick, hM, by decide, rfl, W4.up e5, hS, hmay, fun H6 s' br' o W6 f6 hr6 hres => ?_⟩
          have e06 := ((e1.trans e2).trans e3).trans W6.same
          have hs6 : Slots H6 ((L2.start ["making", "stand", "step", "work", "hand"] [vM, vS, vT]).set 3 (some (.ref A'.w))) [.d M.dt, .d st.dt, .d (stepD d pick), .v (.ref A'.w), .u] := ((hs.up e06).set (s := .v (.ref A'.w)) rfl 3)
          obtain ⟨dx6, vm, vc, vb, o1, o2, o3, o4⟩ := W6.ob
          refine s_if (et_test (eb_notN ((ed_fld (ev_var hs6) o1 T.cl_Work T.n_Work_broken wf_broken).vd o4))) (fun c H7 e7 => ?_) (fun c H7 e7 => ?_)
          · have hs7 := hs6.up e7
            obtain ⟨xs, evs, v1, v2, _, _⟩ := W6.ev
            show tTup _ _ _ _
            refine c_tup3 (s1 := .d .none) (s2 := .d br') (s3 := .u) (ea_cons ed_non (ea_cons ((ed_fld (ev_var hs7) (e7 _ _ o1) T.cl_Work T.n_Work_broken wf_broken).vd (o4.up e7)) (ea_cons (ed_anyL (el_listL (ed_fld (ev_var hs7) (e7 _ _ o1) T.cl_Work T.n_Work_events wf_events) (e7 _ _ v1) (v2.up e7))) ea_nil))) fun t a b c' H8 e8 ht h1 h2 _ => ?_
            rcases hres with ⟨rfl, hbr⟩ | ⟨rfl, hbr⟩
            · exact q t a b c' H8 none ((e06.trans e7).trans e8) ht hr6 (fun _ => ⟨br', hbr, h2⟩) (fun s' h => by cases h)
            · subst hbr
              exact absurd c (by decide)
          · have hs7 := hs6.up e7
            obtain ⟨xs, evs, v1, v2, _, _⟩ := W6.ev
            rcases hres with ⟨rfl, hbr⟩ | ⟨rfl, hbr⟩
            · rw [decide_eq_false hbr] at c
              exact absurd c (by decide)
            subst hbr
            have hS' := step_ok hM hS hmay hr6
            have hhl' : s'.hs.length ≤ 100 := by have := hS'.hl; have := hM.hl; omega
            have hbl' : s'.bs.length ≤ 100 := by have := hS'.bl; have := hM.bl; omega
            refine nx_of (X := tRet _ _) ?_
            show tTup _ _ _ _
            refine c_tup3 (s1 := .d s'.dt) (s2 := .d .none) (s3 := .u) (ea_cons (ed_stand (W6.up e7) hhl' hbl' (ev_var hs7)) (ea_cons ed_non (ea_cons (ed_anyL (el_listL (ed_fld (ev_var hs7) (e7 _ _ o1) T.cl_Work T.n_Work_events wf_events) (e7 _ _ v1) (v2.up e7))) ea_nil))) fun t a b c' H8 e8 ht h1 h2 _ => ?_
            cases h2
            exact q t a _ c' H8 (some s') ((e06.trans e7).trans e8) ht hr6 (fun h => by cases h) (fun s'' h => by cases h; exact ⟨h1, rfl⟩)
end
end SB

set_option maxRecDepth 100000
set_option maxHeartbeats 8000000
/-! Search: made, meet, way_to. -/
namespace SB
open PySem L2 PyProof.Rows
/-- the error TooMany, at C -/
structure Tm (K : PySem.W.Frag) (mg : Str → Option Value) where
  C : Addr
  g : mg "TooMany" = some (.ref C)
  x : PySem.W.excIn K C [.type "ValueError", .type "Exception", .type "BaseException", .type "object"] "ValueError.__new__" = true
  k : PySem.W.keepIn K (.ref C) = true
  b : PySem.W.subIn K (.ref C) (.type "BaseException") = some true
  t : PySem.W.typeIn K (.ref C) = some (.type "type")
  e : PySem.W.exmOne K (.ref C) (.ref C) = some true
def sf (a b c d e : V) : List (Str × V) := [("making", a), ("most", b), ("known", c), ("met", d), ("came", e)]
section
variable {a b c d e : V}
theorem sf_making : (sf a b c d e).lookup ("making" : Str) = some a := rfl
theorem sf_most : (sf a b c d e).lookup ("most" : Str) = some b := rfl
theorem sf_known : (sf a b c d e).lookup ("known" : Str) = some c := rfl
theorem sf_met : (sf a b c d e).lookup ("met" : Str) = some d := rfl
theorem sf_came : (sf a b c d e).lookup ("came" : Str) = some e := rfl
end
structure SA where
  x : Addr
  kp : Addr
  mp : Addr
  cp : Addr
def CameOk (n : Nat) (c : Dt) : Prop := c = .none ∨ ∃ (j : Nat) (k : Dt), j < n ∧ c = .tup [.num (j : Int), k]
structure SrAt (P : Program) (w : World) (C : Addr) (M : Mk) (most : Nat) (H0 H : Hp) (A : SA) (ms : List Sd) : Prop where
  same : Same H0 H
  fk : H0 A.kp = none
  fm : H0 A.mp = none
  fc : H0 A.cp = none
  ob : ∃ dx vm, H A.x = some (.ins C dx (sf vm (.int (most : Int)) (.ref A.kp) (.ref A.mp) (.ref A.cp))) ∧ Nd H vm M.dt
  kn : DictAt P w H A.kp (ms.map Sd.dt)
  mt : ∃ xs, H A.mp = some (.lst xs) ∧ NdAll H xs (ms.map Sd.dt)
  cm : ∃ ys cs, H A.cp = some (.lst ys) ∧ NdAll H ys cs ∧ cs.length = ms.length ∧ ∀ (i : Nat) (c : Dt), cs[i]? = some c → CameOk i c
  ne : A.mp ≠ A.cp
  ok : ∀ s ∈ ms, SdOk M s ∧ Way M s
  ln : ms.length ≤ most
  sm : most ≤ 300
section
variable {P : Program} {w : World} {C : Addr} {M : Mk} {most : Nat} {H0 H H' : Hp} {A : SA} {ms : List Sd}
theorem SrAt.up (S : SrAt P w C M most H0 H A ms) (e : Same H H') : SrAt P w C M most H0 H' A ms := by
  obtain ⟨dx, vm, o1, o2⟩ := S.ob
  obtain ⟨xs, m1, m2⟩ := S.mt
  obtain ⟨ys, cs, c1, c2, c3, c4⟩ := S.cm
  exact ⟨S.same.trans e, S.fk, S.fm, S.fc, ⟨dx, vm, e _ _ o1, o2.up e⟩, S.kn.up e, ⟨xs, e _ _ m1, m2.up e⟩, ⟨ys, cs, e _ _ c1, c2.up e, c3, c4⟩, S.ne, S.ok, S.ln, S.sm⟩
/-- all but the three of the search stays -/
structure Mv3 (A : SA) (H H' : Hp) : Prop where
  k : ∀ a o, a ≠ A.kp → a ≠ A.mp → a ≠ A.cp → H a = some o → H' a = some o
  tx : Tx H H'
theorem Mv3.of (e : Same H H') : Mv3 A H H' := ⟨fun a o _ _ _ h => e a o h, tx_of e⟩
theorem Mv3.trans {H1 H2 : Hp} (a : Mv3 A H H1) (b : Mv3 A H1 H2) : Mv3 A H H2 := ⟨fun y o n1 n2 n3 h => b.k y o n1 n2 n3 (a.k y o n1 n2 n3 h), a.tx.trans b.tx⟩
end
theorem depthAll_one {ks : List Dt} {n : Nat} (h : ∀ k ∈ ks, k.depth ≤ n) : (NestedKey.tup ks).depth ≤ n + 1 := by
  have := depthAll_le h
  show NestedKey.depth (.tup ks) ≤ n + 1
  simp only [NestedKey.depth]
  omega
theorem depth_num {i : Int} : (NestedKey.num i).depth ≤ 0 := by simp [NestedKey.depth]
theorem depth_nums (l : List Int) : (NestedKey.tup (nums l)).depth ≤ 1 := by
  have := depthAll_nums l
  show NestedKey.depth (.tup (nums l)) ≤ 1
  simp only [NestedKey.depth]
  omega
theorem depth_tellD : ∀ t : Option (List Int), (tellD t).depth ≤ 1
  | none => by show (NestedKey.none).depth ≤ 1; simp [NestedKey.depth]
  | some l => depth_nums l
theorem depth_cl : ∀ c : Cl, c.dt.depth ≤ 4
  | .weak o c ts => Nat.le_trans (depthAll_one (n := 2) fun k hk => by
      have hk : k ∈ [NestedKey.num o, .num c, .tup (ts.map tellD)] := hk
      rcases List.mem_cons.mp hk with rfl | hk
      · exact Nat.le_trans depth_num (by decide)
      rcases List.mem_cons.mp hk with rfl | hk
      · exact Nat.le_trans depth_num (by decide)
      rw [List.mem_singleton.mp hk]
      exact depthAll_one (n := 1) fun j hj => by obtain ⟨t, _, rfl⟩ := List.mem_map.mp hj; exact depth_tellD t) (by decide)
  | .whole cs => depthAll_one (n := 3) fun k hk => by
      obtain ⟨x, _, rfl⟩ := List.mem_map.mp hk
      exact depth_ca x
theorem depth_sd (s : Sd) : s.dt.depth ≤ 8 := Nat.le_trans (depthAll_one (n := 4) fun k hk => by
  have hk : k ∈ [NestedKey.tup (s.hs.map HS.dt), .tup (s.bs.map BS.dt), s.cl.dt] := hk
  rcases List.mem_cons.mp hk with rfl | hk
  · exact Nat.le_trans (depthAll_one (n := 2) fun j hj => by
      obtain ⟨h, _, rfl⟩ := List.mem_map.mp hj
      exact depthAll_one (n := 1) fun i hi => by
        have hi : i ∈ [NestedKey.num h.pc, tellD h.half, .num h.wo, .num h.ct, .tup (nums h.ns)] := hi
        rcases List.mem_cons.mp hi with rfl | hi
        · exact Nat.le_trans depth_num (by decide)
        rcases List.mem_cons.mp hi with rfl | hi
        · exact depth_tellD _
        rcases List.mem_cons.mp hi with rfl | hi
        · exact Nat.le_trans depth_num (by decide)
        rcases List.mem_cons.mp hi with rfl | hi
        · exact Nat.le_trans depth_num (by decide)
        rw [List.mem_singleton.mp hi]
        exact depth_nums _) (by decide)
  rcases List.mem_cons.mp hk with rfl | hk
  · exact Nat.le_trans (depthAll_one (n := 1) fun j hj => by
      obtain ⟨h, _, rfl⟩ := List.mem_map.mp hj
      exact depthAll_one (n := 0) fun i hi => by
        have hi : i ∈ [NestedKey.num h.w, .num h.c] := hi
        rcases List.mem_cons.mp hi with rfl | hi
        · exact depth_num
        rw [List.mem_singleton.mp hi]
        exact depth_num) (by decide)
  rw [List.mem_singleton.mp hk]
  exact depth_cl _) (by decide)
theorem el_rev {K : PySem.W.Frag} {σ : L2.St} {H : Hp} {ta : TE} {p : Addr} {xs : List V} {ks : List Dt} (ha : Ed ta σ H (.v (.ref p))) (hp : H p = some (.lst xs)) (hn : NdAll H xs ks) : El (tRevL K ta) σ H (· = ks.reverse) := fun H1 e Q q =>
  ha H1 e _ fun v H2 e2 h2 => by
    cases h2
    exact ⟨p, xs, rfl, SqL.of ((e.trans e2) _ _ hp), fun r hr => q r _ _ _ (same_back e2 hr) (e2.trans (same_new hr)) upd_same (((hn.up (e.trans e2)).rev).up (same_new hr)) rfl⟩
section
variable {P : Program} {w : World} {K : PySem.W.Frag} {mg : Str → Option Value} {base : Heap}
def spSInit (P : Program) (w : World) (C : Addr) : Sp := fun vs H Q _ => ∃ (M : Mk) (H0 : Hp) (x dx : Addr) (most : Nat) (vM : V), most ≤ 300 ∧ vs = [.ref x, vM, .int (most : Int)] ∧ H0 x = none ∧ Same H0 H ∧ H x = some (.ins C dx []) ∧ Nd H vM M.dt ∧
  ∀ A H', A.x = x → SrAt P w C M most H0 H' A [] → Q .non H'
theorem ok_Search_init (T : Txt K mg) : FnOk P w K mg base CX0 1 T.Search_init.a T.Search_init.d ["self", "making", "most"] (spSInit P w T.C_Search) := by
  refine fun_okC T.Search_init.F sc_Search_init (fun vs H Q E h => ?_) (fun cdv A outer s H vs Q E hcd hr h => ?_)
  · obtain ⟨_, _, _, _, _, _, _, e, _⟩ := h
    rw [e]; rfl
  obtain ⟨M, H0, x, dx, most, vM, hmost, rfl, hx0, hsm, hx, hvM, q⟩ := h
  have hs : Slots H (L2.start ["self", "making", "most"] [.ref x, vM, .int (most : Int)]) [.v (.ref x), .d M.dt, .v (.int (most : Int))] := slots_start ["self", "making", "most"] (.cons (s := .v (.ref x)) (show V.ref _ = V.ref _ from rfl) (.cons (s := .d M.dt) hvM (.cons (s := .v (.int (most : Int))) (show V.int _ = V.int _ from rfl) .nil)))
  refine ⟨_, (pss_cons (ps_fld (pv 0) (pv 1) rfl)
      (pss_cons (ps_fld (pv 0) (pv 2) rfl)
      (pss_cons (ps_fld (pv 0) pe_dnewX rfl)
      (pss_cons (ps_fld (pv 0) (pe_lst pa_nil) rfl)
      (pss_one (ps_fld (pv 0) (pe_lst pa_nil) rfl)))))), ?_⟩
  refine s_fldI (fun v H1 => Same H H1 ∧ Nd H1 v M.dt) hs hx (show (0 : Nat) < 1000 by decide) T.cl_Search T.n_Search_making (fun _ _ h => h.1) (fun Q q => (ed_var hs : Ed (tVar 1) _ _ (.d M.dt)) H (.refl _) _ fun v H1 e h => q v H1 ⟨e, h⟩) fun v1 K1 G1 ⟨_, n1⟩ a1 m1 s1 x1 hs1 => ?_
  have g1 := s1 H0 hsm hx0
  have n1 := n1.tx a1.tx
  have x1 : G1 x = some (.ins T.C_Search dx [("making", v1)]) := x1
  refine nx_of (X := tSeq _ _ _) ?_
  refine s_fldI (fun v H1 => v = .int (most : Int) ∧ Same G1 H1) hs1 x1 (show (1 : Nat) < 1000 by decide) T.cl_Search T.n_Search_most (fun _ _ h => h.2) (fun Q q => (ev_var hs1 : Ed (tVar 2) _ _ (.v (.int (most : Int)))) G1 (.refl _) _ fun v H1 e h => q v H1 ⟨h, e⟩) fun v2 K2 G2 ⟨hv2, _⟩ a2 m2 s2 x2 hs2 => ?_
  subst hv2
  have g2 := s2 H0 g1 hx0
  have n1 := n1.tx m2.tx
  have x2 : G2 x = some (.ins T.C_Search dx [("making", v1), ("most", .int (most : Int))]) := x2
  refine nx_of (X := tSeq _ _ _) ?_
  refine s_fldI (fun v H1 => ∃ p, v = .ref p ∧ G2 p = none ∧ Same G2 H1 ∧ DictAt P w H1 p []) hs2 x2 (show (2 : Nat) < 1000 by decide) T.cl_Search T.n_Search_known (fun _ _ ⟨_, _, _, h, _⟩ => h)
    (fun Q q => .inl fun p hp => q _ _ ⟨p, rfl, hp, same_new hp, dictAt_new⟩) fun v3 K3 G3 ⟨kp, hv3, hp3, _, d3⟩ a3 m3 s3 x3 hs3 => ?_
  subst hv3
  have g3 := s3 H0 g2 hx0
  have n1 := n1.tx m3.tx
  have z3 := ne_of x2 hp3
  have d3 : DictAt P w G3 kp [] := d3.move a3.tx fun o ho => a3.k _ _ z3 ho
  have x3 : G3 x = some (.ins T.C_Search dx [("making", v1), ("most", .int (most : Int)), ("known", .ref kp)]) := x3
  refine nx_of (X := tSeq _ _ _) ?_
  refine s_fldI (fun v H1 => ∃ p, v = .ref p ∧ G3 p = none ∧ Same G3 H1 ∧ H1 p = some (.lst [])) hs3 x3 (show (3 : Nat) < 1000 by decide) T.cl_Search T.n_Search_met (fun _ _ ⟨_, _, _, h, _⟩ => h)
    (fun Q q => (el_lst [] ea_nil (by simp)) G3 (.refl _) _ fun p xs H1 ks hp e h1 h2 hk => q _ _ ⟨p, rfl, hp, e, by
      subst hk
      cases h2
      exact h1⟩) fun v4 K4 G4 ⟨mp, hv4, hp4, _, d4⟩ a4 m4 s4 x4 hs4 => ?_
  subst hv4
  have g4 := s4 H0 g3 hx0
  have n1 := n1.tx m4.tx
  have d3 : DictAt P w G4 kp [] := d3.move m4.tx fun o ho => m4.k _ _ z3 ho
  have z4 := ne_of x3 hp4
  have d4 := a4.k _ _ z4 d4
  have x4 : G4 x = some (.ins T.C_Search dx [("making", v1), ("most", .int (most : Int)), ("known", .ref kp), ("met", .ref mp)]) := x4
  refine nx_of (X := sFld K (tVar 0) (tLst tNil) "came" _) ?_
  refine s_fldI (fun v H1 => ∃ p, v = .ref p ∧ G4 p = none ∧ Same G4 H1 ∧ H1 p = some (.lst [])) hs4 x4 (show (4 : Nat) < 1000 by decide) T.cl_Search T.n_Search_came (fun _ _ ⟨_, _, _, h, _⟩ => h)
    (fun Q q => (el_lst [] ea_nil (by simp)) G4 (.refl _) _ fun p xs H1 ks hp e h1 h2 hk => q _ _ ⟨p, rfl, hp, e, by
      subst hk
      cases h2
      exact h1⟩) fun v5 K5 G5 ⟨cp, hv5, hp5, _, d5⟩ a5 m5 s5 x5 hs5 => ?_
  subst hv5
  have g5 := s5 H0 g4 hx0
  have ne5 : mp ≠ cp := ne_of_none d4 hp5
  have d3 : DictAt P w G5 kp [] := d3.move m5.tx fun o ho => m5.k _ _ z3 ho
  have d4 := m5.k _ _ z4 d4
  have d5 := a5.k _ _ (ne_of x4 hp5) d5
  exact q ⟨x, kp, mp, cp⟩ G5 rfl ⟨g5, same_back g2 hp3, same_back g3 hp4, same_back g4 hp5, ⟨dx, v1, x5, n1.tx m5.tx⟩, d3, ⟨[], d4, .nil⟩, ⟨[], [], d5, .nil, rfl, fun i c h => by simp at h⟩, ne5, fun s h => by simp at h, Nat.zero_le _, hmost⟩
def spWay (P : Program) (w : World) (C : Addr) : Sp := fun vs H Q _ => ∃ (M : Mk) (most : Nat) (H0 : Hp) (A : SA) (ms : List Sd) (at_ : Nat), vs = [.ref A.x, .int (at_ : Int)] ∧ SrAt P w C M most H0 H A ms ∧ at_ < ms.length ∧
  ∀ p xs ks H', H p = none → Same H H' → H' p = some (.lst xs) → NdAll H' xs ks → ks.length ≤ 1000 → Q (.ref p) H'
theorem ok_Search_way_to (T : Txt K mg) : FnOk P w K mg base CX0 1 T.Search_way_to.a T.Search_way_to.d ["self", "at"] (spWay P w T.C_Search) := by
  refine fun_okC T.Search_way_to.F sc_Search_way_to (fun vs H Q E h => ?_) (fun cdv A outer s H vs Q E hcd hr h => ?_)
  · obtain ⟨_, _, _, _, _, _, e, _⟩ := h
    rw [e]; rfl
  obtain ⟨M, most, H0, A', ms, at_, rfl, S, hat, q⟩ := h
  have hs : Slots H (L2.start ["self", "at", "steps", "came"] [.ref A'.x, .int (at_ : Int)]) [.v (.ref A'.x), .d (.num (at_ : Int)), .u, .u] := slots_start ["self", "at", "steps", "came"] (.cons (s := .v (.ref A'.x)) (show V.ref _ = V.ref _ from rfl) (.cons (s := .d (.num (at_ : Int))) (.int _) .nil))
  refine ⟨_, (pss_cons (ps_set (i := 2) sc_Search_way_to.nd rfl (Or.inl rfl) (pe_lst pa_nil))
      (pss_cons (ps_set (i := 3) sc_Search_way_to.nd rfl (Or.inl rfl) (pe_ix ix_seq (pe_fld (pv 0) rfl) (pv 1) (fun _ _ => rfl)))
      (pss_cons (ps_while PassesOwn.never (pt_cmp (pc_notN (pv 3))) (pss_cons (ps_expr (pe_bm PySem.F.plainAttrs_list PySem.F.slot_list_append PySem.F.type_list_append mt_append (pv 2) (pa_cons (pe_ix ix_seq (pv 3) pe_int (fun _ _ => rfl)) pa_nil)))
      (pss_one (ps_set (i := 3) sc_Search_way_to.nd rfl (Or.inl rfl) (pe_ix ix_seq (pe_fld (pv 0) rfl) (pe_ix ix_seq (pv 3) pe_int (fun _ _ => rfl)) (fun _ _ => rfl))))))
      (pss_one (ps_ret (pe_revL (pv 2))))))), ?_⟩
  have hln := S.ln
  have hsm := S.sm
  refine s_setL hs (el_lst [] ea_nil (by simp)) fun p xs ks σ1 H1 hk hp0 e1 hp1 hn1 hs1 => ?_
  subst hk
  refine nx_of (X := tSeq _ _ _) ?_
  have S1 := S.up e1
  obtain ⟨dx, vm, o1, o2⟩ := S1.ob
  obtain ⟨ys, cs, c1, c2, c3, c4⟩ := S1.cm
  have hac : at_ < cs.length := by rw [c3]; exact hat
  refine s_setD hs1 (s := .d cs[at_]) (ed_ixLd (ed_fld (ev_var hs1) o1 T.cl_Search T.n_Search_came sf_came) (ed_var hs1) c1 c2 (atI_nat (List.getElem?_eq_getElem hac))) fun σ2 H2 e2 hs2 => ?_
  refine nx_of (X := tSeq _ _ _) ?_
  have hpc : A'.cp ≠ p := fun z => by
    obtain ⟨ys0, cs0, d1, _⟩ := S.cm
    rw [z, hp0] at d1; cases d1
  refine s_while (fun m σ' H' => ∃ kc zs js, CameOk m kc ∧ m < ms.length ∧ js.length + m ≤ 600 ∧ H' p = some (.lst zs) ∧ NdAll H' zs js ∧ Same H H' ∧ Slots H' σ' [.v (.ref A'.x), .d (.num (at_ : Int)), .v (.ref p), .d kc]) (m := at_) ?_ ?_
  · exact ⟨cs[at_], xs, [], c4 at_ _ (List.getElem?_eq_getElem hac), hat, by show 0 + at_ ≤ 600; omega, e2 _ _ hp1, hn1.up e2, e1.trans e2, hs2⟩
  · rintro m σ' H' ⟨kc, zs, js, hc, hm, hj, hz, hzn, e, hs'⟩
    refine ⟨_, et_test (eb_notN (ed_var hs')), fun c H3 e3 => ?_, fun c H3 e3 => ?_⟩
    · rcases hc with rfl | ⟨j, k, hjm, rfl⟩
      · exact absurd c (by decide)
      have hs3 := hs'.up e3
      refine s_app (T := "") (e3 _ _ hz) (hzn.up e3) (ev_var hs3) (Ed.ev (ed_ix (k := k) (ed_var hs3) ed_int rfl)) (by omega) fun v k' H4 hk e4 h1 h2 => ?_
      subst hk
      have e5 : Same H (upd H4 p (.lst (zs ++ [v]))) := same_mut ((e.trans e3).trans e4) hp0
      have hs5 := (hs3.up e4).tx (Tx.lst (o := .lst (zs ++ [v])) (e4 _ _ (e3 _ _ hz)))
      refine nx_of (X := tAsg _ _ _) ?_
      have S5 := S.up e5
      obtain ⟨dx5, vm5, o51, _⟩ := S5.ob
      obtain ⟨ys5, cs5, c51, c52, c53, c54⟩ := S5.cm
      have hjc : j < cs5.length := by rw [c53]; omega
      refine s_setD hs5 (s := .d cs5[j]) (ed_ixLd (ed_fld (ev_var hs5) o51 T.cl_Search T.n_Search_came sf_came) (ed_ix (k := .num (j : Int)) (ed_var hs5) ed_int rfl) c51 c52 (atI_nat (List.getElem?_eq_getElem hjc))) fun σ6 H6 e6 hs6 => ?_
      exact ⟨j, hjm, cs5[j], zs ++ [v], js ++ [_], c54 j _ (List.getElem?_eq_getElem hjc), by omega, by rw [List.length_append]; show js.length + 1 + j ≤ 600; omega, e6 _ _ upd_same, h2.up e6, e5.trans e6, hs6⟩
    · refine nx_of (X := tRet _ _) ?_
      have hs3 := hs'.up e3
      exact s_retL (el_rev (ev_var hs3) (e3 _ _ hz) (hzn.up e3)) fun r ws H4 ks hr e4 h1 h2 hk => q r ws ks H4 (same_back (e.trans e3) hr) ((e.trans e3).trans e4) h1 h2 (by rw [hk, List.length_reverse]; omega)
theorem DictAt.neI {H : Hp} {d a C dx : Addr} {fs : List (Str × V)} {ks : List Dt} (h : DictAt P w H d ks) (ha : H a = some (.ins C dx fs)) : d ≠ a := fun z => by
  obtain ⟨xs, h1, _⟩ := h
  rw [z, ha] at h1
  cases h1
def spMeet (P : Program) (w : World) (C CT : Addr) : Sp := fun vs H Q E => ∃ (M : Mk) (most : Nat) (H0 : Hp) (A : SA) (ms : List Sd) (s : Sd) (vS vc : V) (kc : Dt), vs = [.ref A.x, vS, vc] ∧ SrAt P w C M most H0 H A ms ∧ Nd H vS s.dt ∧ Nd H vc kc ∧ CameOk ms.length kc ∧ SdOk M s ∧ Way M s ∧
  (∀ H' tl, SrAt P w C M most H0 H' A (ms ++ tl) → s ∈ ms ++ tl → Mv3 A H H' → Q .non H') ∧ (∀ H', Same H0 H' → E (.ref CT) none H')
theorem ok_Search_meet (T : Txt K mg) (U : Tm K mg) : FnOk P w K mg base (L2.CX P w) 1 T.Search_meet.a T.Search_meet.d ["self", "stand", "came"] (spMeet P w T.C_Search U.C) := by
  refine T.Search_meet.F.okX sc_Search_meet (fun vs H Q E h => ?_) (fun cdv A outer s H vs Q E hr h => ?_)
  · obtain ⟨_, _, _, _, _, _, _, _, _, e, _⟩ := h
    rw [e]; rfl
  obtain ⟨M, most, H0, A', ms, st, vS, vc, kc, rfl, S, hvS, hvc, hkc, hok, hway, q, hE⟩ := h
  have hs : Slots H (L2.start ["self", "stand", "came"] [.ref A'.x, vS, vc]) [.v (.ref A'.x), .d (.tup [.tup (st.hs.map HS.dt), .tup (st.bs.map BS.dt), st.cl.dt]), .d kc] := slots_start ["self", "stand", "came"] (.cons (s := .v (.ref A'.x)) (show V.ref _ = V.ref _ from rfl) (.cons (s := .d (.tup [.tup (st.hs.map HS.dt), .tup (st.bs.map BS.dt), st.cl.dt])) hvS (.cons (s := .d kc) hvc .nil)))
  obtain ⟨dx, vm, o1, o2⟩ := S.ob
  obtain ⟨xs, m1, m2⟩ := S.mt
  obtain ⟨ys, cs, c1, c2, c3, c4⟩ := S.cm
  have hln := S.ln
  have hsm := S.sm
  refine ⟨_, (pss_cons (ps_if (pt_cmpR (op_inN hr.units) (pv 1) (pe_fld (pv 0) rfl) (by rfl)) (pss_one ps_retN) pss_nil)
      (pss_cons (ps_if (pt_cmpR (op_eqX hr.units) (pe_callB call_len (by rfl) T.b_len PySem.boot_len (pa_cons (pe_fld (pv 0) rfl) pa_nil)) (pe_fld (pv 0) rfl) (nomark _)) (pss_one (ps_raise rfl (takes_of rfl rfl rfl rfl) (pmk_own PySem.F.excBase_ValueError U.x U.g U.k (raises_own U.b U.t) (by rfl)))) pss_nil)
      (pss_cons (ps_asg pe_bl (pg_sub (pe_fld (pv 0) rfl) (pv 1) (set_nd hr.units)))
      (pss_cons (ps_expr (pe_bm PySem.F.plainAttrs_list PySem.F.slot_list_append PySem.F.type_list_append mt_append (pe_fld (pv 0) rfl) (pa_cons (pv 1) pa_nil)))
      (pss_one (ps_expr (pe_bm PySem.F.plainAttrs_list PySem.F.slot_list_append PySem.F.type_list_append mt_append (pe_fld (pv 0) rfl) (pa_cons (pv 2) pa_nil)))))))), ?_⟩
  refine s_if (et_test (eb_inN (ed_var hs) (ed_fld (ev_var hs) o1 T.cl_Search T.n_Search_known sf_known) S.kn (depth_sd st))) (fun c H1 e1 => ?_) (fun c H1 e1 => ?_)
  · have c := of_decide_eq_true c
    obtain ⟨s2, hs2, he⟩ := List.mem_map.mp c
    have he := sddt_inj s2 st he
    subst he
    exact q H1 [] (by rw [List.append_nil]; exact S.up e1) (by rw [List.append_nil]; exact hs2) (Mv3.of e1)
  have hnk : st.dt ∉ ms.map Sd.dt := of_decide_eq_false c
  have hs1 := hs.up e1
  refine nx_of (X := tSeq _ _ _) ?_
  refine s_if (et_test (eb_eq (ed_lenL (ed_fld (ev_var hs1) (e1 _ _ o1) T.cl_Search T.n_Search_met sf_met) (e1 _ _ m1)) ((ed_fld (ev_var hs1) (e1 _ _ o1) T.cl_Search T.n_Search_most sf_most).vd (.int _)))) (fun cq H2 e2 => ?_) (fun cq H2 e2 => ?_)
  · exact hE H2 ((S.same.trans e1).trans e2)
  have hlt : ms.length < most := by
    have hx := m2.len
    rw [List.length_map] at hx
    have : ms.length ≠ most := fun z => of_decide_eq_false cq (by rw [hx, z])
    omega
  have hs2 := hs1.up e2
  have e02 := e1.trans e2
  have o1' := e02 _ _ o1
  refine nx_of (X := tSeq _ _ _) ?_
  refine s_putN (ed_fld (ev_var hs2) o1' T.cl_Search T.n_Search_known sf_known) (ed_var hs2) (S.kn.up e02) (depth_sd st) hnk (by rw [List.length_map]; omega) fun ob H3 e3 D3 tx3 => ?_
  have e03 := e02.trans e3
  have k3 : ∀ a o, a ≠ A'.kp → H3 a = some o → (upd H3 A'.kp ob) a = some o := fun a o hn h => by rw [upd_ne hn]; exact h
  have D3' := S.kn.up e03
  have nx := D3'.neI (e03 _ _ o1)
  have nm := D3'.ne (e03 _ _ m1)
  have nc := D3'.ne (e03 _ _ c1)
  have g3 : Same H0 (upd H3 A'.kp ob) := same_mut (S.same.trans e03) S.fk
  have o3 := k3 _ _ (Ne.symm nx) (e03 _ _ o1)
  have m3 := k3 _ _ (Ne.symm nm) (e03 _ _ m1)
  have c3' := k3 _ _ (Ne.symm nc) (e03 _ _ c1)
  have t3 : Tx H (upd H3 A'.kp ob) := (tx_of e03).trans tx3
  have v3 : Mv3 A' H (upd H3 A'.kp ob) := ⟨fun a o h1 h2 h3 h => k3 a o h1 (e03 _ _ h), t3⟩
  have hs3 := (hs2.up e3).tx tx3
  have o2 := o2.tx t3
  have m2 := m2.tx t3
  have c2 := c2.tx t3
  refine nx_of (X := tSeq _ _ _) ?_
  generalize upd H3 A'.kp ob = G3 at *
  refine s_app (T := "") m3 m2 (ed_fld (ev_var hs3) o3 T.cl_Search T.n_Search_met sf_met) (Ed.ev (ed_var hs3)) (by rw [List.length_map]; omega) fun v4 kk4 H4 hk4 e4 h41 h42 => ?_
  subst hk4
  have k4 : ∀ a o, a ≠ A'.mp → H4 a = some o → (upd H4 A'.mp (.lst (xs ++ [v4]))) a = some o := fun a o hn h => by rw [upd_ne hn]; exact h
  have tx4 : Tx H4 (upd H4 A'.mp (.lst (xs ++ [v4]))) := Tx.lst (e4 _ _ m3)
  have g4 : Same H0 (upd H4 A'.mp (.lst (xs ++ [v4]))) := same_mut (g3.trans e4) S.fm
  have nmx : A'.x ≠ A'.mp := fun z => by rw [z, m3] at o3; cases o3
  have o4 := k4 _ _ nmx (e4 _ _ o3)
  have c4' := k4 _ _ (Ne.symm S.ne) (e4 _ _ c3')
  have m4 : (upd H4 A'.mp (.lst (xs ++ [v4]))) A'.mp = some (.lst (xs ++ [v4])) := upd_same
  have D4 : DictAt P w (upd H4 A'.mp (.lst (xs ++ [v4]))) A'.kp (ms.map Sd.dt ++ [st.dt]) := (D3.up e4).move tx4 fun o ho => k4 _ _ nm ho
  have t4 : Tx G3 (upd H4 A'.mp (.lst (xs ++ [v4]))) := (tx_of e4).trans tx4
  have v4' : Mv3 A' H (upd H4 A'.mp (.lst (xs ++ [v4]))) := v3.trans ⟨fun a o h1 h2 h3 h => k4 a o h2 (e4 _ _ h), t4⟩
  have hs4 := hs3.tx t4
  have o2 := o2.tx t4
  have c2 := c2.tx t4
  refine nx_of (X := tDrop _ _) ?_
  generalize upd H4 A'.mp (.lst (xs ++ [v4])) = G4 at *
  refine s_app (T := "") c4' c2 (ed_fld (ev_var hs4) o4 T.cl_Search T.n_Search_came sf_came) (Ed.ev (ed_var hs4)) (by omega) fun v5 kk5 H5 hk5 e5 h51 h52 => ?_
  subst hk5
  have k5 : ∀ a o, a ≠ A'.cp → H5 a = some o → (upd H5 A'.cp (.lst (ys ++ [v5]))) a = some o := fun a o hn h => by rw [upd_ne hn]; exact h
  have tx5 : Tx H5 (upd H5 A'.cp (.lst (ys ++ [v5]))) := Tx.lst (e5 _ _ c4')
  have ncx : A'.x ≠ A'.cp := fun z => by rw [z, c4'] at o4; cases o4
  have t5 : Tx G4 (upd H5 A'.cp (.lst (ys ++ [v5]))) := (tx_of e5).trans tx5
  have ndk : A'.kp ≠ A'.cp := nc
  refine q _ [st] ⟨same_mut (g4.trans e5) S.fc, S.fk, S.fm, S.fc, ⟨dx, vm, k5 _ _ ncx (e5 _ _ o4), o2.tx t5⟩, ?_, ⟨xs ++ [v4], k5 _ _ S.ne (e5 _ _ m4), ?_⟩, ⟨ys ++ [v5], cs ++ [kk5], upd_same, h52, by rw [List.length_append, List.length_append, c3]; rfl, fun i c hc => ?_⟩, S.ne, fun s hm => ?_, by rw [List.length_append]; show ms.length + 1 ≤ most; omega, S.sm⟩ (List.mem_append_right _ (List.mem_singleton.mpr rfl)) (v4'.trans ⟨fun a o h1 h2 h3 h => k5 a o h3 (e5 _ _ h), t5⟩)
  · rw [List.map_append]
    exact (D4.up e5).move tx5 fun o ho => k5 _ _ ndk ho
  · rw [List.map_append]
    exact h42.tx t5
  · by_cases hi : i < cs.length
    · rw [List.getElem?_append_left hi] at hc
      exact c4 i c hc
    · rw [List.getElem?_append_right (by omega)] at hc
      have i0 : i - cs.length = 0 := by
        have := (List.getElem?_eq_some_iff.mp hc).1
        simp at this
        omega
      rw [i0] at hc
      have hc : kk5 = c := by simpa using hc
      rw [← hc, show i = ms.length by omega]
      exact hkc
  · rcases List.mem_append.mp hm with z | z
    · exact S.ok s z
    · rw [List.mem_singleton.mp z]
      exact ⟨hok, hway⟩
end
end SB

set_option maxRecDepth 100000
set_option maxHeartbeats 8000000
/-! Search.go_on_from, seek. -/
namespace SB
open PySem L2 PyProof.Rows
section
variable {P : Program} {w : World} {K : PySem.W.Frag} {mg : Str → Option Value} {base : Heap}
theorem el_way {C : Addr} {M : Mk} {most : Nat} {H0 H : Hp} {A : SA} {ms : List Sd} {n : Nat} {σ : L2.St} {ta tb : TE} {E : XK} (S : SrAt P w C M most H0 H A ms) (ha : Ed ta σ H (.v (.ref A.x))) (hb : Ed tb σ H (.d (.num (n : Int)))) (hn : n < ms.length) :
    El (tMeth C "way_to" (spWay P w C) [] E ta (tCons tb tNil)) σ H (fun ks => ks.length ≤ 1000) := fun H1 e Q q =>
  ha H1 e _ fun v H2 e2 h2 => by
    cases h2
    have S2 := S.up (e.trans e2)
    obtain ⟨dx, vm, o1, o2⟩ := S2.ob
    refine ⟨A.x, dx, _, rfl, o1, rfl, hb H2 (e.trans e2) _ fun v' H3 e3 h3 => ?_⟩
    cases h3
    exact ⟨M, most, H0, A, ms, n, rfl, S2.up e3, hn, fun p xs ks H4 hp e4 h1 h2 h3 => q p xs H4 ks (same_back (e2.trans e3) hp) ((e2.trans e3).trans e4) h1 h2 h3⟩
theorem s_dropE {te : TE} {D : Ends} {σ : L2.St} {H : Hp} (h : te σ H fun _ H1 => D.nx σ H1) : tDrop te D σ H := h
theorem stepD_inj {M : Mk} (O : MkOk M) {k k2 : Nat} {d d2 : Hn} {p p2 : Int} (hd : M.hds[k]? = some d) (hd2 : M.hds[k2]? = some d2) (e : stepD d p = stepD d2 p2) : k = k2 ∧ d = d2 ∧ p = p2 := by
  have e : NestedKey.tup [.text d.nm, .num p] = NestedKey.tup [.text d2.nm, .num p2] := e
  injection e with e
  injection e with e1 e
  injection e with e2 e
  injection e1 with e1
  injection e2 with e2
  have h1 : (M.hds.map Hn.nm)[k]? = some d.nm := by rw [List.getElem?_map, hd]; rfl
  have h2 : (M.hds.map Hn.nm)[k2]? = some d.nm := by rw [List.getElem?_map, hd2, e1]; rfl
  have := nodup_get O.hn h1 h2
  subst this
  rw [hd] at hd2
  cases hd2
  exact ⟨rfl, rfl, e2⟩
def spFrom (P : Program) (w : World) (C CT : Addr) : Sp := fun vs H Q E => ∃ (M : Mk) (most : Nat) (H0 : Hp) (A : SA) (ms : List Sd) (at_ : Nat) (s : Sd), MkOk M ∧ NmOk M ∧ vs = [.ref A.x, .int (at_ : Int)] ∧ SrAt P w C M most H0 H A ms ∧ ms[at_]? = some s ∧
  (∀ H' tl, SrAt P w C M most H0 H' A (ms ++ tl) → (∀ k pick, MayStep M s k pick → ∃ s', StepR M s k pick (some s') ∧ s' ∈ ms ++ tl) → Q .non H') ∧ (∀ p H', Breaks M → Same H0 H' → Q (.ref p) H') ∧ (∀ H', Same H0 H' → E (.ref CT) none H')
theorem ok_Search_go_on_from (T : Txt K mg) (U : Tm K mg) : FnOk P w K mg base (L2.CX P w) 13 T.Search_go_on_from.a T.Search_go_on_from.d ["self", "at"] (spFrom P w T.C_Search U.C) := by
  refine T.Search_go_on_from.F.okX sc_Search_go_on_from (fun vs H Q E h => ?_) (fun cdv A outer s H vs Q E hr h => ?_)
  · obtain ⟨_, _, _, _, _, _, _, _, _, e, _⟩ := h
    rw [e]; rfl
  obtain ⟨M, most, H0, A', ms, at_, st, hM, hNm, rfl, S, hat, q1, q2, hE⟩ := h
  have hs : Slots H (L2.start ["self", "at", "step", "later", "broken", "events"] [.ref A'.x, .int (at_ : Int)]) [.v (.ref A'.x), .d (.num (at_ : Int)), .u, .u, .u, .u] := slots_start ["self", "at", "step", "later", "broken", "events"] (.cons (s := .v (.ref A'.x)) (show V.ref _ = V.ref _ from rfl) (.cons (s := .d (.num (at_ : Int))) (.int _) .nil))
  have hln := S.ln
  have hsm := S.sm
  have hal : at_ < ms.length := (List.getElem?_eq_some_iff.mp hat).1
  obtain ⟨hok, hway⟩ := S.ok st (List.mem_of_getElem? hat)
  have eMk : ∀ {H : Hp} {σ : L2.St} {ms : List Sd}, SrAt P w T.C_Search M most H0 H A' ms → Ed (tVar 0) σ H (.v (.ref A'.x)) → Ed (tFld K (tVar 0) "making") σ H (.d M.dt) := fun {H σ ms} S h => by
    obtain ⟨dx, vm, o1, o2⟩ := S.ob
    exact (ed_fld h o1 T.cl_Search T.n_Search_making sf_making).vd o2
  have eMt : ∀ {H : Hp} {σ : L2.St} {tl : List Sd}, SrAt P w T.C_Search M most H0 H A' (ms ++ tl) → Ed (tVar 0) σ H (.v (.ref A'.x)) → Ed (tVar 1) σ H (.d (.num (at_ : Int))) → Ed (tOp (rIx K) (tFld K (tVar 0) "met") (tVar 1)) σ H (.d st.dt) := fun {H σ tl} S h h1 => by
    obtain ⟨dx, vm, o1, o2⟩ := S.ob
    obtain ⟨xs, m1, m2⟩ := S.mt
    exact ed_ixLd (ed_fld h o1 T.cl_Search T.n_Search_met sf_met) h1 m1 m2 (atI_nat (by rw [List.getElem?_map, List.getElem?_append_left hal, hat]; rfl))
  have S0 : SrAt P w T.C_Search M most H0 H A' (ms ++ []) := by rw [List.append_nil]; exact S
  refine ⟨_, (pss_cons (ps_for (passes_of rfl) rfl (pi_list (pe_call (ok_steps_of T) (hr.mono (by decide)) (by rfl) T.steps_of.m T.steps_of.F.kp T.steps_of.b .nil pass0 (pa_cons (pe_fld (pv 0) rfl) (pa_cons (pe_ix ix_seq (pe_fld (pv 0) rfl) (pv 1) (fun _ _ => rfl)) pa_nil)))) (pg_name (i := 2) sc_Search_go_on_from.nd rfl (Or.inl rfl)) (pss_cons (ps_asg (pe_call (ok_stepped T) (hr.mono (by decide)) (by rfl) T.stepped.m T.stepped.F.kp T.stepped.b .nil pass0 (pa_cons (pe_fld (pv 0) rfl) (pa_cons (pe_ix ix_seq (pe_fld (pv 0) rfl) (pv 1) (fun _ _ => rfl)) (pa_cons (pv 2) pa_nil)))) (pg_tup rfl (pgs_cons (pg_name (i := 3) sc_Search_go_on_from.nd rfl (Or.inl rfl)) (pgs_cons (pg_name (i := 4) sc_Search_go_on_from.nd rfl (Or.inl rfl)) (pgs_cons (pg_name (i := 5) sc_Search_go_on_from.nd rfl (Or.inl rfl)) pgs_nil)))))
      (pss_cons (ps_if (pt_cmp (pc_notN (pv 4))) (pss_one (ps_ret (pe_op op_addX (pe_meth (pv 0) T.cl_Search T.Search_way_to.m (ok_Search_way_to T) (hr.mono (by decide)) T.Search_way_to.b .nil pass0 (pa_cons (pv 1) pa_nil)) (pe_lst (pa_cons (pv 2) pa_nil))))) pss_nil)
      (pss_one (ps_expr (pe_meth (pv 0) T.cl_Search T.Search_meet.m (ok_Search_meet T U) (hr.mono (by decide)) T.Search_meet.b .nil (passes_call (E := E) (takes_of rfl rfl rfl rfl) (fun _ _ _ _ h => h)) (pa_cons (pv 3) (pa_cons (pe_tup (pa_cons (pv 1) (pa_cons (pv 2) pa_nil))) pa_nil))))))))
      (pss_one (ps_ret pe_non))), ?_⟩
  refine s_seqJ (fun σ' H' => ∃ tl, SrAt P w T.C_Search M most H0 H' A' (ms ++ tl) ∧ (∀ k pick, MayStep M st k pick → ∃ s', StepR M st k pick (some s') ∧ s' ∈ ms ++ tl)) (fun N hN => ?_) fun σ4 H4 ⟨tl, h1, h2⟩ => ?_
  · refine s_forN (R := (· = stepsD M st)) (el_call (ea_cons (eMk S (ev_var hs)) (ea_cons (eMt S0 (ev_var hs) (ed_var hs)) ea_nil)) ⟨M, st, hM, hok, rfl, rfl⟩) fun p xs ks H1 hk hp e1 hp1 hn1 => ?_
    subst hk
    have n1 : p ≠ A'.kp := by
      obtain ⟨_, h, _⟩ := S.kn
      exact Ne.symm (ne_of_none h hp)
    have n2 : p ≠ A'.mp := by
      obtain ⟨_, h, _⟩ := S.mt
      exact Ne.symm (ne_of_none h hp)
    have n3 : p ≠ A'.cp := by
      obtain ⟨_, _, h, _⟩ := S.cm
      exact Ne.symm (ne_of_none h hp)
    refine ⟨fun i σ' H' => ∃ tl, SrAt P w T.C_Search M most H0 H' A' (ms ++ tl) ∧ (∀ j, j < i → ∀ x, (stepsD M st)[j]? = some x → ∀ k d pick, M.hds[k]? = some d → x = stepD d pick → ∃ s', StepR M st k pick (some s') ∧ s' ∈ ms ++ tl) ∧ Mv3 A' H1 H' ∧ Slots H' σ' [.v (.ref A'.x), .d (.num (at_ : Int)), .u, .u, .u, .u], ?_, fun i σ' H' ⟨_, _, _, mv, _⟩ => ⟨mv.tx, mv.k _ _ n1 n2 n3 hp1⟩, ?_, ?_⟩
    · exact ⟨[], S0.up e1, fun j h => absurd h (Nat.not_lt_zero _), Mv3.of (.refl _), hs.up e1⟩
    · rintro i k v σ' H' hk ⟨tl, S', inv, mv, hs'⟩ hv
      refine gn_of ?_
      have hs2 : Slots H' (σ'.set 2 (some v)) [.v (.ref A'.x), .d (.num (at_ : Int)), .d k, .u, .u, .u] := hs'.set (s := .d k) hv 2
      obtain ⟨kk, d, pick, hd, hmay, hkk⟩ := mem_steps.mp (List.mem_of_getElem? hk)
      subst hkk
      refine sq_asg ?_
      refine (ea_cons (eMk S' (ev_var hs2)) (ea_cons (eMt S' (ev_var hs2) (ed_var hs2)) (ea_cons (ed_var hs2 : Ed (tVar 2) _ _ (.d (stepD d pick))) ea_nil))) H' (.refl _) _ fun vs H3 e3 hv3 => ?_
      cases hv3 with
      | cons r1 t1 => cases t1 with
        | cons r2 t2 => cases t2 with
          | cons r3 t3 =>
            cases t3
            refine ⟨M, st, kk, d, pick, _, _, _, hM, hNm, hok, hd, hmay, rfl, r1, r2, r3, fun t a b c H4 o e4 ht hr h1 h2 => ?_⟩
            refine ⟨t, _, rfl, SqT.of ht, rfl, _, _, rfl, _, _, rfl, _, _, rfl, rfl, ?_⟩
            have e34 := e3.trans e4
            have S4 := S'.up e34
            cases o with
            | none =>
              obtain ⟨kb, hkb, hb⟩ := h1 rfl
              have hs5 : Slots H4 ((((σ'.set 2 (some v)).set 3 (some a)).set 4 (some b)).set 5 (some c)) [.v (.ref A'.x), .d (.num (at_ : Int)), .d (stepD d pick), .u, .d kb, .u] := (((hs2.up e34).set (s := .u) trivial 3).set (s := .d kb) hb 4).set (s := .u) trivial 5
              refine s_if (et_test (eb_notN (ed_var hs5))) (fun cc H5 e5 => ?_) (fun cc H5 e5 => ?_)
              · have hs6 := hs5.up e5
                have S5 := S4.up e5
                show tRet _ _ _ _
                exact s_retL (el_cat (n := 1000) (m := 1) (el_way S5 (ev_var hs6) (ed_var hs6) (by rw [List.length_append]; omega)) (el_lst [stepD d pick] (ea_cons (ed_var hs6) ea_nil) (by simp)) (fun _ h => h) (fun ks h => by rw [h]; exact Nat.le_refl _) (by decide)) fun p' xs' H6 ks' hp' e6 _ _ _ => q2 p' H6 ⟨st, kk, pick, hway, hmay, hr⟩ (S5.same.trans e6)
              · rw [decide_eq_false hkb] at cc
                exact absurd cc (by decide)
            | some s' =>
              obtain ⟨ha, hb⟩ := h2 s' rfl
              subst hb
              have hs5 : Slots H4 ((((σ'.set 2 (some v)).set 3 (some a)).set 4 (some .non)).set 5 (some c)) [.v (.ref A'.x), .d (.num (at_ : Int)), .d (stepD d pick), .d s'.dt, .d .none, .u] := (((hs2.up e34).set (s := .d s'.dt) ha 3).set (s := .d .none) .non 4).set (s := .u) trivial 5
              refine s_if (et_test (eb_notN (ed_var hs5))) (fun cc => absurd cc (by decide)) (fun _ H5 e5 => ?_)
              have hs6 := hs5.up e5
              have S5 := S4.up e5
              refine nx_of (X := tDrop _ _) ?_
              refine s_dropE ?_
              refine (ev_var hs6 : Ed (tVar 0) _ _ (.v (.ref A'.x))) H5 (.refl _) _ fun v6 H6 e6 hv6 => ?_
              cases hv6
              have S6 := S5.up e6
              obtain ⟨dx, vm, o1, o2⟩ := S6.ob
              refine ⟨A'.x, dx, _, rfl, o1, rfl, ?_⟩
              have hs7 := hs6.up e6
              refine (ea_cons (ed_var hs7 : Ed (tVar 3) _ _ (.d s'.dt)) (ea_cons (ed_tup [.num (at_ : Int), stepD d pick] (ea_cons (ed_var hs7) (ea_cons (ed_var hs7) ea_nil)) (show (2 : Nat) ≤ 100000 by decide)) ea_nil)) H6 (.refl _) _ fun vs7 H7 e7 hv7 => ?_
              cases hv7 with
              | cons r1 t1 => cases t1 with
                | cons r2 t2 =>
                  cases t2
                  have hok' := step_ok hM hok hmay hr
                  refine ⟨M, most, H0, A', ms ++ tl, s', _, _, _, rfl, S6.up e7, r1, r2, .inr ⟨at_, _, by rw [List.length_append]; omega, rfl⟩, hok', .step hway hmay hr, fun H8 tl' S8 hm8 mv8 => ?_, fun H8 e8 => hE H8 e8⟩
                  have mvA : Mv3 A' H1 H8 := (mv.trans (Mv3.of (((e34.trans e5).trans e6).trans e7))).trans mv8
                  refine ⟨tl ++ tl', by rw [← List.append_assoc]; exact S8, fun j hj x hx k2 d2 p2 hd2 hx2 => ?_, mvA, ((((hs7.up e7).tx mv8.tx).forget 2).forget 3).forget 4⟩
                  rw [← List.append_assoc]
                  by_cases hji : j = i
                  · subst hji
                    rw [hk] at hx
                    cases hx
                    obtain ⟨rfl, rfl, rfl⟩ := stepD_inj hM hd hd2 hx2
                    exact ⟨s', hr, hm8⟩
                  · obtain ⟨s2, hs2, hs3⟩ := inv j (by omega) x hx k2 d2 p2 hd2 hx2
                    exact ⟨s2, hs2, List.mem_append_left _ hs3⟩
    · rintro σ' H' ⟨tl, S', inv, mv, hs'⟩
      refine hN _ _ ⟨tl, S', fun k pick hmay => ?_⟩
      obtain ⟨d, hh, hd, hhd, -⟩ := id hmay
      have hm : stepD d pick ∈ stepsD M st := mem_steps.mpr ⟨k, d, pick, hd, hmay, rfl⟩
      obtain ⟨j, hj⟩ := List.getElem?_of_mem hm
      exact inv j (List.getElem?_eq_some_iff.mp hj).1 _ hj k d pick hd rfl
  · exact s_retD (s := .d .none) ed_non fun v H5 e5 h5 => by
      cases h5
      exact q1 H5 tl (h1.up e5) h2
end
end SB

set_option maxRecDepth 100000
set_option maxHeartbeats 8000000
/-! seek. -/
namespace SB
open PySem L2 PyProof.Rows
section
variable {P : Program} {w : World} {K : PySem.W.Frag} {mg : Str → Option Value} {base : Heap}
/-- a pair -/
theorem c_tup2 {σ : L2.St} {H : Hp} {ta tb : TE} {s1 s2 : SV} {Q : VK} (h : Ea (tCons ta (tCons tb tNil)) σ H [s1, s2]) (q : ∀ t a b H', Same H H' → H' t = some (.tup [a, b]) → Sv H' a s1 → Sv H' b s2 → Q (.ref t) H') : tTup (tCons ta (tCons tb tNil)) σ H Q :=
  h H (.refl H) _ fun vs H2 e2 h2 => by
    cases h2 with
    | cons r1 t1 => cases t1 with
      | cons r2 t2 =>
        cases t2
        refine ⟨size_ok (by show 2 ≤ 100000; decide), fun p hp => q p _ _ _ (e2.trans (same_new hp)) upd_same ?_ ?_⟩
        · exact r1.tx (tx_of (same_new hp))
        · exact r2.tx (tx_of (same_new hp))
theorem eb_notNV {σ : L2.St} {H : Hp} {ta : TE} {v : V} (ha : Ed ta σ H (.v v)) : Ed (tNotN ta) σ H (.v (.bl (!decide (v = .non)))) := fun H1 e Q q =>
  ha H1 e _ fun v2 H2 e2 h2 => by
    cases h2
    exact q _ H2 e2 rfl
theorem Ed.dv {σ : L2.St} {H : Hp} {ta : TE} {i : Int} (h : Ed ta σ H (.d (.num i))) : Ed ta σ H (.v (.int i)) := fun H1 e Q q => h H1 e _ fun v H2 e2 h2 => by
  cases h2
  exact q _ H2 e2 rfl
def flatS : SV → Bool
  | .d _ => false
  | _ => true
theorem slots_any {H H' : Hp} : ∀ {σ : L2.St} {ss : List SV}, Slots H σ ss → ss.all flatS = true → Slots H' σ ss
  | _, _, .nil, _ => .nil
  | _, _, .cons (s := s) r t, f => by
    rw [List.all_cons, Bool.and_eq_true] at f
    refine .cons ?_ (slots_any t f.2)
    cases s with
    | d k => exact Bool.noConfusion f.1
    | v x => exact r
    | u => trivial
def spSeek (CT : Addr) : Sp := fun vs H Q E => ∃ (M : Mk) (most : Nat) (vM : V), MkOk M ∧ NmOk M ∧ most ≤ 300 ∧ vs = [vM, .int (most : Int)] ∧ Nd H vM M.dt ∧
  (∀ t b H' met, H' t = some (.tup [.str "paper", b]) → Paper M met → Same H H' → Q (.ref t) H') ∧ (∀ t b H', H' t = some (.tup [.str "break", b]) → Breaks M → Same H H' → Q (.ref t) H') ∧ (∀ H', Same H H' → E (.ref CT) none H')
theorem ok_seek (T : Txt K mg) (U : Tm K mg) : FnOk P w K mg base (L2.CX P w) 14 T.seek.a T.seek.d ["making", "most"] (spSeek U.C) := by
  refine T.seek.F.okX sc_seek (fun vs H Q E h => ?_) (fun cdv A outer s H vs Q E hr h => ?_)
  · obtain ⟨_, _, _, _, _, _, e, _⟩ := h
    rw [e]; rfl
  obtain ⟨M, most, vM, hM, hNm, hmost, rfl, hvM, q1, q2, hE⟩ := h
  have hs : Slots H (L2.start ["making", "most", "search", "at", "weaving"] [vM, .int (most : Int)]) [.d M.dt, .v (.int (most : Int)), .u, .u, .u] := slots_start ["making", "most", "search", "at", "weaving"] (.cons (s := .d M.dt) hvM (.cons (s := .v (.int (most : Int))) (show V.int _ = V.int _ from rfl) .nil))
  refine ⟨_, (pss_cons (ps_set (i := 2) sc_seek.nd rfl (Or.inl rfl) (pe_make T.mk_Search (ok_Search_init T) (hr.mono (by decide)) (by rfl) T.g_Search T.Search_init.b .nil pass0 (pa_cons (pv 0) (pa_cons (pv 1) pa_nil))))
      (pss_cons (ps_expr (pe_meth (pv 2) T.cl_Search T.Search_meet.m (ok_Search_meet T U) (hr.mono (by decide)) T.Search_meet.b .nil (passes_call (E := E) (takes_of rfl rfl rfl rfl) (fun _ _ _ _ h => h)) (pa_cons (pe_call (ok_first_stand T) (hr.mono (by decide)) (by rfl) T.first_stand.m T.first_stand.F.kp T.first_stand.b .nil pass0 (pa_cons (pv 0) pa_nil)) (pa_cons pe_non pa_nil))))
      (pss_cons (ps_set (i := 3) sc_seek.nd rfl (Or.inl rfl) pe_int)
      (pss_cons (ps_while (passes_of rfl) (pt_cmpR op_lt (pv 3) (pe_callB call_len (by rfl) T.b_len PySem.boot_len (pa_cons (pe_fld (pv 2) rfl) pa_nil)) (nomark _)) (pss_cons (ps_set (i := 4) sc_seek.nd rfl (Or.inl rfl) (pe_meth (pv 2) T.cl_Search T.Search_go_on_from.m (ok_Search_go_on_from T U) (hr.mono (by decide)) T.Search_go_on_from.b .nil (passes_call (E := E) (takes_of rfl rfl rfl rfl) (fun _ _ _ _ h => h)) (pa_cons (pv 3) pa_nil)))
      (pss_cons (ps_if (pt_cmp (pc_notN (pv 4))) (pss_one (ps_ret (pe_tup (pa_cons pe_str (pa_cons (pv 4) pa_nil))))) pss_nil)
      (pss_one (ps_set (i := 3) sc_seek.nd rfl (Or.inl rfl) (pe_op op_addX (pv 3) pe_int))))))
      (pss_one (ps_ret (pe_tup (pa_cons pe_str (pa_cons (pe_fld (pv 2) rfl) pa_nil))))))))), ?_⟩
  refine sq_asg ?_
  refine (ea_cons (ed_var hs) (ea_cons (ev_var hs) ea_nil) : Ea (tCons (tVar 0) (tCons (tVar 1) tNil)) _ H [.d M.dt, .v (.int (most : Int))]) H (.refl _) _ fun vs H1 e1 hv => ?_
  cases hv with
  | cons r1 t1 => cases t1 with
    | cons r2 t2 =>
      cases t2
      cases r2
      intro x dx hx0 hd0 hdx
      have en1 : Same H1 (upd H1 dx (.own x)) := same_new hd0
      have en : Same H1 (upd (upd H1 dx (.own x)) x (.ins T.C_Search dx [])) := en1.trans (same_new (by rw [upd_ne (Ne.symm hdx)]; exact hx0))
      refine ⟨M, H, x, dx, most, _, hmost, rfl, same_back e1 hx0, e1.trans en, upd_same, r1.up en, fun A' H2 hAx S2 => ⟨rfl, ?_⟩⟩
      refine gn_of ?_
      have hs2 : Slots H2 ((L2.start ["making", "most", "search", "at", "weaving"] [vM, .int (most : Int)]).set 2 (some (.ref x))) [.d M.dt, .v (.int (most : Int)), .v (.ref x), .u, .u] := (hs.up S2.same).set (s := .v (.ref x)) rfl 2
      rw [← hAx] at hs2 ⊢
      -- search.meet(first_stand(making), None)
      refine s_dropC ?_
      refine (ev_var hs2 : Ed (tVar 2) _ _ (.v (.ref A'.x))) H2 (.refl _) _ fun v3 H3 e3 hv3 => ?_
      cases hv3
      have S3 := S2.up e3
      obtain ⟨dx3, vm3, o3, _⟩ := S3.ob
      refine ⟨A'.x, dx3, _, rfl, o3, rfl, ?_⟩
      have hs3 := hs2.up e3
      refine (ea_cons (ed_call (A := A_first_stand) (k := M.first.dt) (ea_cons (ed_var hs3) ea_nil) ⟨M, hM, rfl, rfl⟩) (ea_cons ed_non ea_nil)) H3 (.refl _) _ fun vs H4 e4 hv4 => ?_
      cases hv4 with
      | cons s1 u1 => cases u1 with
        | cons s2 u2 =>
          cases u2
          refine ⟨M, most, H, A', [], M.first, _, _, .none, rfl, S3.up e4, s1, s2, .inl rfl, first_ok hM, .first, fun H5 tl S5 hm5 _ => ?_, fun H5 e5 => hE H5 e5⟩
          have hs5 : Slots H5 ((L2.start ["making", "most", "search", "at", "weaving"] [vM, .int (most : Int)]).set 2 (some (.ref A'.x))) [.d M.dt, .v (.int (most : Int)), .v (.ref A'.x), .u, .u] := (hs.up S5.same).set (s := .v (.ref A'.x)) rfl 2
          refine s_setD hs5 (s := .v (.int ((0 : Nat) : Int))) ev_c fun σ6 H6 e6 hs6 => ?_
          refine nx_of (X := tSeq _ _ _) ?_
          refine s_while (fun m σ' H' => ∃ (n : Nat) (ms : List Sd), n ≤ ms.length ∧ m = 301 - n ∧ SrAt P w T.C_Search M most H H' A' ms ∧ M.first ∈ ms ∧ (∀ i, i < n → ∀ s, ms[i]? = some s → ∀ k pick, MayStep M s k pick → ∃ s', StepR M s k pick (some s') ∧ s' ∈ ms) ∧
            Slots H' σ' [.u, .v (.int (most : Int)), .v (.ref A'.x), .v (.int (n : Int)), .u]) (m := 301) ?_ ?_
          · exact ⟨0, tl, Nat.zero_le _, rfl, S5.up e6, hm5, fun i h => absurd h (Nat.not_lt_zero _), hs6.forget 0⟩
          · rintro m σ' H' ⟨n, ms, hn, hmn, S', hfirst, inv, hs'⟩
            obtain ⟨dx', vm', o', _⟩ := S'.ob
            obtain ⟨xs', m1', m2'⟩ := S'.mt
            have hxl : xs'.length = ms.length := by rw [m2'.len, List.length_map]
            have hln := S'.ln
            refine ⟨_, et_test (eb_lt (Ed.vd (ev_var hs') (.int (n : Int))) (ed_lenL (ed_fld (ev_var hs') o' T.cl_Search T.n_Search_met sf_met) m1')), fun c H7 e7 => ?_, fun c H7 e7 => ?_⟩
            · have c := of_decide_eq_true c
              have hnl : n < ms.length := by omega
              have hs7 := hs'.up e7
              have S7 := S'.up e7
              refine sq_asg ?_
              refine (ev_var hs7 : Ed (tVar 2) _ _ (.v (.ref A'.x))) H7 (.refl _) _ fun v8 H8 e8 hv8 => ?_
              cases hv8
              have S8 := S7.up e8
              obtain ⟨dx8, vm8, o8, _⟩ := S8.ob
              refine ⟨A'.x, dx8, _, rfl, o8, rfl, ?_⟩
              refine (ea_cons ((ev_var (hs7.up e8)).vd (.int (n : Int)) : Ed (tVar 3) _ _ (.d (.num (n : Int)))) ea_nil) H8 (.refl _) _ fun vs H9 e9 hv9 => ?_
              cases hv9 with
              | cons s1 u1 =>
                cases u1
                cases s1
                refine ⟨M, most, H, A', ms, n, ms[n], hM, hNm, rfl, S8.up e9, List.getElem?_eq_getElem hnl, fun H10 tl' S10 h10 => ?_, fun p H10 hb e10 => ?_, fun H10 e10 => hE H10 e10⟩
                · refine gn_of ?_
                  have hs10 : Slots H10 (σ'.set 4 (some .non)) [.u, .v (.int (most : Int)), .v (.ref A'.x), .v (.int (n : Int)), .d .none] := (slots_any hs' rfl).set (s := .d .none) .non 4
                  refine s_if (et_test (eb_notN (ed_var hs10))) (fun c => absurd c (by decide)) (fun _ H11 e11 => ?_)
                  have hs11 := hs10.up e11
                  refine nx_of (X := tAsg _ _ _) ?_
                  refine s_setD hs11 (s := .v (.int ((n + 1 : Nat) : Int))) (Ed.dv <| Ed.is (ed_add (Ed.vd (ev_var hs11) (.int (n : Int))) ed_int) (by rw [Int.natCast_add]; rfl)) fun σ12 H12 e12 hs12 => ?_
                  refine ⟨301 - (n + 1), by have := S'.sm; omega, n + 1, ms ++ tl', by rw [List.length_append]; omega, rfl, S10.up (e11.trans e12), List.mem_append_left _ hfirst, fun i hi s hsi k pick hmay => ?_, hs12.forget 4⟩
                  by_cases hin : i = n
                  · subst hin
                    rw [List.getElem?_append_left hnl, List.getElem?_eq_getElem hnl] at hsi
                    cases hsi
                    exact h10 k pick hmay
                  · rw [List.getElem?_append_left (by omega)] at hsi
                    obtain ⟨s2, h1, h2⟩ := inv i (by omega) s hsi k pick hmay
                    exact ⟨s2, h1, List.mem_append_left _ h2⟩
                · refine gn_of ?_
                  have hs10 : Slots H10 (σ'.set 4 (some (.ref p))) [.u, .v (.int (most : Int)), .v (.ref A'.x), .v (.int (n : Int)), .v (.ref p)] := (slots_any hs' rfl).set (s := .v (.ref p)) rfl 4
                  refine s_if (et_test (eb_notNV (ev_var hs10))) (fun _ H11 e11 => ?_) (fun c => absurd c (by rw [decide_eq_false (fun z => by cases z)]; decide))
                  have hs11 := hs10.up e11
                  show tTup _ _ _ _
                  refine c_tup2 (s1 := .d (.text "break")) (s2 := .v (.ref p)) (ea_cons ed_str (ea_cons (ev_var hs11) ea_nil)) fun t a b H12 e12 ht h1 h2 => ?_
                  cases h1
                  exact q2 t b H12 ht hb ((e10.trans e11).trans e12)
            · have c := of_decide_eq_false c
              have hs7 := hs'.up e7
              have S7 := S'.up e7
              refine nx_of (X := tRet _ _) ?_
              show tTup _ _ _ _
              refine c_tup2 (s1 := .d (.text "paper")) (s2 := .v (.ref A'.mp)) (ea_cons ed_str (ea_cons (ed_fld (ev_var hs7) (e7 _ _ o') T.cl_Search T.n_Search_met sf_met) ea_nil)) fun t a b H8 e8 ht h1 h2 => ?_
              cases h1
              refine q1 t b H8 (ms.map Sd.dt) ht ⟨List.mem_map.mpr ⟨_, hfirst, rfl⟩, fun x hx => ?_⟩ (S7.same.trans e8)
              obtain ⟨s, hsm, rfl⟩ := List.mem_map.mp hx
              refine ⟨s, rfl, fun k pick hmay => ?_⟩
              obtain ⟨i, hi⟩ := List.getElem?_of_mem hsm
              have hil := (List.getElem?_eq_some_iff.mp hi).1
              obtain ⟨s2, h1, h2⟩ := inv i (by omega) s hi k pick hmay
              exact ⟨s2, h1, List.mem_map.mpr ⟨_, h2, rfl⟩⟩
end
end SB
set_option maxRecDepth 100000
set_option maxHeartbeats 8000000
/-! A list of three ints whose numbers are not told. -/
namespace SB
open PySem L2 PyProof.Rows
def WRaw (p : Addr) (h : Heap) : Prop := ∃ (i j k : Int) (a b c : Tok) (n : Nat), h.get? p = some { cls := .type "list", data := .seq [Value.int i a, .int j b, .int k c].toArray n }
def Wl (p : Addr) : HO := .ext (WRaw p)
theorem wl_new {P : Program} {w : World} {H : Hp} {h : Heap} {p : Addr} (r : WRaw p h) : ObjOk P w H h p (Wl p) := by
  obtain ⟨i, j, k, a, b, c, n, e⟩ := id r
  exact ⟨r, ⟨_, e⟩, fun h1 h2 ⟨i, j, k, a, b, c, n, e⟩ kp => ⟨i, j, k, a, b, c, n, kp _ e⟩⟩
section
variable {X : Cx}
def rIxW : R2 := fun x y H Q => ∃ (p : Addr) (k : Int), x = .ref p ∧ y = .int k ∧ 0 ≤ k ∧ k < 3 ∧ H p = some (Wl p) ∧ ∀ i, Q (.int i) H
theorem three {i j k : Int} {a b c : Tok} {z : Int} (h0 : 0 ≤ z) (h3 : z < 3) : ∃ y t, [Value.int i a, .int j b, .int k c].toArray[z.toNat]? = some (.int y t) := by
  have : z = 0 ∨ z = 1 ∨ z = 2 := by omega
  rcases this with rfl | rfl | rfl
  · exact ⟨_, _, rfl⟩
  · exact ⟨_, _, rfl⟩
  · exact ⟨_, _, rfl⟩
theorem three_set {i j k : Int} {a b c : Tok} {z y : Int} {t : Tok} {n : Nat} (h0 : 0 ≤ z) (h3 : z < 3) : ∃ (i' j' k' : Int) (a' b' c' : Tok), Obj.mapSeq (·.setIfInBounds z.toNat (.int y t)) { cls := .type "list", data := .seq [Value.int i a, .int j b, .int k c].toArray n } = { cls := .type "list", data := .seq [Value.int i' a', .int j' b', .int k' c'].toArray n } := by
  have : z = 0 ∨ z = 1 ∨ z = 2 := by omega
  rw [mapSeq_set]
  rcases this with rfl | rfl | rfl
  · exact ⟨_, _, _, _, _, _, rfl⟩
  · exact ⟨_, _, _, _, _, _, rfl⟩
  · exact ⟨_, _, _, _, _, _, rfl⟩
theorem ix_well : IxR X rIxW := by
  intro value slice pins s σ H x y v u Q I rx ry h hs
  obtain ⟨p, z, rfl, rfl, h0, h3, hp, q⟩ := h
  cases rx
  obtain ⟨t, rfl⟩ := ry
  obtain ⟨⟨i, j, k, a, b, c, n, e⟩, _, _⟩ := (show ObjOk X.prog X.w H s.heap p (Wl p) from I.hok p _ hp)
  obtain ⟨y, t', hy⟩ := three (i := i) (j := j) (k := k) (a := a) (b := b) (c := c) h0 h3
  have fin : EP X pins σ Q (.int y t') s := ⟨.int y, H, I, ⟨t', rfl⟩, q y⟩
  exact item_listR (PySem.IsL.isList (n := n) e) h0 (by omega) hy fin hs
def rSetW : TSet := fun o i v H Q => ∃ (p : Addr) (k j : Int), o = .ref p ∧ i = .int k ∧ v = .int j ∧ 0 ≤ k ∧ k < 3 ∧ H p = some (Wl p) ∧ Q H
theorem upd_self {H : Hp} {p : Addr} {o : HO} (h : H p = some o) : upd H p o = H := by
  funext a
  by_cases e : a = p
  · subst e; rw [upd_same, h]
  · rw [upd_ne e]
theorem set_well : PSet X rSetW := by
  intro pins s σ H o i v ov iv u Q I ro ri rv h
  obtain ⟨p, z, y, rfl, rfl, rfl, h0, h3, hp, q⟩ := h
  cases ro
  obtain ⟨t, rfl⟩ := ri
  obtain ⟨t2, rfl⟩ := rv
  obtain ⟨⟨i, j, k, a, b, c, n, e⟩, _, _⟩ := (show ObjOk X.prog X.w H s.heap p (Wl p) from I.hok p _ hp)
  refine PySem.W.ki_setAt e h0 (by omega) (by show z < 3; exact h3) ⟨H, ?_, q⟩
  obtain ⟨i', j', k', a', b', c', e'⟩ := three_set (i := i) (j := j) (k := k) (a := a) (b := b) (c := c) (n := n) (y := y) (t := t2) h0 h3
  have e2 : (s.heap.update p (Obj.mapSeq (·.setIfInBounds z.toNat (.int y t2)))).get? p = some { cls := .type "list", data := .seq [Value.int i' a', .int j' b', .int k' c'].toArray n } := by
    rw [Heap.get?_update_self _ e (by rw [e'] <;> rfl), e']
  have := I.write (x := p) (e := p) (o := Wl p) (t' := s.toks) (h' := s.heap.update p (Obj.mapSeq (·.setIfInBounds z.toNat (.int y t2)))) (by rw [hp]; trivial) (.inl rfl) (fun b u hb q => (Heap.get?_update_other _ _ (Ne.symm hb)).trans q) ⟨_, e2⟩ (wl_new ⟨i', j', k', a', b', c', n, e2⟩)
  rw [upd_self hp] at this
  exact this
/-- [a, b, c], ints -/
def tWell (ta : TA) : TE := fun σ H Q => ta σ H fun vs H1 => ∃ (i j k : Int), vs = [.int i, .int j, .int k] ∧ ∀ p, H1 p = none → Q (.ref p) (upd H1 p (Wl p))
theorem pe_well {es : List Expr} {ta : TA} {pos : Pos} (h : PA X es ta) : PE X (.List es pos) (tWell ta) := by
  refine ⟨fun pins s σ H Q I hq => ?_⟩
  refine wpAny_List_spliced (thn (h.run pos pins s σ H _ I hq) fun us s1 ⟨xs, H1, I1, r, i, j, k, e, q⟩ => ?_)
  subst e
  cases r with
  | cons r1 t1 => cases t1 with
    | cons r2 t2 => cases t2 with
      | cons r3 t3 =>
        cases t3
        obtain ⟨a, rfl⟩ := r1
        obtain ⟨b, rfl⟩ := r2
        obtain ⟨c, rfl⟩ := r3
        refine ⟨size_ok (by show 3 ≤ 100000; decide), ?_⟩
        have hf : H1 s1.heap.objs.size = none := I1.hok.fresh (Nat.le_refl _)
        exact ⟨.ref s1.heap.objs.size, upd H1 s1.heap.objs.size (Wl s1.heap.objs.size), I1.laid (t' := s1.toks) (fun b u e => Heap.get?_push_of_some _ e) (Nat.le_refl _) (wl_new ⟨i, j, k, a, b, c, _, Heap.get?_push_size _ rfl⟩), rfl, q _ hf⟩
end
end SB

set_option maxRecDepth 100000
set_option maxHeartbeats 8000000
/-! The law's cell, well, draw. -/
namespace SB
open PySem L2 PyProof.Rows
def Nm (R : Int → Prop) : Dt → Prop := fun k => ∃ i, R i ∧ k = .num i
def Ebx (tt : TT) (σ : L2.St) (H : Hp) : Prop := ∀ H1, Same H H1 → ∀ Q : Bool → Hp → Prop, (∀ b H2, Same H1 H2 → Q b H2) → tt σ H1 Q
section
variable {K : PySem.W.Frag} {σ : L2.St} {H H' : Hp} {ta tb te tx : TE} {t u : TT} {k k' : Dt} {ks js : List Dt} {ss : List SV} {s : SV} {i j : Int} {r : R2} {D : Ends} {tu tw : TS} {R R1 R2' : Int → Prop}
theorem Ed.nm (h : Ed te σ H (.d (.num i))) (hi : R i) : Ev te σ H (Nm R) := Ev.imp (Ed.ev h) fun k hk => ⟨i, hi, hk⟩
theorem en_ix {p : Addr} {z : Int} (ha : Ed ta σ H (.v (.ref p))) (hp : H p = some (Wl p)) (h0 : 0 ≤ z) (h3 : z < 3) : Ev (tOp rIxW ta (tC (.int z))) σ H (Nm fun _ => True) := fun H1 e Q q =>
  ha H1 e _ fun v H2 e2 h2 => by
    cases h2
    exact ⟨p, z, rfl, rfl, h0, h3, (e.trans e2) _ _ hp, fun i => q _ H2 _ e2 (.int i) ⟨i, trivial, rfl⟩⟩
theorem en_op (g : Int → Int → Int) (ha : Ev ta σ H (Nm R1)) (hb : Ev tb σ H (Nm R2')) (hr : ∀ (i j : Int) (H : Hp) (Q : VK), R1 i → R2' j → Q (.int (g i j)) H → r (.int i) (.int j) H Q) (hg : ∀ i j, R1 i → R2' j → R (g i j)) : Ev (tOp r ta tb) σ H (Nm R) := fun H1 e Q q =>
  ha H1 e _ fun v H2 k e2 h2 ⟨i, hi, hk⟩ => hb H2 (e.trans e2) _ fun v' H3 k' e3 h3 ⟨j, hj, hk'⟩ => by
    subst hk hk'
    cases h2; cases h3
    exact hr i j H3 Q hi hj (q _ H3 _ (e2.trans e3) (.int _) ⟨_, hg i j hi hj, rfl⟩)
theorem ebx_op (g : Int → Int → Bool) (ha : Ev ta σ H (Nm R1)) (hb : Ev tb σ H (Nm R2')) (hr : ∀ (i j : Int) (H : Hp) (Q : VK), Q (.bl (g i j)) H → r (.int i) (.int j) H Q) : Ebx (tTest (tOp r ta tb)) σ H := fun H1 e Q q =>
  ha H1 e _ fun v H2 k e2 h2 ⟨i, hi, hk⟩ => hb H2 (e.trans e2) _ fun v' H3 k' e3 h3 ⟨j, hj, hk'⟩ => by
    subst hk hk'
    cases h2; cases h3
    exact hr i j H3 _ ⟨_, rfl, q _ H3 (e2.trans e3)⟩
theorem s_ifX (h : Ebx t σ H) (h1 : ∀ H1, Same H H1 → tu D σ H1) (h2 : ∀ H1, Same H H1 → tw D σ H1) : tIfS t tu tw D σ H := h H (.refl H) _ fun b H1 e => by
  cases b with
  | true => exact h1 H1 e
  | false => exact h2 H1 e
theorem s_wset {p : Addr} {z : Int} (he : Ev te σ H (Nm R)) (ho : Ed ta σ H (.v (.ref p))) (hp : H p = some (Wl p)) (h0 : 0 ≤ z) (h3 : z < 3) (q : ∀ H1, Same H H1 → D.nx σ H1) : tAsg te (gSub ta (tC (.int z)) rSetW) D σ H :=
  he H (.refl H) _ fun v H1 k e1 h1 ⟨i, hi, hk⟩ => ho H1 e1 _ fun v2 H2 e2 h2 => by
    subst hk
    cases h1; cases h2
    exact ⟨p, z, i, rfl, rfl, rfl, h0, h3, (e1.trans e2) _ _ hp, q H2 (e1.trans e2)⟩
end
section
variable {P : Program} {w : World} {K : PySem.W.Frag} {mg : Str → Option Value} {base : Heap}
def spCell (K : PySem.W.Frag) : Sp := fun vs H Q _ => ∃ (a : Addr) (ns : List Int), vs = [.ref a, .int 0] ∧ SqL K H a (ns.map V.int) ∧ ∀ i H', Q (.int i) H'
theorem ok_law_cell_at (T : Txt K mg) : FnOk P w K mg base CX0 1 T.law_cell_at.a T.law_cell_at.d ["_law_script", "_law_k"] (spCell K) := by
  refine fun_okC T.law_cell_at.F sc_law_cell_at (fun vs H Q E h => ?_) (fun cdv A outer s H vs Q E hcd hr h => ?_)
  · obtain ⟨_, _, e, _⟩ := h
    rw [e]; rfl
  obtain ⟨a, ns, rfl, hsq, q'⟩ := h
  have hs : Slots H (L2.start ["_law_script", "_law_k"] [.ref a, .int 0]) [.v (.ref a), .v (.int 0)] := slots_start ["_law_script", "_law_k"] (.cons (s := .v (.ref a)) (show V.ref _ = V.ref _ from rfl) (.cons (s := .v (.int 0)) (show V.int _ = V.int _ from rfl) .nil))
  refine ⟨_, (pss_cons (ps_if (pt_cmpR op_lt (pv 1) (pe_callB call_len (by rfl) T.b_len PySem.boot_len (pa_cons (pv 0) pa_nil)) (nomark _)) (pss_one (ps_ret (pe_ix ix_seq (pv 0) (pv 1) (fun _ _ => rfl)))) pss_nil)
      (pss_one (ps_ret pe_int))), ?_⟩
  have up : ∀ {H1 : Hp}, Same H H1 → SqL K H1 a (ns.map V.int) := fun {H1} e => by
    rcases hsq with h | h
    · rcases h with h | ⟨o, h⟩
      · exact .inl (.inl (e _ _ h))
      · exact .inl (.inr ⟨o, e _ _ h⟩)
    · exact .inr h
  have hs' : Slots H (L2.start ["_law_script", "_law_k"] [.ref a, .int 0]) [.v (.ref a), .d (.num 0)] := slots_start ["_law_script", "_law_k"] (.cons (s := .v (.ref a)) (show V.ref _ = V.ref _ from rfl) (.cons (s := .d (.num 0)) (.int 0) .nil))
  have hlen : Ed (tCB (rLen K) (tCons (tVar 0) tNil)) (L2.start ["_law_script", "_law_k"] [.ref a, .int 0]) H (.d (.num (ns.length : Int))) := fun H1 e Q q =>
    (ev_var hs) H1 e _ fun v H2 e2 h2 => by
      cases h2
      exact ⟨.ref a, ns.length, rfl, .inl ⟨_, up (e.trans e2), by rw [List.length_map]⟩, q _ H2 e2 (.int _)⟩
  refine s_if (et_test (eb_lt (ed_var hs') hlen)) (fun c H1 e1 => ?_) (fun c H1 e1 => ?_)
  · have c := of_decide_eq_true c
    cases ns with
    | nil => exact absurd c (by decide)
    | cons n ns => exact ⟨_, rfl, _, rfl, .inl ⟨a, _, 0, .int n, rfl, rfl, up e1, by simp [atI, ixN], q' n H1⟩⟩
  · exact q' 0 H1
theorem c_well {σ : L2.St} {H : Hp} {ta : TA} {i j k : Int} {Q : VK} (h : Ea ta σ H [.d (.num i), .d (.num j), .d (.num k)]) (q : ∀ p H', Same H H' → H' p = none → Q (.ref p) (upd H' p (Wl p))) : tWell ta σ H Q := h H (.refl H) _ fun vs H1 e h1 => by
  cases h1 with
  | cons r1 t1 => cases t1 with
    | cons r2 t2 => cases t2 with
      | cons r3 t3 =>
        cases t3
        cases r1; cases r2; cases r3
        exact ⟨i, j, k, rfl, fun p hp => q p H1 e hp⟩
def spWell : Sp := fun vs H Q _ => ∃ (i : Int), vs = [.int i] ∧ ∀ p H', H' p = none → Q (.ref p) (upd H' p (Wl p))
theorem ok_law_well (T : Txt K mg) : FnOk P w K mg base CX0 1 T.law_well.a T.law_well.d ["_law_cell"] (spWell) := by
  refine fun_okC T.law_well.F sc_law_well (fun vs H Q E h => ?_) (fun cdv A outer s H vs Q E hcd hr h => ?_)
  · obtain ⟨_, e, _⟩ := h
    rw [e]; rfl
  obtain ⟨i, rfl, q⟩ := h
  refine ⟨_, (pss_one (ps_ret (pe_well (pa_cons (pe_callB (call_max2 rfl) (by rfl) T.b_max (by decide +kernel) (pa_cons pe_int (pa_cons (pe_op op_sub (pv 0) (pe_op op_pow pe_int pe_int)) pa_nil))) (pa_cons (pe_op op_mod (pv 0) pe_int) (pa_cons pe_int pa_nil)))))), ?_⟩
  have hs : Slots H (L2.start ["_law_cell"] [.int i]) [.d (.num i)] := slots_start ["_law_cell"] (.cons (s := .d (.num i)) (.int i) .nil)
  have pw : ∀ {σ : L2.St} {H : Hp}, Ed (tOp (rI CPow fun i j => V.int (i ^ j.toNat)) (tC (.int 10)) (tC (.int 9))) σ H (.d (.num (10 ^ (9 : Int).toNat))) := fun {σ H} => ed_op (g := fun i j => i ^ j.toNat) ed_int ed_int (fun H Q q => ⟨_, _, rfl, rfl, ⟨by decide, by decide, by decide⟩, q⟩)
  have md : ∀ {σ : L2.St} {H : Hp}, Slots H σ [.d (.num i)] → Ed (tOp (rI (fun _ j => 0 < j) fun i j => V.int (i % j)) (tVar 0) (tC (.int 2147483647))) σ H (.d (.num (i % 2147483647))) := fun {σ H} hs => ed_op (g := fun i j => i % j) (ed_var hs) ed_int (fun H Q q => ⟨_, _, rfl, rfl, show (0 : Int) < 2147483647 by decide, q⟩)
  have mx := ed_max2 (ed_int (i := 0)) (ed_sub (ed_var hs : Ed (tVar 0) _ _ (.d (.num i))) pw)
  show tWell _ _ _ _
  exact c_well (ea_cons mx (ea_cons (md hs) (ea_cons ed_int ea_nil))) fun p H' e hp => q p H' hp
def spDraw : Sp := fun vs H Q _ => ∃ (p : Addr) (b : Int), vs = [.ref p, .int b] ∧ 0 < b ∧ b < 1000 ∧ H p = some (Wl p) ∧ ∀ i H', 0 ≤ i → i < b → Same H H' → Q (.int i) H'
theorem num_lo (i : Int) : i % 2147483647 < 2 ^ 64 ∧ -(2 ^ 64) < i % 2147483647 := by
  have := Int.emod_nonneg i (show (2147483647 : Int) ≠ 0 by decide)
  have := Int.emod_lt_of_pos i (show (0 : Int) < 2147483647 by decide)
  omega
theorem num_lo2 (i : Int) : i % 2147483399 < 2 ^ 64 ∧ -(2 ^ 64) < i % 2147483399 := by
  have := Int.emod_nonneg i (show (2147483399 : Int) ≠ 0 by decide)
  have := Int.emod_lt_of_pos i (show (0 : Int) < 2147483399 by decide)
  omega
def Lo (i : Int) : Prop := -(2 ^ 64) < i ∧ i < 2 ^ 64
theorem ok_law_draw (T : Txt K mg) : FnOk P w K mg base CX0 1 T.law_draw.a T.law_draw.d ["_law_well_here", "_law_base"] (spDraw) := by
  refine fun_okC T.law_draw.F sc_law_draw (fun vs H Q E h => ?_) (fun cdv A outer s H vs Q E hcd hr h => ?_)
  · obtain ⟨_, _, e, _⟩ := h
    rw [e]; rfl
  obtain ⟨p, b, rfl, hb0, hb1, hp, q⟩ := h
  have hs : Slots H (L2.start ["_law_well_here", "_law_base", "_law_found", "_law_number"] [.ref p, .int b]) [.v (.ref p), .d (.num b), .u, .u] := slots_start ["_law_well_here", "_law_base", "_law_found", "_law_number"] (.cons (s := .v (.ref p)) (show V.ref _ = V.ref _ from rfl) (.cons (s := .d (.num b)) (.int _) .nil))
  refine ⟨_, (pss_cons (ps_if (pt_cmpR op_gt (pe_ix ix_well (pv 0) pe_int (fun _ _ => rfl)) pe_int (nomark _)) (pss_cons (ps_set (i := 2) sc_law_draw.nd rfl (Or.inl rfl) (pe_op op_mod (pe_ix ix_well (pv 0) pe_int (fun _ _ => rfl)) (pv 1)))
      (pss_cons (ps_asg (pe_op op_fdivX (pe_ix ix_well (pv 0) pe_int (fun _ _ => rfl)) (pv 1)) (pg_sub (pv 0) pe_int set_well))
      (pss_one (ps_ret (pv 2))))) pss_nil)
      (pss_cons (ps_asg (pe_op op_addX (pe_ix ix_well (pv 0) pe_int (fun _ _ => rfl)) pe_int) (pg_sub (pv 0) pe_int set_well))
      (pss_cons (ps_set (i := 3) sc_law_draw.nd rfl (Or.inl rfl) (pe_op op_mod (pe_op op_mulX (pe_op op_addX (pe_op op_addX (pe_ix ix_well (pv 0) pe_int (fun _ _ => rfl)) (pe_op op_mulX pe_int (pe_ix ix_well (pv 0) pe_int (fun _ _ => rfl)))) pe_int) pe_int) pe_int))
      (pss_cons (ps_set (i := 3) sc_law_draw.nd rfl (Or.inl rfl) (pe_op op_mod (pe_op op_mulX (pv 3) (pe_op op_addX (pe_op op_fdivX (pv 3) pe_int) pe_int)) pe_int))
      (pss_cons (ps_set (i := 3) sc_law_draw.nd rfl (Or.inl rfl) (pe_op op_mod (pe_op op_mulX (pv 3) (pe_op op_addX (pe_op op_fdivX (pv 3) pe_int) pe_int)) pe_int))
      (pss_one (ps_ret (pe_op op_mod (pe_op op_addX (pe_op op_mulX (pv 3) pe_int) (pe_op op_fdivX (pv 3) pe_int)) (pv 1))))))))), ?_⟩
  have mod : ∀ {H : Hp} {Q : VK} {i j : Int}, 0 < j → Q (.int (i % j)) H → (rI (fun _ j => 0 < j) fun i j => V.int (i % j)) (.int i) (.int j) H Q := fun hj q => ⟨_, _, rfl, rfl, hj, q⟩
  refine s_ifX (ebx_op (R1 := fun _ => True) (R2' := fun _ => True) (fun i j => decide (j < i)) (en_ix (ev_var hs) hp (by decide) (by decide)) (Ed.nm ed_int trivial) (fun i j H Q q => ⟨i, j, rfl, rfl, q⟩)) (fun H1 e1 => ?_) (fun H1 e1 => ?_)
  · have hs1 := hs.up e1
    refine s_set hs1 (R := Nm fun i => 0 ≤ i ∧ i < b) (en_op (R1 := fun _ => True) (R2' := fun j => j = b) (fun i j => i % j) (en_ix (ev_var hs1) (e1 _ _ hp) (by decide) (by decide)) (Ed.nm (ed_var hs1) rfl) (fun i j H Q _ hj q => mod (by omega) q) (fun i j _ hj => ⟨Int.emod_nonneg i (by omega), by subst hj; exact Int.emod_lt_of_pos i hb0⟩)) fun k σ2 H2 hk e2 hs2 => ?_
    obtain ⟨i, ⟨hi0, hi1⟩, rfl⟩ := hk
    refine nx_of (X := tSeq _ _ _) ?_
    have hp2 := (e1.trans e2) _ _ hp
    refine s_wset (R := fun _ => True) (en_op (R1 := fun _ => True) (R2' := fun j => j = b) (fun i j => i / j) (en_ix (ev_var hs2) hp2 (by decide) (by decide)) (Ed.nm (ed_var hs2) rfl) (fun i j H Q _ hj q => ⟨i, j, rfl, rfl, ⟨by omega, by omega⟩, q⟩) (fun _ _ _ _ => trivial)) (ev_var hs2) hp2 (by decide) (by decide) fun H3 e3 => ?_
    refine nx_of (X := tRet _ _) ?_
    exact s_retD (s := .d (.num i)) (ed_var (hs2.up e3)) fun v H4 e4 h4 => by
      cases h4
      exact q i H4 hi0 hi1 (((e1.trans e2).trans e3).trans e4)
  · have hs1 := hs.up e1
    have hp1 := e1 _ _ hp
    refine nx_of (X := tSeq _ _ _) ?_
    refine s_wset (R := fun _ => True) (en_op (R1 := fun _ => True) (R2' := fun _ => True) (fun i j => i + j) (en_ix (ev_var hs1) hp1 (by decide) (by decide)) (Ed.nm ed_int trivial) (fun i j H Q _ _ q => .inl (.inl ⟨i, j, rfl, rfl, q⟩)) (fun _ _ _ _ => trivial)) (ev_var hs1) hp1 (by decide) (by decide) fun H2 e2 => ?_
    have hs2 := hs1.up e2
    have hp2 := e2 _ _ hp1
    refine nx_of (X := tSeq _ _ _) ?_
    refine s_set hs2 (R := Nm Lo) (en_op (R1 := fun _ => True) (R2' := fun j => j = 2147483647) (fun i j => i % j) (en_op (R := fun _ => True) (R1 := fun _ => True) (R2' := fun j => j = 48271) (fun i j => i * j)
      (en_op (R := fun _ => True) (R1 := fun _ => True) (R2' := fun _ => True) (fun i j => i + j) (en_op (R := fun _ => True) (R1 := fun _ => True) (R2' := fun _ => True) (fun i j => i + j) (en_ix (ev_var hs2) hp2 (by decide) (by decide))
        (en_op (R := fun _ => True) (R1 := fun i => i = 7919) (R2' := fun _ => True) (fun i j => i * j) (Ed.nm ed_int rfl) (en_ix (ev_var hs2) hp2 (by decide) (by decide)) (fun i j H Q hi _ q => .inl ⟨i, j, rfl, rfl, .inl (by subst hi; decide), q⟩) (fun _ _ _ _ => trivial)) (fun i j H Q _ _ q => .inl (.inl ⟨i, j, rfl, rfl, q⟩)) (fun _ _ _ _ => trivial)) (Ed.nm ed_int trivial) (fun i j H Q _ _ q => .inl (.inl ⟨i, j, rfl, rfl, q⟩)) (fun _ _ _ _ => trivial))
      (Ed.nm ed_int rfl) (fun i j H Q _ hj q => .inl ⟨i, j, rfl, rfl, .inr (by subst hj; decide), q⟩) (fun _ _ _ _ => trivial)) (Ed.nm ed_int rfl) (fun i j H Q _ hj q => mod (by subst hj; decide) q) (fun i j _ hj => by subst hj; exact ⟨(num_lo i).2, (num_lo i).1⟩)) fun k σ3 H3 hk e3 hs3 => ?_
    obtain ⟨n3, hn3, rfl⟩ := hk
    refine nx_of (X := tSeq _ _ _) ?_
    have turn : ∀ {n : Int} {σ : L2.St} {H : Hp} {c d : Int} (m : Int), Lo n → 0 < c → c < 1073741824 → 0 < m → (∀ i, Lo (i % m)) → Slots H σ [.v (.ref p), .d (.num b), .u, .d (.num n)] →
        Ev (tOp (rI (fun _ j => 0 < j) fun i j => V.int (i % j)) (tOp (rMulX K) (tVar 3) (tOp (rAddX K) (tOp (rI CDiv fun i j => V.int (i / j)) (tVar 3) (tC (.int c))) (tC (.int d)))) (tC (.int m))) σ H (Nm Lo) := fun {n σ H c d} m hn hc0 hc1 hm hlo hs =>
      en_op (R1 := fun _ => True) (R2' := fun j => j = m) (fun i j => i % j) (en_op (R := fun _ => True) (R1 := Lo) (R2' := fun _ => True) (fun i j => i * j) (Ed.nm (ed_var hs) hn)
        (en_op (R := fun _ => True) (R1 := fun _ => True) (R2' := fun _ => True) (fun i j => i + j) (en_op (R := fun _ => True) (R1 := fun _ => True) (R2' := fun j => j = c) (fun i j => i / j) (Ed.nm (ed_var hs) trivial) (Ed.nm ed_int rfl) (fun i j H Q _ hj q => ⟨i, j, rfl, rfl, ⟨by omega, by omega⟩, q⟩) (fun _ _ _ _ => trivial)) (Ed.nm ed_int trivial) (fun i j H Q _ _ q => .inl (.inl ⟨i, j, rfl, rfl, q⟩)) (fun _ _ _ _ => trivial))
        (fun i j H Q hi _ q => .inl ⟨i, j, rfl, rfl, .inl hi, q⟩) (fun _ _ _ _ => trivial)) (Ed.nm ed_int rfl) (fun i j H Q _ hj q => mod (by omega) q) (fun i j _ hj => by subst hj; exact hlo i)
    refine s_set hs3 (R := Nm Lo) (turn 2147483647 hn3 (by decide) (by decide) (by decide) (fun i => ⟨(num_lo i).2, (num_lo i).1⟩) hs3) fun k σ4 H4 hk e4 hs4 => ?_
    obtain ⟨n4, hn4, rfl⟩ := hk
    refine nx_of (X := tSeq _ _ _) ?_
    refine s_set hs4 (R := Nm Lo) (turn 2147483399 hn4 (by decide) (by decide) (by decide) (fun i => ⟨(num_lo2 i).2, (num_lo2 i).1⟩) hs4) fun k σ5 H5 hk e5 hs5 => ?_
    obtain ⟨n5, hn5, rfl⟩ := hk
    refine nx_of (X := tRet _ _) ?_
    refine s_ret (R := Nm fun i => 0 ≤ i ∧ i < b) (en_op (R1 := fun _ => True) (R2' := fun j => j = b) (fun i j => i % j) (en_op (R := fun _ => True) (R1 := fun _ => True) (R2' := fun _ => True) (fun i j => i + j)
      (en_op (R := fun _ => True) (R1 := fun _ => True) (R2' := fun j => j = 48271) (fun i j => i * j) (Ed.nm (ed_var hs5) trivial) (Ed.nm ed_int rfl) (fun i j H Q _ hj q => .inl ⟨i, j, rfl, rfl, .inr (by subst hj; decide), q⟩) (fun _ _ _ _ => trivial))
      (en_op (R := fun _ => True) (R1 := fun _ => True) (R2' := fun j => j = 7) (fun i j => i / j) (Ed.nm (ed_var hs5) trivial) (Ed.nm ed_int rfl) (fun i j H Q _ hj q => ⟨i, j, rfl, rfl, ⟨by omega, by omega⟩, q⟩) (fun _ _ _ _ => trivial)) (fun i j H Q _ _ q => .inl (.inl ⟨i, j, rfl, rfl, q⟩)) (fun _ _ _ _ => trivial))
      (Ed.nm (ed_var hs5) rfl) (fun i j H Q _ hj q => mod (by omega) q) (fun i j _ hj => ⟨Int.emod_nonneg i (by omega), by subst hj; exact Int.emod_lt_of_pos i hb0⟩)) fun v H6 k e6 h6 hk => ?_
    obtain ⟨i, ⟨hi0, hi1⟩, rfl⟩ := hk
    cases h6
    exact q i H6 hi0 hi1 (((((e1.trans e2).trans e3).trans e4).trans e5).trans e6)
/-- a drawn number -/
theorem ev_draw {σ : L2.St} {H : Hp} {ta tb : TE} {p : Addr} {b : Int} {E : XK} (ha : Ed ta σ H (.v (.ref p))) (hb : Ed tb σ H (.d (.num b))) (hp : H p = some (Wl p)) (h0 : 0 < b) (h1 : b < 1000) : Ev (tCall spDraw [] E (tCons ta (tCons tb tNil))) σ H (Nm fun i => 0 ≤ i ∧ i < b) := fun H1 e Q q =>
  ha H1 e _ fun v H2 e2 h2 => hb H2 (e.trans e2) _ fun v' H3 e3 h3 => by
    cases h2; cases h3
    exact ⟨p, b, rfl, h0, h1, ((e.trans e2).trans e3) _ _ hp, fun i H4 h5 h6 e4 => q _ H4 _ ((e2.trans e3).trans e4) (.int _) ⟨i, ⟨h5, h6⟩, rfl⟩⟩
end
end SB

set_option maxRecDepth 100000
set_option maxHeartbeats 8000000
/-! Readings whose outcome is drawn; the law's expr and row. -/
namespace SB
open PySem L2 PyProof.Rows
section
variable {K : PySem.W.Frag} {σ : L2.St} {H H' : Hp} {ta tb tc td tf te tx : TE} {ks js : List Dt} {R R1 R2' R3 R4 R5 : Dt → Prop}
theorem ev_tup1 (h1 : Ev ta σ H R1) (hR : ∀ a, R1 a → R (.tup [a])) : Ev (tTup (tCons ta tNil)) σ H R := fun H1 e Q q =>
  h1 H1 e _ fun v1 H2 k1 e2 g1 r1 => ⟨size_ok (show (1 : Nat) ≤ 100000 by decide), fun p hp => q _ _ _ (e2.trans (same_new hp)) (Nd.tup upd_same (.cons (g1.up (same_new hp)) .nil)) (hR _ r1)⟩
theorem ev_tup2 (h1 : Ev ta σ H R1) (h2 : Ev tb σ H R2') (hR : ∀ a b, R1 a → R2' b → R (.tup [a, b])) : Ev (tTup (tCons ta (tCons tb tNil))) σ H R := fun H1 e Q q =>
  h1 H1 e _ fun v1 H2 k1 e2 g1 r1 => h2 H2 (e.trans e2) _ fun v2 H3 k2 e3 g2 r2 => ⟨size_ok (show (2 : Nat) ≤ 100000 by decide), fun p hp => q _ _ _ ((e2.trans e3).trans (same_new hp)) (Nd.tup upd_same (.cons ((g1.up e3).up (same_new hp)) (.cons (g2.up (same_new hp)) .nil))) (hR _ _ r1 r2)⟩
theorem ev_tup3 (h1 : Ev ta σ H R1) (h2 : Ev tb σ H R2') (h3 : Ev tc σ H R3) (hR : ∀ a b c, R1 a → R2' b → R3 c → R (.tup [a, b, c])) : Ev (tTup (tCons ta (tCons tb (tCons tc tNil)))) σ H R := fun H1 e Q q =>
  h1 H1 e _ fun v1 H2 k1 e2 g1 r1 => h2 H2 (e.trans e2) _ fun v2 H3 k2 e3 g2 r2 => h3 H3 ((e.trans e2).trans e3) _ fun v3 H4 k3 e4 g3 r3 => ⟨size_ok (show (3 : Nat) ≤ 100000 by decide), fun p hp =>
    q _ _ _ (((e2.trans e3).trans e4).trans (same_new hp)) (Nd.tup upd_same (.cons ((g1.up (e3.trans e4)).up (same_new hp)) (.cons ((g2.up e4).up (same_new hp)) (.cons (g3.up (same_new hp)) .nil)))) (hR _ _ _ r1 r2 r3)⟩
theorem ev_tup5 (h1 : Ev ta σ H R1) (h2 : Ev tb σ H R2') (h3 : Ev tc σ H R3) (h4 : Ev td σ H R4) (h5 : Ev tf σ H R5) (hR : ∀ a b c d f, R1 a → R2' b → R3 c → R4 d → R5 f → R (.tup [a, b, c, d, f])) : Ev (tTup (tCons ta (tCons tb (tCons tc (tCons td (tCons tf tNil)))))) σ H R := fun H1 e Q q =>
  h1 H1 e _ fun v1 H2 k1 e2 g1 r1 => h2 H2 (e.trans e2) _ fun v2 H3 k2 e3 g2 r2 => h3 H3 ((e.trans e2).trans e3) _ fun v3 H4 k3 e4 g3 r3 => h4 H4 (((e.trans e2).trans e3).trans e4) _ fun v4 H5 k4 e5 g4 r4 => h5 H5 ((((e.trans e2).trans e3).trans e4).trans e5) _ fun v5 H6 k5 e6 g5 r5 =>
    ⟨size_ok (show (5 : Nat) ≤ 100000 by decide), fun p hp =>
    q _ _ _ (((((e2.trans e3).trans e4).trans e5).trans e6).trans (same_new hp)) (Nd.tup upd_same (.cons ((g1.up (((e3.trans e4).trans e5).trans e6)).up (same_new hp)) (.cons ((g2.up ((e4.trans e5).trans e6)).up (same_new hp)) (.cons ((g3.up (e5.trans e6)).up (same_new hp)) (.cons ((g4.up e6).up (same_new hp)) (.cons (g5.up (same_new hp)) .nil))))))
      (hR _ _ _ _ _ r1 r2 r3 r4 r5)⟩
theorem el_lst1 {RL : List Dt → Prop} (h1 : Ev ta σ H R1) (hR : ∀ a, R1 a → RL [a]) : El (tLst (tCons ta tNil)) σ H RL := fun H1 e Q q =>
  h1 H1 e _ fun v1 H2 k1 e2 g1 r1 => ⟨size_ok (show (1 : Nat) ≤ 100000 by decide), fun p hp => q p _ _ _ (same_back e2 hp) (e2.trans (same_new hp)) upd_same (.cons (g1.up (same_new hp)) .nil) (hR _ r1)⟩
theorem el_lst2 {RL : List Dt → Prop} (h1 : Ev ta σ H R1) (h2 : Ev tb σ H R2') (hR : ∀ a b, R1 a → R2' b → RL [a, b]) : El (tLst (tCons ta (tCons tb tNil))) σ H RL := fun H1 e Q q =>
  h1 H1 e _ fun v1 H2 k1 e2 g1 r1 => h2 H2 (e.trans e2) _ fun v2 H3 k2 e3 g2 r2 => ⟨size_ok (show (2 : Nat) ≤ 100000 by decide), fun p hp => q p _ _ _ (same_back (e2.trans e3) hp) ((e2.trans e3).trans (same_new hp)) upd_same (.cons ((g1.up e3).up (same_new hp)) (.cons (g2.up (same_new hp)) .nil)) (hR _ _ r1 r2)⟩
theorem atI_in {ks : List Dt} {i : Int} (h0 : 0 ≤ i) (h1 : i < ks.length) : ∃ k, atI ks i = some k ∧ k ∈ ks := by
  obtain ⟨n, rfl⟩ := Int.eq_ofNat_of_zero_le h0
  have hn : n < ks.length := by omega
  exact ⟨ks[n], atI_nat (List.getElem?_eq_getElem hn), List.getElem_mem hn⟩
theorem ev_ixL {p : Addr} {xs : List V} (ha : Ed ta σ H (.v (.ref p))) (hp : H p = some (.lst xs)) (hn : NdAll H xs ks) (hb : Ev tb σ H (Nm fun i => 0 ≤ i ∧ i < ks.length)) : Ev (tOp (rIx K) ta tb) σ H (· ∈ ks) := fun H1 e Q q =>
  ha H1 e _ fun v1 H2 e2 h2 => hb H2 (e.trans e2) _ fun v' H3 k' e3 h3 ⟨i, ⟨i0, i1⟩, hk⟩ => by
    subst hk
    cases h2; cases h3
    obtain ⟨k, hk, hm⟩ := atI_in i0 i1
    obtain ⟨z, h6, h7⟩ := atI_nd hn hk
    exact .inl ⟨p, xs, i, z, rfl, rfl, SqL.of (((e.trans e2).trans e3) _ _ hp), h6, q z H3 k (e2.trans e3) (h7.up ((e.trans e2).trans e3)) hm⟩
/-- an item of a new list -/
theorem ev_ixN {RL : List Dt → Prop} {Ri : Int → Prop} (ha : El ta σ H RL) (hb : Ev tb σ H (Nm Ri)) (hR : ∀ ks i, RL ks → Ri i → ∃ k, atI ks i = some k ∧ R k) : Ev (tOp (rIx K) ta tb) σ H R := fun H1 e Q q =>
  ha H1 e _ fun p xs H2 ks hp e2 h1 h2 hk => hb H2 (e.trans e2) _ fun v' H3 k' e3 h3 ⟨i, hi, hk'⟩ => by
    subst hk'
    cases h3
    obtain ⟨k, hk, hr⟩ := hR ks i hk hi
    obtain ⟨z, h6, h7⟩ := atI_nd h2 hk
    exact .inl ⟨p, xs, i, z, rfl, rfl, SqL.of (e3 _ _ h1), h6, q z H3 k (e2.trans e3) (h7.up e3) hr⟩
end
structure ExIn (ns : List Str) (e : Ex) : Prop where
  deep : e.deep ≤ 2
  nn : e.nn
  nm : ∀ x ∈ e.names, x ∈ ns
  ok : okT e.dt = true
  dp : e.dt.depth ≤ 2
inductive RowIn (bs ns : List Str) (many : Nat) (w : Bool) : Row → Prop
  | put {b : Str} {e : Ex} : w = true → b ∈ bs → ExIn ns e → RowIn bs ns many w (.put b e)
  | get {b : Str} : b ∈ bs → RowIn bs ns many w (.get "x" b)
  | lt {x : Str} {e : Ex} : x = "x" ∨ x = "y" → ExIn ns e → RowIn bs ns many w (.lt x e)
  | un {e : Ex} : ExIn ns e → RowIn bs ns many w (.un e many)
  | tell {e : Ex} : w = false → ExIn ns e → RowIn bs ns many w (.tell e)
theorem depth_text {x : Str} : (NestedKey.text x).depth ≤ 0 := by simp [NestedKey.depth]
theorem okT_tup {ks : List Dt} (h : ∀ k ∈ ks, okT k = true) : okT (.tup ks) = true := okTs_of h
theorem exIn_var {ns : List Str} {x : Str} (hx : x ∈ ns) (ho : PyData.strOk x = true) : ExIn ns (.var x) := by
  refine ⟨(by decide : (1 : Nat) ≤ 2), trivial, fun y hy => ?_, ?_, ?_⟩
  · have hy : y ∈ [x] := hy
    rw [List.mem_singleton.mp hy]; exact hx
  · refine okT_tup fun k hk => ?_
    rcases List.mem_cons.mp hk with rfl | hk
    · show PyData.strOk ("var" : Str) = true
      decide +kernel
    · rw [List.mem_singleton.mp hk]; exact ho
  · exact Nat.le_trans (depthAll_one (n := 0) fun k hk => by
      rcases List.mem_cons.mp hk with rfl | hk
      · exact depth_text
      · rw [List.mem_singleton.mp hk]; exact depth_text) (by decide)
section
variable {P : Program} {w : World} {K : PySem.W.Frag} {mg : Str → Option Value} {base : Heap}
def spExpr : Sp := fun vs H Q _ => ∃ (p q : Addr) (ns : List Str) (xs : List V), vs = [.ref p, .ref q] ∧ H p = some (Wl p) ∧ H q = some (.lst xs) ∧ NdAll H xs (txts ns) ∧ 0 < ns.length ∧ ns.length ≤ 5 ∧ (∀ x ∈ ns, PyData.strOk x = true) ∧
  ∀ v H' e, Same H H' → Nd H' v e.dt → ExIn ns e → Q v H'
theorem ok_law_expr (T : Txt K mg) : FnOk P w K mg base CX0 2 T.law_expr.a T.law_expr.d ["_law_well_here", "_law_names"] (spExpr) := by
  refine fun_okC T.law_expr.F sc_law_expr (fun vs H Q E h => ?_) (fun cdv A outer s H vs Q E hcd hr h => ?_)
  · obtain ⟨_, _, _, _, e, _⟩ := h
    rw [e]; rfl
  obtain ⟨p, qn, ns, xs, rfl, hp, hq, hn, hl0, hl1, hok, q⟩ := h
  have hs : Slots H (L2.start ["_law_well_here", "_law_names", "_law_way", "_law_one"] [.ref p, .ref qn]) [.v (.ref p), .v (.ref qn), .u, .u] := slots_start ["_law_well_here", "_law_names", "_law_way", "_law_one"] (.cons (s := .v (.ref p)) (show V.ref _ = V.ref _ from rfl) (.cons (s := .v (.ref qn)) (show V.ref _ = V.ref _ from rfl) .nil))
  have hxl : xs.length = ns.length := by rw [hn.len]; simp [txts]
  have vr : ∀ {σ : L2.St} {H1 : Hp} {ss : List SV}, Same H H1 → Slots H1 σ (.v (.ref p) :: .v (.ref qn) :: ss) → Ev (tTup (tCons (tC (.str "var")) (tCons (tOp (rIx K) (tVar 1) (tCall spDraw [] E0 (tCons (tVar 0) (tCons (tCB (rLen K) (tCons (tVar 1) tNil)) tNil)))) tNil))) σ H1 (fun k => ∃ x, x ∈ ns ∧ k = (Ex.var x).dt) := fun {σ H1 ss} e hs =>
    ev_tup2 (Ed.ev ed_str) (ev_ixL (ks := txts ns) (ev_var hs) (e _ _ hq) (hn.up e) (Ev.imp (ev_draw (b := (xs.length : Int)) (ev_var hs) (ed_lenL (ev_var hs) (e _ _ hq)) (e _ _ hp) (by omega) (by omega)) fun k ⟨i, hi, hk⟩ => ⟨i, ⟨hi.1, by rw [show (txts ns).length = ns.length by simp [txts]]; omega⟩, hk⟩)) fun a b ha hb => by
      subst ha
      obtain ⟨x, hx, rfl⟩ := List.mem_map.mp hb
      exact ⟨x, hx, rfl⟩
  refine ⟨_, (pss_cons (ps_set (i := 2) sc_law_expr.nd rfl (Or.inl rfl) (pe_call (ok_law_draw T) (hr.mono (by decide)) (by rfl) T.law_draw.m T.law_draw.F.kp T.law_draw.b .nil pass0 (pa_cons (pv 0) (pa_cons pe_int pa_nil))))
      (pss_cons (ps_set (i := 3) sc_law_expr.nd rfl (Or.inl rfl) (pe_tup (pa_cons pe_str (pa_cons (pe_ix ix_seq (pv 1) (pe_call (ok_law_draw T) (hr.mono (by decide)) (by rfl) T.law_draw.m T.law_draw.F.kp T.law_draw.b .nil pass0 (pa_cons (pv 0) (pa_cons (pe_callB call_len (by rfl) T.b_len PySem.boot_len (pa_cons (pv 1) pa_nil)) pa_nil))) (fun _ _ => rfl)) pa_nil))))
      (pss_cons (ps_if (pt_cmpR op_lt (pv 2) pe_int (nomark _)) (pss_one (ps_ret (pv 3))) pss_nil)
      (pss_cons (ps_if (pt_cmpR (op_eqX hr.units) (pv 2) pe_int (nomark _)) (pss_one (ps_ret (pe_tup (pa_cons pe_str (pa_cons (pe_call (ok_law_draw T) (hr.mono (by decide)) (by rfl) T.law_draw.m T.law_draw.F.kp T.law_draw.b .nil pass0 (pa_cons (pv 0) (pa_cons pe_int pa_nil))) pa_nil))))) pss_nil)
      (pss_cons (ps_if (pt_cmpR (op_eqX hr.units) (pv 2) pe_int (nomark _)) (pss_one (ps_ret (pe_tup (pa_cons pe_str (pa_cons (pv 3) pa_nil))))) pss_nil)
      (pss_one (ps_ret (pe_tup (pa_cons (pe_ix ix_seq (pe_lst (pa_cons pe_str (pa_cons pe_str (pa_cons pe_str pa_nil)))) (pe_call (ok_law_draw T) (hr.mono (by decide)) (by rfl) T.law_draw.m T.law_draw.F.kp T.law_draw.b .nil pass0 (pa_cons (pv 0) (pa_cons pe_int pa_nil))) (fun _ _ => rfl)) (pa_cons (pv 3) (pa_cons (pe_tup (pa_cons pe_str (pa_cons (pe_ix ix_seq (pv 1) (pe_call (ok_law_draw T) (hr.mono (by decide)) (by rfl) T.law_draw.m T.law_draw.F.kp T.law_draw.b .nil pass0 (pa_cons (pv 0) (pa_cons (pe_callB call_len (by rfl) T.b_len PySem.boot_len (pa_cons (pv 1) pa_nil)) pa_nil))) (fun _ _ => rfl)) pa_nil))) pa_nil))))))))))), ?_⟩
  refine s_set hs (ev_draw (b := 5) (ev_var hs) ed_int hp (by decide) (by decide)) fun k σ1 H1 hk e1 hs1 => ?_
  obtain ⟨way, _, rfl⟩ := hk
  refine nx_of (X := tSeq _ _ _) ?_
  refine s_set hs1 (vr e1 hs1) fun k σ2 H2 hk e2 hs2 => ?_
  obtain ⟨x, hx, rfl⟩ := hk
  have e02 := e1.trans e2
  refine nx_of (X := tSeq _ _ _) ?_
  refine s_if (et_test (eb_lt (ed_var hs2) ed_int)) (fun c H3 e3 => ?_) (fun c H3 e3 => ?_)
  · exact s_retD (s := .d (Ex.var x).dt) (ed_var (hs2.up e3)) fun v H4 e4 h4 => q v H4 (.var x) ((e02.trans e3).trans e4) h4 (exIn_var hx (hok x hx))
  have hs3 := hs2.up e3
  have e03 := e02.trans e3
  refine nx_of (X := tSeq _ _ _) ?_
  refine s_if (et_test (eb_eq (ed_var hs3) ed_int)) (fun c H4 e4 => ?_) (fun c H4 e4 => ?_)
  · have hs4 := hs3.up e4
    refine s_ret (R := fun k => ∃ i, 0 ≤ i ∧ k = (Ex.num i).dt) (ev_tup2 (Ed.ev ed_str) (ev_draw (b := 2) (ev_var hs4) ed_int ((e03.trans e4) _ _ hp) (by decide) (by decide)) fun a b ha hb => ?_) fun v H5 k e5 h5 hk => ?_
    · subst ha
      obtain ⟨i, hi, rfl⟩ := hb
      exact ⟨i, hi.1, rfl⟩
    · obtain ⟨i, hi, rfl⟩ := hk
      refine q v H5 (.num i) ((e03.trans e4).trans e5) h5 ⟨(by decide : (1 : Nat) ≤ 2), hi, fun y hy => absurd (show y ∈ ([] : List Str) from hy) (by simp), ?_, ?_⟩
      · refine okT_tup fun k hk => ?_
        rcases List.mem_cons.mp hk with rfl | hk
        · show PyData.strOk ("num" : Str) = true
          decide +kernel
        · rw [List.mem_singleton.mp hk]; rfl
      · exact Nat.le_trans (depthAll_one (n := 0) fun k hk => by
          rcases List.mem_cons.mp hk with rfl | hk
          · exact depth_text
          · rw [List.mem_singleton.mp hk]; exact depth_num) (by decide)
  have hs4 := hs3.up e4
  have e04 := e03.trans e4
  have hv := exIn_var hx (hok x hx)
  refine nx_of (X := tSeq _ _ _) ?_
  refine s_if (et_test (eb_eq (ed_var hs4) ed_int)) (fun c H5 e5 => ?_) (fun c H5 e5 => ?_)
  · have hs5 := hs4.up e5
    refine s_retD (s := .d (Ex.nt (.var x)).dt) (ed_tup [.text "not", (Ex.var x).dt] (ea_cons ed_str (ea_cons (ed_var hs5) ea_nil)) (show (2 : Nat) ≤ 100000 by decide)) fun v H6 e6 h6 => q v H6 (.nt (.var x)) ((e04.trans e5).trans e6) h6 ⟨(by decide : (2 : Nat) ≤ 2), trivial, hv.nm, ?_, ?_⟩
    · refine okT_tup fun k hk => ?_
      rcases List.mem_cons.mp hk with rfl | hk
      · show PyData.strOk ("not" : Str) = true
        decide +kernel
      · rw [List.mem_singleton.mp hk]; exact hv.ok
    · exact depthAll_one (n := 1) fun k hk => by
        rcases List.mem_cons.mp hk with rfl | hk
        · exact Nat.le_trans depth_text (by decide)
        · rw [List.mem_singleton.mp hk]
          exact depthAll_one (n := 0) fun k hk => by
            rcases List.mem_cons.mp hk with rfl | hk
            · exact depth_text
            · rw [List.mem_singleton.mp hk]; exact depth_text
  · have hs5 := hs4.up e5
    have e05 := e04.trans e5
    refine nx_of (X := tRet _ _) ?_
    refine s_ret (R := fun k => ∃ (o : Nat) (y : Str), o < 3 ∧ y ∈ ns ∧ k = (Ex.bin o (.var x) (.var y)).dt) (ev_tup3 (R1 := fun k => ∃ o : Nat, o < 3 ∧ k = .text (opT o)) (ev_ixN (RL := (· = [.text "=", .text "or", .text "-"])) (Ri := fun i => 0 ≤ i ∧ i < 3) (el_lst [.text "=", .text "or", .text "-"] (ea_cons ed_str (ea_cons ed_str (ea_cons ed_str ea_nil))) (show (3 : Nat) ≤ 100000 by decide))
      (ev_draw (b := 3) (ev_var hs5) ed_int (e05 _ _ hp) (by decide) (by decide)) fun ks i hks hi => ?_) (Ed.ev (ed_var hs5 : Ed (tVar 3) _ _ (.d (Ex.var x).dt))) (vr e05 hs5) fun a b c ha hb hc => ?_) fun v H6 k e6 h6 hk => ?_
    · subst hks
      have : i = 0 ∨ i = 1 ∨ i = 2 := by omega
      rcases this with rfl | rfl | rfl
      · exact ⟨.text "=", by simp [atI, ixN], 0, by decide, rfl⟩
      · exact ⟨.text "or", by simp [atI, ixN], 1, by decide, rfl⟩
      · exact ⟨.text "-", by simp [atI, ixN], 2, by decide, rfl⟩
    · obtain ⟨o, ho, rfl⟩ := ha
      obtain ⟨y, hy, rfl⟩ := hc
      subst hb
      exact ⟨o, y, ho, hy, rfl⟩
    · obtain ⟨o, y, ho, hy, rfl⟩ := hk
      have hw := exIn_var hy (hok y hy)
      refine q v H6 _ (e05.trans e6) h6 ⟨(by decide : (max 1 1 + 1 : Nat) ≤ 2), ⟨trivial, trivial⟩, fun z hz => ?_, ?_, ?_⟩
      · have hz : z ∈ [x] ++ [y] := hz
        rcases List.mem_append.mp hz with a | a
        · rw [List.mem_singleton.mp a]; exact hx
        · rw [List.mem_singleton.mp a]; exact hy
      · refine okT_tup fun k hk => ?_
        rcases List.mem_cons.mp hk with rfl | hk
        · have : o = 0 ∨ o = 1 ∨ o = 2 := by omega
          rcases this with rfl | rfl | rfl
          · show PyData.strOk ("=" : Str) = true
            decide +kernel
          · show PyData.strOk ("or" : Str) = true
            decide +kernel
          · show PyData.strOk ("-" : Str) = true
            decide +kernel
        · rcases List.mem_cons.mp hk with rfl | hk
          · exact hv.ok
          · rw [List.mem_singleton.mp hk]; exact hw.ok
      · have d1 : ∀ z : Str, (Ex.var z).dt.depth ≤ 1 := fun z => depthAll_one (n := 0) fun k hk => by
          rcases List.mem_cons.mp hk with rfl | hk
          · exact depth_text
          · rw [List.mem_singleton.mp hk]; exact depth_text
        exact depthAll_one (n := 1) fun k hk => by
          rcases List.mem_cons.mp hk with rfl | hk
          · exact Nat.le_trans depth_text (by decide)
          · rcases List.mem_cons.mp hk with rfl | hk
            · exact d1 x
            · rw [List.mem_singleton.mp hk]; exact d1 y
theorem ev_expr {σ : L2.St} {H : Hp} {ta tb : TE} {p q : Addr} {ns : List Str} {xs : List V} {E : XK} (ha : Ed ta σ H (.v (.ref p))) (hb : Ed tb σ H (.v (.ref q))) (hp : H p = some (Wl p)) (hq : H q = some (.lst xs)) (hn : NdAll H xs (txts ns)) (h0 : 0 < ns.length) (h1 : ns.length ≤ 5) (ho : ∀ x ∈ ns, PyData.strOk x = true) :
    Ev (tCall spExpr [] E (tCons ta (tCons tb tNil))) σ H (fun k => ∃ e, ExIn ns e ∧ k = e.dt) := fun H1 e Q q' =>
  ha H1 e _ fun v H2 e2 h2 => hb H2 (e.trans e2) _ fun v' H3 e3 h3 => by
    cases h2; cases h3
    have e' := (e.trans e2).trans e3
    exact ⟨p, q, ns, xs, rfl, e' _ _ hp, e' _ _ hq, hn.up e', h0, h1, ho, fun v H4 ex e4 h4 hx => q' v H4 _ ((e2.trans e3).trans e4) h4 ⟨ex, hx, rfl⟩⟩
theorem ev_exprN {σ : L2.St} {H : Hp} {ta tb : TE} {p : Addr} {ns : List Str} {E : XK} (ha : Ed ta σ H (.v (.ref p))) (hb : El tb σ H (· = txts ns)) (hp : H p = some (Wl p)) (h0 : 0 < ns.length) (h1 : ns.length ≤ 5) (ho : ∀ x ∈ ns, PyData.strOk x = true) :
    Ev (tCall spExpr [] E (tCons ta (tCons tb tNil))) σ H (fun k => ∃ e, ExIn ns e ∧ k = e.dt) := fun H1 e Q q' =>
  ha H1 e _ fun v H2 e2 h2 => hb H2 (e.trans e2) _ fun r xs H3 ks hr e3 h3 h4 hk => by
    subst hk
    cases h2
    have e' := (e.trans e2).trans e3
    exact ⟨p, r, ns, xs, rfl, e' _ _ hp, h3, h4, h0, h1, ho, fun v H4 ex e4 h4 hx => q' v H4 _ ((e2.trans e3).trans e4) h4 ⟨ex, hx, rfl⟩⟩
end
end SB

set_option maxRecDepth 100000
set_option maxHeartbeats 8000000
/-! The law's row. -/
namespace SB
open PySem L2 PyProof.Rows
section
variable {P : Program} {w : World} {K : PySem.W.Frag} {mg : Str → Option Value} {base : Heap}
def spRow : Sp := fun vs H Q _ => ∃ (p qb qn : Addr) (bs ns : List Str) (xb xs : List V) (many : Nat) (wr : Bool), vs = [.ref p, .ref qb, .ref qn, .int (many : Int), .bl wr] ∧ H p = some (Wl p) ∧ H qb = some (.lst xb) ∧ NdAll H xb (txts bs) ∧ 0 < bs.length ∧ bs.length ≤ 5 ∧
  H qn = some (.lst xs) ∧ NdAll H xs (txts ns) ∧ 0 < ns.length ∧ ns.length ≤ 5 ∧ (∀ x ∈ ns, PyData.strOk x = true) ∧ ∀ v H' r, Same H H' → Nd H' v r.dt → RowIn bs ns many wr r → Q v H'
theorem ok_law_row (T : Txt K mg) : FnOk P w K mg base CX0 3 T.law_row.a T.law_row.d ["_law_well_here", "_law_boxes", "_law_names", "_law_many", "_law_is_writer"] (spRow) := by
  refine fun_okC T.law_row.F sc_law_row (fun vs H Q E h => ?_) (fun cdv A outer s H vs Q E hcd hr h => ?_)
  · obtain ⟨_, _, _, _, _, _, _, _, _, e, _⟩ := h
    rw [e]; rfl
  obtain ⟨p, qb, qn, bs, ns, xb, xs, many, wr, rfl, hp, hqb, hnb, hb0, hb1, hq, hn, hl0, hl1, hok, q⟩ := h
  have hs : Slots H (L2.start ["_law_well_here", "_law_boxes", "_law_names", "_law_many", "_law_is_writer", "_law_way", "_law_box"] [.ref p, .ref qb, .ref qn, .int (many : Int), .bl wr]) [.v (.ref p), .v (.ref qb), .v (.ref qn), .d (.num (many : Int)), .v (.bl wr), .u, .u] :=
    slots_start ["_law_well_here", "_law_boxes", "_law_names", "_law_many", "_law_is_writer", "_law_way", "_law_box"] (.cons (s := .v (.ref p)) (show V.ref _ = V.ref _ from rfl) (.cons (s := .v (.ref qb)) (show V.ref _ = V.ref _ from rfl) (.cons (s := .v (.ref qn)) (show V.ref _ = V.ref _ from rfl) (.cons (s := .d (.num (many : Int))) (.int _) (.cons (s := .v (.bl wr)) (show V.bl _ = V.bl _ from rfl) .nil)))))
  have hxl : xb.length = bs.length := by rw [hnb.len]; simp [txts]
  have ex : ∀ {σ : L2.St} {H1 : Hp} {a b : SV} {ss : List SV}, Same H H1 → Slots H1 σ (.v (.ref p) :: a :: .v (.ref qn) :: ss) → Ev (tCall spExpr [] E0 (tCons (tVar 0) (tCons (tVar 2) tNil))) σ H1 (fun k => ∃ e, ExIn ns e ∧ k = e.dt) := fun {σ H1 a b ss} e hs =>
    ev_expr (ev_var hs) (ev_var hs) (e _ _ hp) (e _ _ hq) (hn.up e) hl0 hl1 hok
  refine ⟨_, (pss_cons (ps_set (i := 5) sc_law_row.nd rfl (Or.inl rfl) (pe_call (ok_law_draw T) (hr.mono (by decide)) (by rfl) T.law_draw.m T.law_draw.F.kp T.law_draw.b .nil pass0 (pa_cons (pv 0) (pa_cons pe_int pa_nil))))
      (pss_cons (ps_set (i := 6) sc_law_row.nd rfl (Or.inl rfl) (pe_ix ix_seq (pv 1) (pe_call (ok_law_draw T) (hr.mono (by decide)) (by rfl) T.law_draw.m T.law_draw.F.kp T.law_draw.b .nil pass0 (pa_cons (pv 0) (pa_cons (pe_callB call_len (by rfl) T.b_len PySem.boot_len (pa_cons (pv 1) pa_nil)) pa_nil))) (fun _ _ => rfl)))
      (pss_cons (ps_if (PW.pt (pw_and (pt_cmpR op_lt (pv 5) pe_int (nomark _)) (pw_and1 (pt_val (pv 4))))) (pss_one (ps_ret (pe_tup (pa_cons pe_str (pa_cons (pv 6) (pa_cons (pe_call (ok_law_expr T) (hr.mono (by decide)) (by rfl) T.law_expr.m T.law_expr.F.kp T.law_expr.b .nil pass0 (pa_cons (pv 0) (pa_cons (pv 2) pa_nil))) pa_nil)))))) pss_nil)
      (pss_cons (ps_if (pt_cmpR op_lt (pv 5) pe_int (nomark _)) (pss_one (ps_ret (pe_tup (pa_cons pe_str (pa_cons pe_str (pa_cons (pv 6) pa_nil)))))) pss_nil)
      (pss_cons (ps_if (pt_cmpR (op_eqX hr.units) (pv 5) pe_int (nomark _)) (pss_one (ps_ret (pe_tup (pa_cons pe_str (pa_cons pe_str (pa_cons (pe_call (ok_law_expr T) (hr.mono (by decide)) (by rfl) T.law_expr.m T.law_expr.F.kp T.law_expr.b .nil pass0 (pa_cons (pv 0) (pa_cons (pv 2) pa_nil))) pa_nil)))))) pss_nil)
      (pss_cons (ps_if (pt_cmpR (op_eqX hr.units) (pv 5) pe_int (nomark _)) (pss_one (ps_ret (pe_tup (pa_cons pe_str (pa_cons (pe_call (ok_law_expr T) (hr.mono (by decide)) (by rfl) T.law_expr.m T.law_expr.F.kp T.law_expr.b .nil pass0 (pa_cons (pv 0) (pa_cons (pv 2) pa_nil))) (pa_cons (pv 3) pa_nil)))))) pss_nil)
      (pss_one (ps_ret (pe_ix ix_seq (pe_lst (pa_cons (pe_tup (pa_cons pe_str (pa_cons (pe_call (ok_law_expr T) (hr.mono (by decide)) (by rfl) T.law_expr.m T.law_expr.F.kp T.law_expr.b .nil pass0 (pa_cons (pv 0) (pa_cons (pv 2) pa_nil))) pa_nil))) (pa_cons (pe_tup (pa_cons pe_str (pa_cons pe_str (pa_cons (pe_call (ok_law_expr T) (hr.mono (by decide)) (by rfl) T.law_expr.m T.law_expr.F.kp T.law_expr.b .nil pass0 (pa_cons (pv 0) (pa_cons (pv 2) pa_nil))) pa_nil)))) pa_nil))) (pe_callTy call_int1 (by rfl) T.b_int (by decide +kernel) (pa_cons (pv 4) pa_nil)) (fun _ _ => rfl)))))))))), ?_⟩
  refine s_set hs (ev_draw (b := 6) (ev_var hs) ed_int hp (by decide) (by decide)) fun k σ1 H1 hk e1 hs1 => ?_
  obtain ⟨way, _, rfl⟩ := hk
  refine nx_of (X := tSeq _ _ _) ?_
  refine s_set hs1 (ev_ixL (ks := txts bs) (ev_var hs1) (e1 _ _ hqb) (hnb.up e1) (Ev.imp (ev_draw (b := (xb.length : Int)) (ev_var hs1) (ed_lenL (ev_var hs1) (e1 _ _ hqb)) (e1 _ _ hp) (by omega) (by omega)) fun k ⟨i, hi, hk⟩ => ⟨i, ⟨hi.1, by rw [show (txts bs).length = bs.length by simp [txts]]; omega⟩, hk⟩)) fun k σ2 H2 hk e2 hs2 => ?_
  obtain ⟨b, hb, rfl⟩ := List.mem_map.mp hk
  have e02 := e1.trans e2
  refine nx_of (X := tSeq _ _ _) ?_
  refine s_if (et_and (et_test (eb_lt (ed_var hs2) ed_int)) (fun _ => et_test (ev_var hs2))) (fun c H3 e3 => ?_) (fun c H3 e3 => ?_)
  · rw [Bool.and_eq_true] at c
    have hs3 := hs2.up e3
    have e03 := e02.trans e3
    refine s_ret (R := fun k => ∃ e, ExIn ns e ∧ k = (Row.put b e).dt) (ev_tup3 (Ed.ev ed_str) (Ed.ev (ed_var hs3)) (ex (a := .v (.ref qb)) (b := .u) e03 hs3) fun x y z hx hy hz => ?_) fun v H4 k e4 h4 hk => ?_
    · obtain ⟨e, he, rfl⟩ := hz
      subst hx hy
      exact ⟨e, he, rfl⟩
    · obtain ⟨e, he, rfl⟩ := hk
      exact q v H4 _ (e03.trans e4) h4 (.put c.2 hb he)
  have hs3 := hs2.up e3
  have e03 := e02.trans e3
  refine nx_of (X := tSeq _ _ _) ?_
  refine s_if (et_test (eb_lt (ed_var hs3) ed_int)) (fun c2 H4 e4 => ?_) (fun c2 H4 e4 => ?_)
  · have hs4 := hs3.up e4
    exact s_retD (s := .d (Row.get "x" b).dt) (ed_tup [.text "get", .text "x", .text b] (ea_cons ed_str (ea_cons ed_str (ea_cons (ed_var hs4) ea_nil))) (show (3 : Nat) ≤ 100000 by decide)) fun v H5 e5 h5 => q v H5 _ ((e03.trans e4).trans e5) h5 (.get hb)
  have hs4 := hs3.up e4
  have e04 := e03.trans e4
  refine nx_of (X := tSeq _ _ _) ?_
  refine s_if (et_test (eb_eq (ed_var hs4) ed_int)) (fun c3 H5 e5 => ?_) (fun c3 H5 e5 => ?_)
  · have hs5 := hs4.up e5
    have e05 := e04.trans e5
    refine s_ret (R := fun k => ∃ e, ExIn ns e ∧ k = (Row.lt "y" e).dt) (ev_tup3 (Ed.ev ed_str) (Ed.ev ed_str) (ex (a := .v (.ref qb)) (b := .u) e05 hs5) fun x y z hx hy hz => ?_) fun v H6 k e6 h6 hk => ?_
    · obtain ⟨e, he, rfl⟩ := hz
      subst hx hy
      exact ⟨e, he, rfl⟩
    · obtain ⟨e, he, rfl⟩ := hk
      exact q v H6 _ (e05.trans e6) h6 (.lt (.inr rfl) he)
  have hs5 := hs4.up e5
  have e05 := e04.trans e5
  refine nx_of (X := tSeq _ _ _) ?_
  refine s_if (et_test (eb_eq (ed_var hs5) ed_int)) (fun c3 H6 e6 => ?_) (fun c3 H6 e6 => ?_)
  · have hs6 := hs5.up e6
    have e06 := e05.trans e6
    refine s_ret (R := fun k => ∃ e, ExIn ns e ∧ k = (Row.un e many).dt) (ev_tup3 (Ed.ev ed_str) (ex (a := .v (.ref qb)) (b := .u) e06 hs6) (Ed.ev (ed_var hs6)) fun x y z hx hy hz => ?_) fun v H7 k e7 h7 hk => ?_
    · obtain ⟨e, he, rfl⟩ := hy
      subst hx hz
      exact ⟨e, he, rfl⟩
    · obtain ⟨e, he, rfl⟩ := hk
      exact q v H7 _ (e06.trans e7) h7 (.un he)
  have hs6 := hs5.up e6
  have e06 := e05.trans e6
  refine nx_of (X := tRet _ _) ?_
  refine s_ret (R := fun k => ∃ r, RowIn bs ns many wr r ∧ k = r.dt) (ev_ixN (RL := fun ks => ∃ e1 e2, ExIn ns e1 ∧ ExIn ns e2 ∧ ks = [(Row.tell e1).dt, (Row.lt "x" e2).dt]) (Ri := fun i => i = if wr then 1 else 0)
    (el_lst2 (R1 := fun k => ∃ e, ExIn ns e ∧ k = (Row.tell e).dt) (R2' := fun k => ∃ e, ExIn ns e ∧ k = (Row.lt "x" e).dt)
      (ev_tup2 (Ed.ev ed_str) (ex (a := .v (.ref qb)) (b := .u) e06 hs6) fun x y hx hy => by
        obtain ⟨e, he, rfl⟩ := hy
        subst hx
        exact ⟨e, he, rfl⟩)
      (ev_tup3 (Ed.ev ed_str) (Ed.ev ed_str) (ex (a := .v (.ref qb)) (b := .u) e06 hs6) fun x y z hx hy hz => by
        obtain ⟨e, he, rfl⟩ := hz
        subst hx hy
        exact ⟨e, he, rfl⟩) fun x y hx hy => by
        obtain ⟨e1, he1, rfl⟩ := hx
        obtain ⟨e2, he2, rfl⟩ := hy
        exact ⟨e1, e2, he1, he2, rfl⟩) (Ed.nm (ed_int0 (ev_var hs6)) rfl) fun ks i hks hi => ?_) fun v H7 k e7 h7 hk => ?_
  · obtain ⟨e1, e2, he1, he2, rfl⟩ := hks
    subst hi
    cases wr with
    | true => exact ⟨(Row.lt "x" e2).dt, by simp [atI, ixN], _, .lt (.inl rfl) he2, rfl⟩
    | false => exact ⟨(Row.tell e1).dt, by simp [atI, ixN], _, .tell rfl he1, rfl⟩
  · obtain ⟨r, hr, rfl⟩ := hk
    exact q v H7 r (e06.trans e7) h7 hr
theorem ev_rowN {σ : L2.St} {H : Hp} {ta tb tc td tw : TE} {p qb : Addr} {bs ns : List Str} {xb : List V} {many : Nat} {wr : Bool} {E : XK} (ha : Ed ta σ H (.v (.ref p))) (hb : Ed tb σ H (.v (.ref qb))) (hc : El tc σ H (· = txts ns)) (hd : Ed td σ H (.d (.num (many : Int)))) (hw : Ed tw σ H (.v (.bl wr)))
    (hp : H p = some (Wl p)) (hqb : H qb = some (.lst xb)) (hnb : NdAll H xb (txts bs)) (hb0 : 0 < bs.length) (hb1 : bs.length ≤ 5) (h0 : 0 < ns.length) (h1 : ns.length ≤ 5) (ho : ∀ x ∈ ns, PyData.strOk x = true) :
    Ev (tCall spRow [] E (tCons ta (tCons tb (tCons tc (tCons td (tCons tw tNil)))))) σ H (fun k => ∃ r, RowIn bs ns many wr r ∧ k = r.dt) := fun H1 e Q q' =>
  ha H1 e _ fun v1 H2 e2 h2 => hb H2 (e.trans e2) _ fun v2 H3 e3 h3 => hc H3 ((e.trans e2).trans e3) _ fun r xs H4 ks hr e4 h4 h5 hk => hd H4 (((e.trans e2).trans e3).trans e4) _ fun v4 H5 e5 h6 => hw H5 ((((e.trans e2).trans e3).trans e4).trans e5) _ fun v5 H6 e6 h7 => by
    subst hk
    cases h2; cases h3; cases h6; cases h7
    have e' := ((((e.trans e2).trans e3).trans e4).trans e5).trans e6
    exact ⟨p, qb, r, bs, ns, xb, xs, many, wr, rfl, e' _ _ hp, e' _ _ hqb, hnb.up e', hb0, hb1, (e5.trans e6) _ _ h4, h5.up (e5.trans e6), h0, h1, ho, fun v H7 rw' e7 h8 hx => q' v H7 _ (((((e2.trans e3).trans e4).trans e5).trans e6).trans e7) h8 ⟨rw', hx, rfl⟩⟩
end
end SB
set_option maxRecDepth 100000
set_option maxHeartbeats 8000000
/-! Sorted names are there; rules for the law's makings. -/
namespace SB
open PySem L2 PyProof.Rows
theorem sorts_ex : ∀ l : List Str, ∃ out, Sorts l out
  | [] => ⟨[], .nil, .nil, fun z => Iff.rfl⟩
  | x :: l => by
    obtain ⟨out, h⟩ := sorts_ex l
    by_cases e : x ∈ l
    · exact ⟨out, h.pw, h.nd, fun z => (h.mem z).trans ⟨List.mem_cons_of_mem _, fun hz => by
        rcases List.mem_cons.mp hz with rfl | hz
        · exact e
        · exact hz⟩⟩
    · let le : Str → Str → Bool := fun a b => decide (a.cps.toList ≤ b.cps.toList)
      have tr : ∀ a b c : Str, le a b = true → le b c = true → le a c = true := fun a b c h1 h2 => decide_eq_true (List.le_trans (of_decide_eq_true h1) (of_decide_eq_true h2))
      have to : ∀ a b : Str, (le a b || le b a) = true := fun a b => by
        rcases List.le_total a.cps.toList b.cps.toList with q | q
        · rw [Bool.or_eq_true]; exact .inl (decide_eq_true q)
        · rw [Bool.or_eq_true]; exact .inr (decide_eq_true q)
      have pm : ((x :: out).mergeSort le).Perm (x :: out) := List.mergeSort_perm _ _
      refine ⟨(x :: out).mergeSort le, ?_, ?_, fun z => ?_⟩
      · have := List.pairwise_mergeSort tr to (x :: out)
        exact this.imp fun h => of_decide_eq_true h
      · exact pm.nodup_iff.mpr (List.nodup_cons.mpr ⟨fun z => e ((h.mem x).mp z), h.nd⟩)
      · rw [pm.mem_iff, List.mem_cons, List.mem_cons, h.mem z]
inductive F2 (R : Dt → Dt → Prop) : List Dt → List Dt → Prop
  | nil : F2 R [] []
  | cons {a b : Dt} {as bs : List Dt} : R a b → F2 R as bs → F2 R (a :: as) (b :: bs)
theorem F2.snoc {R : Dt → Dt → Prop} {a b : Dt} (h : R a b) : ∀ {as bs : List Dt}, F2 R as bs → F2 R (as ++ [a]) (bs ++ [b])
  | _, _, .nil => .cons h .nil
  | _, _, .cons r t => .cons r (F2.snoc h t)
theorem F2.len {R : Dt → Dt → Prop} : ∀ {as bs : List Dt}, F2 R as bs → as.length = bs.length
  | _, _, .nil => rfl
  | _, _, .cons _ t => by simp [F2.len t]
section
variable {K : PySem.W.Frag} {σ : L2.St} {H : Hp} {te tx ta tb : TE} {ss : List SV} {ks : List Dt} {g : TG} {D : Ends} {tu : TS}
/-- a comprehension's turn, its item drawn -/
theorem cw_turnR {H1 : Hp} {Dl : Addr} {out : List Dt} {σ2 : L2.St} {Hc : Hp} {R : Dt → Prop} {Z : List Dt → Prop} (hD : H1 Dl = none) (c : Cw H1 Dl out Hc) (hz : out.length < 50000) (he : Ev te σ2 Hc R) (hZ : ∀ k, R k → Z (out ++ [k])) :
    tYes σ2 Hc fun b H3 => if b = true then te σ2 H3 fun y H4 => ∃ acc, H4 Dl = some (.lst acc) ∧ acc.length < sizeLine ∧ ∃ o, Z o ∧ Cw H1 Dl o (upd H4 Dl (.lst (acc ++ [y]))) else ∃ o, Z o ∧ Cw H1 Dl o H3 := by
  obtain ⟨c1, ys, c2, c3⟩ := c
  refine eb_yes Hc (.refl _) _ fun H3 e3 => ?_
  show te σ2 H3 _
  refine he H3 e3 _ fun y H4 k e4 h4 hk => ⟨ys, e4 _ _ (e3 _ _ c2), size_lt (by rw [c3.len]; omega), out ++ [k], hZ k hk, same_mut ((c1.trans e3).trans e4) hD, ys ++ [y], upd_same, ?_⟩
  exact NdAll.tx (.app (c3.up (e3.trans e4)) (.one h4)) (Tx.lst (e4 _ _ (e3 _ _ c2)))
theorem el_lcR {vs : List Nat} {n : Nat} {p : Addr} {xs : List V} {R : Dt → Dt → Prop} (hs : Slots H σ ss) (h : Ed te σ H (.v (.ref p))) (hp : H p = some (.lst xs)) (hk : NdAll H xs ks) (hz : ks.length < 50000) (hn : n ∈ vs)
    (he : ∀ k ∈ ks, ∀ σ2 H2, Same H H2 → Slots H2 σ2 ((wipeS ss vs).set n (.d k)) → Ev tx σ2 H2 (R k)) : El (tLc (iList K te) (gName n) tYes tx vs) σ H (F2 R ks) := fun H0 e0 Q q => h H0 e0 _ fun v H1 e h1 => by
  cases h1
  have h4 := (e0.trans e) _ _ hp
  have h5 := hk.up (e0.trans e)
  refine ⟨p, rfl, ⟨xs, SqL.of h4⟩, fun Dl hD => lc_list (K := K) (a := p) (xs := xs) (fun i H' => ∃ out, F2 R (ks.take i) out ∧ Cw H1 Dl out H') ⟨[], .nil, same_new hD, [], upd_same, .nil⟩ (fun i H' _ ⟨_, _, c⟩ => SqL.of (c.1 _ _ h4)) (fun i x H' hi ⟨out, f, c⟩ => ?_) (fun H' ⟨out, f, c⟩ => ?_)⟩
  · obtain ⟨k, hki, h6⟩ := h5.getV hi
    have e1 := (e0.trans e).trans c.1
    refine ⟨by rw [wipe_set hn]; exact wipe_wipe _ _, ?_⟩
    have hs2 : Slots H' ((wipe σ vs).set n (some x)) ((wipeS ss vs).set n (.d k)) := ((hs.wipe vs).up e1).set (s := .d k) (h6.up c.1) n
    have hl : out.length < 50000 := by
      rw [← f.len]
      exact Nat.lt_of_le_of_lt (List.length_take_le _ _) (by have := (List.getElem?_eq_some_iff.mp hki).1; omega)
    exact cw_turnR (R := R k) (Z := fun o => F2 R (ks.take (i + 1)) o) hD c hl (he k (List.mem_of_getElem? hki) _ _ e1 hs2) fun j hj => by
      rw [take_succ hki]
      exact f.snoc hj
  · rw [h5.len, List.take_length] at f
    obtain ⟨c1, ys, c2, c3⟩ := c
    exact q Dl ys H' _ (same_back e hD) (e.trans c1) c2 c3 f
/-- the same over a new list -/
theorem el_lcRN {vs : List Nat} {n : Nat} {R : Dt → Dt → Prop} {RL : List Dt → Prop} (hs : Slots H σ ss) (h : El te σ H RL) (hz : ∀ ks, RL ks → ks.length < 50000) (hn : n ∈ vs)
    (he : ∀ ks, RL ks → ∀ k ∈ ks, ∀ σ2 H2, Same H H2 → Slots H2 σ2 ((wipeS ss vs).set n (.d k)) → Ev tx σ2 H2 (R k)) : El (tLc (iList K te) (gName n) tYes tx vs) σ H (fun out => ∃ ks, RL ks ∧ F2 R ks out) := fun H0 e0 Q q => h H0 e0 _ fun p xs H1 ks hpn e h4 h5 hks => by
  refine ⟨p, rfl, ⟨xs, SqL.of h4⟩, fun Dl hD => lc_list (K := K) (a := p) (xs := xs) (fun i H' => ∃ out, F2 R (ks.take i) out ∧ Cw H1 Dl out H') ⟨[], .nil, same_new hD, [], upd_same, .nil⟩ (fun i H' _ ⟨_, _, c⟩ => SqL.of (c.1 _ _ h4)) (fun i x H' hi ⟨out, f, c⟩ => ?_) (fun H' ⟨out, f, c⟩ => ?_)⟩
  · obtain ⟨k, hki, h6⟩ := h5.getV hi
    have e1 := (e0.trans e).trans c.1
    refine ⟨by rw [wipe_set hn]; exact wipe_wipe _ _, ?_⟩
    have hs2 : Slots H' ((wipe σ vs).set n (some x)) ((wipeS ss vs).set n (.d k)) := ((hs.wipe vs).up e1).set (s := .d k) (h6.up c.1) n
    have hl : out.length < 50000 := by
      rw [← f.len]
      exact Nat.lt_of_le_of_lt (List.length_take_le _ _) (by have := (List.getElem?_eq_some_iff.mp hki).1; have := hz ks hks; omega)
    exact cw_turnR (R := R k) (Z := fun o => F2 R (ks.take (i + 1)) o) hD c hl (he ks hks k (List.mem_of_getElem? hki) _ _ e1 hs2) fun j hj => by
      rw [take_succ hki]
      exact f.snoc hj
  · rw [h5.len, List.take_length] at f
    obtain ⟨c1, ys, c2, c3⟩ := c
    exact q Dl ys H' _ (same_back e hD) (e.trans c1) c2 c3 ⟨ks, hks, f⟩
/-- a new list's head, its length drawn -/
theorem el_headN {RL : List Dt → Prop} {Ri : Int → Prop} (ha : El ta σ H RL) (hb : Ev tb σ H (Nm Ri)) : El (tSl (rSlX K) ta tNoPart (tPart tb)) σ H (fun ks => ∃ js i, RL js ∧ Ri i ∧ ks = cutD js none (some i)) := fun H1 e Q q =>
  ha H1 e _ fun p xs H2 js hp e2 h1 h2 hj => eo_none H2 (.refl _) _ fun H3 e3 => hb H3 ((e.trans e2).trans e3) _ fun v H4 k e4 h4 ⟨i, hi, hk⟩ => by
    subst hk
    cases h4
    refine ⟨i, rfl, ?_⟩
    have e5 := e3.trans e4
    exact .inr ⟨p, xs, rfl, SqL.of (e5 _ _ h1), fun r hr => q r _ _ _ (same_back (e2.trans e5) hr) ((e2.trans e5).trans (same_new hr)) upd_same ((cutV_nd (h2.up e5) none (some i)).up (same_new hr)) ⟨js, i, hj, hi, rfl⟩⟩
/-- for k in range(n) -/
theorem s_forR {n : Nat} (h : Ed te σ H (.d (.num (n : Int)))) (hn : n ≤ 1000) (q : ∀ H1, Same H H1 → ∃ P : Nat → L2.St → Hp → Prop, P 0 σ H1 ∧
    (∀ i σ' H', i < n → P i σ' H' → g (.int (i : Int)) σ' H' fun σ2 H2 => tu { D with nx := P (i + 1), ct := P (i + 1), bk := D.nx } σ2 H2) ∧ ∀ σ' H', P n σ' H' → D.nx σ' H') : tFor (iRng1 (tCons te tNil)) g tu D σ H :=
  h H (.refl H) _ fun v H1 e h1 => by
    cases h1
    obtain ⟨P, h0, hs, hd⟩ := q H1 e
    refine ⟨(n : Int), rfl, by omega, by omega, ?_⟩
    rw [Int.toNat_natCast]
    exact for_range (lo := 0) (n := n) P h0 (fun i σ' H' hi p => by rw [Int.zero_add]; exact hs i σ' H' hi p) hd
end
end SB
set_option maxRecDepth 100000
set_option maxHeartbeats 8000000
/-! The drawn making is one. -/
namespace SB
open PySem L2 PyProof.Rows
theorem kdT_ok (n : Nat) : PyData.strOk (kdT n) = true := by
  unfold kdT
  split
  · decide +kernel
  · split <;> decide +kernel
theorem ok_b : PyData.strOk ("b" : Str) = true := by decide +kernel
theorem ok_c : PyData.strOk ("c" : Str) = true := by decide +kernel
theorem ok_x : PyData.strOk ("x" : Str) = true := by decide +kernel
theorem ok_y : PyData.strOk ("y" : Str) = true := by decide +kernel
theorem ok_v : PyData.strOk ("v" : Str) = true := by decide +kernel
theorem ok_w : PyData.strOk ("w" : Str) = true := by decide +kernel
theorem ok_r : PyData.strOk ("r" : Str) = true := by decide +kernel
theorem ok_put : PyData.strOk ("put" : Str) = true := by decide +kernel
theorem ok_get : PyData.strOk ("get" : Str) = true := by decide +kernel
theorem ok_let : PyData.strOk ("let" : Str) = true := by decide +kernel
theorem ok_unless : PyData.strOk ("unless" : Str) = true := by decide +kernel
theorem ok_tell : PyData.strOk ("tell" : Str) = true := by decide +kernel
theorem okT3 {a b c : Dt} (h1 : okT a = true) (h2 : okT b = true) (h3 : okT c = true) : okT (.tup [a, b, c]) = true := okT_tup fun k hk => by
  rcases List.mem_cons.mp hk with rfl | hk
  · exact h1
  · rcases List.mem_cons.mp hk with rfl | hk
    · exact h2
    · rw [List.mem_singleton.mp hk]; exact h3
theorem okT2 {a b : Dt} (h1 : okT a = true) (h2 : okT b = true) : okT (.tup [a, b]) = true := okT_tup fun k hk => by
  rcases List.mem_cons.mp hk with rfl | hk
  · exact h1
  · rw [List.mem_singleton.mp hk]; exact h2
theorem dp3 {a b c : Dt} {n : Nat} (h1 : a.depth ≤ n) (h2 : b.depth ≤ n) (h3 : c.depth ≤ n) : (NestedKey.tup [a, b, c]).depth ≤ n + 1 := depthAll_one fun k hk => by
  rcases List.mem_cons.mp hk with rfl | hk
  · exact h1
  · rcases List.mem_cons.mp hk with rfl | hk
    · exact h2
    · rw [List.mem_singleton.mp hk]; exact h3
theorem dp2 {a b : Dt} {n : Nat} (h1 : a.depth ≤ n) (h2 : b.depth ≤ n) : (NestedKey.tup [a, b]).depth ≤ n + 1 := depthAll_one fun k hk => by
  rcases List.mem_cons.mp hk with rfl | hk
  · exact h1
  · rw [List.mem_singleton.mp hk]; exact h2
/-- a row's texts, its depth -/
structure RowT (r : Row) : Prop where
  t : okT r.dt = true
  dp : r.dt.depth ≤ 4
theorem dpT {x : Str} {n : Nat} : (NestedKey.text x).depth ≤ n := Nat.le_trans depth_text (Nat.zero_le _)
theorem dpN {x : Int} {n : Nat} : (NestedKey.num x).depth ≤ n := Nat.le_trans depth_num (Nat.zero_le _)
theorem rowIn_t {bs ns : List Str} {many : Nat} {wr : Bool} {r : Row} (hb : ∀ b ∈ bs, PyData.strOk b = true) : RowIn bs ns many wr r → RowT r
  | .put _ h2 h3 => ⟨okT3 ok_put (hb _ h2) h3.ok, Nat.le_trans (dp3 dpT dpT h3.dp) (by decide)⟩
  | .get h2 => ⟨okT3 ok_get ok_x (hb _ h2), dp3 dpT dpT dpT⟩
  | .lt h1 h3 => ⟨okT3 ok_let (by rcases h1 with rfl | rfl; exact ok_x; exact ok_y) h3.ok, Nat.le_trans (dp3 dpT dpT h3.dp) (by decide)⟩
  | .un h3 => ⟨okT3 ok_unless h3.ok rfl, Nat.le_trans (dp3 dpT h3.dp dpN) (by decide)⟩
  | .tell _ h3 => ⟨okT2 ok_tell h3.ok, Nat.le_trans (dp2 dpT h3.dp) (by decide)⟩
theorem rowIn_ok {M : Mk} {k i : Nat} {d : Hn} {bs ns : List Str} {many : Nat} {wr : Bool} {r : Row} (hw : wr = true → k = 0) (hb : ∀ b ∈ bs, ∃ (j : Nat) (x : Bx), M.bxs[j]? = some x ∧ x.nm = b) (hi : i < many) (hm : many ≤ d.rows.length) (h : RowIn bs ns many wr r) : RowOk M k d i r := by
  have ex : ∀ e, ExIn ns e → e.nn ∧ e.deep ≤ 3 := fun e h => ⟨h.nn, Nat.le_trans h.deep (by decide)⟩
  cases h with
  | put h1 h2 h3 => exact ⟨fun e he => (by cases he; exact ex _ h3), fun b e he => (by cases he; exact ⟨hw h1, hb _ h2⟩), fun x b he => (by cases he), fun e to he => (by cases he), fun x hx => (by rcases hx with ⟨_, hx⟩ | ⟨_, hx⟩ <;> cases hx)⟩
  | get h2 => exact ⟨fun e he => (by cases he), fun b e he => (by cases he), fun x b he => (by cases he; exact hb _ h2), fun e to he => (by cases he), fun x hx => (by
      rcases hx with ⟨_, hx⟩ | ⟨_, hx⟩ <;> cases hx
      decide +kernel)⟩
  | lt h1 h3 => exact ⟨fun e he => (by cases he; exact ex _ h3), fun b e he => (by cases he), fun x b he => (by cases he), fun e to he => (by cases he), fun x hx => (by
      rcases hx with ⟨_, hx⟩ | ⟨_, hx⟩ <;> cases hx
      rcases h1 with rfl | rfl <;> decide +kernel)⟩
  | un h3 => exact ⟨fun e he => (by cases he; exact ex _ h3), fun b e he => (by cases he), fun x b he => (by cases he), fun e to he => (by cases he; exact ⟨hi, hm⟩), fun x hx => (by rcases hx with ⟨_, hx⟩ | ⟨_, hx⟩ <;> cases hx)⟩
  | tell h1 h3 => exact ⟨fun e he => (by cases he; exact ex _ h3), fun b e he => (by cases he), fun x b he => (by cases he), fun e to he => (by cases he), fun x hx => (by rcases hx with ⟨_, hx⟩ | ⟨_, hx⟩ <;> cases hx)⟩
/-- texts and depth of a making by its parts -/
theorem mk_t {M : Mk} (hb : ∀ b ∈ M.bxs, PyData.strOk b.nm = true) (hn : ∀ d ∈ M.hds, PyData.strOk d.nm = true ∧ ∀ r ∈ d.rows, RowT r) : okT M.dt = true ∧ M.dt.depth ≤ 8 := by
  have hd : ∀ d ∈ M.hds, okT d.dt = true ∧ d.dt.depth ≤ 6 := fun d hd => by
    obtain ⟨h1, h2⟩ := hn d hd
    refine ⟨okT3 h1 rfl (okT_tup fun k hk => ?_), dp3 dpT dpN (depthAll_one (n := 4) fun k hk => ?_)⟩
    · obtain ⟨r, hr, rfl⟩ := List.mem_map.mp hk
      exact (h2 r hr).t
    · obtain ⟨r, hr, rfl⟩ := List.mem_map.mp hk
      exact (h2 r hr).dp
  have hx : ∀ b ∈ M.bxs, okT b.dt = true ∧ b.dt.depth ≤ 1 := fun b hb' => by
    have h1 := hb b hb'
    refine ⟨okT_tup fun k hk => ?_, depthAll_one (n := 0) fun k hk => ?_⟩
    · rcases List.mem_cons.mp hk with rfl | hk
      · exact h1
      rcases List.mem_cons.mp hk with rfl | hk
      · exact kdT_ok _
      rcases List.mem_cons.mp hk with rfl | hk
      · rfl
      rcases List.mem_cons.mp hk with rfl | hk
      · rfl
      rw [List.mem_singleton.mp hk]
      exact ok_w
    · rcases List.mem_cons.mp hk with rfl | hk
      · exact dpT
      rcases List.mem_cons.mp hk with rfl | hk
      · exact dpT
      rcases List.mem_cons.mp hk with rfl | hk
      · exact dpN
      rcases List.mem_cons.mp hk with rfl | hk
      · exact dpN
      rw [List.mem_singleton.mp hk]
      exact dpT
  refine ⟨okT_tup fun k hk => ?_, depthAll_one (n := 7) fun k hk => ?_⟩
  · rcases List.mem_cons.mp hk with rfl | hk
    · exact kdT_ok _
    rcases List.mem_cons.mp hk with rfl | hk
    · rfl
    rcases List.mem_cons.mp hk with rfl | hk
    · rfl
    rcases List.mem_cons.mp hk with rfl | hk
    · exact okT_tup fun k hk => by obtain ⟨b, hb', rfl⟩ := List.mem_map.mp hk; exact (hx b hb').1
    rw [List.mem_singleton.mp hk]
    exact okT_tup fun k hk => by obtain ⟨b, hb', rfl⟩ := List.mem_map.mp hk; exact (hd b hb').1
  · rcases List.mem_cons.mp hk with rfl | hk
    · exact dpT
    rcases List.mem_cons.mp hk with rfl | hk
    · exact dpN
    rcases List.mem_cons.mp hk with rfl | hk
    · exact dpN
    rcases List.mem_cons.mp hk with rfl | hk
    · exact Nat.le_trans (depthAll_one (n := 1) fun k hk => by obtain ⟨b, hb', rfl⟩ := List.mem_map.mp hk; exact (hx b hb').2) (by decide)
    rw [List.mem_singleton.mp hk]
    exact depthAll_one (n := 6) fun k hk => by obtain ⟨b, hb', rfl⟩ := List.mem_map.mp hk; exact (hd b hb').2
structure Good (M : Mk) : Prop where
  ok : MkOk M
  bn : ∀ b ∈ M.bxs, PyData.strOk b.nm = true
  rt : ∀ d ∈ M.hds, PyData.strOk d.nm = true ∧ ∀ r ∈ d.rows, RowT r
theorem Good.nm {M : Mk} (G : Good M) : NmOk M := fun d hd => (G.rt d hd).1
theorem Good.t {M : Mk} (G : Good M) : okT M.dt = true := (mk_t G.bn G.rt).1
theorem Good.dp {M : Mk} (G : Good M) : M.dt.depth ≤ 8 := (mk_t G.bn G.rt).2
/-- the boxes -/
theorem boxes_of {bs : List Str} : ∀ {out : List Dt}, F2 (fun k o => ∃ (x : Str) (kd : Nat), k = .text x ∧ kd ≤ 2 ∧ o = (Bx.mk x kd 2 0).dt) (txts bs) out → ∃ bxs : List Bx, out = bxs.map Bx.dt ∧ bxs.map Bx.nm = bs ∧ ∀ b ∈ bxs, BxOk b := by
  induction bs with
  | nil => intro out h; cases h; exact ⟨[], rfl, rfl, fun b hb => by cases hb⟩
  | cons x bs ih =>
    intro out h
    cases h with
    | cons r t =>
      obtain ⟨bxs, rfl, h1, h2⟩ := ih t
      obtain ⟨y, kd, e, hk, rfl⟩ := r
      cases e
      refine ⟨⟨x, kd, 2, 0⟩ :: bxs, rfl, by rw [List.map_cons, h1], fun b hb => ?_⟩
      rcases List.mem_cons.mp hb with rfl | hb
      · exact ⟨hk, (show (2 : Int) ≤ 2 ∧ (2 : Int) ≤ 3 by decide), (show (0 : Int) ≤ 0 ∧ (0 : Int) < 2 by decide)⟩
      · exact h2 b hb
def BNm (bs : List Str) : Prop := bs = [("b" : Str)] ∨ bs = [("b" : Str), ("c" : Str)]
theorem BNm.ok {bs : List Str} (h : BNm bs) : ∀ b ∈ bs, PyData.strOk b = true := fun b hb => by
  rcases h with rfl | rfl
  · rw [List.mem_singleton.mp hb]; exact ok_b
  · rcases List.mem_cons.mp hb with rfl | hb
    · exact ok_b
    · rw [List.mem_singleton.mp hb]; exact ok_c
theorem BNm.nd {bs : List Str} (h : BNm bs) : bs.Nodup := by
  rcases h with rfl | rfl
  · simp
  · decide +kernel
theorem BNm.len {bs : List Str} (h : BNm bs) : 0 < bs.length ∧ bs.length ≤ 2 := by
  rcases h with rfl | rfl <;> decide
theorem drawn_ok {bs : List Str} (hb : BNm bs) {bxs : List Bx} (hbn : bxs.map Bx.nm = bs) (hbx : ∀ b ∈ bxs, BxOk b) {kd : Nat} (hkd : kd ≤ 2) {rows : List Row} (hr0 : 0 < rows.length) (hr1 : rows.length ≤ 4) (hr : ∀ r ∈ rows, RowIn bs ["v", "x", "y"] rows.length true r)
    {b0 : Str} (hb0 : b0 ∈ bs) {rs : List Row} (hrs : rs.length ≤ 2) (hrr : ∀ r ∈ rs, RowIn bs ["x", "y"] (rs.length + 1) false r) {e : Ex} (he : ExIn ["x", "x", "y"] e) {w1 w2 : Int} (h1 : 0 ≤ w1) (h2 : 0 ≤ w2) :
    ∃ M : Mk, Good M ∧ M.dt = .tup [.text (kdT kd), .num 2, .num 0, .tup (bxs.map Bx.dt), .tup [.tup [.text "w", .num w1, .tup (rows.map Row.dt)], .tup [.text "r", .num w2, .tup ((Row.get "x" b0 :: rs ++ [Row.tell e]).map Row.dt)]]] := by
  obtain ⟨v1, hv1⟩ := sorts_ex (rowsNames rows)
  obtain ⟨v2, hv2⟩ := sorts_ex (rowsNames (Row.get "x" b0 :: rs ++ [Row.tell e]))
  have bj : ∀ b ∈ bs, ∃ (j : Nat) (x : Bx), bxs[j]? = some x ∧ x.nm = b := fun b hb => by
    rw [← hbn] at hb
    obtain ⟨x, hx, rfl⟩ := List.mem_map.mp hb
    obtain ⟨j, hj⟩ := List.getElem?_of_mem hx
    exact ⟨j, x, hj, rfl⟩
  have nm : NmOk ⟨kd, 2, 0, bxs, [⟨"w", w1, rows, v1⟩, ⟨"r", w2, Row.get "x" b0 :: rs ++ [Row.tell e], v2⟩]⟩ := fun d hd => by
    rcases List.mem_cons.mp hd with rfl | hd
    · exact ok_w
    · rw [List.mem_singleton.mp hd]; exact ok_r
  have rt : ∀ r ∈ (Row.get "x" b0 :: rs ++ [Row.tell e]), RowT r := fun r hr => by
    rcases List.mem_append.mp hr with hr | hr
    · rcases List.mem_cons.mp hr with rfl | hr
      · exact ⟨okT3 ok_get ok_x (hb.ok _ hb0), dp3 dpT dpT dpT⟩
      · exact rowIn_t hb.ok (hrr r hr)
    · rw [List.mem_singleton.mp hr]
      exact ⟨okT2 ok_tell he.ok, Nat.le_trans (dp2 dpT he.dp) (by decide)⟩
  refine ⟨⟨kd, 2, 0, bxs, [⟨"w", w1, rows, v1⟩, ⟨"r", w2, Row.get "x" b0 :: rs ++ [Row.tell e], v2⟩]⟩, ⟨⟨hkd, (show (2 : Int) ≤ 2 ∧ (2 : Int) ≤ 3 by decide), (show (0 : Int) ≤ 0 ∧ (0 : Int) < 2 by decide), ?_, ?_, hbx, (show 2 ≤ 2 ∧ 2 ≤ 3 by decide), ?_, fun k d hd => ?_⟩, ?_, ?_⟩, rfl⟩
  · show bxs.length ≤ 2
    have := hb.len.2
    rw [← hbn, List.length_map] at this
    exact this
  · show (bxs.map Bx.nm).Nodup
    rw [hbn]; exact hb.nd
  · show (["w", "r"] : List Str).Nodup
    decide +kernel
  · have hd : ([⟨"w", w1, rows, v1⟩, ⟨"r", w2, Row.get "x" b0 :: rs ++ [Row.tell e], v2⟩] : List Hn)[k]? = some d := hd
    match k, hd with
    | 0, hd =>
      cases hd
      refine ⟨h1, Nat.le_trans hr1 (by decide), hv1, fun i r hi => rowIn_ok (wr := true) (fun _ => rfl) bj (List.getElem?_eq_some_iff.mp hi).1 (Nat.le_refl _) (hr r (List.mem_of_getElem? hi))⟩
    | 1, hd =>
      cases hd
      have hlen : (Row.get "x" b0 :: rs ++ [Row.tell e]).length = rs.length + 2 := by simp
      refine ⟨h2, by show (Row.get "x" b0 :: rs ++ [Row.tell e]).length ≤ 6; omega, hv2, fun i r hi => ?_⟩
      have hi : (Row.get "x" b0 :: rs ++ [Row.tell e])[i]? = some r := hi
      have hil := (List.getElem?_eq_some_iff.mp hi).1
      rw [hlen] at hil
      by_cases hlast : i = rs.length + 1
      · subst hlast
        rw [List.getElem?_append_right (by simp)] at hi
        have hi : Row.tell e = r := by simpa using hi
        subst hi
        exact ⟨fun e' he' => (by cases he'; exact ⟨he.nn, Nat.le_trans he.deep (by decide)⟩), fun b e he => (by cases he), fun x b he => (by cases he), fun e to he => (by cases he), fun x hx => (by rcases hx with ⟨_, hx⟩ | ⟨_, hx⟩ <;> cases hx)⟩
      · rw [List.getElem?_append_left (by simp; omega)] at hi
        have hm := List.mem_of_getElem? hi
        rcases List.mem_cons.mp hm with rfl | hm
        · exact rowIn_ok (bs := bs) (ns := ["x", "y"]) (many := rs.length + 1) (wr := false) (fun h => by cases h) bj (by omega) (by rw [hlen]; omega) (.get hb0)
        · exact rowIn_ok (bs := bs) (ns := ["x", "y"]) (many := rs.length + 1) (wr := false) (fun h => by cases h) bj (by omega) (by rw [hlen]; omega) (hrr r hm)
    | k + 2, hd => simp at hd
  · exact fun b hb' => hb.ok _ (by rw [← hbn]; exact List.mem_map.mpr ⟨b, hb', rfl⟩)
  · exact fun d hd => ⟨nm d hd, by
      rcases List.mem_cons.mp hd with rfl | hd
      · exact fun r hr' => rowIn_t hb.ok (hr r hr')
      · rw [List.mem_singleton.mp hd]; exact rt⟩
end SB

set_option maxRecDepth 100000
set_option maxHeartbeats 8000000
/-! The law's drawn making. -/
namespace SB
open PySem L2 PyProof.Rows
theorem kinds_at {i : Int} (h0 : 0 ≤ i) (h1 : i < 3) : ∃ kd : Nat, kd ≤ 2 ∧ atI [NestedKey.text "safe", .text "steady", .text "whole"] i = some (.text (kdT kd)) := by
  have : i = 0 ∨ i = 1 ∨ i = 2 := by omega
  rcases this with rfl | rfl | rfl
  · exact ⟨0, by decide, by simp [atI, ixN, kdT]⟩
  · exact ⟨1, by decide, by simp [atI, ixN, kdT]⟩
  · exact ⟨2, by decide, by simp [atI, ixN, kdT]⟩
section
variable {P : Program} {w : World} {K : PySem.W.Frag} {mg : Str → Option Value} {base : Heap}
/-- kinds[a drawn number] -/
theorem ev_kind {σ : L2.St} {H : Hp} {ta tb : TE} {p : Addr} {xs : List V} {Ri : Int → Prop} (ha : Ed ta σ H (.v (.ref p))) (hp : H p = some (.lst xs)) (hn : NdAll H xs [.text "safe", .text "steady", .text "whole"]) (hb : Ev tb σ H (Nm Ri)) (hi : ∀ i, Ri i → 0 ≤ i ∧ i < 3) :
    Ev (tOp (rIx K) ta tb) σ H (fun k => ∃ kd : Nat, kd ≤ 2 ∧ k = .text (kdT kd)) := fun H1 e Q q =>
  ha H1 e _ fun v1 H2 e2 h2 => hb H2 (e.trans e2) _ fun v' H3 k' e3 h3 ⟨i, hri, hk⟩ => by
    subst hk
    cases h2; cases h3
    obtain ⟨kd, hkd, hk⟩ := kinds_at (hi i hri).1 (hi i hri).2
    obtain ⟨z, h6, h7⟩ := atI_nd hn hk
    exact .inl ⟨p, xs, i, z, rfl, rfl, SqL.of (((e.trans e2).trans e3) _ _ hp), h6, q z H3 _ (e2.trans e3) (h7.up ((e.trans e2).trans e3)) ⟨kd, hkd, rfl⟩⟩
/-- c + a drawn number -/
theorem ev_addD {σ : L2.St} {H : Hp} {tb : TE} {c : Int} {R : Int → Prop} (hb : Ev tb σ H (Nm R)) : Ev (tOp (rAddX K) (tC (.int c)) tb) σ H (Nm fun z => ∃ j, R j ∧ z = c + j) :=
  en_op (R1 := fun i => i = c) (R2' := R) (fun i j => i + j) (Ed.nm ed_int rfl) hb (fun i j H Q _ _ q => .inl (.inl ⟨i, j, rfl, rfl, q⟩)) (fun i j hi hj => ⟨j, hj, by rw [hi]⟩)
def spMaking : Sp := fun vs H Q _ => ∃ p, vs = [.ref p] ∧ H p = some (Wl p) ∧ ∀ v H' M, Same H H' → Nd H' v M.dt → Good M → Q v H'
theorem ok_law_drawn (T : Txt K mg) : FnOk P w K mg base CX0 4 T.law_drawn.a T.law_drawn.d ["_law_well_here"] (spMaking) := by
  refine fun_okC T.law_drawn.F sc_law_drawn (fun vs H Q E h => ?_) (fun cdv A outer s H vs Q E hcd hr h => ?_)
  · obtain ⟨_, e, _⟩ := h
    rw [e]; rfl
  obtain ⟨p, rfl, hp, q⟩ := h
  have hs : Slots H (L2.start ["_law_well_here", "_law_boxes", "_law_kinds", "_law_told", "_law_rows", "_law_many", "_law_k", "_law_seen", "_law_hands", "_law_name"] [.ref p]) [.v (.ref p), .u, .u, .u, .u, .u, .u, .u, .u, .u] := slots_start ["_law_well_here", "_law_boxes", "_law_kinds", "_law_told", "_law_rows", "_law_many", "_law_k", "_law_seen", "_law_hands", "_law_name"] (.cons (s := .v (.ref p)) (show V.ref _ = V.ref _ from rfl) .nil)
  refine ⟨_, (pss_cons (ps_set (i := 1) sc_law_drawn.nd rfl (Or.inl rfl) (pe_slice sl_X (pe_lst (pa_cons pe_str (pa_cons pe_str pa_nil))) po_none (po_some (pe_op op_addX pe_int (pe_call (ok_law_draw T) (hr.mono (by decide)) (by rfl) T.law_draw.m T.law_draw.F.kp T.law_draw.b .nil pass0 (pa_cons (pv 0) (pa_cons pe_int pa_nil)))))))
      (pss_cons (ps_set (i := 2) sc_law_drawn.nd rfl (Or.inr rfl) (pe_lst (pa_cons pe_str (pa_cons pe_str (pa_cons pe_str pa_nil)))))
      (pss_cons (ps_set (i := 3) sc_law_drawn.nd rfl (Or.inl rfl) (pe_callTy call_tuple_of (by rfl) T.b_tuple (by decide +kernel) (pa_cons (pe_lc (own := [("_law_name", 9)]) (g := (gName 9)) (tt := tYes) (te := (tTup (tCons (tVar 9) (tCons (tOp (rIx K) (tVar 2) (tCall (spDraw) [] E0 (tCons (tVar 0) (tCons (tC (.int 3)) tNil)))) (tCons (tC (.int 2)) (tCons (tC (.int 0)) (tCons (tC (.str "w")) tNil))))))) rfl sc_law_drawn.nd (pi_list (pv 1)) (blkOk_by (by kernel_rfl)) (fun _ _ _ _ _ => (pg_name (i := 9) sc_law_drawn.nd rfl (Or.inl rfl))) (fun _ _ _ _ _ => pts_nil) (fun _ _ _ _ _ => (pe_tup (pa_cons (pv 9) (pa_cons (pe_ix ix_seq (pv 2) (pe_call (ok_law_draw T) (hr.mono (by decide)) (by rfl) T.law_draw.m T.law_draw.F.kp T.law_draw.b .nil pass0 (pa_cons (pv 0) (pa_cons pe_int pa_nil))) (fun _ _ => rfl)) (pa_cons pe_int (pa_cons pe_int (pa_cons pe_str pa_nil)))))))) pa_nil)))
      (pss_cons (ps_set (i := 4) sc_law_drawn.nd rfl (Or.inl rfl) (pe_lst pa_nil))
      (pss_cons (ps_set (i := 5) sc_law_drawn.nd rfl (Or.inl rfl) (pe_op op_addX pe_int (pe_call (ok_law_draw T) (hr.mono (by decide)) (by rfl) T.law_draw.m T.law_draw.F.kp T.law_draw.b .nil pass0 (pa_cons (pv 0) (pa_cons pe_int pa_nil)))))
      (pss_cons (ps_for PassesOwn.never rfl (pi_range1 rfl T.b_range (pa_cons (pv 5) pa_nil)) (pg_name (i := 6) sc_law_drawn.nd rfl (Or.inl rfl)) (pss_one (ps_expr (pe_bm PySem.F.plainAttrs_list PySem.F.slot_list_append PySem.F.type_list_append mt_append (pv 4) (pa_cons (pe_call (ok_law_row T) (hr.mono (by decide)) (by rfl) T.law_row.m T.law_row.F.kp T.law_row.b .nil pass0 (pa_cons (pv 0) (pa_cons (pv 1) (pa_cons (pe_lst (pa_cons pe_str (pa_cons pe_str (pa_cons pe_str pa_nil)))) (pa_cons (pv 5) (pa_cons pe_bl pa_nil)))))) pa_nil)))))
      (pss_cons (ps_set (i := 7) sc_law_drawn.nd rfl (Or.inl rfl) (pe_lst (pa_cons (pe_tup (pa_cons pe_str (pa_cons pe_str (pa_cons (pe_ix ix_seq (pv 1) pe_int (fun _ _ => rfl)) pa_nil)))) pa_nil)))
      (pss_cons (ps_set (i := 5) sc_law_drawn.nd rfl (Or.inl rfl) (pe_op op_addX pe_int (pe_call (ok_law_draw T) (hr.mono (by decide)) (by rfl) T.law_draw.m T.law_draw.F.kp T.law_draw.b .nil pass0 (pa_cons (pv 0) (pa_cons pe_int pa_nil)))))
      (pss_cons (ps_for PassesOwn.never rfl (pi_range1 rfl T.b_range (pa_cons (pe_op op_sub (pv 5) pe_int) pa_nil)) (pg_name (i := 6) sc_law_drawn.nd rfl (Or.inl rfl)) (pss_one (ps_expr (pe_bm PySem.F.plainAttrs_list PySem.F.slot_list_append PySem.F.type_list_append mt_append (pv 7) (pa_cons (pe_call (ok_law_row T) (hr.mono (by decide)) (by rfl) T.law_row.m T.law_row.F.kp T.law_row.b .nil pass0 (pa_cons (pv 0) (pa_cons (pv 1) (pa_cons (pe_lst (pa_cons pe_str (pa_cons pe_str pa_nil))) (pa_cons (pe_op op_sub (pv 5) pe_int) (pa_cons pe_bl pa_nil)))))) pa_nil)))))
      (pss_cons (ps_expr (pe_bm PySem.F.plainAttrs_list PySem.F.slot_list_append PySem.F.type_list_append mt_append (pv 7) (pa_cons (pe_tup (pa_cons pe_str (pa_cons (pe_call (ok_law_expr T) (hr.mono (by decide)) (by rfl) T.law_expr.m T.law_expr.F.kp T.law_expr.b .nil pass0 (pa_cons (pv 0) (pa_cons (pe_lst (pa_cons pe_str (pa_cons pe_str (pa_cons pe_str pa_nil)))) pa_nil))) pa_nil))) pa_nil)))
      (pss_cons (ps_set (i := 8) sc_law_drawn.nd rfl (Or.inl rfl) (pe_tup (pa_cons (pe_tup (pa_cons pe_str (pa_cons (pe_op op_addX pe_int (pe_call (ok_law_draw T) (hr.mono (by decide)) (by rfl) T.law_draw.m T.law_draw.F.kp T.law_draw.b .nil pass0 (pa_cons (pv 0) (pa_cons pe_int pa_nil)))) (pa_cons (pe_callTy call_tuple_of (by rfl) T.b_tuple (by decide +kernel) (pa_cons (pv 4) pa_nil)) pa_nil)))) (pa_cons (pe_tup (pa_cons pe_str (pa_cons (pe_op op_addX pe_int (pe_call (ok_law_draw T) (hr.mono (by decide)) (by rfl) T.law_draw.m T.law_draw.F.kp T.law_draw.b .nil pass0 (pa_cons (pv 0) (pa_cons pe_int pa_nil)))) (pa_cons (pe_callTy call_tuple_of (by rfl) T.b_tuple (by decide +kernel) (pa_cons (pv 7) pa_nil)) pa_nil)))) pa_nil))))
      (pss_one (ps_ret (pe_tup (pa_cons (pe_ix ix_seq (pv 2) (pe_call (ok_law_draw T) (hr.mono (by decide)) (by rfl) T.law_draw.m T.law_draw.F.kp T.law_draw.b .nil pass0 (pa_cons (pv 0) (pa_cons pe_int pa_nil))) (fun _ _ => rfl)) (pa_cons pe_int (pa_cons pe_int (pa_cons (pv 3) (pa_cons (pv 8) pa_nil))))))))))))))))))), ?_⟩
  -- boxes
  refine s_setL hs (R := fun ks => ∃ bs, BNm bs ∧ ks = txts bs) (El.imp (el_headN (el_lst [.text "b", .text "c"] (ea_cons ed_str (ea_cons ed_str ea_nil)) (show (2 : Nat) ≤ 100000 by decide)) (ev_addD (ev_draw (b := 2) (ev_var hs) ed_int hp (by decide) (by decide)))) fun ks ⟨js, i, h1, ⟨j, hj, hi⟩, h3⟩ => ?_) fun pb xb kb σ1 H1 hkb hpb0 e1 hpb hnb hs1 => ?_
  · subst h1 h3 hi
    have : j = 0 ∨ j = 1 := by omega
    rcases this with rfl | rfl
    · exact ⟨_, .inl rfl, rfl⟩
    · exact ⟨_, .inr rfl, rfl⟩
  obtain ⟨bs, hbs, rfl⟩ := hkb
  have hbl := hbs.len
  refine nx_of (X := tSeq _ _ _) ?_
  -- kinds
  refine s_setL hs1 (el_lst [.text "safe", .text "steady", .text "whole"] (ea_cons ed_str (ea_cons ed_str (ea_cons ed_str ea_nil))) (show (3 : Nat) ≤ 100000 by decide)) fun pk xk kk σ2 H2 hkk hpk0 e2 hpk hnk hs2 => ?_
  subst hkk
  have e02 := e1.trans e2
  refine nx_of (X := tSeq _ _ _) ?_
  -- told
  refine s_set hs2 (R := fun k => ∃ bxs : List Bx, k = .tup (bxs.map Bx.dt) ∧ bxs.map Bx.nm = bs ∧ ∀ b ∈ bxs, BxOk b) (Ev.imp (ev_tupOf (el_lcR (vs := [9]) (n := 9) (R := fun k o => ∃ (x : Str) (kd : Nat), k = .text x ∧ kd ≤ 2 ∧ o = (Bx.mk x kd 2 0).dt) hs2 (ev_var hs2) (e2 _ _ hpb) (hnb.up e2) (by simp [txts]; omega) (by simp)
    fun k hk σ3 H3 e3 hs3 => ?_)) fun k ⟨ks, h1, h2⟩ => ?_) fun k σ3 H3 hk e3 hs3 => ?_
  · obtain ⟨x, hx, rfl⟩ := List.mem_map.mp hk
    refine ev_tup5 (R1 := (· = .text x)) (R2' := fun k => ∃ kd : Nat, kd ≤ 2 ∧ k = .text (kdT kd)) (Ed.ev (ed_var hs3)) (ev_kind (ev_var hs3) (e3 _ _ hpk) (hnk.up e3) (ev_draw (b := 3) (ev_var hs3) ed_int ((e02.trans e3) _ _ hp) (by decide) (by decide)) fun i h => h) (Ed.ev ed_int) (Ed.ev ed_int) (Ed.ev ed_str) fun a b c d f ha hb hc hd hf => ?_
    obtain ⟨kd, hkd, rfl⟩ := hb
    subst ha hc hd hf
    exact ⟨x, kd, rfl, hkd, rfl⟩
  · obtain ⟨bxs, rfl, h3, h4⟩ := boxes_of h1
    exact ⟨bxs, h2, h3, h4⟩
  obtain ⟨bxs, rfl, hbn, hbx⟩ := hk
  have e03 := e02.trans e3
  refine nx_of (X := tSeq _ _ _) ?_
  -- rows
  refine s_setL hs3 (el_lst [] ea_nil (by simp)) fun pr xr kr σ4 H4 hkr hpr0 e4 hpr hnr hs4 => ?_
  subst hkr
  have e04 := e03.trans e4
  refine nx_of (X := tSeq _ _ _) ?_
  -- many
  refine s_set hs4 (ev_addD (c := 1) (ev_draw (b := 4) (ev_var hs4) ed_int (e04 _ _ hp) (by decide) (by decide))) fun k σ5 H5 hk e5 hs5 => ?_
  obtain ⟨_, ⟨j, hj, rfl⟩, rfl⟩ := hk
  obtain ⟨m, hm⟩ : ∃ m : Nat, (1 : Int) + j = ((m + 1 : Nat) : Int) := ⟨j.toNat, by omega⟩
  rw [hm] at hs5
  have hm3 : m + 1 ≤ 4 := by omega
  have e05 := e04.trans e5
  refine nx_of (X := tSeq _ _ _) ?_
  refine s_seqJ (fun σ' H' => ∃ (zs : List V) (rs : List Row), H' pr = some (.lst zs) ∧ NdAll H' zs (rs.map Row.dt) ∧ rs.length = m + 1 ∧ (∀ r ∈ rs, RowIn bs ["v", "x", "y"] (m + 1) true r) ∧ Same H H' ∧ Same H3 H' ∧ Slots H' σ' [.v (.ref p), .v (.ref pb), .v (.ref pk), .d (.tup (bxs.map Bx.dt)), .v (.ref pr), .d (.num ((m + 1 : Nat) : Int)), .u, .u, .u, .u]) (fun N hN => ?_) fun σ6 H6 ⟨zr, rows, hzr, hnzr, hrl, hrr, e06, e36, hs6⟩ => ?_
  · refine s_forR (n := m + 1) (ed_var hs5) (by omega) fun H6 e6 => ⟨fun i σ' H' => ∃ (zs : List V) (rs : List Row), H' pr = some (.lst zs) ∧ NdAll H' zs (rs.map Row.dt) ∧ rs.length = i ∧ (∀ r ∈ rs, RowIn bs ["v", "x", "y"] (m + 1) true r) ∧ Same H H' ∧ Same H3 H' ∧ Slots H' σ' [.v (.ref p), .v (.ref pb), .v (.ref pk), .d (.tup (bxs.map Bx.dt)), .v (.ref pr), .d (.num ((m + 1 : Nat) : Int)), .u, .u, .u, .u], ?_, ?_, ?_⟩
    · exact ⟨xr, [], e6 _ _ (e5 _ _ hpr), (hnr.up e5).up e6, rfl, (fun r hr => by cases hr), e05.trans e6, (e4.trans e5).trans e6, hs5.up e6⟩
    · rintro i σ' H' hi ⟨zs, rs, hz, hzn, hl, hin, e0', e3', hs'⟩
      refine gn_of ?_
      have hs7 : Slots H' (σ'.set 6 (some (.int (i : Int)))) [.v (.ref p), .v (.ref pb), .v (.ref pk), .d (.tup (bxs.map Bx.dt)), .v (.ref pr), .d (.num ((m + 1 : Nat) : Int)), .u, .u, .u, .u] := hs'.set (s := .u) trivial 6
      refine s_app (T := "") hz hzn (ev_var hs7) (ev_rowN (ns := ["v", "x", "y"]) (many := m + 1) (ev_var hs7) (ev_var hs7) (el_lst [.text "v", .text "x", .text "y"] (ea_cons ed_str (ea_cons ed_str (ea_cons ed_str ea_nil))) (show (3 : Nat) ≤ 100000 by decide)) (ed_var hs7) ev_c (e0' _ _ hp) (e3' _ _ ((e2.trans e3) _ _ hpb)) (hnb.up ((e2.trans e3).trans e3')) hbl.1 (by omega) (by decide) (by decide) (fun x hx => ?_)) (by rw [List.length_map]; omega) fun v k H8 hk e8 h81 h82 => ?_
      · rcases List.mem_cons.mp hx with rfl | hx
        · exact ok_v
        rcases List.mem_cons.mp hx with rfl | hx
        · exact ok_x
        rw [List.mem_singleton.mp hx]; exact ok_y
      · obtain ⟨r, hr, rfl⟩ := hk
        refine ⟨zs ++ [v], rs ++ [r], upd_same, by rw [List.map_append]; exact h82, by rw [List.length_append, hl]; rfl, fun r' hr' => ?_, same_mut (e0'.trans e8) (same_back e03 hpr0), same_mut (e3'.trans e8) hpr0, (hs7.up e8).tx (Tx.lst (e8 _ _ hz))⟩
        rcases List.mem_append.mp hr' with h | h
        · exact hin r' h
        · rw [List.mem_singleton.mp h]; exact hr
    · rintro σ' H' ⟨zs, rs, h⟩
      exact hN _ _ ⟨zs, rs, h⟩
  have hpb6 := (e2.trans e3).trans e36
  have hpb6 := hpb6 _ _ hpb
  have hnb6 := hnb.up ((e2.trans e3).trans e36)
  -- seen
  refine s_setL hs6 (R := fun ks => ∃ b0, b0 ∈ bs ∧ ks = [(Row.get "x" b0).dt]) (el_lst1 (R1 := fun k => ∃ b0, b0 ∈ bs ∧ k = (Row.get "x" b0).dt) (ev_tup3 (R3 := (· ∈ txts bs)) (Ed.ev ed_str) (Ed.ev ed_str) (ev_ixL (ks := txts bs) (ev_var hs6) hpb6 hnb6 (Ed.nm ed_int ⟨by decide, by rw [show (txts bs).length = bs.length by simp [txts]]; omega⟩)) fun a b c ha hb hc => by
      subst ha hb
      obtain ⟨b0, hb0, rfl⟩ := List.mem_map.mp hc
      exact ⟨b0, hb0, rfl⟩) fun a ⟨b0, hb0, ha⟩ => ⟨b0, hb0, by rw [ha]⟩) fun ps x7 k7 σ7 H7 hk7 hps0 e7 hps hns hs7 => ?_
  obtain ⟨b0, hb0, rfl⟩ := hk7
  have e07 := e06.trans e7
  refine nx_of (X := tSeq _ _ _) ?_
  -- many
  refine s_set hs7 (ev_addD (c := 2) (ev_draw (b := 3) (ev_var hs7) ed_int (e07 _ _ hp) (by decide) (by decide))) fun k σ8 H8 hk e8 hs8 => ?_
  obtain ⟨_, ⟨j2, hj2, rfl⟩, rfl⟩ := hk
  obtain ⟨n, hn⟩ : ∃ n : Nat, (2 : Int) + j2 = ((n + 2 : Nat) : Int) := ⟨j2.toNat, by omega⟩
  rw [hn] at hs8
  have hn2 : n ≤ 2 := by omega
  have e08 := e07.trans e8
  have e68 := e7.trans e8
  refine nx_of (X := tSeq _ _ _) ?_
  refine s_seqJ (fun σ' H' => ∃ (zs : List V) (rs : List Row), H' ps = some (.lst zs) ∧ NdAll H' zs ((Row.get "x" b0 :: rs).map Row.dt) ∧ rs.length = n ∧ (∀ r ∈ rs, RowIn bs ["x", "y"] (n + 1) false r) ∧ Same H H' ∧ Same H6 H' ∧ Slots H' σ' [.v (.ref p), .v (.ref pb), .v (.ref pk), .d (.tup (bxs.map Bx.dt)), .v (.ref pr), .d (.num ((n + 2 : Nat) : Int)), .u, .v (.ref ps), .u, .u]) (fun N hN => ?_) fun σ9 H9 ⟨zs, rs, hzs, hnzs, hsl, hsr, e09, e69, hs9⟩ => ?_
  · refine s_forR (n := n) (Ed.is (ed_sub (ed_var hs8) ed_int) (by congr 1; omega)) (by omega) fun H9 e9 => ⟨fun i σ' H' => ∃ (zs : List V) (rs : List Row), H' ps = some (.lst zs) ∧ NdAll H' zs ((Row.get "x" b0 :: rs).map Row.dt) ∧ rs.length = i ∧ (∀ r ∈ rs, RowIn bs ["x", "y"] (n + 1) false r) ∧ Same H H' ∧ Same H6 H' ∧ Slots H' σ' [.v (.ref p), .v (.ref pb), .v (.ref pk), .d (.tup (bxs.map Bx.dt)), .v (.ref pr), .d (.num ((n + 2 : Nat) : Int)), .u, .v (.ref ps), .u, .u], ?_, ?_, ?_⟩
    · exact ⟨x7, [], e9 _ _ (e8 _ _ hps), (hns.up e8).up e9, rfl, (fun r hr => by cases hr), e08.trans e9, e68.trans e9, hs8.up e9⟩
    · rintro i σ' H' hi ⟨zs, rs, hz, hzn, hl, hin, e0', e6', hs'⟩
      refine gn_of ?_
      have hs10 : Slots H' (σ'.set 6 (some (.int (i : Int)))) [.v (.ref p), .v (.ref pb), .v (.ref pk), .d (.tup (bxs.map Bx.dt)), .v (.ref pr), .d (.num ((n + 2 : Nat) : Int)), .u, .v (.ref ps), .u, .u] := hs'.set (s := .u) trivial 6
      refine s_app (T := "") hz hzn (ev_var hs10) (ev_rowN (ns := ["x", "y"]) (many := n + 1) (ev_var hs10) (ev_var hs10) (el_lst [.text "x", .text "y"] (ea_cons ed_str (ea_cons ed_str ea_nil)) (show (2 : Nat) ≤ 100000 by decide)) (Ed.is (ed_sub (ed_var hs10) ed_int) (by congr 1; omega)) ev_c (e0' _ _ hp) (e6' _ _ hpb6) (hnb6.up e6') hbl.1 (by omega) (by decide) (by decide) (fun x hx => ?_)) (by rw [List.length_map]; show rs.length + 1 < 100000; omega) fun v k H11 hk e11 h111 h112 => ?_
      · rcases List.mem_cons.mp hx with rfl | hx
        · exact ok_x
        rw [List.mem_singleton.mp hx]; exact ok_y
      · obtain ⟨r, hr, rfl⟩ := hk
        refine ⟨zs ++ [v], rs ++ [r], upd_same, ?_, by rw [List.length_append, hl]; rfl, fun r' hr' => ?_, same_mut (e0'.trans e11) (same_back e06 hps0), same_mut (e6'.trans e11) hps0, (hs10.up e11).tx (Tx.lst (e11 _ _ hz))⟩
        · rw [show Row.get "x" b0 :: (rs ++ [r]) = (Row.get "x" b0 :: rs) ++ [r] from rfl, List.map_append]; exact h112
        · rcases List.mem_append.mp hr' with h | h
          · exact hin r' h
          · rw [List.mem_singleton.mp h]; exact hr
    · rintro σ' H' ⟨zs, rs, h⟩
      exact hN _ _ ⟨zs, rs, h⟩
  -- seen.append
  refine s_app (T := "") hzs hnzs (ev_var hs9) (R := fun k => ∃ e, ExIn ["x", "x", "y"] e ∧ k = (Row.tell e).dt) (ev_tup2 (Ed.ev ed_str) (ev_exprN (ns := ["x", "x", "y"]) (ev_var hs9) (el_lst [.text "x", .text "x", .text "y"] (ea_cons ed_str (ea_cons ed_str (ea_cons ed_str ea_nil))) (show (3 : Nat) ≤ 100000 by decide)) (e09 _ _ hp) (by decide) (by decide) (fun x hx => ?_)) fun a b ha hb => ?_) (by rw [List.length_map]; show rs.length + 1 < 100000; omega) fun v k H10 hk e10 h101 h102 => ?_
  · rcases List.mem_cons.mp hx with rfl | hx
    · exact ok_x
    rcases List.mem_cons.mp hx with rfl | hx
    · exact ok_x
    rw [List.mem_singleton.mp hx]; exact ok_y
  · subst ha
    obtain ⟨e, he, rfl⟩ := hb
    exact ⟨e, he, rfl⟩
  obtain ⟨ex, hex, rfl⟩ := hk
  have e0G : Same H (upd H10 ps (.lst (zs ++ [v]))) := same_mut (e09.trans e10) (same_back e06 hps0)
  have e6G : Same H6 (upd H10 ps (.lst (zs ++ [v]))) := same_mut (e69.trans e10) hps0
  have hsG := (hs9.up e10).tx (Tx.lst (o := .lst (zs ++ [v])) (e10 _ _ hzs))
  have hG : (upd H10 ps (.lst (zs ++ [v]))) ps = some (.lst (zs ++ [v])) := upd_same
  have hnG : NdAll (upd H10 ps (.lst (zs ++ [v]))) (zs ++ [v]) ((Row.get "x" b0 :: rs ++ [Row.tell ex]).map Row.dt) := by rw [List.map_append]; exact h102
  refine nx_of (X := tSeq _ _ _) ?_
  generalize upd H10 ps (.lst (zs ++ [v])) = G at *
  -- hands
  refine s_set hsG (R := fun k => ∃ w1 w2 : Int, 0 ≤ w1 ∧ 0 ≤ w2 ∧ k = .tup [.tup [.text "w", .num w1, .tup (rows.map Row.dt)], .tup [.text "r", .num w2, .tup ((Row.get "x" b0 :: rs ++ [Row.tell ex]).map Row.dt)]])
    (ev_tup2 (R1 := fun k => ∃ w1 : Int, 0 ≤ w1 ∧ k = .tup [.text "w", .num w1, .tup (rows.map Row.dt)]) (R2' := fun k => ∃ w2 : Int, 0 ≤ w2 ∧ k = .tup [.text "r", .num w2, .tup ((Row.get "x" b0 :: rs ++ [Row.tell ex]).map Row.dt)])
      (ev_tup3 (Ed.ev ed_str) (ev_addD (c := 4) (ev_draw (b := 5) (ev_var hsG) ed_int (e0G _ _ hp) (by decide) (by decide))) (Ed.ev (ed_tupL (ev_var hsG) (e6G _ _ hzr) (hnzr.up e6G))) fun a b c ha hb hc => ?_)
      (ev_tup3 (Ed.ev ed_str) (ev_addD (c := 4) (ev_draw (b := 5) (ev_var hsG) ed_int (e0G _ _ hp) (by decide) (by decide))) (Ed.ev (ed_tupL (ev_var hsG) hG hnG)) fun a b c ha hb hc => ?_) fun a b ha hb => ?_) fun k σ11 H11 hk e11 hs11 => ?_
  · obtain ⟨_, ⟨j, hj, rfl⟩, rfl⟩ := hb
    subst ha hc
    exact ⟨_, by omega, rfl⟩
  · obtain ⟨_, ⟨j, hj, rfl⟩, rfl⟩ := hb
    subst ha hc
    exact ⟨_, by omega, rfl⟩
  · obtain ⟨w1, h1, rfl⟩ := ha
    obtain ⟨w2, h2, rfl⟩ := hb
    exact ⟨w1, w2, h1, h2, rfl⟩
  obtain ⟨w1, w2, hw1, hw2, rfl⟩ := hk
  have e011 := e0G.trans e11
  have e611 := e6G.trans e11
  refine nx_of (X := tRet _ _) ?_
  refine s_ret (R := fun k => ∃ kd : Nat, kd ≤ 2 ∧ k = .tup [.text (kdT kd), .num 2, .num 0, .tup (bxs.map Bx.dt), .tup [.tup [.text "w", .num w1, .tup (rows.map Row.dt)], .tup [.text "r", .num w2, .tup ((Row.get "x" b0 :: rs ++ [Row.tell ex]).map Row.dt)]]])
    (ev_tup5 (ev_kind (ev_var hs11) ((e3.trans (e36.trans e611)) _ _ hpk) (hnk.up (e3.trans (e36.trans e611))) (ev_draw (b := 3) (ev_var hs11) ed_int (e011 _ _ hp) (by decide) (by decide)) fun i h => h) (Ed.ev ed_int) (Ed.ev ed_int) (Ed.ev (ed_var hs11)) (Ed.ev (ed_var hs11)) fun a b c d f ha hb hc hd hf => ?_) fun v' H12 k e12 h12 hk => ?_
  · obtain ⟨kd, hkd, rfl⟩ := ha
    subst hb hc hd hf
    exact ⟨kd, hkd, rfl⟩
  · obtain ⟨kd, hkd, rfl⟩ := hk
    obtain ⟨M, hG', hM⟩ := drawn_ok hbs hbn hbx hkd (rows := rows) (by omega) (by omega) (by rw [hrl]; exact hrr) hb0 (rs := rs) (by omega) (by rw [hsl]; exact hsr) hex hw1 hw2
    exact q v' H12 M (e011.trans e12) (by rw [hM]; exact h12) hG'
end
end SB
set_option maxRecDepth 100000
set_option maxHeartbeats 8000000
/-! The known makings are makings. -/
namespace SB
open PySem L2 PyProof.Rows
def rowsA : List Row := [.put "b" (.var "v")]
def rowsB : List Row := [.un (.nt (.bin 0 (.var "v") (.var "kept"))) 3, .put "b" (.var "v"), .lt "kept" (.var "v")]
def seenR : List Row := [.get "x" "b", .tell (.var "x")]
theorem ok_s : PyData.strOk ("s" : Str) = true := by decide +kernel
theorem ok_kept : PyData.strOk ("kept" : Str) = true := by decide +kernel
theorem ok_var : PyData.strOk ("var" : Str) = true := by decide +kernel
theorem ok_not : PyData.strOk ("not" : Str) = true := by decide +kernel
theorem ok_eq : PyData.strOk ("=" : Str) = true := by decide +kernel
theorem var_t {x : Str} (h : PyData.strOk x = true) : okT (Ex.var x).dt = true ∧ (Ex.var x).dt.depth ≤ 1 := ⟨okT2 ok_var h, dp2 dpT dpT⟩
theorem rowsA_t : ∀ r ∈ rowsA, RowT r := fun r hr => by
  rw [List.mem_singleton.mp hr]
  exact ⟨okT3 ok_put ok_b (var_t ok_v).1, dp3 dpT dpT (Nat.le_trans (var_t ok_v).2 (by decide))⟩
theorem rowsB_t : ∀ r ∈ rowsB, RowT r := fun r hr => by
  rcases List.mem_cons.mp hr with rfl | hr
  · have h1 : (Ex.bin 0 (.var "v") (.var "kept")).dt.depth ≤ 2 := dp3 dpT (var_t ok_v).2 (var_t ok_kept).2
    exact ⟨okT3 ok_unless (okT2 ok_not (okT3 ok_eq (var_t ok_v).1 (var_t ok_kept).1)) rfl, dp3 dpT (dp2 dpT h1) dpN⟩
  rcases List.mem_cons.mp hr with rfl | hr
  · exact ⟨okT3 ok_put ok_b (var_t ok_v).1, dp3 dpT dpT (Nat.le_trans (var_t ok_v).2 (by decide))⟩
  rw [List.mem_singleton.mp hr]
  exact ⟨okT3 ok_let ok_kept (var_t ok_v).1, dp3 dpT dpT (Nat.le_trans (var_t ok_v).2 (by decide))⟩
theorem seenR_t : ∀ r ∈ seenR, RowT r := fun r hr => by
  rcases List.mem_cons.mp hr with rfl | hr
  · exact ⟨okT3 ok_get ok_x ok_b, dp3 dpT dpT dpT⟩
  rw [List.mem_singleton.mp hr]
  exact ⟨okT2 ok_tell (var_t ok_x).1, dp2 dpT (Nat.le_trans (var_t ok_x).2 (by decide))⟩
def RNm (l : List Str) : Prop := l = [("r" : Str)] ∨ l = [("r" : Str), ("s" : Str)]
theorem RNm.len {l : List Str} (h : RNm l) : 1 ≤ l.length ∧ l.length ≤ 2 := by
  rcases h with rfl | rfl <;> decide
theorem RNm.ok {l : List Str} (h : RNm l) : ∀ x ∈ l, PyData.strOk x = true := fun x hx => by
  rcases h with rfl | rfl
  · rw [List.mem_singleton.mp hx]; exact ok_r
  · rcases List.mem_cons.mp hx with rfl | hx
    · exact ok_r
    · rw [List.mem_singleton.mp hx]; exact ok_s
theorem RNm.nd {l : List Str} (h : RNm l) : (("w" : Str) :: l).Nodup := by
  rcases h with rfl | rfl <;> decide +kernel
/-- a row with nothing odd in it -/
theorem rowOk_mk {M : Mk} {k i : Nat} {d : Hn} {r : Row} (h1 : ∀ e, r.expr = some e → e.nn ∧ e.deep ≤ 3) (h2 : ∀ b e, r = .put b e → k = 0 ∧ b = "b") (h3 : ∀ x b, r = .get x b → b = "b") (h4 : ∀ e to, r = .un e to → i < to ∧ to ≤ d.rows.length)
    (h5 : ∀ x, (∃ e, r = .lt x e) ∨ (∃ b, r = .get x b) → x ≠ ("v" : Str)) (hb : ∃ x, M.bxs[0]? = some x ∧ x.nm = ("b" : Str)) : RowOk M k d i r :=
  ⟨h1, fun b e he => ⟨(h2 b e he).1, 0, by rw [(h2 b e he).2]; exact hb⟩, fun x b he => ⟨0, by rw [h3 x b he]; exact hb⟩, h4, h5⟩
theorem rowsA_ok {M : Mk} {d : Hn} (hb : ∃ x, M.bxs[0]? = some x ∧ x.nm = ("b" : Str)) {i : Nat} {r : Row} (h : rowsA[i]? = some r) : RowOk M 0 d i r := by
  have hm := List.mem_of_getElem? h
  rw [List.mem_singleton.mp hm]
  exact rowOk_mk (fun e he => (by cases he; exact ⟨trivial, (by decide : (1 : Nat) ≤ 3)⟩)) (fun b e he => (by cases he; exact ⟨rfl, rfl⟩)) (fun x b he => (by cases he)) (fun e to he => (by cases he)) (fun x hx => (by rcases hx with ⟨_, hx⟩ | ⟨_, hx⟩ <;> cases hx)) hb
theorem seenR_ok {M : Mk} {k : Nat} {d : Hn} (hb : ∃ x, M.bxs[0]? = some x ∧ x.nm = ("b" : Str)) {i : Nat} {r : Row} (h : seenR[i]? = some r) : RowOk M k d i r := by
  have hm := List.mem_of_getElem? h
  rcases List.mem_cons.mp hm with rfl | hm
  · exact rowOk_mk (fun e he => (by cases he)) (fun b e he => (by cases he)) (fun x b he => (by cases he; rfl)) (fun e to he => (by cases he)) (fun x hx => (by
      rcases hx with ⟨_, hx⟩ | ⟨_, hx⟩ <;> cases hx
      decide +kernel)) hb
  rw [List.mem_singleton.mp hm]
  exact rowOk_mk (fun e he => (by cases he; exact ⟨trivial, (by decide : (1 : Nat) ≤ 3)⟩)) (fun b e he => (by cases he)) (fun x b he => (by cases he)) (fun e to he => (by cases he)) (fun x hx => (by rcases hx with ⟨_, hx⟩ | ⟨_, hx⟩ <;> cases hx)) hb
theorem rowsB_ok {M : Mk} {d : Hn} (hd : d.rows = rowsB) (hb : ∃ x, M.bxs[0]? = some x ∧ x.nm = ("b" : Str)) {i : Nat} {r : Row} (h : rowsB[i]? = some r) : RowOk M 0 d i r := by
  match i, h with
  | 0, h =>
    cases h
    exact rowOk_mk (fun e he => (by cases he; exact ⟨⟨trivial, trivial⟩, (by decide : (max 1 1 + 1 + 1 : Nat) ≤ 3)⟩)) (fun b e he => (by cases he)) (fun x b he => (by cases he)) (fun e to he => (by cases he; rw [hd]; exact ⟨by decide, by decide⟩)) (fun x hx => (by rcases hx with ⟨_, hx⟩ | ⟨_, hx⟩ <;> cases hx)) hb
  | 1, h =>
    cases h
    exact rowOk_mk (fun e he => (by cases he; exact ⟨trivial, (by decide : (1 : Nat) ≤ 3)⟩)) (fun b e he => (by cases he; exact ⟨rfl, rfl⟩)) (fun x b he => (by cases he)) (fun e to he => (by cases he)) (fun x hx => (by rcases hx with ⟨_, hx⟩ | ⟨_, hx⟩ <;> cases hx)) hb
  | 2, h =>
    cases h
    exact rowOk_mk (fun e he => (by cases he; exact ⟨trivial, (by decide : (1 : Nat) ≤ 3)⟩)) (fun b e he => (by cases he)) (fun x b he => (by cases he)) (fun e to he => (by cases he)) (fun x hx => (by
      rcases hx with ⟨_, hx⟩ | ⟨_, hx⟩ <;> cases hx
      decide +kernel)) hb
  | i + 3, h => simp [rowsB] at h
theorem known_ok {kd kb : Nat} (h1 : kd ≤ 2) (h2 : kb ≤ 2) {sz bg : Int} (hz : 2 ≤ sz ∧ sz ≤ 3) (hbg : 0 ≤ bg ∧ bg < sz) {rows : List Row} (hr : rows = rowsA ∨ rows = rowsB) {ns : List Str} (hn : RNm ns) :
    ∃ M : Mk, Good M ∧ M.dt = .tup [.text (kdT kd), .num sz, .num bg, .tup [.tup [.text "b", .text (kdT kb), .num sz, .num bg, .text "w"]], .tup (.tup [.text "w", .num 2, .tup (rows.map Row.dt)] :: ns.map fun x => .tup [.text x, .num 2, .tup (seenR.map Row.dt)])] := by
  obtain ⟨v1, hv1⟩ := sorts_ex (rowsNames rows)
  obtain ⟨v2, hv2⟩ := sorts_ex (rowsNames seenR)
  have hl := hn.len
  have nm : NmOk ⟨kd, sz, bg, [⟨"b", kb, sz, bg⟩], ⟨"w", 2, rows, v1⟩ :: ns.map fun x => ⟨x, 2, seenR, v2⟩⟩ := fun d hd => by
    rcases List.mem_cons.mp hd with rfl | hd
    · exact ok_w
    · obtain ⟨x, hx, rfl⟩ := List.mem_map.mp hd
      exact hn.ok x hx
  have bn : ∀ b ∈ ([⟨"b", kb, sz, bg⟩] : List Bx), PyData.strOk b.nm = true := fun b hb => by rw [List.mem_singleton.mp hb]; exact ok_b
  have rt : ∀ d ∈ (⟨"w", 2, rows, v1⟩ :: ns.map fun x => (⟨x, 2, seenR, v2⟩ : Hn)), PyData.strOk d.nm = true ∧ ∀ r ∈ d.rows, RowT r := fun d hd => ⟨nm d hd, by
    rcases List.mem_cons.mp hd with rfl | hd
    · rcases hr with rfl | rfl
      · exact rowsA_t
      · exact rowsB_t
    · obtain ⟨x, hx, rfl⟩ := List.mem_map.mp hd
      exact seenR_t⟩
  have hb : ∀ (M : Mk), M.bxs = [⟨"b", kb, sz, bg⟩] → ∃ x, M.bxs[0]? = some x ∧ x.nm = ("b" : Str) := fun M h => ⟨_, by rw [h]; rfl, rfl⟩
  refine ⟨⟨kd, sz, bg, [⟨"b", kb, sz, bg⟩], ⟨"w", 2, rows, v1⟩ :: ns.map fun x => ⟨x, 2, seenR, v2⟩⟩, ⟨⟨h1, hz, hbg, (show 1 ≤ 2 by decide), ?_, fun b hb => ?_, ?_, ?_, fun k d hd => ?_⟩, bn, rt⟩, ?_⟩
  · show ([("b" : Str)]).Nodup
    simp
  · rw [List.mem_singleton.mp hb]
    exact ⟨h2, hz, hbg⟩
  · show 2 ≤ (_ :: ns.map _).length ∧ (_ :: ns.map _).length ≤ 3
    rw [List.length_cons, List.length_map]
    omega
  · show (("w" : Str) :: (ns.map fun x => (⟨x, 2, seenR, v2⟩ : Hn)).map Hn.nm).Nodup
    rw [List.map_map]
    have : (ns.map (Hn.nm ∘ fun x => (⟨x, 2, seenR, v2⟩ : Hn))) = ns := by
      conv => rhs; rw [← List.map_id ns]
      rfl
    rw [this]
    exact hn.nd
  · have hd : (⟨"w", 2, rows, v1⟩ :: ns.map fun x => (⟨x, 2, seenR, v2⟩ : Hn))[k]? = some d := hd
    cases k with
    | zero =>
      cases hd
      refine ⟨(show (0 : Int) ≤ 2 by decide), ?_, hv1, fun i r hi => ?_⟩
      · rcases hr with rfl | rfl
        · exact (show rowsA.length ≤ 6 by decide)
        · exact (show rowsB.length ≤ 6 by decide)
      · rcases hr with rfl | rfl
        · exact rowsA_ok (hb _ rfl) hi
        · exact rowsB_ok rfl (hb _ rfl) hi
    | succ k =>
      rw [List.getElem?_cons_succ, List.getElem?_map] at hd
      cases hx : ns[k]? with
      | none => rw [hx] at hd; cases hd
      | some x =>
        rw [hx] at hd
        cases hd
        exact ⟨(show (0 : Int) ≤ 2 by decide), (show seenR.length ≤ 6 by decide), hv2, fun i r hi => seenR_ok (hb _ rfl) hi⟩
  · show NestedKey.tup [.text (kdT kd), .num sz, .num bg, .tup [_], .tup (_ :: (ns.map fun x => (⟨x, 2, seenR, v2⟩ : Hn)).map Hn.dt)] = _
    rw [List.map_map]
    rfl
end SB

set_option maxRecDepth 100000
set_option maxHeartbeats 8000000
/-! The law's known making. -/
namespace SB
open PySem L2 PyProof.Rows
theorem readers_of2 {ns : List Str} {sd : Dt} : ∀ {out : List Dt}, F2 (fun k o => ∃ x : Str, k = .text x ∧ o = .tup [.text x, .num 2, sd]) (txts ns) out → out = ns.map fun x => .tup [.text x, .num 2, sd] := by
  induction ns with
  | nil => intro out h; cases h; rfl
  | cons x ns ih =>
    intro out h
    cases h with
    | cons r t =>
      obtain ⟨y, e, rfl⟩ := r
      cases e
      rw [ih t]; rfl
section
variable {P : Program} {w : World} {K : PySem.W.Frag} {mg : Str → Option Value} {base : Heap}
theorem s_unp4 {n1 n2 n3 n4 : Nat} {k1 k2 k3 k4 : Dt} {σ : L2.St} {H : Hp} {ss : List SV} {te : TE} {D : Ends} (hs : Slots H σ ss) (h : Ed te σ H (.d (.tup [k1, k2, k3, k4]))) (q : ∀ σ' H1, Same H H1 → Slots H1 σ' ((((ss.set n1 (.d k1)).set n2 (.d k2)).set n3 (.d k3)).set n4 (.d k4)) → D.nx σ' H1) :
    tAsg te (gTup K 4 (gCons (gName n1) (gCons (gName n2) (gCons (gName n3) (gCons (gName n4) gNil))))) D σ H :=
  h H (.refl H) _ fun v H1 e h1 => by
    obtain ⟨a, xs, rfl, h4, h5⟩ := Nd.tup_inv h1
    cases h5 with
    | cons r1 t1 => cases t1 with
      | cons r2 t2 => cases t2 with
        | cons r3 t3 => cases t3 with
          | cons r4 t4 =>
            cases t4
            exact ⟨a, _, rfl, SqT.of h4, rfl, _, _, rfl, _, _, rfl, _, _, rfl, _, _, rfl, rfl, q _ H1 e (((((hs.up e).set (s := .d k1) r1 n1).set (s := .d k2) r2 n2).set (s := .d k3) r3 n3).set (s := .d k4) r4 n4)⟩
theorem ok_law_known (T : Txt K mg) : FnOk P w K mg base CX0 4 T.law_known.a T.law_known.d ["_law_well_here"] (spMaking) := by
  refine fun_okC T.law_known.F sc_law_known (fun vs H Q E h => ?_) (fun cdv A outer s H vs Q E hcd hr h => ?_)
  · obtain ⟨_, e, _⟩ := h
    rw [e]; rfl
  obtain ⟨p, rfl, hp, q⟩ := h
  have hs : Slots H (L2.start ["_law_well_here", "_law_kinds", "_law_made", "_law_of", "_law_size", "_law_seen", "_law_readers", "_law_begin", "_law_rows", "_law_name"] [.ref p]) [.v (.ref p), .u, .u, .u, .u, .u, .u, .u, .u, .u] := slots_start ["_law_well_here", "_law_kinds", "_law_made", "_law_of", "_law_size", "_law_seen", "_law_readers", "_law_begin", "_law_rows", "_law_name"] (.cons (s := .v (.ref p)) (show V.ref _ = V.ref _ from rfl) .nil)
  refine ⟨_, (pss_cons (ps_set (i := 1) sc_law_known.nd rfl (Or.inl rfl) (pe_lst (pa_cons pe_str (pa_cons pe_str (pa_cons pe_str pa_nil)))))
      (pss_cons (ps_set (i := 2) sc_law_known.nd rfl (Or.inl rfl) (pe_call (ok_law_draw T) (hr.mono (by decide)) (by rfl) T.law_draw.m T.law_draw.F.kp T.law_draw.b .nil pass0 (pa_cons (pv 0) (pa_cons pe_int pa_nil))))
      (pss_cons (ps_set (i := 3) sc_law_known.nd rfl (Or.inl rfl) (pe_op op_addX (pv 2) (pe_call (ok_law_draw T) (hr.mono (by decide)) (by rfl) T.law_draw.m T.law_draw.F.kp T.law_draw.b .nil pass0 (pa_cons (pv 0) (pa_cons (pe_op op_sub pe_int (pv 2)) pa_nil)))))
      (pss_cons (ps_set (i := 4) sc_law_known.nd rfl (Or.inl rfl) (pe_op op_addX pe_int (pe_op op_fdivX (pe_call (ok_law_draw T) (hr.mono (by decide)) (by rfl) T.law_draw.m T.law_draw.F.kp T.law_draw.b .nil pass0 (pa_cons (pv 0) (pa_cons pe_int pa_nil))) pe_int)))
      (pss_cons (ps_set (i := 5) sc_law_known.nd rfl (Or.inr rfl) (pe_tup (pa_cons (pe_tup (pa_cons pe_str (pa_cons pe_str (pa_cons pe_str pa_nil)))) (pa_cons (pe_tup (pa_cons pe_str (pa_cons (pe_tup (pa_cons pe_str (pa_cons pe_str pa_nil))) pa_nil))) pa_nil))))
      (pss_cons (ps_set (i := 6) sc_law_known.nd rfl (Or.inl rfl) (pe_callTy call_tuple_of (by rfl) T.b_tuple (by decide +kernel) (pa_cons (pe_lc (own := [("_law_name", 9)]) (g := (gName 9)) (tt := tYes) (te := (tTup (tCons (tVar 9) (tCons (tC (.int 2)) (tCons (tVar 5) tNil))))) rfl sc_law_known.nd (pi_list (pe_slice sl_X (pe_lst (pa_cons pe_str (pa_cons pe_str pa_nil))) po_none (po_some (pe_op op_addX pe_int (pe_op op_fdivX (pe_call (ok_law_draw T) (hr.mono (by decide)) (by rfl) T.law_draw.m T.law_draw.F.kp T.law_draw.b .nil pass0 (pa_cons (pv 0) (pa_cons pe_int pa_nil))) pe_int))))) (blkOk_by (by kernel_rfl)) (fun _ _ _ _ _ => (pg_name (i := 9) sc_law_known.nd rfl (Or.inl rfl))) (fun _ _ _ _ _ => pts_nil) (fun _ _ _ _ _ => (pe_tup (pa_cons (pv 9) (pa_cons pe_int (pa_cons (pv 5) pa_nil)))))) pa_nil)))
      (pss_cons (ps_set (i := 7) sc_law_known.nd rfl (Or.inl rfl) (pe_call (ok_law_draw T) (hr.mono (by decide)) (by rfl) T.law_draw.m T.law_draw.F.kp T.law_draw.b .nil pass0 (pa_cons (pv 0) (pa_cons (pv 4) pa_nil))))
      (pss_cons (ps_set (i := 8) sc_law_known.nd rfl (Or.inl rfl) (pe_tup (pa_cons (pe_tup (pa_cons pe_str (pa_cons pe_str (pa_cons (pe_tup (pa_cons pe_str (pa_cons pe_str pa_nil))) pa_nil)))) pa_nil)))
      (pss_cons (ps_if (pt_cmpR (op_eqX hr.units) (pe_call (ok_law_draw T) (hr.mono (by decide)) (by rfl) T.law_draw.m T.law_draw.F.kp T.law_draw.b .nil pass0 (pa_cons (pv 0) (pa_cons pe_int pa_nil))) pe_int (nomark _)) (pss_cons (ps_set (i := 8) sc_law_known.nd rfl (Or.inl rfl) (pe_op op_addX (pe_op op_addX (pe_tup (pa_cons (pe_tup (pa_cons pe_str (pa_cons (pe_tup (pa_cons pe_str (pa_cons (pe_tup (pa_cons pe_str (pa_cons (pe_tup (pa_cons pe_str (pa_cons pe_str pa_nil))) (pa_cons (pe_tup (pa_cons pe_str (pa_cons pe_str pa_nil))) pa_nil)))) pa_nil))) (pa_cons pe_int pa_nil)))) pa_nil)) (pv 8)) (pe_tup (pa_cons (pe_tup (pa_cons pe_str (pa_cons pe_str (pa_cons (pe_tup (pa_cons pe_str (pa_cons pe_str pa_nil))) pa_nil)))) pa_nil))))
      (pss_one (ps_asg (pe_tup (pa_cons pe_int (pa_cons pe_int (pa_cons pe_int (pa_cons pe_int pa_nil))))) (pg_tup rfl (pgs_cons (pg_name (i := 2) sc_law_known.nd rfl (Or.inl rfl)) (pgs_cons (pg_name (i := 3) sc_law_known.nd rfl (Or.inl rfl)) (pgs_cons (pg_name (i := 7) sc_law_known.nd rfl (Or.inl rfl)) (pgs_cons (pg_name (i := 4) sc_law_known.nd rfl (Or.inl rfl)) pgs_nil)))))))) pss_nil)
      (pss_one (ps_ret (pe_tup (pa_cons (pe_ix ix_seq (pv 1) (pv 2) (fun _ _ => rfl)) (pa_cons (pv 4) (pa_cons (pv 7) (pa_cons (pe_tup (pa_cons (pe_tup (pa_cons pe_str (pa_cons (pe_ix ix_seq (pv 1) (pv 3) (fun _ _ => rfl)) (pa_cons (pv 4) (pa_cons (pv 7) (pa_cons pe_str pa_nil)))))) pa_nil)) (pa_cons (pe_op op_addX (pe_tup (pa_cons (pe_tup (pa_cons pe_str (pa_cons pe_int (pa_cons (pv 8) pa_nil)))) pa_nil)) (pv 6)) pa_nil))))))))))))))))), ?_⟩
  -- kinds
  refine s_setL hs (el_lst [.text "safe", .text "steady", .text "whole"] (ea_cons ed_str (ea_cons ed_str (ea_cons ed_str ea_nil))) (show (3 : Nat) ≤ 100000 by decide)) fun pk xk kk σ1 H1 hkk hpk0 e1 hpk hnk hs1 => ?_
  subst hkk
  refine nx_of (X := tSeq _ _ _) ?_
  -- made
  refine s_set hs1 (ev_draw (b := 3) (ev_var hs1) ed_int (e1 _ _ hp) (by decide) (by decide)) fun k σ2 H2 hk e2 hs2 => ?_
  obtain ⟨m1, hm1, rfl⟩ := hk
  have e02 := e1.trans e2
  refine nx_of (X := tSeq _ _ _) ?_
  -- of
  refine s_set hs2 (R := Nm fun i => 0 ≤ i ∧ i < 3) (en_op (R1 := fun i => i = m1) (R2' := fun j => 0 ≤ j ∧ j < 3 - m1) (fun i j => i + j) (Ed.nm (ed_var hs2) rfl) (ev_draw (b := 3 - m1) (ev_var hs2) (ed_sub ed_int (ed_var hs2)) (e02 _ _ hp) (by omega) (by omega)) (fun i j H Q _ _ q => .inl (.inl ⟨i, j, rfl, rfl, q⟩)) (fun i j hi hj => by omega)) fun k σ3 H3 hk e3 hs3 => ?_
  obtain ⟨m2, hm2, rfl⟩ := hk
  have e03 := e02.trans e3
  refine nx_of (X := tSeq _ _ _) ?_
  -- size
  refine s_set hs3 (R := Nm fun i => 2 ≤ i ∧ i ≤ 3) (en_op (R1 := fun i => i = 2) (R2' := fun j => 0 ≤ j ∧ j ≤ 1) (fun i j => i + j) (Ed.nm ed_int rfl) (en_op (R1 := fun i => 0 ≤ i ∧ i < 4) (R2' := fun j => j = 3) (fun i j => i / j) (ev_draw (b := 4) (ev_var hs3) ed_int (e03 _ _ hp) (by decide) (by decide)) (Ed.nm ed_int rfl) (fun i j H Q _ hj q => ⟨i, j, rfl, rfl, ⟨by omega, by omega⟩, q⟩) (fun i j hi hj => by subst hj; omega))
    (fun i j H Q _ _ q => .inl (.inl ⟨i, j, rfl, rfl, q⟩)) (fun i j hi hj => by omega)) fun k σ4 H4 hk e4 hs4 => ?_
  obtain ⟨sz, hsz, rfl⟩ := hk
  have e04 := e03.trans e4
  refine nx_of (X := tSeq _ _ _) ?_
  -- seen
  refine s_setD hs4 (s := .d (.tup (seenR.map Row.dt))) (ed_tup [(Row.get "x" "b").dt, (Row.tell (.var "x")).dt] (ea_cons (ed_tup [.text "get", .text "x", .text "b"] (ea_cons ed_str (ea_cons ed_str (ea_cons ed_str ea_nil))) (show (3 : Nat) ≤ 100000 by decide))
    (ea_cons (ed_tup [.text "tell", (Ex.var "x").dt] (ea_cons ed_str (ea_cons (ed_tup [.text "var", .text "x"] (ea_cons ed_str (ea_cons ed_str ea_nil)) (show (2 : Nat) ≤ 100000 by decide)) ea_nil)) (show (2 : Nat) ≤ 100000 by decide)) ea_nil)) (show (2 : Nat) ≤ 100000 by decide)) fun σ5 H5 e5 hs5 => ?_
  have e05 := e04.trans e5
  refine nx_of (X := tSeq _ _ _) ?_
  -- readers
  refine s_set hs5 (R := fun k => ∃ ns, RNm ns ∧ k = .tup (ns.map fun x => .tup [.text x, .num 2, .tup (seenR.map Row.dt)])) (Ev.imp (ev_tupOf (el_lcRN (vs := [9]) (n := 9) (R := fun k o => ∃ x : Str, k = .text x ∧ o = .tup [.text x, .num 2, .tup (seenR.map Row.dt)]) (RL := fun ks => ∃ ns, RNm ns ∧ ks = txts ns) hs5
    (El.imp (el_headN (el_lst [.text "r", .text "s"] (ea_cons ed_str (ea_cons ed_str ea_nil)) (show (2 : Nat) ≤ 100000 by decide)) (ev_addD (R := fun j => 0 ≤ j ∧ j ≤ 1) (en_op (R1 := fun i => 0 ≤ i ∧ i < 5) (R2' := fun j => j = 4) (fun i j => i / j) (ev_draw (b := 5) (ev_var hs5) ed_int (e05 _ _ hp) (by decide) (by decide)) (Ed.nm ed_int rfl) (fun i j H Q _ hj q => ⟨i, j, rfl, rfl, ⟨by omega, by omega⟩, q⟩) (fun i j hi hj => by subst hj; omega)))) fun ks ⟨js, i, h1, ⟨j, hj, hi⟩, h3⟩ => ?_)
    (fun ks ⟨ns, h, e⟩ => ?_) (by simp) fun ks ⟨ns, hns, e⟩ k hk σ6 H6 e6 hs6 => ?_)) fun k ⟨ks, ⟨ks', ⟨ns, hns, e⟩, hf⟩, h2⟩ => ?_) fun k σ6 H6 hk e6 hs6 => ?_
  · subst h1 h3 hi
    have : j = 0 ∨ j = 1 := by omega
    rcases this with rfl | rfl
    · exact ⟨_, .inl rfl, rfl⟩
    · exact ⟨_, .inr rfl, rfl⟩
  · have := h.len
    rw [e]
    simp [txts]
    omega
  · subst e
    obtain ⟨x, hx, rfl⟩ := List.mem_map.mp hk
    exact Ev.imp (Ed.ev (ed_tup [.text x, .num 2, .tup (seenR.map Row.dt)] (ea_cons (ed_var hs6) (ea_cons ed_int (ea_cons (ed_var hs6) ea_nil))) (show (3 : Nat) ≤ 100000 by decide))) fun k hk => ⟨x, rfl, hk⟩
  · subst e
    exact ⟨ns, hns, by rw [h2, readers_of2 hf]⟩
  obtain ⟨ns, hns, rfl⟩ := hk
  have e06 := e05.trans e6
  refine nx_of (X := tSeq _ _ _) ?_
  -- begin
  refine s_set hs6 (ev_draw (b := sz) (ev_var hs6) (ed_var hs6) (e06 _ _ hp) (by omega) (by omega)) fun k σ7 H7 hk e7 hs7 => ?_
  obtain ⟨bg, hbg, rfl⟩ := hk
  have e07 := e06.trans e7
  refine nx_of (X := tSeq _ _ _) ?_
  -- rows
  refine s_setD hs7 (s := .d (.tup (rowsA.map Row.dt))) (ed_tup [(Row.put "b" (.var "v")).dt] (ea_cons (ed_tup [.text "put", .text "b", (Ex.var "v").dt] (ea_cons ed_str (ea_cons ed_str (ea_cons (ed_tup [.text "var", .text "v"] (ea_cons ed_str (ea_cons ed_str ea_nil)) (show (2 : Nat) ≤ 100000 by decide)) ea_nil))) (show (3 : Nat) ≤ 100000 by decide)) ea_nil) (show (1 : Nat) ≤ 100000 by decide)) fun σ8 H8 e8 hs8 => ?_
  have e08 := e07.trans e8
  refine nx_of (X := tSeq _ _ _) ?_
  refine s_seqJ (fun σ' H' => ∃ (m1 m2 sz bg : Int) (rows : List Row), (0 ≤ m1 ∧ m1 < 3) ∧ (0 ≤ m2 ∧ m2 < 3) ∧ (2 ≤ sz ∧ sz ≤ 3) ∧ (0 ≤ bg ∧ bg < sz) ∧ (rows = rowsA ∨ rows = rowsB) ∧ Same H1 H' ∧ Slots H' σ' [.v (.ref p), .v (.ref pk), .d (.num m1), .d (.num m2), .d (.num sz), .d (.tup (seenR.map Row.dt)), .d (.tup (ns.map fun x => .tup [.text x, .num 2, .tup (seenR.map Row.dt)])), .d (.num bg), .d (.tup (rows.map Row.dt)), .u]) (fun N hN => ?_) fun σ9 H9 ⟨n1, n2, sz2, bg2, rows, hn1, hn2, hsz2, hbg2, hrows, e19, hs9⟩ => ?_
  · have e18 : Same H1 H8 := (((((e2.trans e3).trans e4).trans e5).trans e6).trans e7).trans e8
    refine s_ifX (ebx_op (R1 := fun i => 0 ≤ i ∧ i < 3) (R2' := fun _ => True) (fun i j => decide (V.int i = V.int j)) (ev_draw (b := 3) (ev_var hs8) ed_int (e08 _ _ hp) (by decide) (by decide)) (Ed.nm ed_int trivial) (fun i j H Q q => .inl ⟨rfl, q⟩)) (fun H9 e9 => ?_) (fun H9 e9 => ?_)
    · have hs9 := hs8.up e9
      refine s_setD hs9 (s := .d (.tup (rowsB.map Row.dt))) (ed_cat (ks := [(Row.un (.nt (.bin 0 (.var "v") (.var "kept"))) 3).dt, (Row.put "b" (.var "v")).dt]) (js := [(Row.lt "kept" (.var "v")).dt])
        (ed_cat (ks := [(Row.un (.nt (.bin 0 (.var "v") (.var "kept"))) 3).dt]) (js := [(Row.put "b" (.var "v")).dt]) (ed_tup [(Row.un (.nt (.bin 0 (.var "v") (.var "kept"))) 3).dt] (ea_cons (ed_tup [.text "unless", (Ex.nt (.bin 0 (.var "v") (.var "kept"))).dt, .num 3] (ea_cons ed_str (ea_cons (ed_tup [.text "not", (Ex.bin 0 (.var "v") (.var "kept")).dt] (ea_cons ed_str (ea_cons (ed_tup [.text "=", (Ex.var "v").dt, (Ex.var "kept").dt]
          (ea_cons ed_str (ea_cons (ed_tup [.text "var", .text "v"] (ea_cons ed_str (ea_cons ed_str ea_nil)) (show (2 : Nat) ≤ 100000 by decide)) (ea_cons (ed_tup [.text "var", .text "kept"] (ea_cons ed_str (ea_cons ed_str ea_nil)) (show (2 : Nat) ≤ 100000 by decide)) ea_nil))) (show (3 : Nat) ≤ 100000 by decide)) ea_nil)) (show (2 : Nat) ≤ 100000 by decide)) (ea_cons ed_int ea_nil))) (show (3 : Nat) ≤ 100000 by decide)) ea_nil) (show (1 : Nat) ≤ 100000 by decide))
          (ed_var hs9) (by decide))
        (ed_tup [(Row.lt "kept" (.var "v")).dt] (ea_cons (ed_tup [.text "let", .text "kept", (Ex.var "v").dt] (ea_cons ed_str (ea_cons ed_str (ea_cons (ed_tup [.text "var", .text "v"] (ea_cons ed_str (ea_cons ed_str ea_nil)) (show (2 : Nat) ≤ 100000 by decide)) ea_nil))) (show (3 : Nat) ≤ 100000 by decide)) ea_nil) (show (1 : Nat) ≤ 100000 by decide)) (by decide)) fun σ10 H10 e10 hs10 => ?_
      refine nx_of (X := tAsg _ _ _) ?_
      refine s_unp4 hs10 (ed_tup [.num 1, .num 0, .num 0, .num 2] (ea_cons ed_int (ea_cons ed_int (ea_cons ed_int (ea_cons ed_int ea_nil)))) (show (4 : Nat) ≤ 100000 by decide)) fun σ11 H11 e11 hs11 => ?_
      exact hN _ _ ⟨1, 0, 2, 0, rowsB, by decide, by decide, by decide, by decide, .inr rfl, ((e18.trans e9).trans e10).trans e11, hs11⟩
    · exact hN _ _ ⟨m1, m2, sz, bg, rowsA, hm1, hm2, hsz, hbg, .inl rfl, e18.trans e9, hs8.up e9⟩
  · refine s_ret (R := fun k => ∃ kd kb : Nat, kd ≤ 2 ∧ kb ≤ 2 ∧ k = .tup [.text (kdT kd), .num sz2, .num bg2, .tup [.tup [.text "b", .text (kdT kb), .num sz2, .num bg2, .text "w"]], .tup (.tup [.text "w", .num 2, .tup (rows.map Row.dt)] :: ns.map fun x => .tup [.text x, .num 2, .tup (seenR.map Row.dt)])])
      (ev_tup5 (ev_kind (ev_var hs9) (e19 _ _ hpk) (hnk.up e19) (Ed.nm (ed_var hs9) hn1) fun i h => h) (Ed.ev (ed_var hs9)) (Ed.ev (ed_var hs9))
        (ev_tup1 (R := fun k => ∃ kb : Nat, kb ≤ 2 ∧ k = .tup [.tup [.text "b", .text (kdT kb), .num sz2, .num bg2, .text "w"]]) (R1 := fun k => ∃ kb : Nat, kb ≤ 2 ∧ k = .tup [.text "b", .text (kdT kb), .num sz2, .num bg2, .text "w"]) (ev_tup5 (Ed.ev ed_str) (ev_kind (ev_var hs9) (e19 _ _ hpk) (hnk.up e19) (Ed.nm (ed_var hs9) hn2) fun i h => h) (Ed.ev (ed_var hs9)) (Ed.ev (ed_var hs9)) (Ed.ev ed_str) fun a b c d f ha hb hc hd hf => by
          obtain ⟨kb, hkb, rfl⟩ := hb
          subst ha hc hd hf
          exact ⟨kb, hkb, rfl⟩) fun a ⟨kb, hkb, ha⟩ => ⟨kb, hkb, by rw [ha]⟩)
        (Ed.ev (ed_cat (ks := [.tup [.text "w", .num 2, .tup (rows.map Row.dt)]]) (ed_tup [.tup [.text "w", .num 2, .tup (rows.map Row.dt)]] (ea_cons (ed_tup [.text "w", .num 2, .tup (rows.map Row.dt)] (ea_cons ed_str (ea_cons ed_int (ea_cons (ed_var hs9) ea_nil))) (show (3 : Nat) ≤ 100000 by decide)) ea_nil) (show (1 : Nat) ≤ 100000 by decide)) (ed_var hs9) (by have := hns.len; rw [List.length_map]; show 1 + ns.length ≤ 100000; omega)))
        fun a b c d f ha hb hc hd hf => ?_) fun v' H10 k e10 h10 hk => ?_
    · obtain ⟨kd, hkd, rfl⟩ := ha
      obtain ⟨kb, hkb, rfl⟩ := hd
      subst hb hc hf
      exact ⟨kd, kb, hkd, hkb, rfl⟩
    · obtain ⟨kd, kb, hkd, hkb, rfl⟩ := hk
      obtain ⟨M, hG, hM⟩ := known_ok hkd hkb hsz2 hbg2 hrows hns
      exact q v' H10 M ((e1.trans e19).trans e10) (by rw [hM]; exact h10) hG
end
end SB
set_option maxRecDepth 100000
set_option maxHeartbeats 8000000
/-! The law's word. -/
namespace SB
open PySem L2 PyProof.Rows
def WordR (M : Mk) (x : Str) : Prop := (x = "paper" ∧ ∃ met, Paper M met) ∨ (x = "break" ∧ Breaks M) ∨ x = "many"
section
variable {P : Program} {w : World} {K : PySem.W.Frag} {mg : Str → Option Value} {base : Heap}
theorem s_word {D : Ends} {σ : L2.St} {H : Hp} {t : TA} {W : WX} {CT : Addr} {M : Mk} {most n : Nat} (hM : Good M) (hm : most ≤ 300) (ht : Ea t σ H [.d M.dt, .v (.int (most : Int))]) (q1 : ∀ H' x, Same H H' → WordR M x → D.nx (σ.set n (some (.str x))) H') (q2 : ∀ H', Same H H' → W (.ref CT) none σ H') :
    tAsg (tOp (rIx K) (tCallS (spSeek CT) (WE W) t) (tC (.int 0))) (gName n) D σ H :=
  ht H (.refl H) _ fun vs H1 e1 h1 => by
    cases h1 with
    | cons r1 t1 => cases t1 with
      | cons r2 t2 =>
        cases t2
        cases r2
        refine ⟨M, most, _, hM.ok, hM.nm, hm, rfl, r1, fun t b H' met ht hp e => ?_, fun t b H' ht hb e => ?_, fun H' e => q2 H' (e1.trans e)⟩
        · exact .inr (.inl ⟨t, _, 0, .str "paper", rfl, rfl, SqT.of ht, by simp [atI, ixN], q1 H' _ (e1.trans e) (.inl ⟨rfl, met, hp⟩)⟩)
        · exact .inr (.inl ⟨t, _, 0, .str "break", rfl, rfl, SqT.of ht, by simp [atI, ixN], q1 H' _ (e1.trans e) (.inr (.inl ⟨rfl, hb⟩))⟩)
def spWord : Sp := fun vs H Q _ => ∃ (M : Mk) (most : Nat) (vM : V), Good M ∧ most ≤ 300 ∧ vs = [vM, .int (most : Int)] ∧ Nd H vM M.dt ∧ ∀ H' x, Same H H' → WordR M x → Q (.str x) H'
theorem ok_law_word (T : Txt K mg) (U : Tm K mg) : FnOk P w K mg base CX0 15 T.law_word.a T.law_word.d ["_law_making", "_law_most"] spWord := by
  refine fun_okC T.law_word.F sc_law_word (fun vs H Q E h => ?_) (fun cdv A outer s H vs Q E hcd hr h => ?_)
  · obtain ⟨_, _, _, _, _, e, _⟩ := h
    rw [e]; rfl
  obtain ⟨M, most, vM, hM, hm, rfl, hv, q⟩ := h
  have hs : Slots H (L2.start ["_law_making", "_law_most", "_law_word_here"] [vM, .int (most : Int)]) [.d M.dt, .v (.int (most : Int)), .u] := slots_start ["_law_making", "_law_most", "_law_word_here"] (.cons (s := .d M.dt) hv (.cons (s := .v (.int (most : Int))) (show V.int _ = V.int _ from rfl) .nil))
  refine ⟨_, pss_cons (ps_set (i := 2) sc_law_word.nd rfl (Or.inl rfl) pe_str)
    (pss_cons (ps_try_only (tb := fun W => tAsg (tOp (rIx K) (tCallS (spSeek U.C) (WE W) (tCons (tVar 0) (tCons (tVar 1) tNil))) (tC (.int 0))) (gName 2)) (ts := fun _ _ _ => tAsg (tC (.str "many")) (gName 2)) (Wout := fun _ _ _ _ => False) rfl rfl ⟨rfl, by decide, .inl U.g⟩ takes0
      (fun W pn xe tk _ => pss_one (ps_set (i := 2) sc_law_word.nd rfl (Or.inl rfl) (by exact (pe_ix ix_seq (pe_callS (ok_seek T U) (hr.mono (by decide)) rfl T.seek.m T.seek.F.kp T.seek.b (fun σ => passAt tk σ) (pa_cons (pv 0) (pa_cons (pv 1) pa_nil))) pe_int (fun _ _ => rfl)))))
      (fun a oe cls d pn _ _ => pss_one (ps_set (i := 2) sc_law_word.nd rfl (Or.inl rfl) pe_str)))
    (pss_one (ps_ret (pv 2)))), ?_⟩
  refine s_setD hs (s := .d (.text "many")) ed_str fun σ1 H1 e1 hs1 => ?_
  refine nx_of (X := tSeq _ _ _) ?_
  have fin : ∀ (H' : Hp) (x : Str), Same H H' → WordR M x → (tRet (tVar 2) { nx := fun _ H' => Q .non H', rt := Q }) (σ1.set 2 (some (.str x))) H' := fun H' x e hx => by
    have hl : 2 < σ1.length := by
      have := hs1.len
      simp at this
      omega
    refine ⟨.str x, ?_, q H' x e hx⟩
    simp [hl]
  show tAsg _ _ _ _ _
  refine s_word hM hm (ea_cons (ed_var hs1) (ea_cons (ev_var hs1) ea_nil)) (fun H' x e hx => fin H' x (e1.trans e) hx) (fun H' e => ?_)
  refine ⟨true, U.e, fun _ a ha => ?_, fun z => by cases z⟩
  exact fin H' "many" (e1.trans e) (.inr (.inr rfl))
theorem ev_word {σ : L2.St} {H : Hp} {t : TA} {M : Mk} {most : Nat} {E : XK} (hM : Good M) (hm : most ≤ 300) (ht : Ea t σ H [.d M.dt, .v (.int (most : Int))]) : Ev (tCall spWord [] E t) σ H (fun k => ∃ x, WordR M x ∧ k = .text x) := fun H1 e Q q =>
  ht H1 e _ fun vs H2 e2 h2 => by
    cases h2 with
    | cons r1 t1 => cases t1 with
      | cons r2 t2 =>
        cases t2
        cases r2
        exact ⟨M, most, _, hM, hm, rfl, r1, fun H3 x e3 hx => q _ H3 _ (e2.trans e3) (.str x) ⟨x, hx, rfl⟩⟩
end
end SB
set_option maxRecDepth 100000
set_option maxHeartbeats 8000000
/-! Stronger makings, in plain Lean. -/
namespace SB
open PySem L2 PyProof.Rows
def kdUp (n : Nat) : Nat := if n = 0 then 1 else 2
def kdDown (n : Nat) : Nat := if n = 2 then 1 else 0
def Bx.up (b : Bx) : Bx := { b with kd := kdUp b.kd }
def upL : List (Key × V) := [(.inr "safe", .str "steady"), (.inr "steady", .str "whole"), (.inr "whole", .str "whole")]
def downL : List (Key × V) := [(.inr "whole", .str "steady"), (.inr "steady", .str "safe"), (.inr "safe", .str "safe")]
theorem up_at {kd : Nat} (h : kd ≤ 2) : valV (mergeK [] upL) (.inr (kdT kd)) = some (.str (kdT (kdUp kd))) := by
  have : kd = 0 ∨ kd = 1 ∨ kd = 2 := by omega
  rcases this with rfl | rfl | rfl <;> decide +kernel
theorem down_at {kd : Nat} (h : kd ≤ 2) : valV (mergeK [] downL) (.inr (kdT kd)) = some (.str (kdT (kdDown kd))) := by
  have : kd = 0 ∨ kd = 1 ∨ kd = 2 := by omega
  rcases this with rfl | rfl | rfl <;> decide +kernel
def Str2 (M : Mk) (k : Dt) : Prop := ∃ M' : Mk, Stg M M' ∧ Good M' ∧ k = M'.dt
theorem mkOk_bx {M : Mk} {bxs : List Bx} (G : Good M) (hn : bxs.map Bx.nm = M.bxs.map Bx.nm) (hb : ∀ b ∈ bxs, BxOk b) : Good { M with bxs := bxs } := by
  have O := G.ok
  have hl : bxs.length = M.bxs.length := by
    have := congrArg List.length hn
    simpa using this
  have find : ∀ y, (∃ (j : Nat) (x : Bx), M.bxs[j]? = some x ∧ x.nm = y) → ∃ (j : Nat) (x : Bx), bxs[j]? = some x ∧ x.nm = y := by
    rintro y ⟨j, x, h1, h2⟩
    have h3 : (bxs.map Bx.nm)[j]? = some y := by rw [hn, List.getElem?_map, h1, ← h2]; rfl
    rw [List.getElem?_map] at h3
    cases hx : bxs[j]? with
    | none => rw [hx] at h3; cases h3
    | some z => rw [hx] at h3; exact ⟨j, z, hx, Option.some.inj h3⟩
  refine ⟨⟨O.kd, O.sz, O.bg, by show bxs.length ≤ 2; rw [hl]; exact O.bl, by show (bxs.map Bx.nm).Nodup; rw [hn]; exact O.bn, hb, O.hl, O.hn, fun k d hd => ?_⟩, fun b hb' => ?_, G.rt⟩
  · have D := O.hd k d hd
    refine ⟨D.wi, D.rl, D.vars, fun i r hr => ?_⟩
    have R := D.row i r hr
    exact ⟨R.ex, fun b e he => ⟨(R.put b e he).1, find _ (R.put b e he).2⟩, fun x b he => find _ (R.get x b he), R.un, R.nv⟩
  · have : b.nm ∈ M.bxs.map Bx.nm := by rw [← hn]; exact List.mem_map.mpr ⟨b, hb', rfl⟩
    obtain ⟨b2, h1, h2⟩ := List.mem_map.mp this
    rw [← h2]
    exact G.bn b2 h1
theorem kdUp_le {n : Nat} : kdUp n ≤ 2 := by unfold kdUp; split <;> decide
theorem kdUp_st {n : Nat} (h : n ≤ 2) : kdUp n = n ∨ kdUp n = n + 1 := by unfold kdUp; split <;> omega
theorem kdDown_st {n : Nat} (h : n ≤ 2) : kdDown n = n ∨ kdDown n + 1 = n := by unfold kdDown; split <;> omega
theorem up_ok {b : Bx} (h : BxOk b) : BxOk b.up := ⟨kdUp_le, h.sz, h.bg⟩
theorem stg_set {M : Mk} (G : Good M) {i : Nat} {b : Bx} (hb : M.bxs[i]? = some b) : Stg M { M with bxs := M.bxs.set i b.up } ∧ Good { M with bxs := M.bxs.set i b.up } := by
  have O := G.ok
  have bo := fun (j : Nat) (x : Bx) (h : M.bxs[j]? = some x) => O.bx x (List.mem_of_getElem? h)
  refine ⟨⟨rfl, rfl, rfl, .inl rfl, O.kd, by show (M.bxs.set i b.up).length = _; rw [List.length_set], fun j x x' h1 h2 => ?_⟩, mkOk_bx G ?_ fun x hx => ?_⟩
  · have h2 : (M.bxs.set i b.up)[j]? = some x' := h2
    rcases set_get h2 with ⟨rfl, rfl, _⟩ | ⟨_, h2⟩
    · rw [hb] at h1
      cases h1
      have := (bo _ _ hb).kd
      exact ⟨rfl, rfl, rfl, this, kdUp_le, kdUp_st this⟩
    · rw [h1] at h2
      cases h2
      have := (bo _ _ h1).kd
      exact ⟨rfl, rfl, rfl, this, this, .inl rfl⟩
  · rw [List.map_set]
    show (M.bxs.map Bx.nm).set i b.nm = _
    refine List.ext_getElem? fun j => ?_
    rw [List.getElem?_set]
    split
    · rename_i h
      subst h
      split
      · rw [List.getElem?_map, hb]; rfl
      · rename_i h
        rw [List.getElem?_eq_none (by omega)]
    · rfl
  · rcases List.mem_or_eq_of_mem_set hx with h | rfl
    · exact O.bx x h
    · exact up_ok (bo _ _ hb)
theorem stg_all {M : Mk} (G : Good M) : Stg M { M with bxs := M.bxs.map Bx.up } ∧ Good { M with bxs := M.bxs.map Bx.up } := by
  have O := G.ok
  refine ⟨⟨rfl, rfl, rfl, .inl rfl, O.kd, by show (M.bxs.map Bx.up).length = _; rw [List.length_map], fun j x x' h1 h2 => ?_⟩, mkOk_bx G ?_ fun x hx => ?_⟩
  · have h2 : (M.bxs.map Bx.up)[j]? = some x' := h2
    rw [List.getElem?_map, h1] at h2
    cases h2
    have := (O.bx x (List.mem_of_getElem? h1)).kd
    exact ⟨rfl, rfl, rfl, this, kdUp_le, kdUp_st this⟩
  · rw [List.map_map]
    rfl
  · obtain ⟨b, hb, rfl⟩ := List.mem_map.mp hx
    exact up_ok (O.bx b hb)
theorem stg_down {M : Mk} (G : Good M) : Stg M { M with kd := kdDown M.kd } ∧ Good { M with kd := kdDown M.kd } := by
  have O := G.ok
  refine ⟨⟨rfl, rfl, rfl, kdDown_st O.kd, O.kd, rfl, fun j x x' h1 h2 => ?_⟩, ⟨?_, O.sz, O.bg, O.bl, O.bn, O.bx, O.hl, O.hn, fun k d hd => ?_⟩, G.bn, G.rt⟩
  · have h2 : M.bxs[j]? = some x' := h2
    rw [h1] at h2
    cases h2
    have := (O.bx x (List.mem_of_getElem? h1)).kd
    exact ⟨rfl, rfl, rfl, this, this, .inl rfl⟩
  · show kdDown M.kd ≤ 2
    unfold kdDown; split <;> decide
  · have D := O.hd k d hd
    exact ⟨D.wi, D.rl, D.vars, fun i r hr => (D.row i r hr).casesOn fun a b c d e => ⟨a, b, c, d, e⟩⟩
end SB

set_option maxRecDepth 100000
set_option maxHeartbeats 8000000
/-! The law's stronger makings. -/
namespace SB
open PySem L2 PyProof.Rows
section
variable {P : Program} {w : World} {K : PySem.W.Frag} {mg : Str → Option Value} {base : Heap}
theorem s_disp3 {a1 b1 a2 b2 a3 b3 : Str} {n : Nat} {D : Ends} {σ : L2.St} {H : Hp} (q : ∀ p, H p = none → D.nx (σ.set n (some (.ref p))) (upd H p (.dK (mergeK [] [(.inr a1, .str b1), (.inr a2, .str b2), (.inr a3, .str b3)])))) :
    tAsg (tDisp [(tC (.str a1), tC (.str b1)), (tC (.str a2), tC (.str b2)), (tC (.str a3), tC (.str b3))]) (gName n) D σ H := fun p hp =>
  ⟨upd_same, [(.inr a1, .str b1), (.inr a2, .str b2), (.inr a3, .str b3)], rfl, (show 3 ≤ 15 by decide), by rw [upd_upd]; exact q p hp⟩
theorem sl_to {ks : List Dt} {i : Nat} {σ : L2.St} {H : Hp} {ta tb : TE} (ha : Ed ta σ H (.d (.tup ks))) (hb : Ed tb σ H (.d (.num (i : Int)))) (h : i ≤ ks.length) : Ed (tSl (rSlX K) ta tNoPart (tPart tb)) σ H (.d (.tup (ks.take i))) := Ed.is (ed_sl ha eo_none (eo_some hb)) (by rw [cutD_to h])
theorem sl_from {ks : List Dt} {i : Nat} {σ : L2.St} {H : Hp} {ta tb : TE} (ha : Ed ta σ H (.d (.tup ks))) (hb : Ed tb σ H (.d (.num (i : Int)))) (h : i ≤ ks.length) : Ed (tSl (rSlX K) ta (tPart tb) tNoPart) σ H (.d (.tup (ks.drop i))) := Ed.is (ed_sl ha (eo_some hb) eo_none) (by rw [cutD_from h])
/-- a box one kind stronger -/
theorem ed_up {σ : L2.St} {H : Hp} {tb tu : TE} {b : Bx} {pu : Addr} (hb : Ed tb σ H (.d b.dt)) (hu : Ed tu σ H (.v (.ref pu))) (hp : H pu = some (.dK (mergeK [] upL))) (hk : b.kd ≤ 2) :
    Ed (tOp (rAddX K) (tTup (tCons (tOp (rIx K) tb (tC (.int 0))) (tCons (tDGet tu (tOp (rIx K) tb (tC (.int 1)))) tNil))) (tSl (rSlX K) tb (tPart (tC (.int 2))) tNoPart)) σ H (.d b.up.dt) :=
  ed_cat (ks := [.text b.nm, .text (kdT (kdUp b.kd))]) (js := [.num b.sz, .num b.bg, .text "w"])
    (ed_tup [.text b.nm, .text (kdT (kdUp b.kd))] (ea_cons (ed_ix hb ed_int rfl) (ea_cons ((ed_dgetS hu (ed_ix (k := .text (kdT b.kd)) hb ed_int rfl) hp (up_at hk)).vd (.str _)) ea_nil)) (show (2 : Nat) ≤ 100000 by decide))
    (sl_from (i := 2) (ks := [.text b.nm, .text (kdT b.kd), .num b.sz, .num b.bg, .text "w"]) hb ed_int (show (2 : Nat) ≤ 5 by decide)) (show 2 + 3 ≤ 100000 by decide)
def spStronger : Sp := fun vs H Q _ => ∃ (M : Mk) (vM : V), Good M ∧ vs = [vM] ∧ Nd H vM M.dt ∧ ∀ p xs ks H', H p = none → Same H H' → H' p = some (.lst xs) → NdAll H' xs ks → (∀ k ∈ ks, Str2 M k) → ks.length ≤ 10 → Q (.ref p) H'
theorem ok_law_stronger (T : Txt K mg) : FnOk P w K mg base CX0 1 T.law_stronger.a T.law_stronger.d ["_law_making"] (spStronger) := by
  refine fun_okC T.law_stronger.F sc_law_stronger (fun vs H Q E h => ?_) (fun cdv A outer s H vs Q E hcd hr h => ?_)
  · obtain ⟨_, _, _, e, _⟩ := h
    rw [e]; rfl
  obtain ⟨M, vM, hM, rfl, hv, q⟩ := h
  have O := hM.ok
  have hbl := O.bl
  have hs : Slots H (L2.start ["_law_making", "_law_up", "_law_boxes", "_law_found", "_law_k", "_law_box", "_law_down", "_law_other"] [vM]) [.d M.dt, .u, .u, .u, .u, .u, .u, .u] := slots_start ["_law_making", "_law_up", "_law_boxes", "_law_found", "_law_k", "_law_box", "_law_down", "_law_other"] (.cons (s := .d M.dt) hv .nil)
  have mk3 : ∀ {σ : L2.St} {H : Hp} {ss : List SV}, Slots H σ (.d M.dt :: ss) → Ed (tSl (rSlX K) (tVar 0) tNoPart (tPart (tC (.int 3)))) σ H (.d (.tup [.text (kdT M.kd), .num M.sz, .num M.bg])) := fun {σ H ss} hs => sl_to (i := 3) (ks := [.text (kdT M.kd), .num M.sz, .num M.bg, .tup (M.bxs.map Bx.dt), .tup (M.hds.map Hn.dt)]) (ed_var hs) ed_int (show (3 : Nat) ≤ 5 by decide)
  refine ⟨_, (pss_cons (ps_set (i := 1) sc_law_stronger.nd rfl (Or.inr rfl) (pe_disp (pps_cons pe_str pe_str (pps_cons pe_str pe_str (pps_cons pe_str pe_str pps_nil))) (by rfl) (by rfl) (fun z => by cases z) (by decide)))
      (pss_cons (ps_set (i := 2) sc_law_stronger.nd rfl (Or.inl rfl) (pe_ix ix_seq (pv 0) pe_int (fun _ _ => rfl)))
      (pss_cons (ps_set (i := 3) sc_law_stronger.nd rfl (Or.inl rfl) (pe_lst pa_nil))
      (pss_cons (ps_for PassesOwn.never rfl (pi_enumX (by rfl) T.b_enumerate (pa_cons (pv 2) pa_nil)) (pg_tup rfl (pgs_cons (pg_name (i := 4) sc_law_stronger.nd rfl (Or.inl rfl)) (pgs_cons (pg_name (i := 5) sc_law_stronger.nd rfl (Or.inl rfl)) pgs_nil))) (pss_one (ps_expr (pe_bm PySem.F.plainAttrs_list PySem.F.slot_list_append PySem.F.type_list_append mt_append (pv 3) (pa_cons (pe_op op_addX (pe_slice sl_X (pv 0) po_none (po_some pe_int)) (pe_tup (pa_cons (pe_op op_addX (pe_op op_addX (pe_slice sl_X (pv 2) po_none (po_some (pv 4))) (pe_tup (pa_cons (pe_op op_addX (pe_tup (pa_cons (pe_ix ix_seq (pv 5) pe_int (fun _ _ => rfl)) (pa_cons (pe_dget (hu_of hr) (pv 1) (pe_ix ix_seq (pv 5) pe_int (fun _ _ => rfl)) (fun _ _ => rfl)) pa_nil))) (pe_slice sl_X (pv 5) (po_some pe_int) po_none)) pa_nil))) (pe_slice sl_X (pv 2) (po_some (pe_op op_addX (pv 4) pe_int)) po_none)) (pa_cons (pe_ix ix_seq (pv 0) pe_int (fun _ _ => rfl)) pa_nil)))) pa_nil)))))
      (pss_cons (ps_if (pt_cmpR op_gt (pe_callB call_len (by rfl) T.b_len PySem.boot_len (pa_cons (pv 2) pa_nil)) pe_int (nomark _)) (pss_one (ps_expr (pe_bm PySem.F.plainAttrs_list PySem.F.slot_list_append PySem.F.type_list_append mt_append (pv 3) (pa_cons (pe_op op_addX (pe_slice sl_X (pv 0) po_none (po_some pe_int)) (pe_tup (pa_cons (pe_callTy call_tuple_of (by rfl) T.b_tuple (by decide +kernel) (pa_cons (pe_lc (own := [("_law_box", 5)]) (g := (gName 5)) (tt := tYes) (te := (tOp (rAddX K) (tTup (tCons (tOp (rIx K) (tVar 5) (tC (.int 0))) (tCons (tDGet (tVar 1) (tOp (rIx K) (tVar 5) (tC (.int 1)))) tNil))) (tSl (rSlX K) (tVar 5) (tPart (tC (.int 2))) tNoPart))) rfl sc_law_stronger.nd (pi_tup (pv 2)) (blkOk_by (by kernel_rfl)) (fun _ _ _ _ _ => (pg_name (i := 5) sc_law_stronger.nd rfl (Or.inl rfl))) (fun _ _ _ _ _ => pts_nil) (fun _ _ _ _ _ => (pe_op op_addX (pe_tup (pa_cons (pe_ix ix_seq (pv 5) pe_int (fun _ _ => rfl)) (pa_cons (pe_dget (hu_of hr) (pv 1) (pe_ix ix_seq (pv 5) pe_int (fun _ _ => rfl)) (fun _ _ => rfl)) pa_nil))) (pe_slice sl_X (pv 5) (po_some pe_int) po_none)))) pa_nil)) (pa_cons (pe_ix ix_seq (pv 0) pe_int (fun _ _ => rfl)) pa_nil)))) pa_nil)))) pss_nil)
      (pss_cons (ps_set (i := 6) sc_law_stronger.nd rfl (Or.inl rfl) (pe_disp (pps_cons pe_str pe_str (pps_cons pe_str pe_str (pps_cons pe_str pe_str pps_nil))) (by rfl) (by rfl) (fun z => by cases z) (by decide)))
      (pss_cons (ps_expr (pe_bm PySem.F.plainAttrs_list PySem.F.slot_list_append PySem.F.type_list_append mt_append (pv 3) (pa_cons (pe_op op_addX (pe_tup (pa_cons (pe_dget (hu_of hr) (pv 6) (pe_ix ix_seq (pv 0) pe_int (fun _ _ => rfl)) (fun _ _ => rfl)) pa_nil)) (pe_slice sl_X (pv 0) (po_some pe_int) po_none)) pa_nil)))
      (pss_one (ps_ret (pe_lc (own := [("_law_other", 7)]) (g := (gName 7)) (tt := tTest (tOp (rNeX K) (tVar 7) (tVar 0))) (te := (tVar 7)) rfl sc_law_stronger.nd (pi_list (pv 3)) (blkOk_by (by kernel_rfl)) (fun _ _ _ _ _ => (pg_name (i := 7) sc_law_stronger.nd rfl (Or.inl rfl))) (fun _ _ _ _ _ => (pts_one (pt_cmpR (op_neX hr.units) (pv 7) (pv 0) (nomark _)))) (fun _ _ _ _ _ => (pv 7)))))))))))), ?_⟩
  -- up
  refine s_disp3 fun pu hpu0 => ?_
  have e1 : Same H (upd H pu (.dK (mergeK [] upL))) := same_new hpu0
  have hpu : (upd H pu (.dK (mergeK [] upL))) pu = some (.dK (mergeK [] upL)) := upd_same
  have hs1 : Slots (upd H pu (.dK (mergeK [] upL))) _ [.d M.dt, .v (.ref pu), .u, .u, .u, .u, .u, .u] := (hs.up e1).set (s := .v (.ref pu)) rfl 1
  refine nx_of (X := tSeq _ _ _) ?_
  show tSeq _ _ _ _ (upd H pu (.dK (mergeK [] upL)))
  generalize upd H pu (.dK (mergeK [] upL)) = G1 at *
  -- boxes
  refine s_setD hs1 (s := .d (.tup (M.bxs.map Bx.dt))) (ed_ix (ed_var hs1) ed_int rfl) fun σ2 H2 e2 hs2 => ?_
  refine nx_of (X := tSeq _ _ _) ?_
  -- found
  refine s_setL hs2 (el_lst [] ea_nil (by simp)) fun pf xf kf σ3 H3 hkf hpf0 e3 hpf hnf hs3 => ?_
  subst hkf
  refine nx_of (X := tSeq _ _ _) ?_
  have hpu3 := (e2.trans e3) _ _ hpu
  let SS : List SV := [.d M.dt, .v (.ref pu), .d (.tup (M.bxs.map Bx.dt)), .v (.ref pf), .u, .u, .u, .u]
  have hs3 : Slots H3 σ3 SS := hs3
  refine s_seqJ (fun σ' H' => ∃ (zs : List V) (ks : List Dt), H' pf = some (.lst zs) ∧ NdAll H' zs ks ∧ ks.length ≤ 2 ∧ (∀ k ∈ ks, Str2 M k) ∧ Same H2 H' ∧ Slots H' σ' SS) (fun N hN => ?_) fun σ4 H4 ⟨zs, ks, hz, hzn, hkl, hst, e24, hs4⟩ => ?_
  · refine s_forE (ks := M.bxs.map Bx.dt) (ed_var hs3) fun H5 e5 => ⟨fun i σ' H' => ∃ (zs : List V) (ks : List Dt), H' pf = some (.lst zs) ∧ NdAll H' zs ks ∧ ks.length = i ∧ (∀ k ∈ ks, Str2 M k) ∧ Same H2 H' ∧ Tx H5 H' ∧ Slots H' σ' SS, ?_, fun i σ' H' ⟨_, _, _, _, _, _, _, t, _⟩ => t, ?_, ?_⟩
    · exact ⟨xf, [], e5 _ _ hpf, hnf.up e5, rfl, (fun k hk => by cases hk), e3.trans e5, Tx.refl _, hs3.up e5⟩
    · rintro i k v σ' H' H'' hk ⟨zs, ks, hz, hzn, hl, hst, e2', t5, hs'⟩ s6 hv6
      obtain ⟨b, hb, rfl⟩ := map_get hk
      have hi := (List.getElem?_eq_some_iff.mp hb).1
      have hbk := (O.bx b (List.mem_of_getElem? hb)).kd
      refine tg_tup2 (K := K) (vs := [4, 5]) (by simp) (by simp) H'' σ' v (hs'.up s6) hv6 _ fun σ7 hs7 _ => ?_
      have hs7 : Slots H'' σ7 [.d M.dt, .v (.ref pu), .d (.tup (M.bxs.map Bx.dt)), .v (.ref pf), .d (.num (i : Int)), .d b.dt, .u, .u] := hs7
      have hpu7 := (e2'.trans s6) _ _ (e2 _ _ hpu)
      have hml : (M.bxs.map Bx.dt).length = M.bxs.length := List.length_map _
      obtain ⟨hsg, hgd⟩ := stg_set hM hb
      refine s_app (T := "") (s6 _ _ hz) (hzn.up s6) (ev_var hs7) (Ed.ev (Ed.is (k' := ({ M with bxs := M.bxs.set i b.up } : Mk).dt) (ed_cat (ks := [.text (kdT M.kd), .num M.sz, .num M.bg]) (js := [.tup (((M.bxs.map Bx.dt).take i ++ [b.up.dt]) ++ (M.bxs.map Bx.dt).drop (i + 1)), .tup (M.hds.map Hn.dt)]) (mk3 hs7)
        (ed_tup [.tup (((M.bxs.map Bx.dt).take i ++ [b.up.dt]) ++ (M.bxs.map Bx.dt).drop (i + 1)), .tup (M.hds.map Hn.dt)] (ea_cons (ed_cat (ed_cat (sl_to (ks := M.bxs.map Bx.dt) (ed_var hs7) (ed_var hs7) (by omega)) (ed_tup [b.up.dt] (ea_cons (ed_up (ed_var hs7) (ev_var hs7) hpu7 hbk) ea_nil) (show (1 : Nat) ≤ 100000 by decide)) (by rw [List.length_take]; show _ + 1 ≤ 100000; omega))
          (sl_from (ks := M.bxs.map Bx.dt) (ed_var hs7) (Ed.is (ed_add (ed_var hs7) ed_int) (show NestedKey.num ((i : Int) + 1) = .num ((i + 1 : Nat) : Int) by rw [Int.natCast_add]; rfl)) (by omega)) (by rw [List.length_append, List.length_take, List.length_drop]; show _ + 1 + _ ≤ 100000; omega)) (ea_cons (ed_ix (ed_var hs7) ed_int rfl) ea_nil)) (show (2 : Nat) ≤ 100000 by decide)) (show 3 + 2 ≤ 100000 by decide)) ?_)) (by omega) fun v' k' H8 hk' e8 h81 h82 => ?_
      · show NestedKey.tup [.text (kdT M.kd), .num M.sz, .num M.bg, .tup _, .tup (M.hds.map Hn.dt)] = NestedKey.tup [.text (kdT M.kd), .num M.sz, .num M.bg, .tup ((M.bxs.set i b.up).map Bx.dt), .tup (M.hds.map Hn.dt)]
        rw [List.map_set, List.set_eq_take_append_cons_drop, if_pos (by omega), List.append_assoc]
        rfl
      · subst hk'
        refine ⟨zs ++ [v'], ks ++ [_], upd_same, h82, by rw [List.length_append, hl]; rfl, fun k hk => ?_, same_mut ((e2'.trans s6).trans e8) hpf0, t5.trans ((tx_of (s6.trans e8)).trans (Tx.lst (e8 _ _ (s6 _ _ hz)))), (((hs7.up e8).tx (Tx.lst (e8 _ _ (s6 _ _ hz)))).forget 4).forget 5⟩
        rcases List.mem_append.mp hk with h | h
        · exact hst k h
        · rw [List.mem_singleton.mp h]
          exact ⟨_, hsg, hgd, rfl⟩
    · rintro σ' H' ⟨zs, ks, h1, h2, h3, h4, h5, _, h7⟩
      rw [List.length_map] at h3
      exact hN _ _ ⟨zs, ks, h1, h2, by omega, h4, h5, h7⟩
  -- all
  refine s_seqJ (fun σ' H' => ∃ (zs : List V) (ks : List Dt), H' pf = some (.lst zs) ∧ NdAll H' zs ks ∧ ks.length ≤ 3 ∧ (∀ k ∈ ks, Str2 M k) ∧ Same H2 H' ∧ Slots H' σ' SS) (fun N hN => ?_) fun σ5 H5 ⟨zs, ks, hz, hzn, hkl, hst, e25, hs5⟩ => ?_
  · refine s_if (et_test (eb_gt (ed_len (ks := M.bxs.map Bx.dt) (ed_var hs4)) ed_int)) (fun c H5 e5 => ?_) (fun c H5 e5 => ?_)
    · have hs5 := hs4.up e5
      have hpu5 := (e24.trans e5) _ _ (e2 _ _ hpu)
      obtain ⟨hsg, hgd⟩ := stg_all hM
      refine s_app (T := "") (e5 _ _ hz) (hzn.up e5) (ev_var hs5) (Ed.ev (Ed.is (k' := ({ M with bxs := M.bxs.map Bx.up } : Mk).dt) (ed_cat (ks := [.text (kdT M.kd), .num M.sz, .num M.bg]) (js := [.tup (M.bxs.map fun b => b.up.dt), .tup (M.hds.map Hn.dt)]) (mk3 hs5)
        (ed_tup [.tup (M.bxs.map fun b => b.up.dt), .tup (M.hds.map Hn.dt)] (ea_cons (Ev.ed (Ev.imp (ev_tupOf (el_lcM (vs := [5]) Bx.dt M.bxs hs5 (fun _ => true) (fun b => b.up.dt) (ed_var hs5) (by omega) (fun b => [.d M.dt, .v (.ref pu), .d (.tup (M.bxs.map Bx.dt)), .v (.ref pf), .u, .d b.dt, .u, .u]) (fun b _ => tg_name (K := K) (by simp)) (fun b _ σ6 H6 e6 hs6 => eb_yes)
          (fun b hb _ σ6 H6 e6 hs6 => ed_up (ed_var hs6) (ev_var hs6) (e6 _ _ hpu5) (O.bx b hb).kd))) (fun k ⟨ks', h1, h2⟩ => by rw [h2, h1, outM_all]))) (ea_cons (ed_ix (ed_var hs5) ed_int rfl) ea_nil)) (show (2 : Nat) ≤ 100000 by decide)) (show 3 + 2 ≤ 100000 by decide)) ?_)) (by omega) fun v' k' H8 hk' e8 h81 h82 => ?_
      · show NestedKey.tup [.text (kdT M.kd), .num M.sz, .num M.bg, .tup _, .tup (M.hds.map Hn.dt)] = NestedKey.tup [.text (kdT M.kd), .num M.sz, .num M.bg, .tup ((M.bxs.map Bx.up).map Bx.dt), .tup (M.hds.map Hn.dt)]
        rw [List.map_map]
        rfl
      · subst hk'
        refine hN _ _ ⟨zs ++ [v'], ks ++ [_], upd_same, h82, by rw [List.length_append]; show ks.length + 1 ≤ 3; omega, fun k hk => ?_, same_mut ((e24.trans e5).trans e8) hpf0, (hs5.up e8).tx (Tx.lst (e8 _ _ (e5 _ _ hz)))⟩
        rcases List.mem_append.mp hk with h | h
        · exact hst k h
        · rw [List.mem_singleton.mp h]
          exact ⟨_, hsg, hgd, rfl⟩
    · exact hN _ _ ⟨zs, ks, e5 _ _ hz, hzn.up e5, by omega, hst, e24.trans e5, hs4.up e5⟩
  -- down
  refine s_disp3 fun pd hpd0 => ?_
  have e6 : Same H5 (upd H5 pd (.dK (mergeK [] downL))) := same_new hpd0
  have hpd : (upd H5 pd (.dK (mergeK [] downL))) pd = some (.dK (mergeK [] downL)) := upd_same
  have hs6 : Slots (upd H5 pd (.dK (mergeK [] downL))) _ [.d M.dt, .v (.ref pu), .d (.tup (M.bxs.map Bx.dt)), .v (.ref pf), .u, .u, .v (.ref pd), .u] := (hs5.up e6).set (s := .v (.ref pd)) rfl 6
  refine nx_of (X := tSeq _ _ _) ?_
  show tSeq _ _ _ _ (upd H5 pd (.dK (mergeK [] downL)))
  generalize upd H5 pd (.dK (mergeK [] downL)) = G6 at *
  obtain ⟨hsg, hgd⟩ := stg_down hM
  refine s_app (T := "") (e6 _ _ hz) (hzn.up e6) (ev_var hs6) (Ed.ev (Ed.is (k' := ({ M with kd := kdDown M.kd } : Mk).dt) (ed_cat (ks := [.text (kdT (kdDown M.kd))]) (js := [.num M.sz, .num M.bg, .tup (M.bxs.map Bx.dt), .tup (M.hds.map Hn.dt)]) (ed_tup [.text (kdT (kdDown M.kd))] (ea_cons ((ed_dgetS (ev_var hs6) (ed_ix (k := .text (kdT M.kd)) (ed_var hs6) ed_int rfl) hpd (down_at O.kd)).vd (.str _)) ea_nil) (show (1 : Nat) ≤ 100000 by decide))
    (sl_from (i := 1) (ks := [.text (kdT M.kd), .num M.sz, .num M.bg, .tup (M.bxs.map Bx.dt), .tup (M.hds.map Hn.dt)]) (ed_var hs6) ed_int (show (1 : Nat) ≤ 5 by decide)) (show 1 + 4 ≤ 100000 by decide)) rfl)) (by omega) fun v' k' H8 hk' e8 h81 h82 => ?_
  subst hk'
  have e28 : Same H2 (upd H8 pf (.lst (zs ++ [v']))) := same_mut ((e25.trans e6).trans e8) hpf0
  have hs8 := (hs6.up e8).tx (Tx.lst (o := .lst (zs ++ [v'])) (e8 _ _ (e6 _ _ hz)))
  have hG : (upd H8 pf (.lst (zs ++ [v']))) pf = some (.lst (zs ++ [v'])) := upd_same
  refine nx_of (X := tRet _ _) ?_
  generalize upd H8 pf (.lst (zs ++ [v'])) = G8 at *
  have hall : ∀ k ∈ ks ++ [({ M with kd := kdDown M.kd } : Mk).dt], Str2 M k := fun k hk => by
    rcases List.mem_append.mp hk with h | h
    · exact hst k h
    · rw [List.mem_singleton.mp h]
      exact ⟨_, hsg, hgd, rfl⟩
  have hlen : (ks ++ [({ M with kd := kdDown M.kd } : Mk).dt]).length ≤ 4 := by rw [List.length_append]; show ks.length + 1 ≤ 4; omega
  generalize hks : ks ++ [({ M with kd := kdDown M.kd } : Mk).dt] = ks2 at *
  have hid : ks2.map (fun k : Dt => k) = ks2 := by simp
  refine s_retL (el_lcL (α := Dt) (vs := [7]) (fun k => k) ks2 hs8 (fun k => !decide (k = M.dt)) (fun k => k) (ev_var hs8) hG (by rw [hid]; exact h82) (by omega) (fun k => [.d M.dt, .v (.ref pu), .d (.tup (M.bxs.map Bx.dt)), .v (.ref pf), .u, .u, .v (.ref pd), .d k]) (fun k _ => tg_name (K := K) (by simp)) (fun k hk σ9 H9 e9 hs9 => ?_) (fun k hk _ σ9 H9 e9 hs9 => ed_var hs9)) fun p xs H9 ks9 hp9 e9 h91 h92 hk9 => ?_
  · obtain ⟨M', _, hG', rfl⟩ := hall k hk
    exact et_test (eb_neD (ed_var hs9) (ed_var hs9) hG'.t hM.t (Nat.le_trans hG'.dp (by decide)) (Nat.le_trans hM.dp (by decide)))
  · have e09 := (e1.trans e2).trans (e28.trans e9)
    refine q p xs ks9 H9 (same_back ((e1.trans e2).trans e28) hp9) e09 h91 h92 (fun k hk => ?_) ?_
    · rw [hk9] at hk
      obtain ⟨k2, h1, rfl⟩ := List.mem_map.mp hk
      exact hall _ (List.mem_filter.mp h1).1
    · rw [hk9]
      exact Nat.le_trans (outM_len _ _ _) (by omega)
end
end SB

set_option maxRecDepth 100000
set_option maxHeartbeats 8000000
/-! The law. -/
namespace SB
open PySem L2 PyProof.Rows
theorem mem_cutD {ks : List Dt} {lo hi : Option Int} {k : Dt} (h : k ∈ cutD ks lo hi) : k ∈ ks := List.mem_of_mem_drop (List.mem_of_mem_take h)
section
variable {P : Program} {w : World} {K : PySem.W.Frag} {mg : Str → Option Value} {base : Heap}
variable {σ : L2.St} {H : Hp} {te ta tb : TE} {D : Ends} {tu tw : TS} {E : XK} {M : Mk}
theorem ev_making {p : Addr} (ha : Ed ta σ H (.v (.ref p))) (hp : H p = some (Wl p)) : Ev (tCall spMaking [] E (tCons ta tNil)) σ H (fun k => ∃ M, Good M ∧ k = M.dt) := fun H1 e Q q =>
  ha H1 e _ fun v H2 e2 h2 => by
    cases h2
    exact ⟨p, rfl, (e.trans e2) _ _ hp, fun v H3 M e3 h3 hM => q v H3 _ (e2.trans e3) h3 ⟨M, hM, rfl⟩⟩
theorem el_stronger (hM : Good M) (ha : Ed ta σ H (.d M.dt)) : El (tCall spStronger [] E (tCons ta tNil)) σ H (fun ks => (∀ k ∈ ks, Str2 M k) ∧ ks.length ≤ 10) := fun H1 e Q q =>
  ha H1 e _ fun v H2 e2 h2 => ⟨M, v, hM, rfl, h2, fun p xs ks H3 hp e3 h3 h4 h5 h6 => q p xs H3 ks (same_back e2 hp) (e2.trans e3) h3 h4 ⟨h5, h6⟩⟩
theorem s_ifNe (h : Ev te σ H (fun k => ∃ x, WordR M x ∧ k = .text x)) (h1 : ∀ H1, Same H H1 → tu D σ H1) (h2 : ∀ H1 met, Same H H1 → Paper M met → tw D σ H1) : tIfS (tTest (tOp (rNeX K) te (tC (.str "paper")))) tu tw D σ H :=
  h H (.refl H) _ fun v H1 k e hv ⟨x, hx, hk⟩ => by
    subst hk
    cases hv
    refine .inl ⟨rfl, _, rfl, ?_⟩
    show if (!decide (V.str x = V.str "paper")) = true then tu D σ H1 else tw D σ H1
    by_cases c : x = "paper"
    · subst c
      rw [decide_eq_true rfl, if_neg (by decide)]
      rcases hx with ⟨_, met, hp⟩ | ⟨hx, _⟩ | hx
      · exact h2 H1 met e hp
      · exact absurd hx (by decide +kernel)
      · exact absurd hx (by decide +kernel)
    · rw [decide_eq_false (fun z => c (by injection z)), if_pos (by decide)]
      exact h1 H1 e
theorem s_ifEqB (h : Ev te σ H (fun k => ∃ x, WordR M x ∧ k = .text x)) (hb : ¬ Breaks M) (h2 : ∀ H1, Same H H1 → tw D σ H1) : tIfS (tTest (tOp (rEqX K) te (tC (.str "break")))) tu tw D σ H :=
  h H (.refl H) _ fun v H1 k e hv ⟨x, hx, hk⟩ => by
    subst hk
    cases hv
    refine .inl ⟨rfl, _, rfl, ?_⟩
    show if decide (V.str x = V.str "break") = true then tu D σ H1 else tw D σ H1
    have c : x ≠ "break" := fun z => by
      subst z
      rcases hx with ⟨hx, _⟩ | ⟨_, hx⟩ | hx
      · exact absurd hx (by decide +kernel)
      · exact hb hx
      · exact absurd hx (by decide +kernel)
    rw [decide_eq_false (fun z => c (by injection z)), if_neg (by decide)]
    exact h2 H1 e
theorem el_catVV {p : Addr} {xs : List V} {ks : List Dt} (ha : Ed ta σ H (.v (.ref p))) (hb : Ed tb σ H (.v (.ref p))) (hp : H p = some (.lst xs)) (hn : NdAll H xs ks) (hz : ks.length ≤ 50000) : El (tOp (rAddX K) ta tb) σ H (· = ks ++ ks) := fun H1 e Q q =>
  ha H1 e _ fun v H2 e2 h2 => hb H2 (e.trans e2) _ fun v' H3 e3 h3 => by
    cases h2; cases h3
    have e' := (e.trans e2).trans e3
    have h4 := hn.up e'
    exact .inr ⟨p, p, xs, xs, rfl, rfl, e' _ _ hp, e' _ _ hp, size_ok (by rw [hn.len]; omega), fun r hr => q r _ _ _ (same_back (e2.trans e3) hr) ((e2.trans e3).trans (same_new hr)) upd_same ((h4.app h4).up (same_new hr)) rfl⟩
theorem el_tailN {RL : List Dt → Prop} {Ri : Int → Prop} (ha : El ta σ H RL) (hb : Ev tb σ H (Nm Ri)) : El (tSl (rSlX K) ta (tPart tb) tNoPart) σ H (fun ks => ∃ js i, RL js ∧ Ri i ∧ ks = cutD js (some i) none) := fun H1 e Q q =>
  ha H1 e _ fun p xs H2 js hp e2 h1 h2 hj => hb H2 (e.trans e2) _ fun v H4 k e4 h4 ⟨i, hi, hk⟩ => by
    subst hk
    cases h4
    refine ⟨i, rfl, eo_none H4 (.refl _) _ fun H5 e5 => ?_⟩
    have e6 := e4.trans e5
    exact .inr ⟨p, xs, rfl, SqL.of (e6 _ _ h1), fun r hr => q r _ _ _ (same_back (e2.trans e6) hr) ((e2.trans e6).trans (same_new hr)) upd_same ((cutV_nd (h2.up e6) (some i) none).up (same_new hr)) ⟨js, i, hj, hi, rfl⟩⟩
theorem c_well2 {a : Addr} {ns : List Int} {E' : XK} {Q : VK} (ha : Ed ta σ H (.v (.ref a))) (hsq : SqL K H a (ns.map V.int)) (q : ∀ p H3, H3 p = none → Q (.ref p) (upd H3 p (Wl p))) : tCall spWell [] E (tCons (tCall (spCell K) [] E' (tCons ta (tCons (tC (.int 0)) tNil))) tNil) σ H Q :=
  ha H (.refl H) _ fun v H1 e1 h1 => by
    cases h1
    have up : SqL K H1 a (ns.map V.int) := by
      rcases hsq with h | h
      · rcases h with h | ⟨o, h⟩
        · exact .inl (.inl (e1 _ _ h))
        · exact .inl (.inr ⟨o, e1 _ _ h⟩)
      · exact .inr h
    exact ⟨a, ns, rfl, up, fun i H2 => ⟨i, rfl, fun p H3 hp => q p H3 hp⟩⟩
def spLaw (K : PySem.W.Frag) : Sp := fun vs H Q _ => ∃ (a : Addr) (ns : List Int), vs = [.ref a] ∧ SqL K H a (ns.map V.int) ∧ ns.length ≤ 63 ∧ ∀ H', Q (.bl true) H'
theorem ok_law (T : Txt K mg) (U : Tm K mg) : FnOk P w K mg base CX0 16 T.law.a T.law.d ["_law_script"] (spLaw K) := by
  refine fun_okC T.law.F sc_law (fun vs H Q E h => ?_) (fun cdv A outer s H vs Q E hcd hr h => ?_)
  · obtain ⟨_, _, e, _⟩ := h
    rw [e]; rfl
  obtain ⟨a, ns, rfl, hsq, _, q⟩ := h
  have hs : Slots H (L2.start ["_law_script", "_law_well_here", "_law_making", "_law_some", "_law_at", "_law_other"] [.ref a]) [.v (.ref a), .u, .u, .u, .u, .u] := slots_start ["_law_script", "_law_well_here", "_law_making", "_law_some", "_law_at", "_law_other"] (.cons (s := .v (.ref a)) (show V.ref _ = V.ref _ from rfl) .nil)
  refine ⟨_, (pss_cons (ps_set (i := 1) sc_law.nd rfl (Or.inl rfl) (pe_call (ok_law_well T) (hr.mono (by decide)) (by rfl) T.law_well.m T.law_well.F.kp T.law_well.b .nil pass0 (pa_cons (pe_call (ok_law_cell_at T) (hr.mono (by decide)) (by rfl) T.law_cell_at.m T.law_cell_at.F.kp T.law_cell_at.b .nil pass0 (pa_cons (pv 0) (pa_cons pe_int pa_nil))) pa_nil)))
      (pss_cons (ps_if (pt_cmpR (op_eqX hr.units) (pe_call (ok_law_draw T) (hr.mono (by decide)) (by rfl) T.law_draw.m T.law_draw.F.kp T.law_draw.b .nil pass0 (pa_cons (pv 1) (pa_cons pe_int pa_nil))) pe_int (nomark _)) (pss_one (ps_set (i := 2) sc_law.nd rfl (Or.inl rfl) (pe_call (ok_law_known T) (hr.mono (by decide)) (by rfl) T.law_known.m T.law_known.F.kp T.law_known.b .nil pass0 (pa_cons (pv 1) pa_nil)))) (pss_one (ps_set (i := 2) sc_law.nd rfl (Or.inl rfl) (pe_call (ok_law_drawn T) (hr.mono (by decide)) (by rfl) T.law_drawn.m T.law_drawn.F.kp T.law_drawn.b .nil pass0 (pa_cons (pv 1) pa_nil)))))
      (pss_cons (ps_if (pt_cmpR (op_neX hr.units) (pe_call (ok_law_word T U) (hr.mono (by decide)) (by rfl) T.law_word.m T.law_word.F.kp T.law_word.b .nil pass0 (pa_cons (pv 2) (pa_cons pe_int pa_nil))) pe_str (nomark _)) (pss_one (ps_ret pe_bl)) pss_nil)
      (pss_cons (ps_set (i := 3) sc_law.nd rfl (Or.inl rfl) (pe_call (ok_law_stronger T) (hr.mono (by decide)) (by rfl) T.law_stronger.m T.law_stronger.F.kp T.law_stronger.b .nil pass0 (pa_cons (pv 2) pa_nil)))
      (pss_cons (ps_set (i := 4) sc_law.nd rfl (Or.inl rfl) (pe_call (ok_law_draw T) (hr.mono (by decide)) (by rfl) T.law_draw.m T.law_draw.F.kp T.law_draw.b .nil pass0 (pa_cons (pv 1) (pa_cons pe_int pa_nil))))
      (pss_cons (ps_for PassesOwn.never rfl (pi_list (pe_slice sl_X (pe_slice sl_X (pe_op op_addX (pv 3) (pv 3)) (po_some (pe_op op_mod (pv 4) (pe_callB (call_max2 rfl) (by rfl) T.b_max (by decide +kernel) (pa_cons pe_int (pa_cons (pe_callB call_len (by rfl) T.b_len PySem.boot_len (pa_cons (pv 3) pa_nil)) pa_nil))))) po_none) po_none (po_some (pe_callB (call_min2 rfl) (by rfl) T.b_min (by decide +kernel) (pa_cons pe_int (pa_cons (pe_callB call_len (by rfl) T.b_len PySem.boot_len (pa_cons (pv 3) pa_nil)) pa_nil)))))) (pg_name (i := 5) sc_law.nd rfl (Or.inl rfl)) (pss_one (ps_if (pt_cmpR (op_eqX hr.units) (pe_call (ok_law_word T U) (hr.mono (by decide)) (by rfl) T.law_word.m T.law_word.F.kp T.law_word.b .nil pass0 (pa_cons (pv 5) (pa_cons pe_int pa_nil))) pe_str (nomark _)) (pss_one (ps_ret pe_bl)) pss_nil)))
      (pss_one (ps_ret pe_bl)))))))), ?_⟩
  refine sq_asg ?_
  refine c_well2 (ev_var hs) hsq fun p H3 hp3 => ?_
  refine gn_of ?_
  have hp : (upd H3 p (Wl p)) p = some (Wl p) := upd_same
  have hs3 : Slots (upd H3 p (Wl p)) ((L2.start ["_law_script", "_law_well_here", "_law_making", "_law_some", "_law_at", "_law_other"] [.ref a]).set 1 (some (.ref p))) [.v (.ref a), .v (.ref p), .u, .u, .u, .u] := (slots_any (H' := upd H3 p (Wl p)) hs rfl).set (s := .v (.ref p)) rfl 1
  generalize upd H3 p (Wl p) = G at *
  -- making
  refine s_seqJ (fun σ' H' => ∃ M, Good M ∧ Same G H' ∧ Slots H' σ' [.v (.ref a), .v (.ref p), .d M.dt, .u, .u, .u]) (fun N hN => ?_) fun σ4 H4 ⟨M, hM, e4, hs4⟩ => ?_
  · refine s_ifX (ebx_op (R1 := fun i => 0 ≤ i ∧ i < 2) (R2' := fun _ => True) (fun i j => decide (V.int i = V.int j)) (ev_draw (b := 2) (ev_var hs3) ed_int hp (by decide) (by decide)) (Ed.nm ed_int trivial) (fun i j H Q q => .inl ⟨rfl, q⟩)) (fun H5 e5 => ?_) (fun H5 e5 => ?_)
    · have hs5 := hs3.up e5
      refine s_set hs5 (ev_making (ev_var hs5) (e5 _ _ hp)) fun k σ6 H6 hk e6 hs6 => ?_
      obtain ⟨M, hM, rfl⟩ := hk
      exact hN _ _ ⟨M, hM, e5.trans e6, hs6⟩
    · have hs5 := hs3.up e5
      refine s_set hs5 (ev_making (ev_var hs5) (e5 _ _ hp)) fun k σ6 H6 hk e6 hs6 => ?_
      obtain ⟨M, hM, rfl⟩ := hk
      exact hN _ _ ⟨M, hM, e5.trans e6, hs6⟩
  · -- the word
    refine s_ifNe (M := M) (ev_word hM (most := 180) (by decide) (ea_cons (ed_var hs4) (ea_cons ev_c ea_nil))) (fun H5 e5 => q H5) (fun H5 met e5 hpap => ?_)
    have hs5 := hs4.up e5
    refine nx_of (X := tSeq _ _ _) ?_
    refine s_setL hs5 (el_stronger hM (ed_var hs5)) fun ps xs ks σ6 H6 hks hps0 e6 hps hns hs6 => ?_
    obtain ⟨hst, hkl⟩ := hks
    refine nx_of (X := tSeq _ _ _) ?_
    refine s_set hs6 (ev_draw (b := 4) (ev_var hs6) ed_int (((e4.trans e5).trans e6) _ _ hp) (by decide) (by decide)) fun k σ7 H7 hk e7 hs7 => ?_
    obtain ⟨i4, hi4, rfl⟩ := hk
    refine nx_of (X := tSeq _ _ _) ?_
    have hps7 := e7 _ _ hps
    have hns7 := hns.up e7
    have hlen := ed_lenL (K := K) (ev_var hs7 : Ed (tVar 3) _ _ (.v (.ref ps))) hps7
    refine s_seqJ (fun _ _ => True) (fun N hN => ?_) fun σ8 H8 _ => q H8
    refine s_forN (R := fun ks' => ∀ k ∈ ks', Str2 M k) (El.imp (el_headN (el_tailN (el_catVV (ev_var hs7) (ev_var hs7) hps7 hns7 (by omega)) (en_op (R := fun _ => True) (R1 := fun _ => True) (R2' := fun j => 0 < j) (fun i j => i % j) (Ed.nm (ed_var hs7) trivial) (Ed.nm (ed_max2 ed_int hlen) (by split <;> omega)) (fun i j H Q _ hj q => ⟨i, j, rfl, rfl, hj, q⟩) (fun _ _ _ _ => trivial)))
      (Ed.nm (R := fun _ => True) (ed_min2 ed_int hlen) trivial)) fun ks' ⟨js, i, ⟨js2, i2, h1, _, h2⟩, _, h3⟩ k hk => ?_) fun pl xl kl H8 hkl2 hpl0 e8 hpl hnl => ?_
    · subst h1 h3
      have := mem_cutD hk
      rw [h2] at this
      rcases List.mem_append.mp (mem_cutD this) with h | h
      · exact hst k h
      · exact hst k h
    · refine ⟨fun i σ' H' => Same H8 H' ∧ ∃ ss, Slots H' σ' (.v (.ref a) :: .v (.ref p) :: .u :: .v (.ref ps) :: .u :: [ss]), ⟨.refl _, .u, ((hs7.up e8).forget 2).forget 4⟩, fun i σ' H' ⟨h, _⟩ => ⟨tx_of h, h _ _ hpl⟩, ?_, fun σ' H' _ => hN _ _ trivial⟩
      rintro i k v σ' H' hk ⟨e9, ss, hs9⟩ hv
      refine gn_of ?_
      obtain ⟨M', hsg, hgd, rfl⟩ := hkl2 k (List.mem_of_getElem? hk)
      have hs10 : Slots H' (σ'.set 5 (some v)) [.v (.ref a), .v (.ref p), .u, .v (.ref ps), .u, .d M'.dt] := hs9.set (s := .d M'.dt) hv 5
      refine s_ifEqB (M := M') (ev_word hgd (most := 220) (by decide) (ea_cons (ed_var hs10) (ea_cons ev_c ea_nil))) (paper_no_break hsg hM.ok hgd.ok hpap) fun H11 e11 => ?_
      exact ⟨e9.trans e11, _, hs10.up e11⟩
end
end SB
set_option maxRecDepth 100000
set_option maxHeartbeats 8000000
/-! All that the top has written, put together; the walk. -/
namespace SB
open PySem L2 PyProof.Rows
section
variable {P : Program} {w : World} {K : PySem.W.Frag} {mg : Str → Option Value} {h : Heap}
def df_of (X : K.In h) (G : h.Ns mainGlobals mg) {x : Str} {st : Stmt} {ps : List Str} {f : Addr} {oc : Value} {od an : Option Addr} {osl : Array (Option Value)} {kV doc pm cdv ct : Value} (a : PySem.W.nsIn K mainGlobals x = some (some (.ref f)))
    (l : K.lookup f = some ⟨oc, od, .func (PySem.W.fnOf x x (defArgs st) (defBody st) (defScope st) .none kV doc pm an cdv ct), osl⟩) (c : PySem.W.codeIn K cdv x = true) (k : PySem.W.keepIn K (.ref f) = true)
    (b : ∀ (kV doc pm : Value) (an : Option Addr) (cdv ct : Value) (us : List Value), us.length = ps.length → bindArgs (PySem.W.fnOf x x (defArgs st) (defBody st) (defScope st) .none kV doc pm an cdv ct) ⟨us, []⟩ = pure (ps.zip us)) : Df K mg x st ps :=
  ⟨f, _, PySem.W.mg_of X G a, fun_mk (st := st) l c k, (fun_mk (st := st) l c k).binds b⟩
def md_of {C : Addr} {x qual : Str} {st : Stmt} {ps : List Str} {f : Addr} {oc : Value} {od an : Option Addr} {osl : Array (Option Value)} {kV doc pm cdv ct : Value} (a : PySem.W.findIn K (.ref C) x = some (some (.ref f))) (i : PySem.W.isFn K (.ref f) = true)
    (l : K.lookup f = some ⟨oc, od, .func (PySem.W.fnOf x qual (defArgs st) (defBody st) (defScope st) .none kV doc pm an cdv ct), osl⟩) (c : PySem.W.codeIn K cdv qual = true) (k : PySem.W.keepIn K (.ref f) = true)
    (b : ∀ (kV doc pm : Value) (an : Option Addr) (cdv ct : Value) (us : List Value), us.length = ps.length → bindArgs (PySem.W.fnOf x qual (defArgs st) (defBody st) (defScope st) .none kV doc pm an cdv ct) ⟨us, []⟩ = pure (ps.zip us)) : Md K C x qual st ps :=
  ⟨f, _, ⟨a, i, k⟩, fun_mk (st := st) l c k, (fun_mk (st := st) l c k).binds b⟩
theorem exm_self {S : Addr} (h1 : PySem.W.subIn K (.ref S) (.type "BaseException") = some true) (h2 : PySem.W.isClsIn K S = true) (h3 : PySem.W.typeIn K (.ref S) = some (.type "type")) (h4 : PySem.W.subIn K (.ref S) (.ref S) = some true) : PySem.W.exmOne K (.ref S) (.ref S) = some true := by
  have e1 : (PySem.W.subIn K (.ref S) (.type "BaseException") == some true) = true := by rw [h1]; rfl
  have e2 : (PySem.W.clsIn K S).isSome = true := h2
  have e3 : ((PySem.W.clsIn K S).isSome && PySem.W.typeIn K (.ref S) == some (.type "type")) = true := by rw [e2, h3]; rfl
  unfold PySem.W.exmOne
  rw [if_pos e1]
  show (if ((PySem.W.clsIn K S).isSome && PySem.W.typeIn K (.ref S) == some (.type "type")) = true then PySem.W.subIn K (.ref S) (.ref S) else none) = some true
  rw [if_pos e3]
  exact h4
end
theorem all_mk {P : Program} {w : World} {K : PySem.W.Frag} {h : Heap} {mg : Str → Option Value} {fa : Addr} (X : K.In h) (G : h.Ns mainGlobals mg) (hfa : mg "law" = some (.ref fa))
    {f1 : Addr} {oc1 : Value} {od1 an1 : Option Addr} {sl1 : Array (Option Value)} {kV1 dc1 pm1 cd1 ct1 : Value}
    {f2 : Addr} {oc2 : Value} {od2 an2 : Option Addr} {sl2 : Array (Option Value)} {kV2 dc2 pm2 cd2 ct2 : Value}
    {f3 : Addr} {oc3 : Value} {od3 an3 : Option Addr} {sl3 : Array (Option Value)} {kV3 dc3 pm3 cd3 ct3 : Value}
    {f4 : Addr} {oc4 : Value} {od4 an4 : Option Addr} {sl4 : Array (Option Value)} {kV4 dc4 pm4 cd4 ct4 : Value}
    {f5 : Addr} {oc5 : Value} {od5 an5 : Option Addr} {sl5 : Array (Option Value)} {kV5 dc5 pm5 cd5 ct5 : Value}
    {f6 : Addr} {oc6 : Value} {od6 an6 : Option Addr} {sl6 : Array (Option Value)} {kV6 dc6 pm6 cd6 ct6 : Value}
    {f7 : Addr} {oc7 : Value} {od7 an7 : Option Addr} {sl7 : Array (Option Value)} {kV7 dc7 pm7 cd7 ct7 : Value}
    {f8 : Addr} {oc8 : Value} {od8 an8 : Option Addr} {sl8 : Array (Option Value)} {kV8 dc8 pm8 cd8 ct8 : Value}
    {f9 : Addr} {oc9 : Value} {od9 an9 : Option Addr} {sl9 : Array (Option Value)} {kV9 dc9 pm9 cd9 ct9 : Value}
    {f10 : Addr} {oc10 : Value} {od10 an10 : Option Addr} {sl10 : Array (Option Value)} {kV10 dc10 pm10 cd10 ct10 : Value}
    {f11 : Addr} {oc11 : Value} {od11 an11 : Option Addr} {sl11 : Array (Option Value)} {kV11 dc11 pm11 cd11 ct11 : Value}
    {f12 : Addr} {oc12 : Value} {od12 an12 : Option Addr} {sl12 : Array (Option Value)} {kV12 dc12 pm12 cd12 ct12 : Value}
    {f13 : Addr} {oc13 : Value} {od13 an13 : Option Addr} {sl13 : Array (Option Value)} {kV13 dc13 pm13 cd13 ct13 : Value}
    {f14 : Addr} {oc14 : Value} {od14 an14 : Option Addr} {sl14 : Array (Option Value)} {kV14 dc14 pm14 cd14 ct14 : Value}
    {f15 : Addr} {oc15 : Value} {od15 an15 : Option Addr} {sl15 : Array (Option Value)} {kV15 dc15 pm15 cd15 ct15 : Value}
    {f16 : Addr} {oc16 : Value} {od16 an16 : Option Addr} {sl16 : Array (Option Value)} {kV16 dc16 pm16 cd16 ct16 : Value}
    {f17 : Addr} {oc17 : Value} {od17 an17 : Option Addr} {sl17 : Array (Option Value)} {kV17 dc17 pm17 cd17 ct17 : Value}
    {f18 : Addr} {oc18 : Value} {od18 an18 : Option Addr} {sl18 : Array (Option Value)} {kV18 dc18 pm18 cd18 ct18 : Value}
    {f19 : Addr} {oc19 : Value} {od19 an19 : Option Addr} {sl19 : Array (Option Value)} {kV19 dc19 pm19 cd19 ct19 : Value}
    {f20 : Addr} {oc20 : Value} {od20 an20 : Option Addr} {sl20 : Array (Option Value)} {kV20 dc20 pm20 cd20 ct20 : Value}
    {f21 : Addr} {oc21 : Value} {od21 an21 : Option Addr} {sl21 : Array (Option Value)} {kV21 dc21 pm21 cd21 ct21 : Value}
    {f22 : Addr} {oc22 : Value} {od22 an22 : Option Addr} {sl22 : Array (Option Value)} {kV22 dc22 pm22 cd22 ct22 : Value}
    {f23 : Addr} {oc23 : Value} {od23 an23 : Option Addr} {sl23 : Array (Option Value)} {kV23 dc23 pm23 cd23 ct23 : Value}
    {f24 : Addr} {oc24 : Value} {od24 an24 : Option Addr} {sl24 : Array (Option Value)} {kV24 dc24 pm24 cd24 ct24 : Value}
    {f25 : Addr} {oc25 : Value} {od25 an25 : Option Addr} {sl25 : Array (Option Value)} {kV25 dc25 pm25 cd25 ct25 : Value}
    {f26 : Addr} {oc26 : Value} {od26 an26 : Option Addr} {sl26 : Array (Option Value)} {kV26 dc26 pm26 cd26 ct26 : Value}
    {f27 : Addr} {oc27 : Value} {od27 an27 : Option Addr} {sl27 : Array (Option Value)} {kV27 dc27 pm27 cd27 ct27 : Value}
    {f28 : Addr} {oc28 : Value} {od28 an28 : Option Addr} {sl28 : Array (Option Value)} {kV28 dc28 pm28 cd28 ct28 : Value}
    {f29 : Addr} {oc29 : Value} {od29 an29 : Option Addr} {sl29 : Array (Option Value)} {kV29 dc29 pm29 cd29 ct29 : Value}
    {f30 : Addr} {oc30 : Value} {od30 an30 : Option Addr} {sl30 : Array (Option Value)} {kV30 dc30 pm30 cd30 ct30 : Value}
    {f31 : Addr} {oc31 : Value} {od31 an31 : Option Addr} {sl31 : Array (Option Value)} {kV31 dc31 pm31 cd31 ct31 : Value}
    {f32 : Addr} {oc32 : Value} {od32 an32 : Option Addr} {sl32 : Array (Option Value)} {kV32 dc32 pm32 cd32 ct32 : Value}
    {f33 : Addr} {oc33 : Value} {od33 an33 : Option Addr} {sl33 : Array (Option Value)} {kV33 dc33 pm33 cd33 ct33 : Value}
    {CWork : Addr}
    {CSearch : Addr}
    {f34 : Addr} {oc34 : Value} {od34 an34 : Option Addr} {sl34 : Array (Option Value)} {kV34 dc34 pm34 cd34 ct34 : Value}
    {f35 : Addr} {oc35 : Value} {od35 an35 : Option Addr} {sl35 : Array (Option Value)} {kV35 dc35 pm35 cd35 ct35 : Value}
    {f36 : Addr} {oc36 : Value} {od36 an36 : Option Addr} {sl36 : Array (Option Value)} {kV36 dc36 pm36 cd36 ct36 : Value}
    {f37 : Addr} {oc37 : Value} {od37 an37 : Option Addr} {sl37 : Array (Option Value)} {kV37 dc37 pm37 cd37 ct37 : Value}
    {f38 : Addr} {oc38 : Value} {od38 an38 : Option Addr} {sl38 : Array (Option Value)} {kV38 dc38 pm38 cd38 ct38 : Value}
    {f39 : Addr} {oc39 : Value} {od39 an39 : Option Addr} {sl39 : Array (Option Value)} {kV39 dc39 pm39 cd39 ct39 : Value}
    {f40 : Addr} {oc40 : Value} {od40 an40 : Option Addr} {sl40 : Array (Option Value)} {kV40 dc40 pm40 cd40 ct40 : Value}
    {f41 : Addr} {oc41 : Value} {od41 an41 : Option Addr} {sl41 : Array (Option Value)} {kV41 dc41 pm41 cd41 ct41 : Value}
    {f42 : Addr} {oc42 : Value} {od42 an42 : Option Addr} {sl42 : Array (Option Value)} {kV42 dc42 pm42 cd42 ct42 : Value}
    {f43 : Addr} {oc43 : Value} {od43 an43 : Option Addr} {sl43 : Array (Option Value)} {kV43 dc43 pm43 cd43 ct43 : Value}
    {f44 : Addr} {oc44 : Value} {od44 an44 : Option Addr} {sl44 : Array (Option Value)} {kV44 dc44 pm44 cd44 ct44 : Value}
    {f45 : Addr} {oc45 : Value} {od45 an45 : Option Addr} {sl45 : Array (Option Value)} {kV45 dc45 pm45 cd45 ct45 : Value}
    {f46 : Addr} {oc46 : Value} {od46 an46 : Option Addr} {sl46 : Array (Option Value)} {kV46 dc46 pm46 cd46 ct46 : Value}
    {f47 : Addr} {oc47 : Value} {od47 an47 : Option Addr} {sl47 : Array (Option Value)} {kV47 dc47 pm47 cd47 ct47 : Value}
    {f48 : Addr} {oc48 : Value} {od48 an48 : Option Addr} {sl48 : Array (Option Value)} {kV48 dc48 pm48 cd48 ct48 : Value}
    {f49 : Addr} {oc49 : Value} {od49 an49 : Option Addr} {sl49 : Array (Option Value)} {kV49 dc49 pm49 cd49 ct49 : Value}
    {f50 : Addr} {oc50 : Value} {od50 an50 : Option Addr} {sl50 : Array (Option Value)} {kV50 dc50 pm50 cd50 ct50 : Value}
    {f51 : Addr} {oc51 : Value} {od51 an51 : Option Addr} {sl51 : Array (Option Value)} {kV51 dc51 pm51 cd51 ct51 : Value}
    {f52 : Addr} {oc52 : Value} {od52 an52 : Option Addr} {sl52 : Array (Option Value)} {kV52 dc52 pm52 cd52 ct52 : Value}
    {f53 : Addr} {oc53 : Value} {od53 an53 : Option Addr} {sl53 : Array (Option Value)} {kV53 dc53 pm53 cd53 ct53 : Value}
    {tI tW : Tok} {CT : Addr}
    (a1 : PySem.W.nsIn K mainGlobals "readers_of" = some (some (.ref f1)))
    (l1 : K.lookup f1 = some ⟨oc1, od1, .func (PySem.W.fnOf "readers_of" "readers_of" (defArgs s_readers_of) (defBody s_readers_of) (defScope s_readers_of) .none kV1 dc1 pm1 an1 cd1 ct1), sl1⟩)
    (c1 : PySem.W.codeIn K cd1 "readers_of" = true)
    (k1 : PySem.W.keepIn K (.ref f1) = true)
    (a2 : PySem.W.nsIn K mainGlobals "with_one" = some (some (.ref f2)))
    (l2 : K.lookup f2 = some ⟨oc2, od2, .func (PySem.W.fnOf "with_one" "with_one" (defArgs s_with_one) (defBody s_with_one) (defScope s_with_one) .none kV2 dc2 pm2 an2 cd2 ct2), sl2⟩)
    (c2 : PySem.W.codeIn K cd2 "with_one" = true)
    (k2 : PySem.W.keepIn K (.ref f2) = true)
    (a3 : PySem.W.nsIn K mainGlobals "moments_of" = some (some (.ref f3)))
    (l3 : K.lookup f3 = some ⟨oc3, od3, .func (PySem.W.fnOf "moments_of" "moments_of" (defArgs s_moments_of) (defBody s_moments_of) (defScope s_moments_of) .none kV3 dc3 pm3 an3 cd3 ct3), sl3⟩)
    (c3 : PySem.W.codeIn K cd3 "moments_of" = true)
    (k3 : PySem.W.keepIn K (.ref f3) = true)
    (a4 : PySem.W.nsIn K mainGlobals "closed" = some (some (.ref f4)))
    (l4 : K.lookup f4 = some ⟨oc4, od4, .func (PySem.W.fnOf "closed" "closed" (defArgs s_closed) (defBody s_closed) (defScope s_closed) .none kV4 dc4 pm4 an4 cd4 ct4), sl4⟩)
    (c4 : PySem.W.codeIn K cd4 "closed" = true)
    (k4 : PySem.W.keepIn K (.ref f4) = true)
    (a5 : PySem.W.nsIn K mainGlobals "with_worths" = some (some (.ref f5)))
    (l5 : K.lookup f5 = some ⟨oc5, od5, .func (PySem.W.fnOf "with_worths" "with_worths" (defArgs s_with_worths) (defBody s_with_worths) (defScope s_with_worths) .none kV5 dc5 pm5 an5 cd5 ct5), sl5⟩)
    (c5 : PySem.W.codeIn K cd5 "with_worths" = true)
    (k5 : PySem.W.keepIn K (.ref f5) = true)
    (a6 : PySem.W.nsIn K mainGlobals "told_beside" = some (some (.ref f6)))
    (l6 : K.lookup f6 = some ⟨oc6, od6, .func (PySem.W.fnOf "told_beside" "told_beside" (defArgs s_told_beside) (defBody s_told_beside) (defScope s_told_beside) .none kV6 dc6 pm6 an6 cd6 ct6), sl6⟩)
    (c6 : PySem.W.codeIn K cd6 "told_beside" = true)
    (k6 : PySem.W.keepIn K (.ref f6) = true)
    (a7 : PySem.W.nsIn K mainGlobals "claim_begun" = some (some (.ref f7)))
    (l7 : K.lookup f7 = some ⟨oc7, od7, .func (PySem.W.fnOf "claim_begun" "claim_begun" (defArgs s_claim_begun) (defBody s_claim_begun) (defScope s_claim_begun) .none kV7 dc7 pm7 an7 cd7 ct7), sl7⟩)
    (c7 : PySem.W.codeIn K cd7 "claim_begun" = true)
    (k7 : PySem.W.keepIn K (.ref f7) = true)
    (a8 : PySem.W.nsIn K mainGlobals "claim_writes" = some (some (.ref f8)))
    (l8 : K.lookup f8 = some ⟨oc8, od8, .func (PySem.W.fnOf "claim_writes" "claim_writes" (defArgs s_claim_writes) (defBody s_claim_writes) (defScope s_claim_writes) .none kV8 dc8 pm8 an8 cd8 ct8), sl8⟩)
    (c8 : PySem.W.codeIn K cd8 "claim_writes" = true)
    (k8 : PySem.W.keepIn K (.ref f8) = true)
    (a9 : PySem.W.nsIn K mainGlobals "claim_written" = some (some (.ref f9)))
    (l9 : K.lookup f9 = some ⟨oc9, od9, .func (PySem.W.fnOf "claim_written" "claim_written" (defArgs s_claim_written) (defBody s_claim_written) (defScope s_claim_written) .none kV9 dc9 pm9 an9 cd9 ct9), sl9⟩)
    (c9 : PySem.W.codeIn K cd9 "claim_written" = true)
    (k9 : PySem.W.keepIn K (.ref f9) = true)
    (a10 : PySem.W.nsIn K mainGlobals "claim_reads" = some (some (.ref f10)))
    (l10 : K.lookup f10 = some ⟨oc10, od10, .func (PySem.W.fnOf "claim_reads" "claim_reads" (defArgs s_claim_reads) (defBody s_claim_reads) (defScope s_claim_reads) .none kV10 dc10 pm10 an10 cd10 ct10), sl10⟩)
    (c10 : PySem.W.codeIn K cd10 "claim_reads" = true)
    (k10 : PySem.W.keepIn K (.ref f10) = true)
    (a11 : PySem.W.nsIn K mainGlobals "claim_told" = some (some (.ref f11)))
    (l11 : K.lookup f11 = some ⟨oc11, od11, .func (PySem.W.fnOf "claim_told" "claim_told" (defArgs s_claim_told) (defBody s_claim_told) (defScope s_claim_told) .none kV11 dc11 pm11 an11 cd11 ct11), sl11⟩)
    (c11 : PySem.W.codeIn K cd11 "claim_told" = true)
    (k11 : PySem.W.keepIn K (.ref f11) = true)
    (a12 : PySem.W.nsIn K mainGlobals "names_in" = some (some (.ref f12)))
    (l12 : K.lookup f12 = some ⟨oc12, od12, .func (PySem.W.fnOf "names_in" "names_in" (defArgs s_names_in) (defBody s_names_in) (defScope s_names_in) .none kV12 dc12 pm12 an12 cd12 ct12), sl12⟩)
    (c12 : PySem.W.codeIn K cd12 "names_in" = true)
    (k12 : PySem.W.keepIn K (.ref f12) = true)
    (a13 : PySem.W.nsIn K mainGlobals "number_of" = some (some (.ref f13)))
    (l13 : K.lookup f13 = some ⟨oc13, od13, .func (PySem.W.fnOf "number_of" "number_of" (defArgs s_number_of) (defBody s_number_of) (defScope s_number_of) .none kV13 dc13 pm13 an13 cd13 ct13), sl13⟩)
    (c13 : PySem.W.codeIn K cd13 "number_of" = true)
    (k13 : PySem.W.keepIn K (.ref f13) = true)
    (a14 : PySem.W.nsIn K mainGlobals "expr_in" = some (some (.ref f14)))
    (l14 : K.lookup f14 = some ⟨oc14, od14, .func (PySem.W.fnOf "expr_in" "expr_in" (defArgs s_expr_in) (defBody s_expr_in) (defScope s_expr_in) .none kV14 dc14 pm14 an14 cd14 ct14), sl14⟩)
    (c14 : PySem.W.codeIn K cd14 "expr_in" = true)
    (k14 : PySem.W.keepIn K (.ref f14) = true)
    (a15 : PySem.W.nsIn K mainGlobals "name_set" = some (some (.ref f15)))
    (l15 : K.lookup f15 = some ⟨oc15, od15, .func (PySem.W.fnOf "name_set" "name_set" (defArgs s_name_set) (defBody s_name_set) (defScope s_name_set) .none kV15 dc15 pm15 an15 cd15 ct15), sl15⟩)
    (c15 : PySem.W.codeIn K cd15 "name_set" = true)
    (k15 : PySem.W.keepIn K (.ref f15) = true)
    (a16 : PySem.W.nsIn K mainGlobals "variables_of" = some (some (.ref f16)))
    (l16 : K.lookup f16 = some ⟨oc16, od16, .func (PySem.W.fnOf "variables_of" "variables_of" (defArgs s_variables_of) (defBody s_variables_of) (defScope s_variables_of) .none kV16 dc16 pm16 an16 cd16 ct16), sl16⟩)
    (c16 : PySem.W.codeIn K cd16 "variables_of" = true)
    (k16 : PySem.W.keepIn K (.ref f16) = true)
    (a17 : PySem.W.nsIn K mainGlobals "box_places" = some (some (.ref f17)))
    (l17 : K.lookup f17 = some ⟨oc17, od17, .func (PySem.W.fnOf "box_places" "box_places" (defArgs s_box_places) (defBody s_box_places) (defScope s_box_places) .none kV17 dc17 pm17 an17 cd17 ct17), sl17⟩)
    (c17 : PySem.W.codeIn K cd17 "box_places" = true)
    (k17 : PySem.W.keepIn K (.ref f17) = true)
    (a18 : PySem.W.nsIn K mainGlobals "box_of_row" = some (some (.ref f18)))
    (l18 : K.lookup f18 = some ⟨oc18, od18, .func (PySem.W.fnOf "box_of_row" "box_of_row" (defArgs s_box_of_row) (defBody s_box_of_row) (defScope s_box_of_row) .none kV18 dc18 pm18 an18 cd18 ct18), sl18⟩)
    (c18 : PySem.W.codeIn K cd18 "box_of_row" = true)
    (k18 : PySem.W.keepIn K (.ref f18) = true)
    (a19 : PySem.W.nsIn K mainGlobals "first_stand" = some (some (.ref f19)))
    (l19 : K.lookup f19 = some ⟨oc19, od19, .func (PySem.W.fnOf "first_stand" "first_stand" (defArgs s_first_stand) (defBody s_first_stand) (defScope s_first_stand) .none kV19 dc19 pm19 an19 cd19 ct19), sl19⟩)
    (c19 : PySem.W.codeIn K cd19 "first_stand" = true)
    (k19 : PySem.W.keepIn K (.ref f19) = true)
    (a20 : PySem.W.nsIn K mainGlobals "picks_of" = some (some (.ref f20)))
    (l20 : K.lookup f20 = some ⟨oc20, od20, .func (PySem.W.fnOf "picks_of" "picks_of" (defArgs s_picks_of) (defBody s_picks_of) (defScope s_picks_of) .none kV20 dc20 pm20 an20 cd20 ct20), sl20⟩)
    (c20 : PySem.W.codeIn K cd20 "picks_of" = true)
    (k20 : PySem.W.keepIn K (.ref f20) = true)
    (a21 : PySem.W.nsIn K mainGlobals "steps_of" = some (some (.ref f21)))
    (l21 : K.lookup f21 = some ⟨oc21, od21, .func (PySem.W.fnOf "steps_of" "steps_of" (defArgs s_steps_of) (defBody s_steps_of) (defScope s_steps_of) .none kV21 dc21 pm21 an21 cd21 ct21), sl21⟩)
    (c21 : PySem.W.codeIn K cd21 "steps_of" = true)
    (k21 : PySem.W.keepIn K (.ref f21) = true)
    (a22 : PySem.W.nsIn K mainGlobals "stepped" = some (some (.ref f22)))
    (l22 : K.lookup f22 = some ⟨oc22, od22, .func (PySem.W.fnOf "stepped" "stepped" (defArgs s_stepped) (defBody s_stepped) (defScope s_stepped) .none kV22 dc22 pm22 an22 cd22 ct22), sl22⟩)
    (c22 : PySem.W.codeIn K cd22 "stepped" = true)
    (k22 : PySem.W.keepIn K (.ref f22) = true)
    (a23 : PySem.W.nsIn K mainGlobals "seek" = some (some (.ref f23)))
    (l23 : K.lookup f23 = some ⟨oc23, od23, .func (PySem.W.fnOf "seek" "seek" (defArgs s_seek) (defBody s_seek) (defScope s_seek) .none kV23 dc23 pm23 an23 cd23 ct23), sl23⟩)
    (c23 : PySem.W.codeIn K cd23 "seek" = true)
    (k23 : PySem.W.keepIn K (.ref f23) = true)
    (a24 : PySem.W.nsIn K mainGlobals "_law_cell_at" = some (some (.ref f24)))
    (l24 : K.lookup f24 = some ⟨oc24, od24, .func (PySem.W.fnOf "_law_cell_at" "_law_cell_at" (defArgs s_law_cell_at) (defBody s_law_cell_at) (defScope s_law_cell_at) .none kV24 dc24 pm24 an24 cd24 ct24), sl24⟩)
    (c24 : PySem.W.codeIn K cd24 "_law_cell_at" = true)
    (k24 : PySem.W.keepIn K (.ref f24) = true)
    (a25 : PySem.W.nsIn K mainGlobals "_law_well" = some (some (.ref f25)))
    (l25 : K.lookup f25 = some ⟨oc25, od25, .func (PySem.W.fnOf "_law_well" "_law_well" (defArgs s_law_well) (defBody s_law_well) (defScope s_law_well) .none kV25 dc25 pm25 an25 cd25 ct25), sl25⟩)
    (c25 : PySem.W.codeIn K cd25 "_law_well" = true)
    (k25 : PySem.W.keepIn K (.ref f25) = true)
    (a26 : PySem.W.nsIn K mainGlobals "_law_draw" = some (some (.ref f26)))
    (l26 : K.lookup f26 = some ⟨oc26, od26, .func (PySem.W.fnOf "_law_draw" "_law_draw" (defArgs s_law_draw) (defBody s_law_draw) (defScope s_law_draw) .none kV26 dc26 pm26 an26 cd26 ct26), sl26⟩)
    (c26 : PySem.W.codeIn K cd26 "_law_draw" = true)
    (k26 : PySem.W.keepIn K (.ref f26) = true)
    (a27 : PySem.W.nsIn K mainGlobals "_law_expr" = some (some (.ref f27)))
    (l27 : K.lookup f27 = some ⟨oc27, od27, .func (PySem.W.fnOf "_law_expr" "_law_expr" (defArgs s_law_expr) (defBody s_law_expr) (defScope s_law_expr) .none kV27 dc27 pm27 an27 cd27 ct27), sl27⟩)
    (c27 : PySem.W.codeIn K cd27 "_law_expr" = true)
    (k27 : PySem.W.keepIn K (.ref f27) = true)
    (a28 : PySem.W.nsIn K mainGlobals "_law_row" = some (some (.ref f28)))
    (l28 : K.lookup f28 = some ⟨oc28, od28, .func (PySem.W.fnOf "_law_row" "_law_row" (defArgs s_law_row) (defBody s_law_row) (defScope s_law_row) .none kV28 dc28 pm28 an28 cd28 ct28), sl28⟩)
    (c28 : PySem.W.codeIn K cd28 "_law_row" = true)
    (k28 : PySem.W.keepIn K (.ref f28) = true)
    (a29 : PySem.W.nsIn K mainGlobals "_law_drawn" = some (some (.ref f29)))
    (l29 : K.lookup f29 = some ⟨oc29, od29, .func (PySem.W.fnOf "_law_drawn" "_law_drawn" (defArgs s_law_drawn) (defBody s_law_drawn) (defScope s_law_drawn) .none kV29 dc29 pm29 an29 cd29 ct29), sl29⟩)
    (c29 : PySem.W.codeIn K cd29 "_law_drawn" = true)
    (k29 : PySem.W.keepIn K (.ref f29) = true)
    (a30 : PySem.W.nsIn K mainGlobals "_law_known" = some (some (.ref f30)))
    (l30 : K.lookup f30 = some ⟨oc30, od30, .func (PySem.W.fnOf "_law_known" "_law_known" (defArgs s_law_known) (defBody s_law_known) (defScope s_law_known) .none kV30 dc30 pm30 an30 cd30 ct30), sl30⟩)
    (c30 : PySem.W.codeIn K cd30 "_law_known" = true)
    (k30 : PySem.W.keepIn K (.ref f30) = true)
    (a31 : PySem.W.nsIn K mainGlobals "_law_word" = some (some (.ref f31)))
    (l31 : K.lookup f31 = some ⟨oc31, od31, .func (PySem.W.fnOf "_law_word" "_law_word" (defArgs s_law_word) (defBody s_law_word) (defScope s_law_word) .none kV31 dc31 pm31 an31 cd31 ct31), sl31⟩)
    (c31 : PySem.W.codeIn K cd31 "_law_word" = true)
    (k31 : PySem.W.keepIn K (.ref f31) = true)
    (a32 : PySem.W.nsIn K mainGlobals "_law_stronger" = some (some (.ref f32)))
    (l32 : K.lookup f32 = some ⟨oc32, od32, .func (PySem.W.fnOf "_law_stronger" "_law_stronger" (defArgs s_law_stronger) (defBody s_law_stronger) (defScope s_law_stronger) .none kV32 dc32 pm32 an32 cd32 ct32), sl32⟩)
    (c32 : PySem.W.codeIn K cd32 "_law_stronger" = true)
    (k32 : PySem.W.keepIn K (.ref f32) = true)
    (a33 : PySem.W.nsIn K mainGlobals "law" = some (some (.ref f33)))
    (l33 : K.lookup f33 = some ⟨oc33, od33, .func (PySem.W.fnOf "law" "law" (defArgs s_law) (defBody s_law) (defScope s_law) .none kV33 dc33 pm33 an33 cd33 ct33), sl33⟩)
    (c33 : PySem.W.codeIn K cd33 "law" = true)
    (k33 : PySem.W.keepIn K (.ref f33) = true)
    (gWork : PySem.W.nsIn K mainGlobals "Work" = some (some (.ref CWork)))
    (pgWork : PySem.W.plainGet K CWork Str.empty = true)
    (hdWork : PySem.W.hasDictIn K CWork = true)
    (poWork : PySem.W.plainOver K CWork = true)
    (saWork : PySem.W.findIn K (.ref CWork) "__setattr__" = some (some (.builtin "object.__setattr__")))
    (mkWork : PySem.W.makesIn K CWork = true)
    (kcWork : PySem.W.keepIn K (.ref CWork) = true)
    (nWorkmaking : PySem.W.findIn K (.ref CWork) "making" = some none)
    (nWorkhands : PySem.W.findIn K (.ref CWork) "hands" = some none)
    (nWorkboxes : PySem.W.findIn K (.ref CWork) "boxes" = some none)
    (nWorkclaim : PySem.W.findIn K (.ref CWork) "claim" = some none)
    (nWorkplaces : PySem.W.findIn K (.ref CWork) "places" = some none)
    (nWorknames : PySem.W.findIn K (.ref CWork) "names" = some none)
    (nWorkevents : PySem.W.findIn K (.ref CWork) "events" = some none)
    (nWorkbroken : PySem.W.findIn K (.ref CWork) "broken" = some none)
    (gSearch : PySem.W.nsIn K mainGlobals "Search" = some (some (.ref CSearch)))
    (pgSearch : PySem.W.plainGet K CSearch Str.empty = true)
    (hdSearch : PySem.W.hasDictIn K CSearch = true)
    (poSearch : PySem.W.plainOver K CSearch = true)
    (saSearch : PySem.W.findIn K (.ref CSearch) "__setattr__" = some (some (.builtin "object.__setattr__")))
    (mkSearch : PySem.W.makesIn K CSearch = true)
    (kcSearch : PySem.W.keepIn K (.ref CSearch) = true)
    (nSearchmaking : PySem.W.findIn K (.ref CSearch) "making" = some none)
    (nSearchmost : PySem.W.findIn K (.ref CSearch) "most" = some none)
    (nSearchknown : PySem.W.findIn K (.ref CSearch) "known" = some none)
    (nSearchmet : PySem.W.findIn K (.ref CSearch) "met" = some none)
    (nSearchcame : PySem.W.findIn K (.ref CSearch) "came" = some none)
    (a34 : PySem.W.findIn K (.ref CWork) "__init__" = some (some (.ref f34)))
    (i34 : PySem.W.isFn K (.ref f34) = true)
    (l34 : K.lookup f34 = some ⟨oc34, od34, .func (PySem.W.fnOf "__init__" "Work.__init__" (defArgs s_Work_init) (defBody s_Work_init) (defScope s_Work_init) .none kV34 dc34 pm34 an34 cd34 ct34), sl34⟩)
    (c34 : PySem.W.codeIn K cd34 "Work.__init__" = true)
    (k34 : PySem.W.keepIn K (.ref f34) = true)
    (a35 : PySem.W.findIn K (.ref CWork) "stand" = some (some (.ref f35)))
    (i35 : PySem.W.isFn K (.ref f35) = true)
    (l35 : K.lookup f35 = some ⟨oc35, od35, .func (PySem.W.fnOf "stand" "Work.stand" (defArgs s_Work_stand) (defBody s_Work_stand) (defScope s_Work_stand) .none kV35 dc35 pm35 an35 cd35 ct35), sl35⟩)
    (c35 : PySem.W.codeIn K cd35 "Work.stand" = true)
    (k35 : PySem.W.keepIn K (.ref f35) = true)
    (a36 : PySem.W.findIn K (.ref CWork) "rows" = some (some (.ref f36)))
    (i36 : PySem.W.isFn K (.ref f36) = true)
    (l36 : K.lookup f36 = some ⟨oc36, od36, .func (PySem.W.fnOf "rows" "Work.rows" (defArgs s_Work_rows) (defBody s_Work_rows) (defScope s_Work_rows) .none kV36 dc36 pm36 an36 cd36 ct36), sl36⟩)
    (c36 : PySem.W.codeIn K cd36 "Work.rows" = true)
    (k36 : PySem.W.keepIn K (.ref f36) = true)
    (a37 : PySem.W.findIn K (.ref CWork) "names_of" = some (some (.ref f37)))
    (i37 : PySem.W.isFn K (.ref f37) = true)
    (l37 : K.lookup f37 = some ⟨oc37, od37, .func (PySem.W.fnOf "names_of" "Work.names_of" (defArgs s_Work_names_of) (defBody s_Work_names_of) (defScope s_Work_names_of) .none kV37 dc37 pm37 an37 cd37 ct37), sl37⟩)
    (c37 : PySem.W.codeIn K cd37 "Work.names_of" = true)
    (k37 : PySem.W.keepIn K (.ref f37) = true)
    (a38 : PySem.W.findIn K (.ref CWork) "break_by" = some (some (.ref f38)))
    (i38 : PySem.W.isFn K (.ref f38) = true)
    (l38 : K.lookup f38 = some ⟨oc38, od38, .func (PySem.W.fnOf "break_by" "Work.break_by" (defArgs s_Work_break_by) (defBody s_Work_break_by) (defScope s_Work_break_by) .none kV38 dc38 pm38 an38 cd38 ct38), sl38⟩)
    (c38 : PySem.W.codeIn K cd38 "Work.break_by" = true)
    (k38 : PySem.W.keepIn K (.ref f38) = true)
    (a39 : PySem.W.findIn K (.ref CWork) "number" = some (some (.ref f39)))
    (i39 : PySem.W.isFn K (.ref f39) = true)
    (l39 : K.lookup f39 = some ⟨oc39, od39, .func (PySem.W.fnOf "number" "Work.number" (defArgs s_Work_number) (defBody s_Work_number) (defScope s_Work_number) .none kV39 dc39 pm39 an39 cd39 ct39), sl39⟩)
    (c39 : PySem.W.codeIn K cd39 "Work.number" = true)
    (k39 : PySem.W.keepIn K (.ref f39) = true)
    (a40 : PySem.W.findIn K (.ref CWork) "set_number" = some (some (.ref f40)))
    (i40 : PySem.W.isFn K (.ref f40) = true)
    (l40 : K.lookup f40 = some ⟨oc40, od40, .func (PySem.W.fnOf "set_number" "Work.set_number" (defArgs s_Work_set_number) (defBody s_Work_set_number) (defScope s_Work_set_number) .none kV40 dc40 pm40 an40 cd40 ct40), sl40⟩)
    (c40 : PySem.W.codeIn K cd40 "Work.set_number" = true)
    (k40 : PySem.W.keepIn K (.ref f40) = true)
    (a41 : PySem.W.findIn K (.ref CWork) "step" = some (some (.ref f41)))
    (i41 : PySem.W.isFn K (.ref f41) = true)
    (l41 : K.lookup f41 = some ⟨oc41, od41, .func (PySem.W.fnOf "step" "Work.step" (defArgs s_Work_step) (defBody s_Work_step) (defScope s_Work_step) .none kV41 dc41 pm41 an41 cd41 ct41), sl41⟩)
    (c41 : PySem.W.codeIn K cd41 "Work.step" = true)
    (k41 : PySem.W.keepIn K (.ref f41) = true)
    (a42 : PySem.W.findIn K (.ref CWork) "begin" = some (some (.ref f42)))
    (i42 : PySem.W.isFn K (.ref f42) = true)
    (l42 : K.lookup f42 = some ⟨oc42, od42, .func (PySem.W.fnOf "begin" "Work.begin" (defArgs s_Work_begin) (defBody s_Work_begin) (defScope s_Work_begin) .none kV42 dc42 pm42 an42 cd42 ct42), sl42⟩)
    (c42 : PySem.W.codeIn K cd42 "Work.begin" = true)
    (k42 : PySem.W.keepIn K (.ref f42) = true)
    (a43 : PySem.W.findIn K (.ref CWork) "put_step" = some (some (.ref f43)))
    (i43 : PySem.W.isFn K (.ref f43) = true)
    (l43 : K.lookup f43 = some ⟨oc43, od43, .func (PySem.W.fnOf "put_step" "Work.put_step" (defArgs s_Work_put_step) (defBody s_Work_put_step) (defScope s_Work_put_step) .none kV43 dc43 pm43 an43 cd43 ct43), sl43⟩)
    (c43 : PySem.W.codeIn K cd43 "Work.put_step" = true)
    (k43 : PySem.W.keepIn K (.ref f43) = true)
    (a44 : PySem.W.findIn K (.ref CWork) "beside" = some (some (.ref f44)))
    (i44 : PySem.W.isFn K (.ref f44) = true)
    (l44 : K.lookup f44 = some ⟨oc44, od44, .func (PySem.W.fnOf "beside" "Work.beside" (defArgs s_Work_beside) (defBody s_Work_beside) (defScope s_Work_beside) .none kV44 dc44 pm44 an44 cd44 ct44), sl44⟩)
    (c44 : PySem.W.codeIn K cd44 "Work.beside" = true)
    (k44 : PySem.W.keepIn K (.ref f44) = true)
    (a45 : PySem.W.findIn K (.ref CWork) "get_step" = some (some (.ref f45)))
    (i45 : PySem.W.isFn K (.ref f45) = true)
    (l45 : K.lookup f45 = some ⟨oc45, od45, .func (PySem.W.fnOf "get_step" "Work.get_step" (defArgs s_Work_get_step) (defBody s_Work_get_step) (defScope s_Work_get_step) .none kV45 dc45 pm45 an45 cd45 ct45), sl45⟩)
    (c45 : PySem.W.codeIn K cd45 "Work.get_step" = true)
    (k45 : PySem.W.keepIn K (.ref f45) = true)
    (a46 : PySem.W.findIn K (.ref CWork) "go_on" = some (some (.ref f46)))
    (i46 : PySem.W.isFn K (.ref f46) = true)
    (l46 : K.lookup f46 = some ⟨oc46, od46, .func (PySem.W.fnOf "go_on" "Work.go_on" (defArgs s_Work_go_on) (defBody s_Work_go_on) (defScope s_Work_go_on) .none kV46 dc46 pm46 an46 cd46 ct46), sl46⟩)
    (c46 : PySem.W.codeIn K cd46 "Work.go_on" = true)
    (k46 : PySem.W.keepIn K (.ref f46) = true)
    (a47 : PySem.W.findIn K (.ref CWork) "led_on" = some (some (.ref f47)))
    (i47 : PySem.W.isFn K (.ref f47) = true)
    (l47 : K.lookup f47 = some ⟨oc47, od47, .func (PySem.W.fnOf "led_on" "Work.led_on" (defArgs s_Work_led_on) (defBody s_Work_led_on) (defScope s_Work_led_on) .none kV47 dc47 pm47 an47 cd47 ct47), sl47⟩)
    (c47 : PySem.W.codeIn K cd47 "Work.led_on" = true)
    (k47 : PySem.W.keepIn K (.ref f47) = true)
    (a48 : PySem.W.findIn K (.ref CWork) "tell" = some (some (.ref f48)))
    (i48 : PySem.W.isFn K (.ref f48) = true)
    (l48 : K.lookup f48 = some ⟨oc48, od48, .func (PySem.W.fnOf "tell" "Work.tell" (defArgs s_Work_tell) (defBody s_Work_tell) (defScope s_Work_tell) .none kV48 dc48 pm48 an48 cd48 ct48), sl48⟩)
    (c48 : PySem.W.codeIn K cd48 "Work.tell" = true)
    (k48 : PySem.W.keepIn K (.ref f48) = true)
    (a49 : PySem.W.findIn K (.ref CWork) "end" = some (some (.ref f49)))
    (i49 : PySem.W.isFn K (.ref f49) = true)
    (l49 : K.lookup f49 = some ⟨oc49, od49, .func (PySem.W.fnOf "end" "Work.end" (defArgs s_Work_end) (defBody s_Work_end) (defScope s_Work_end) .none kV49 dc49 pm49 an49 cd49 ct49), sl49⟩)
    (c49 : PySem.W.codeIn K cd49 "Work.end" = true)
    (k49 : PySem.W.keepIn K (.ref f49) = true)
    (a50 : PySem.W.findIn K (.ref CSearch) "__init__" = some (some (.ref f50)))
    (i50 : PySem.W.isFn K (.ref f50) = true)
    (l50 : K.lookup f50 = some ⟨oc50, od50, .func (PySem.W.fnOf "__init__" "Search.__init__" (defArgs s_Search_init) (defBody s_Search_init) (defScope s_Search_init) .none kV50 dc50 pm50 an50 cd50 ct50), sl50⟩)
    (c50 : PySem.W.codeIn K cd50 "Search.__init__" = true)
    (k50 : PySem.W.keepIn K (.ref f50) = true)
    (a51 : PySem.W.findIn K (.ref CSearch) "meet" = some (some (.ref f51)))
    (i51 : PySem.W.isFn K (.ref f51) = true)
    (l51 : K.lookup f51 = some ⟨oc51, od51, .func (PySem.W.fnOf "meet" "Search.meet" (defArgs s_Search_meet) (defBody s_Search_meet) (defScope s_Search_meet) .none kV51 dc51 pm51 an51 cd51 ct51), sl51⟩)
    (c51 : PySem.W.codeIn K cd51 "Search.meet" = true)
    (k51 : PySem.W.keepIn K (.ref f51) = true)
    (a52 : PySem.W.findIn K (.ref CSearch) "way_to" = some (some (.ref f52)))
    (i52 : PySem.W.isFn K (.ref f52) = true)
    (l52 : K.lookup f52 = some ⟨oc52, od52, .func (PySem.W.fnOf "way_to" "Search.way_to" (defArgs s_Search_way_to) (defBody s_Search_way_to) (defScope s_Search_way_to) .none kV52 dc52 pm52 an52 cd52 ct52), sl52⟩)
    (c52 : PySem.W.codeIn K cd52 "Search.way_to" = true)
    (k52 : PySem.W.keepIn K (.ref f52) = true)
    (a53 : PySem.W.findIn K (.ref CSearch) "go_on_from" = some (some (.ref f53)))
    (i53 : PySem.W.isFn K (.ref f53) = true)
    (l53 : K.lookup f53 = some ⟨oc53, od53, .func (PySem.W.fnOf "go_on_from" "Search.go_on_from" (defArgs s_Search_go_on_from) (defBody s_Search_go_on_from) (defScope s_Search_go_on_from) .none kV53 dc53 pm53 an53 cd53 ct53), sl53⟩)
    (c53 : PySem.W.codeIn K cd53 "Search.go_on_from" = true)
    (k53 : PySem.W.keepIn K (.ref f53) = true)
    (z_len : PySem.W.nsIn K mainGlobals "len" = some none)
    (z_list : PySem.W.nsIn K mainGlobals "list" = some none)
    (z_tuple : PySem.W.nsIn K mainGlobals "tuple" = some none)
    (z_range : PySem.W.nsIn K mainGlobals "range" = some none)
    (z_enumerate : PySem.W.nsIn K mainGlobals "enumerate" = some none)
    (z_sorted : PySem.W.nsIn K mainGlobals "sorted" = some none)
    (z_set : PySem.W.nsIn K mainGlobals "set" = some none)
    (z_dict : PySem.W.nsIn K mainGlobals "dict" = some none)
    (z_zip : PySem.W.nsIn K mainGlobals "zip" = some none)
    (z_int : PySem.W.nsIn K mainGlobals "int" = some none)
    (z_isinstance : PySem.W.nsIn K mainGlobals "isinstance" = some none)
    (z_min : PySem.W.nsIn K mainGlobals "min" = some none)
    (z_max : PySem.W.nsIn K mainGlobals "max" = some none)
    (z_bool : PySem.W.nsIn K mainGlobals "bool" = some none)
    (z_str : PySem.W.nsIn K mainGlobals "str" = some none)
    (zI : PySem.W.nsIn K mainGlobals "IDLE" = some (some (.int (-1) tI)))
    (zW : PySem.W.nsIn K mainGlobals "WRITERS_WORTH" = some (some (.str "v" tW)))
    (gT : PySem.W.nsIn K mainGlobals "TooMany" = some (some (.ref CT)))
    (xT : PySem.W.excIn K CT [.type "ValueError", .type "Exception", .type "BaseException", .type "object"] "ValueError.__new__" = true)
    (kT : PySem.W.keepIn K (.ref CT) = true)
    (bT : PySem.W.subIn K (.ref CT) (.type "BaseException") = some true)
    (tT : PySem.W.typeIn K (.ref CT) = some (.type "type"))
    (iT : PySem.W.isClsIn K CT = true)
    (sT : PySem.W.subIn K (.ref CT) (.ref CT) = some true) :
    ∃ fd : FuncData, (∀ (s : Shared) (v : Value), BindsTo s fd ⟨[v], []⟩ [("_law_script", v)]) ∧ ∀ base : Heap, K.In base → base.Ns mainGlobals mg → FnOk P w K mg base CX0 16 fa fd ["_law_script"] (spLaw K) := by
  have e := hfa.symm.trans (PySem.W.mg_of X G a33)
  cases e
  have clWork : Cls K CWork := ⟨pgWork, hdWork, poWork, saWork⟩
  have clSearch : Cls K CSearch := ⟨pgSearch, hdSearch, poSearch, saSearch⟩
  have T : { T : Txt K mg // T.law.a = fa ∧ T.law.d = PySem.W.fnOf "law" "law" (defArgs s_law) (defBody s_law) (defScope s_law) .none kV33 dc33 pm33 an33 cd33 ct33 } := ⟨
    { readers_of := df_of X G (st := s_readers_of) (ps := ["making"]) a1 l1 c1 k1 (fun _ _ _ _ _ _ us hl => match us, hl with | [_], _ => rfl),
      with_one := df_of X G (st := s_with_one) (ps := ["row", "place", "thing"]) a2 l2 c2 k2 (fun _ _ _ _ _ _ us hl => match us, hl with | [_, _, _], _ => rfl),
      moments_of := df_of X G (st := s_moments_of) (ps := ["case"]) a3 l3 c3 k3 (fun _ _ _ _ _ _ us hl => match us, hl with | [_], _ => rfl),
      closed := df_of X G (st := s_closed) (ps := ["cases"]) a4 l4 c4 k4 (fun _ _ _ _ _ _ us hl => match us, hl with | [_], _ => rfl),
      with_worths := df_of X G (st := s_with_worths) (ps := ["told", "worths"]) a5 l5 c5 k5 (fun _ _ _ _ _ _ us hl => match us, hl with | [_, _], _ => rfl),
      told_beside := df_of X G (st := s_told_beside) (ps := ["making", "worth"]) a6 l6 c6 k6 (fun _ _ _ _ _ _ us hl => match us, hl with | [_, _], _ => rfl),
      claim_begun := df_of X G (st := s_claim_begun) (ps := ["making"]) a7 l7 c7 k7 (fun _ _ _ _ _ _ us hl => match us, hl with | [_], _ => rfl),
      claim_writes := df_of X G (st := s_claim_writes) (ps := ["making", "claim", "worth"]) a8 l8 c8 k8 (fun _ _ _ _ _ _ us hl => match us, hl with | [_, _, _], _ => rfl),
      claim_written := df_of X G (st := s_claim_written) (ps := ["making", "claim"]) a9 l9 c9 k9 (fun _ _ _ _ _ _ us hl => match us, hl with | [_, _], _ => rfl),
      claim_reads := df_of X G (st := s_claim_reads) (ps := ["making", "claim", "reader"]) a10 l10 c10 k10 (fun _ _ _ _ _ _ us hl => match us, hl with | [_, _, _], _ => rfl),
      claim_told := df_of X G (st := s_claim_told) (ps := ["making", "claim", "reader", "worth"]) a11 l11 c11 k11 (fun _ _ _ _ _ _ us hl => match us, hl with | [_, _, _, _], _ => rfl),
      names_in := df_of X G (st := s_names_in) (ps := ["expr"]) a12 l12 c12 k12 (fun _ _ _ _ _ _ us hl => match us, hl with | [_], _ => rfl),
      number_of := df_of X G (st := s_number_of) (ps := ["expression", "numbers"]) a13 l13 c13 k13 (fun _ _ _ _ _ _ us hl => match us, hl with | [_, _], _ => rfl),
      expr_in := df_of X G (st := s_expr_in) (ps := ["row"]) a14 l14 c14 k14 (fun _ _ _ _ _ _ us hl => match us, hl with | [_], _ => rfl),
      name_set := df_of X G (st := s_name_set) (ps := ["row"]) a15 l15 c15 k15 (fun _ _ _ _ _ _ us hl => match us, hl with | [_], _ => rfl),
      variables_of := df_of X G (st := s_variables_of) (ps := ["rows"]) a16 l16 c16 k16 (fun _ _ _ _ _ _ us hl => match us, hl with | [_], _ => rfl),
      box_places := df_of X G (st := s_box_places) (ps := ["making"]) a17 l17 c17 k17 (fun _ _ _ _ _ _ us hl => match us, hl with | [_], _ => rfl),
      box_of_row := df_of X G (st := s_box_of_row) (ps := ["row"]) a18 l18 c18 k18 (fun _ _ _ _ _ _ us hl => match us, hl with | [_], _ => rfl),
      first_stand := df_of X G (st := s_first_stand) (ps := ["making"]) a19 l19 c19 k19 (fun _ _ _ _ _ _ us hl => match us, hl with | [_], _ => rfl),
      picks_of := df_of X G (st := s_picks_of) (ps := ["making", "stand", "k"]) a20 l20 c20 k20 (fun _ _ _ _ _ _ us hl => match us, hl with | [_, _, _], _ => rfl),
      steps_of := df_of X G (st := s_steps_of) (ps := ["making", "stand"]) a21 l21 c21 k21 (fun _ _ _ _ _ _ us hl => match us, hl with | [_, _], _ => rfl),
      stepped := df_of X G (st := s_stepped) (ps := ["making", "stand", "step"]) a22 l22 c22 k22 (fun _ _ _ _ _ _ us hl => match us, hl with | [_, _, _], _ => rfl),
      seek := df_of X G (st := s_seek) (ps := ["making", "most"]) a23 l23 c23 k23 (fun _ _ _ _ _ _ us hl => match us, hl with | [_, _], _ => rfl),
      law_cell_at := df_of X G (st := s_law_cell_at) (ps := ["_law_script", "_law_k"]) a24 l24 c24 k24 (fun _ _ _ _ _ _ us hl => match us, hl with | [_, _], _ => rfl),
      law_well := df_of X G (st := s_law_well) (ps := ["_law_cell"]) a25 l25 c25 k25 (fun _ _ _ _ _ _ us hl => match us, hl with | [_], _ => rfl),
      law_draw := df_of X G (st := s_law_draw) (ps := ["_law_well_here", "_law_base"]) a26 l26 c26 k26 (fun _ _ _ _ _ _ us hl => match us, hl with | [_, _], _ => rfl),
      law_expr := df_of X G (st := s_law_expr) (ps := ["_law_well_here", "_law_names"]) a27 l27 c27 k27 (fun _ _ _ _ _ _ us hl => match us, hl with | [_, _], _ => rfl),
      law_row := df_of X G (st := s_law_row) (ps := ["_law_well_here", "_law_boxes", "_law_names", "_law_many", "_law_is_writer"]) a28 l28 c28 k28 (fun _ _ _ _ _ _ us hl => match us, hl with | [_, _, _, _, _], _ => rfl),
      law_drawn := df_of X G (st := s_law_drawn) (ps := ["_law_well_here"]) a29 l29 c29 k29 (fun _ _ _ _ _ _ us hl => match us, hl with | [_], _ => rfl),
      law_known := df_of X G (st := s_law_known) (ps := ["_law_well_here"]) a30 l30 c30 k30 (fun _ _ _ _ _ _ us hl => match us, hl with | [_], _ => rfl),
      law_word := df_of X G (st := s_law_word) (ps := ["_law_making", "_law_most"]) a31 l31 c31 k31 (fun _ _ _ _ _ _ us hl => match us, hl with | [_, _], _ => rfl),
      law_stronger := df_of X G (st := s_law_stronger) (ps := ["_law_making"]) a32 l32 c32 k32 (fun _ _ _ _ _ _ us hl => match us, hl with | [_], _ => rfl),
      law := df_of X G (st := s_law) (ps := ["_law_script"]) a33 l33 c33 k33 (fun _ _ _ _ _ _ us hl => match us, hl with | [_], _ => rfl),
      C_Work := CWork,
      cl_Work := clWork,
      g_Work := PySem.W.mg_of X G gWork,
      n_Work_making := nWorkmaking,
      n_Work_hands := nWorkhands,
      n_Work_boxes := nWorkboxes,
      n_Work_claim := nWorkclaim,
      n_Work_places := nWorkplaces,
      n_Work_names := nWorknames,
      n_Work_events := nWorkevents,
      n_Work_broken := nWorkbroken,
      C_Search := CSearch,
      cl_Search := clSearch,
      g_Search := PySem.W.mg_of X G gSearch,
      n_Search_making := nSearchmaking,
      n_Search_most := nSearchmost,
      n_Search_known := nSearchknown,
      n_Search_met := nSearchmet,
      n_Search_came := nSearchcame,
      Work_init := md_of (st := s_Work_init) (ps := ["self", "making", "stand"]) a34 i34 l34 c34 k34 (fun _ _ _ _ _ _ us hl => match us, hl with | [_, _, _], _ => rfl),
      Work_stand := md_of (st := s_Work_stand) (ps := ["self"]) a35 i35 l35 c35 k35 (fun _ _ _ _ _ _ us hl => match us, hl with | [_], _ => rfl),
      Work_rows := md_of (st := s_Work_rows) (ps := ["self", "k"]) a36 i36 l36 c36 k36 (fun _ _ _ _ _ _ us hl => match us, hl with | [_, _], _ => rfl),
      Work_names_of := md_of (st := s_Work_names_of) (ps := ["self", "k"]) a37 i37 l37 c37 k37 (fun _ _ _ _ _ _ us hl => match us, hl with | [_, _], _ => rfl),
      Work_break_by := md_of (st := s_Work_break_by) (ps := ["self", "word", "k"]) a38 i38 l38 c38 k38 (fun _ _ _ _ _ _ us hl => match us, hl with | [_, _, _], _ => rfl),
      Work_number := md_of (st := s_Work_number) (ps := ["self", "k", "expression"]) a39 i39 l39 c39 k39 (fun _ _ _ _ _ _ us hl => match us, hl with | [_, _, _], _ => rfl),
      Work_set_number := md_of (st := s_Work_set_number) (ps := ["self", "k", "name", "number"]) a40 i40 l40 c40 k40 (fun _ _ _ _ _ _ us hl => match us, hl with | [_, _, _, _], _ => rfl),
      Work_step := md_of (st := s_Work_step) (ps := ["self", "k", "pick"]) a41 i41 l41 c41 k41 (fun _ _ _ _ _ _ us hl => match us, hl with | [_, _, _], _ => rfl),
      Work_begin := md_of (st := s_Work_begin) (ps := ["self", "k", "pick"]) a42 i42 l42 c42 k42 (fun _ _ _ _ _ _ us hl => match us, hl with | [_, _, _], _ => rfl),
      Work_put_step := md_of (st := s_Work_put_step) (ps := ["self", "k", "row", "place"]) a43 i43 l43 c43 k43 (fun _ _ _ _ _ _ us hl => match us, hl with | [_, _, _, _], _ => rfl),
      Work_beside := md_of (st := s_Work_beside) (ps := ["self", "place", "number"]) a44 i44 l44 c44 k44 (fun _ _ _ _ _ _ us hl => match us, hl with | [_, _, _], _ => rfl),
      Work_get_step := md_of (st := s_Work_get_step) (ps := ["self", "k", "row", "place", "pick"]) a45 i45 l45 c45 k45 (fun _ _ _ _ _ _ us hl => match us, hl with | [_, _, _, _, _], _ => rfl),
      Work_go_on := md_of (st := s_Work_go_on) (ps := ["self", "k", "at"]) a46 i46 l46 c46 k46 (fun _ _ _ _ _ _ us hl => match us, hl with | [_, _, _], _ => rfl),
      Work_led_on := md_of (st := s_Work_led_on) (ps := ["self", "k", "row", "at"]) a47 i47 l47 c47 k47 (fun _ _ _ _ _ _ us hl => match us, hl with | [_, _, _, _], _ => rfl),
      Work_tell := md_of (st := s_Work_tell) (ps := ["self", "k", "number"]) a48 i48 l48 c48 k48 (fun _ _ _ _ _ _ us hl => match us, hl with | [_, _, _], _ => rfl),
      Work_end := md_of (st := s_Work_end) (ps := ["self", "k", "event"]) a49 i49 l49 c49 k49 (fun _ _ _ _ _ _ us hl => match us, hl with | [_, _, _], _ => rfl),
      Search_init := md_of (st := s_Search_init) (ps := ["self", "making", "most"]) a50 i50 l50 c50 k50 (fun _ _ _ _ _ _ us hl => match us, hl with | [_, _, _], _ => rfl),
      Search_meet := md_of (st := s_Search_meet) (ps := ["self", "stand", "came"]) a51 i51 l51 c51 k51 (fun _ _ _ _ _ _ us hl => match us, hl with | [_, _, _], _ => rfl),
      Search_way_to := md_of (st := s_Search_way_to) (ps := ["self", "at"]) a52 i52 l52 c52 k52 (fun _ _ _ _ _ _ us hl => match us, hl with | [_, _], _ => rfl),
      Search_go_on_from := md_of (st := s_Search_go_on_from) (ps := ["self", "at"]) a53 i53 l53 c53 k53 (fun _ _ _ _ _ _ us hl => match us, hl with | [_, _], _ => rfl),
      mk_Work := ⟨mkWork, a34, i34, kcWork⟩,
      mk_Search := ⟨mkSearch, a50, i50, kcSearch⟩,
      b_len := PySem.W.mg_none_of X G z_len,
      b_list := PySem.W.mg_none_of X G z_list,
      b_tuple := PySem.W.mg_none_of X G z_tuple,
      b_range := PySem.W.mg_none_of X G z_range,
      b_enumerate := PySem.W.mg_none_of X G z_enumerate,
      b_sorted := PySem.W.mg_none_of X G z_sorted,
      b_set := PySem.W.mg_none_of X G z_set,
      b_dict := PySem.W.mg_none_of X G z_dict,
      b_zip := PySem.W.mg_none_of X G z_zip,
      b_int := PySem.W.mg_none_of X G z_int,
      b_isinstance := PySem.W.mg_none_of X G z_isinstance,
      b_min := PySem.W.mg_none_of X G z_min,
      b_max := PySem.W.mg_none_of X G z_max,
      b_bool := PySem.W.mg_none_of X G z_bool,
      b_str := PySem.W.mg_none_of X G z_str,
      t_IDLE := tI,
      c_IDLE := PySem.W.mg_of X G zI,
      t_WRITERS_WORTH := tW,
      c_WRITERS_WORTH := PySem.W.mg_of X G zW }, rfl, rfl⟩
  have U : Tm K mg := ⟨CT, PySem.W.mg_of X G gT, xT, kT, bT, tT, exm_self bT iT tT sT⟩
  obtain ⟨T, e1, e2⟩ := T
  refine ⟨T.law.d, fun s v => by rw [e2]; exact .of_eq rfl, fun base _ _ => ?_⟩
  have := ok_law (P := P) (w := w) (base := base) T U
  rw [e1] at this
  exact this
theorem walk {l : PySem.W.OpenLaw} {q : Program} {loose : List Str} {XP : (Str → Option Value) → Heap → Prop} {YP : World → Heap → Prop} {d : DefRec} {K : Params → PySem.W.Frag} (hn : l.most = some 63) (hdf : d.params.defaults = [])
    (hY : ∀ (w : World) (h : Heap), YP w h → (K w.params).In h)
    (F : ∀ (w : World) (mg : Str → Option Value) (fa : Addr) (h : Heap), (K w.params).In h → h.Ns mainGlobals mg → mg d.name = some (.ref fa) →
      ∃ fd : FuncData, (∀ (s : Shared) (u : Value), BindsTo s fd ⟨[u], []⟩ [("_law_script", u)]) ∧ ∀ base : Heap, (K w.params).In base → base.Ns mainGlobals mg → FnOk l.prog w (K w.params) mg base CX0 16 fa fd ["_law_script"] (spLaw (K w.params))) :
    PySem.W.WalkO q loose XP YP l.row.toRowW d [] (fun f vs => PySem.call f vs) :=
  L2.walk_of (n := 63) (k := 16) (x := "_law_script") (CX := fun _ => CX0) (sp := fun w => spLaw (K w.params)) hn (by decide) hdf ⟨rfl, by decide, by decide⟩ hY F (fun _ _ a ns hl _ hS => ⟨a, ns, rfl, hS, hl, fun _ => rfl⟩) fun _ _ _ _ _ z => z
end SB
open PySem PySem.W PyProof.Rows
set_option maxRecDepth 100000 in
set_option maxHeartbeats 0 in
theorem PySem.Challenge.cw_strongboxes_k95_whole_stronger_has_a_pap_holds : PySem.Challenge.rw_strongboxes_k95_whole_stronger_has_a_pap.Holds := by
  w_on; o_law; k_head; (case hw => w_witness2)
  k_fill
  refine SB.walk (l := PySem.Challenge.rw_strongboxes_k95_whole_stronger_has_a_pap) rfl rfl (fun w h Y => PySem.W.kIn_of Y) ?F
  case F =>
    intro w mg fa h KX G hmg
    refine' SB.all_mk KX G hmg ?a1 ?l1 ?c1 ?k1 ?a2 ?l2 ?c2 ?k2 ?a3 ?l3 ?c3 ?k3 ?a4 ?l4 ?c4 ?k4 ?a5 ?l5 ?c5 ?k5 ?a6 ?l6 ?c6 ?k6 ?a7 ?l7 ?c7 ?k7 ?a8 ?l8 ?c8 ?k8 ?a9 ?l9 ?c9 ?k9 ?a10 ?l10 ?c10 ?k10 ?a11 ?l11 ?c11 ?k11 ?a12 ?l12 ?c12 ?k12 ?a13 ?l13 ?c13 ?k13 ?a14 ?l14 ?c14 ?k14 ?a15 ?l15 ?c15 ?k15 ?a16 ?l16 ?c16 ?k16 ?a17 ?l17 ?c17 ?k17 ?a18 ?l18 ?c18 ?k18 ?a19 ?l19 ?c19 ?k19 ?a20 ?l20 ?c20 ?k20 ?a21 ?l21 ?c21 ?k21 ?a22 ?l22 ?c22 ?k22 ?a23 ?l23 ?c23 ?k23 ?a24 ?l24 ?c24 ?k24 ?a25 ?l25 ?c25 ?k25 ?a26 ?l26 ?c26 ?k26 ?a27 ?l27 ?c27 ?k27 ?a28 ?l28 ?c28 ?k28 ?a29 ?l29 ?c29 ?k29 ?a30 ?l30 ?c30 ?k30 ?a31 ?l31 ?c31 ?k31 ?a32 ?l32 ?c32 ?k32 ?a33 ?l33 ?c33 ?k33 ?gWork ?pgWork ?hdWork ?poWork ?saWork ?mkWork ?kcWork ?nWorkmaking ?nWorkhands ?nWorkboxes ?nWorkclaim ?nWorkplaces ?nWorknames ?nWorkevents ?nWorkbroken ?gSearch ?pgSearch ?hdSearch ?poSearch ?saSearch ?mkSearch ?kcSearch ?nSearchmaking ?nSearchmost ?nSearchknown ?nSearchmet ?nSearchcame ?a34 ?i34 ?l34 ?c34 ?k34 ?a35 ?i35 ?l35 ?c35 ?k35 ?a36 ?i36 ?l36 ?c36 ?k36 ?a37 ?i37 ?l37 ?c37 ?k37 ?a38 ?i38 ?l38 ?c38 ?k38 ?a39 ?i39 ?l39 ?c39 ?k39 ?a40 ?i40 ?l40 ?c40 ?k40 ?a41 ?i41 ?l41 ?c41 ?k41 ?a42 ?i42 ?l42 ?c42 ?k42 ?a43 ?i43 ?l43 ?c43 ?k43 ?a44 ?i44 ?l44 ?c44 ?k44 ?a45 ?i45 ?l45 ?c45 ?k45 ?a46 ?i46 ?l46 ?c46 ?k46 ?a47 ?i47 ?l47 ?c47 ?k47 ?a48 ?i48 ?l48 ?c48 ?k48 ?a49 ?i49 ?l49 ?c49 ?k49 ?a50 ?i50 ?l50 ?c50 ?k50 ?a51 ?i51 ?l51 ?c51 ?k51 ?a52 ?i52 ?l52 ?c52 ?k52 ?a53 ?i53 ?l53 ?c53 ?k53 ?z_len ?z_list ?z_tuple ?z_range ?z_enumerate ?z_sorted ?z_set ?z_dict ?z_zip ?z_int ?z_isinstance ?z_min ?z_max ?z_bool ?z_str ?zI ?zW ?gT ?xT ?kT ?bT ?tT ?iT ?sT
    (case a1 => k_is); (case l1 => k_is); (case c1 => k_is); (case k1 => k_is)
    (case a2 => k_is); (case l2 => k_is); (case c2 => k_is); (case k2 => k_is)
    (case a3 => k_is); (case l3 => k_is); (case c3 => k_is); (case k3 => k_is)
    (case a4 => k_is); (case l4 => k_is); (case c4 => k_is); (case k4 => k_is)
    (case a5 => k_is); (case l5 => k_is); (case c5 => k_is); (case k5 => k_is)
    (case a6 => k_is); (case l6 => k_is); (case c6 => k_is); (case k6 => k_is)
    (case a7 => k_is); (case l7 => k_is); (case c7 => k_is); (case k7 => k_is)
    (case a8 => k_is); (case l8 => k_is); (case c8 => k_is); (case k8 => k_is)
    (case a9 => k_is); (case l9 => k_is); (case c9 => k_is); (case k9 => k_is)
    (case a10 => k_is); (case l10 => k_is); (case c10 => k_is); (case k10 => k_is)
    (case a11 => k_is); (case l11 => k_is); (case c11 => k_is); (case k11 => k_is)
    (case a12 => k_is); (case l12 => k_is); (case c12 => k_is); (case k12 => k_is)
    (case a13 => k_is); (case l13 => k_is); (case c13 => k_is); (case k13 => k_is)
    (case a14 => k_is); (case l14 => k_is); (case c14 => k_is); (case k14 => k_is)
    (case a15 => k_is); (case l15 => k_is); (case c15 => k_is); (case k15 => k_is)
    (case a16 => k_is); (case l16 => k_is); (case c16 => k_is); (case k16 => k_is)
    (case a17 => k_is); (case l17 => k_is); (case c17 => k_is); (case k17 => k_is)
    (case a18 => k_is); (case l18 => k_is); (case c18 => k_is); (case k18 => k_is)
    (case a19 => k_is); (case l19 => k_is); (case c19 => k_is); (case k19 => k_is)
    (case a20 => k_is); (case l20 => k_is); (case c20 => k_is); (case k20 => k_is)
    (case a21 => k_is); (case l21 => k_is); (case c21 => k_is); (case k21 => k_is)
    (case a22 => k_is); (case l22 => k_is); (case c22 => k_is); (case k22 => k_is)
    (case a23 => k_is); (case l23 => k_is); (case c23 => k_is); (case k23 => k_is)
    (case a24 => k_is); (case l24 => k_is); (case c24 => k_is); (case k24 => k_is)
    (case a25 => k_is); (case l25 => k_is); (case c25 => k_is); (case k25 => k_is)
    (case a26 => k_is); (case l26 => k_is); (case c26 => k_is); (case k26 => k_is)
    (case a27 => k_is); (case l27 => k_is); (case c27 => k_is); (case k27 => k_is)
    (case a28 => k_is); (case l28 => k_is); (case c28 => k_is); (case k28 => k_is)
    (case a29 => k_is); (case l29 => k_is); (case c29 => k_is); (case k29 => k_is)
    (case a30 => k_is); (case l30 => k_is); (case c30 => k_is); (case k30 => k_is)
    (case a31 => k_is); (case l31 => k_is); (case c31 => k_is); (case k31 => k_is)
    (case a32 => k_is); (case l32 => k_is); (case c32 => k_is); (case k32 => k_is)
    (case a33 => k_is); (case l33 => k_is); (case c33 => k_is); (case k33 => k_is)
    (case gWork => k_is); (case pgWork => k_is); (case hdWork => k_is); (case poWork => k_is)
    (case saWork => k_is); (case mkWork => k_is); (case kcWork => k_is); (case nWorkmaking => k_is)
    (case nWorkhands => k_is); (case nWorkboxes => k_is); (case nWorkclaim => k_is); (case nWorkplaces => k_is)
    (case nWorknames => k_is); (case nWorkevents => k_is); (case nWorkbroken => k_is); (case gSearch => k_is)
    (case pgSearch => k_is); (case hdSearch => k_is); (case poSearch => k_is); (case saSearch => k_is)
    (case mkSearch => k_is); (case kcSearch => k_is); (case nSearchmaking => k_is); (case nSearchmost => k_is)
    (case nSearchknown => k_is); (case nSearchmet => k_is); (case nSearchcame => k_is); (case a34 => k_is)
    (case i34 => k_is); (case l34 => k_is); (case c34 => k_is); (case k34 => k_is)
    (case a35 => k_is); (case i35 => k_is); (case l35 => k_is); (case c35 => k_is)
    (case k35 => k_is); (case a36 => k_is); (case i36 => k_is); (case l36 => k_is)
    (case c36 => k_is); (case k36 => k_is); (case a37 => k_is); (case i37 => k_is)
    (case l37 => k_is); (case c37 => k_is); (case k37 => k_is); (case a38 => k_is)
    (case i38 => k_is); (case l38 => k_is); (case c38 => k_is); (case k38 => k_is)
    (case a39 => k_is); (case i39 => k_is); (case l39 => k_is); (case c39 => k_is)
    (case k39 => k_is); (case a40 => k_is); (case i40 => k_is); (case l40 => k_is)
    (case c40 => k_is); (case k40 => k_is); (case a41 => k_is); (case i41 => k_is)
    (case l41 => k_is); (case c41 => k_is); (case k41 => k_is); (case a42 => k_is)
    (case i42 => k_is); (case l42 => k_is); (case c42 => k_is); (case k42 => k_is)
    (case a43 => k_is); (case i43 => k_is); (case l43 => k_is); (case c43 => k_is)
    (case k43 => k_is); (case a44 => k_is); (case i44 => k_is); (case l44 => k_is)
    (case c44 => k_is); (case k44 => k_is); (case a45 => k_is); (case i45 => k_is)
    (case l45 => k_is); (case c45 => k_is); (case k45 => k_is); (case a46 => k_is)
    (case i46 => k_is); (case l46 => k_is); (case c46 => k_is); (case k46 => k_is)
    (case a47 => k_is); (case i47 => k_is); (case l47 => k_is); (case c47 => k_is)
    (case k47 => k_is); (case a48 => k_is); (case i48 => k_is); (case l48 => k_is)
    (case c48 => k_is); (case k48 => k_is); (case a49 => k_is); (case i49 => k_is)
    (case l49 => k_is); (case c49 => k_is); (case k49 => k_is); (case a50 => k_is)
    (case i50 => k_is); (case l50 => k_is); (case c50 => k_is); (case k50 => k_is)
    (case a51 => k_is); (case i51 => k_is); (case l51 => k_is); (case c51 => k_is)
    (case k51 => k_is); (case a52 => k_is); (case i52 => k_is); (case l52 => k_is)
    (case c52 => k_is); (case k52 => k_is); (case a53 => k_is); (case i53 => k_is)
    (case l53 => k_is); (case c53 => k_is); (case k53 => k_is); (case z_len => k_is)
    (case z_list => k_is); (case z_tuple => k_is); (case z_range => k_is); (case z_enumerate => k_is)
    (case z_sorted => k_is); (case z_set => k_is); (case z_dict => k_is); (case z_zip => k_is)
    (case z_int => k_is); (case z_isinstance => k_is); (case z_min => k_is); (case z_max => k_is)
    (case z_bool => k_is); (case z_str => k_is); (case zI => k_is); (case zW => k_is)
    (case gT => k_is); (case xT => k_exc); (case kT => k_is); (case bT => k_is)
    (case tT => k_is); (case iT => k_is); (case sT => first | rfl | k_is)
