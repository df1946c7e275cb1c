import PyProof.Rows.All
import HandS.ForMost
import HandS.Defaults
import HandS.IsInst
import HandS.Wide
import HandS.Zip
import HandS.Flow
import HandS.Exc
import HandS.CallSlots
import HandS.TryOnly
import HandS.ExcOwn
import HandS.WordsExc
import HandS.HeadHook1
import HandS.HeadHook2
import HandS.WideBits
import HandS.HeadEnd
import HandS.Head0
import HandS.Head1
import HandS.Head2
import PyProof.Rows.SetFrom
import PyProof.Rows.SetObj
import HandS.Text
import HandS.Iter
import PyProof.ReprRoads
import HandS.ExcIs
import HandS.ExcInit
import HandS.ExcField
import KE.KExcIs
import HandS.Codes
import HandS.ExcValue
import PyProof.LongRange
import HandS.RaiseMore
import HandS.More
import HandS.SetFor
import HandS.Strs
import KE.DataMinMax
import HandS.SortKw
import HandS.Dict
import HandS.Deep
import HandS.DictComp
import PyProof.InstEq
import HandS.Small
import KE.GoesMore
import PyProof.FitsInt
import PyProof.StrLawsRepr
import KE.KIntText
import PySem.Challenge.RW_hushranks_k43_faults_of_records
set_option Elab.async false
set_option linter.all false
set_option maxRecDepth 100000
set_option maxHeartbeats 2000000
/-! LayA: plain values, the own heap, results, and how they stand for HandS's values and heap. -/
namespace HR
open PySem L2
/-- plain values; ref: an object of the own heap; scr: a list that is only read (the script); exc: a caught exception without fields; excf: with one field -/
inductive D where
  | non | bl (b : Bool) | int (i : Int) | str (x : Str)
  | lst (xs : List D) | tup (xs : List D) | dct (kvs : List (Key × D)) | obj (C : String) (fs : List (String × D)) | ref (i : Nat) | scr (xs : List D) | exc (C : String) | excf (C f : String) (d : D)
/-- objects of the own heap -/
inductive OO where
  | lst (xs : List D) | ins (C : String) (fs : List (String × D)) | dct (kvs : List (Key × D)) | dead
abbrev OH := List OO
abbrev Env' := List (Option D)
abbrev Pay := Option (String × D)
inductive Res (α : Type) where
  | ok (a : α) (h : OH) | exc (C : String) (p : Pay) (h : OH) | bad
def Res.bind {α β : Type} (r : Res α) (f : α → OH → Res β) : Res β := match r with
  | .ok a h => f a h
  | .exc C p h => .exc C p h
  | .bad => .bad
@[simp] theorem Res.bind_ok {α β : Type} (a : α) (h : OH) (f : α → OH → Res β) : (Res.ok a h).bind f = f a h := rfl
@[simp] theorem Res.bind_exc {α β : Type} (C : String) (p : Pay) (h : OH) (f : α → OH → Res β) : (Res.exc C p h : Res α).bind f = .exc C p h := rfl
@[simp] theorem Res.bind_bad {α β : Type} (f : α → OH → Res β) : (Res.bad : Res α).bind f = .bad := rfl
inductive SRes where
  | nx (σ : Env') (h : OH) | rt (d : D) (h : OH) | bk (σ : Env') (h : OH) | ct (σ : Env') (h : OH) | exc (C : String) (p : Pay) (σ : Env') (h : OH) | bad
abbrev SE := Env' → OH → Res D
abbrev ST := Env' → OH → Res Bool
abbrev SA := Env' → OH → Res (List D)
abbrev SS := Env' → OH → SRes
abbrev FN := List D → OH → Res D
/-- what the class of an object must be, for its fields -/
def ObT (K : PySem.W.Frag) (C : String) (fs : List (String × D)) : Prop :=
  Cls K (He.ga K (Str.ofString C)) ∧ ∀ q ∈ fs, NoAttr K (He.ga K (Str.ofString C)) (Str.ofString q.1)
/-- a caught exception of the class cls, kept at a -/
def HexO (cls : Value) (a : Addr) : HO := .ext fun hp => ∃ (ob : Obj) (ws : Array Value), hp.get? a = some ob ∧ Zc cls none ob ∧ ob.data = .fields ws
/-- an exception of the class cls with a dict at dx, kept at a -/
def HexP (cls : Value) (dx : Addr) (a : Addr) : HO := .ext fun hp => ∃ (ob : Obj) (ws : Array Value), hp.get? a = some ob ∧ Zc cls (some dx) ob ∧ ob.data = .fields ws
mutual
/-- v stands for d: F the frozen part of the heap, m the addresses of the own objects -/
inductive Den (K : PySem.W.Frag) (F : Hp) (m : List Addr) : V → D → Prop
  | non : Den K F m .non .non
  | bl (b : Bool) : Den K F m (.bl b) (.bl b)
  | int (i : Int) : Den K F m (.int i) (.int i)
  | str (x : Str) : Den K F m (.str x) (.str x)
  | lst {a : Addr} {vs : List V} {ds : List D} (q : F a = some (.lst vs)) (r : DenL K F m vs ds) : Den K F m (.ref a) (.lst ds)
  | scr {a : Addr} {vs : List V} {ds : List D} (q : SqL K F a vs) (r : DenL K F m vs ds) : Den K F m (.ref a) (.scr ds)
  | tup {a : Addr} {vs : List V} {ds : List D} (q : F a = some (.tup vs)) (r : DenL K F m vs ds) : Den K F m (.ref a) (.tup ds)
  | dct {a : Addr} {kvs : List (Key × V)} {ks : List (Key × D)} (q : F a = some (.dK kvs)) (r : DenK K F m kvs ks) : Den K F m (.ref a) (.dct ks)
  | obj {a dx : Addr} {C : String} {fv : List (Str × V)} {fs : List (String × D)} (q : F a = some (.ins (He.ga K (Str.ofString C)) dx fv)) (t : ObT K C fs) (r : DenF K F m fv fs) : Den K F m (.ref a) (.obj C fs)
  | ref {a : Addr} {i : Nat} (q : m[i]? = some a) : Den K F m (.ref a) (.ref i)
  | exc {a : Addr} {C : String} (q : F a = some (HexO (.ref (He.ga K (Str.ofString C))) a)) : Den K F m (.ref a) (.exc C)
  | excf {a dx : Addr} {C f : String} {v : V} {d : D} (q : F a = some (HexP (.ref (He.ga K (Str.ofString C))) dx a)) (q2 : F dx = some (.xd [(Str.ofString f, v)])) (r : Den K F m v d) : Den K F m (.ref a) (.excf C f d)
inductive DenL (K : PySem.W.Frag) (F : Hp) (m : List Addr) : List V → List D → Prop
  | nil : DenL K F m [] []
  | cons {v : V} {d : D} {vs : List V} {ds : List D} (h : Den K F m v d) (t : DenL K F m vs ds) : DenL K F m (v :: vs) (d :: ds)
inductive DenK (K : PySem.W.Frag) (F : Hp) (m : List Addr) : List (Key × V) → List (Key × D) → Prop
  | nil : DenK K F m [] []
  | cons {k : Key} {v : V} {d : D} {vs : List (Key × V)} {ds : List (Key × D)} (h : Den K F m v d) (t : DenK K F m vs ds) : DenK K F m ((k, v) :: vs) ((k, d) :: ds)
inductive DenF (K : PySem.W.Frag) (F : Hp) (m : List Addr) : List (Str × V) → List (String × D) → Prop
  | nil : DenF K F m [] []
  | cons {f : String} {v : V} {d : D} {vs : List (Str × V)} {ds : List (String × D)} (h : Den K F m v d) (t : DenF K F m vs ds) : DenF K F m ((Str.ofString f, v) :: vs) ((f, d) :: ds)
end
section
variable {K : PySem.W.Frag} {F F' : Hp} {m m' : List Addr}
theorem Same.sqT {H H' : Hp} {a : Addr} {xs : List V} (e : Same H H') (h : SqT K H a xs) : SqT K H' a xs := by
  rcases h with (h | ⟨o, h⟩) | h
  · exact .inl (.inl (e _ _ h))
  · exact .inl (.inr ⟨o, e _ _ h⟩)
  · exact .inr h
theorem pre_get {i : Nat} {a : Addr} (p : m <+: m') (e : m[i]? = some a) : m'[i]? = some a := by
  obtain ⟨t, rfl⟩ := p
  rw [List.getElem?_append_left (List.getElem?_eq_some_iff.mp e).1]
  exact e
/-- the frozen part grows, the own objects' list grows -/
structure Ext (F : Hp) (m : List Addr) (F' : Hp) (m' : List Addr) : Prop where
  s : Same F F'
  p : m <+: m'
theorem Ext.refl : Ext F m F m := ⟨Same.refl _, List.prefix_rfl⟩
theorem Ext.trans {F2 : Hp} {m2 : List Addr} (a : Ext F m F' m') (b : Ext F' m' F2 m2) : Ext F m F2 m2 := ⟨a.s.trans b.s, a.p.trans b.p⟩
theorem Den.mono {v : V} {d : D} (x : Ext F m F' m') (h : Den K F m v d) : Den K F' m' v d :=
  Den.rec (motive_1 := fun v d _ => Den K F' m' v d) (motive_2 := fun v d _ => DenL K F' m' v d) (motive_3 := fun v d _ => DenK K F' m' v d) (motive_4 := fun v d _ => DenF K F' m' v d)
    .non .bl .int .str (fun q _ r => .lst (x.s _ _ q) r) (fun q _ r => .scr (x.s.seq q) r) (fun q _ r => .tup (x.s _ _ q) r) (fun q _ r => .dct (x.s _ _ q) r) (fun q t _ r => .obj (x.s _ _ q) t r) (fun q => .ref (pre_get x.p q)) (fun q => .exc (x.s _ _ q)) (fun q q2 _ r => .excf (x.s _ _ q) (x.s _ _ q2) r)
    .nil (fun _ _ a b => .cons a b) .nil (fun _ _ a b => .cons a b) .nil (fun _ _ a b => .cons a b) h
theorem DenL.mono (x : Ext F m F' m') : ∀ {vs : List V} {ds : List D}, DenL K F m vs ds → DenL K F' m' vs ds
  | _, _, .nil => .nil
  | _, _, .cons h t => .cons (h.mono x) (DenL.mono x t)
theorem DenK.mono (x : Ext F m F' m') : ∀ {vs : List (Key × V)} {ds : List (Key × D)}, DenK K F m vs ds → DenK K F' m' vs ds
  | _, _, .nil => .nil
  | _, _, .cons h t => .cons (h.mono x) (DenK.mono x t)
theorem DenF.mono (x : Ext F m F' m') : ∀ {vs : List (Str × V)} {ds : List (String × D)}, DenF K F m vs ds → DenF K F' m' vs ds
  | _, _, .nil => .nil
  | _, _, .cons h t => .cons (h.mono x) (DenF.mono x t)
theorem DenL.length : ∀ {vs : List V} {ds : List D}, DenL K F m vs ds → vs.length = ds.length
  | _, _, .nil => rfl
  | _, _, .cons _ t => by rw [List.length_cons, List.length_cons, DenL.length t]
theorem DenL.get : ∀ {vs : List V} {ds : List D} {i : Nat} {d : D}, DenL K F m vs ds → ds[i]? = some d → ∃ v, vs[i]? = some v ∧ Den K F m v d
  | _, _, _, _, .nil, e => by simp at e
  | _, _, 0, _, .cons h _, e => by
    simp at e
    subst e
    exact ⟨_, by simp, h⟩
  | _, _, i + 1, d, .cons _ t, e => by
    obtain ⟨v, e1, r⟩ := DenL.get (i := i) (d := d) t (by simpa using e)
    exact ⟨v, by simpa using e1, r⟩
theorem DenL.getV : ∀ {vs : List V} {ds : List D} {i : Nat} {v : V}, DenL K F m vs ds → vs[i]? = some v → ∃ d, ds[i]? = some d ∧ Den K F m v d
  | _, _, _, _, .nil, e => by simp at e
  | _, _, 0, _, .cons h _, e => by
    simp at e
    subst e
    exact ⟨_, by simp, h⟩
  | _, _, i + 1, v, .cons _ t, e => by
    obtain ⟨d, e1, r⟩ := DenL.getV (i := i) (v := v) t (by simpa using e)
    exact ⟨d, by simpa using e1, r⟩
theorem DenL.append : ∀ {vs ws : List V} {ds es : List D}, DenL K F m vs ds → DenL K F m ws es → DenL K F m (vs ++ ws) (ds ++ es)
  | _, _, _, _, .nil, s => s
  | _, _, _, _, .cons h t, s => .cons h (DenL.append t s)
theorem DenL.take : ∀ {vs : List V} {ds : List D} (n : Nat), DenL K F m vs ds → DenL K F m (vs.take n) (ds.take n)
  | _, _, 0, _ => .nil
  | _, _, _ + 1, .nil => .nil
  | _, _, n + 1, .cons h t => .cons h (DenL.take n t)
theorem DenL.drop : ∀ {vs : List V} {ds : List D} (n : Nat), DenL K F m vs ds → DenL K F m (vs.drop n) (ds.drop n)
  | _, _, 0, r => r
  | _, _, _ + 1, .nil => .nil
  | _, _, n + 1, .cons _ t => DenL.drop n t
theorem DenL.set {v : V} {d : D} (r : Den K F m v d) : ∀ {vs : List V} {ds : List D} (i : Nat), DenL K F m vs ds → DenL K F m (vs.set i v) (ds.set i d)
  | _, _, _, .nil => .nil
  | _, _, 0, .cons _ t => .cons r t
  | _, _, i + 1, .cons h t => .cons h (DenL.set r i t)
theorem DenL.eraseIdx : ∀ {vs : List V} {ds : List D} (i : Nat), DenL K F m vs ds → DenL K F m (vs.eraseIdx i) (ds.eraseIdx i)
  | _, _, _, .nil => .nil
  | _, _, 0, .cons _ t => t
  | _, _, i + 1, .cons h t => .cons h (DenL.eraseIdx i t)
theorem DenL.rep {vs : List V} {ds : List D} (h : DenL K F m vs ds) : ∀ k : Nat, DenL K F m (List.replicate k vs).flatten (List.replicate k ds).flatten
  | 0 => .nil
  | k + 1 => by
    rw [List.replicate_succ, List.replicate_succ, List.flatten_cons, List.flatten_cons]
    exact h.append (h.rep k)
theorem DenL.ints : ∀ (ns : List Int), DenL K F m (ns.map V.int) (ns.map D.int)
  | [] => .nil
  | n :: ns => .cons (.int n) (DenL.ints ns)
/-- what stands at an own object's address -/
def OOk (K : PySem.W.Frag) (F : Hp) (m : List Addr) (H : Hp) (a : Addr) : OO → Prop
  | .lst xs => ∃ vs, H a = some (.lst vs) ∧ DenL K F m vs xs ∧ F a = none
  | .ins C fs => ∃ dx fv, H a = some (.ins (He.ga K (Str.ofString C)) dx fv) ∧ ObT K C fs ∧ DenF K F m fv fs ∧ F a = none
  | .dct kvs => ∃ ks, H a = some (.dK ks) ∧ DenK K F m ks kvs ∧ F a = none
  | .dead => True
abbrev Pins := List (Addr × HO)
/-- the own heap h stands in H; P: hidden objects, which stay -/
structure Sim (K : PySem.W.Frag) (P : Pins) (F : Hp) (m : List Addr) (h : OH) (H : Hp) : Prop where
  sub : Same F H
  len : m.length = h.length
  nd : m.Nodup
  live : ∀ a ∈ m, ∃ o, H a = some o
  at_ : ∀ (i : Nat) (a : Addr) (o : OO), m[i]? = some a → h[i]? = some o → OOk K F m H a o
  pin : ∀ p ∈ P, H p.1 = some p.2 ∧ F p.1 = none ∧ p.1 ∉ m
  pnd : (P.map (·.1)).Nodup
theorem OOk.mono {H H' : Hp} {a : Addr} {o : OO} (x : Ext F m F' m') (e : H' a = H a) (f : F a = none → F' a = none) (h : OOk K F m H a o) : OOk K F' m' H' a o := by
  cases o with
  | lst xs =>
    obtain ⟨vs, h1, h2, h3⟩ := h
    exact ⟨vs, e.trans h1, h2.mono x, f h3⟩
  | ins C fs =>
    obtain ⟨dx, fv, h1, h2, h3, h4⟩ := h
    exact ⟨dx, fv, e.trans h1, h2, h3.mono x, f h4⟩
  | dct kvs =>
    obtain ⟨ks, h1, h2, h3⟩ := h
    exact ⟨ks, e.trans h1, h2.mono x, f h3⟩
  | dead => trivial
end
section
variable {K : PySem.W.Frag} {P : Pins} {F : Hp} {m : List Addr} {h : OH} {H : Hp}
theorem nodup_at {i j : Nat} {a : Addr} (hn : m.Nodup) (e1 : m[i]? = some a) (e2 : m[j]? = some a) : i = j := by
  obtain ⟨h1, q1⟩ := List.getElem?_eq_some_iff.mp e1
  obtain ⟨h2, q2⟩ := List.getElem?_eq_some_iff.mp e2
  exact (List.getElem_inj hn).mp (q1.trans q2.symm)
theorem Sim.notMem (S : Sim K P F m h H) {p : Addr} (hp : H p = none) : p ∉ m := fun z => by
  obtain ⟨o, e⟩ := S.live p z
  rw [hp] at e
  cases e
theorem Sim.free (S : Sim K P F m h H) {p : Addr} (hp : H p = none) : F p = none := S.sub.free hp
theorem Sim.notPin (S : Sim K P F m h H) {p : Addr} (hp : H p = none) : ∀ q ∈ P, q.1 ≠ p := fun q hq z => by
  have e := (S.pin q hq).1
  rw [z, hp] at e
  cases e
theorem same_new {p : Addr} {o : HO} (hp : H p = none) : Same H (upd H p o) := fun b u e => by
  rw [upd_ne (ne_of_none e hp)]
  exact e
/-- what is laid and stays out of sight -/
theorem Sim.other (S : Sim K P F m h H) {p : Addr} {o : HO} (hp : H p = none) : Sim K P F m h (upd H p o) where
  sub := S.sub.trans (same_new hp)
  len := S.len
  nd := S.nd
  live := fun a ha => let ⟨u, e⟩ := S.live a ha; ⟨u, same_new hp _ _ e⟩
  at_ := fun i a u e1 e2 => (S.at_ i a u e1 e2).mono .refl (upd_ne fun z => S.notMem hp (z ▸ List.mem_of_getElem? e1)) id
  pin := fun q hq => ⟨same_new hp _ _ (S.pin q hq).1, (S.pin q hq).2⟩
  pnd := S.pnd
/-- a new frozen object -/
theorem Sim.frozen (S : Sim K P F m h H) {p : Addr} {o : HO} (hp : H p = none) : Sim K P (upd F p o) m h (upd H p o) := by
  have x : Ext F m (upd F p o) m := ⟨same_new (S.free hp), List.prefix_rfl⟩
  refine ⟨fun b u e => ?_, S.len, S.nd, (S.other hp).live, fun i a u e1 e2 => ?_, fun q hq => ?_, S.pnd⟩
  · by_cases hb : b = p
    · subst hb
      rw [upd_same] at e ⊢
      exact e
    · rw [upd_ne hb] at e ⊢
      exact S.sub b u e
  · have ne : a ≠ p := fun z => S.notMem hp (z ▸ List.mem_of_getElem? e1)
    exact (S.at_ i a u e1 e2).mono x (upd_ne ne) fun z => (upd_ne ne).trans z
  · have ne : q.1 ≠ p := S.notPin hp q hq
    exact ⟨same_new hp _ _ (S.pin q hq).1, (upd_ne ne).trans (S.pin q hq).2.1, (S.pin q hq).2.2⟩
theorem Sim.extF (S : Sim K P F m h H) {p : Addr} {o : HO} (hp : H p = none) : Ext F m (upd F p o) m := ⟨same_new (S.free hp), List.prefix_rfl⟩
theorem ext_new {a : Addr} : Ext F m F (m ++ [a]) := ⟨Same.refl _, List.prefix_append _ _⟩
/-- a new own object -/
theorem Sim.alloc (S : Sim K P F m h H) {p : Addr} {ho : HO} {o : OO} (hp : H p = none) (ok : OOk K F (m ++ [p]) (upd H p ho) p o) : Sim K P F (m ++ [p]) (h ++ [o]) (upd H p ho) where
  sub := (S.other hp).sub
  len := by simp [S.len]
  nd := List.nodup_append.mpr ⟨S.nd, by simp, fun a ha b hb => by
    rw [List.mem_singleton] at hb
    subst hb
    exact fun z => S.notMem hp (z ▸ ha)⟩
  live := fun a ha => by
    rcases List.mem_append.mp ha with ha | ha
    · exact (S.other hp).live a ha
    · rw [List.mem_singleton] at ha
      subst ha
      exact ⟨_, upd_same⟩
  at_ := fun i a u e1 e2 => by
    by_cases hi : i < m.length
    · rw [List.getElem?_append_left hi] at e1
      rw [List.getElem?_append_left (by rw [← S.len]; exact hi)] at e2
      exact (S.at_ i a u e1 e2).mono ext_new (upd_ne fun z => S.notMem hp (z ▸ List.mem_of_getElem? e1)) id
    · have hi2 : i = m.length := by
        have := (List.getElem?_eq_some_iff.mp e1).1
        simp at this
        omega
      subst hi2
      rw [S.len] at e2
      simp at e1 e2
      subst e1 e2
      exact ok
  pin := fun q hq => by
    obtain ⟨h1, h2, h3⟩ := (S.other (o := ho) hp).pin q hq
    refine ⟨h1, h2, fun z => ?_⟩
    rcases List.mem_append.mp z with z | z
    · exact h3 z
    · rw [List.mem_singleton] at z
      exact S.notPin hp q hq z
  pnd := S.pnd
/-- an own object is written -/
theorem Sim.write (S : Sim K P F m h H) {i : Nat} {a : Addr} {ho : HO} {o o' : OO} (e : m[i]? = some a) (e2 : h[i]? = some o') (nf : F a = none) (ok : OOk K F m (upd H a ho) a o) : Sim K P F m (h.set i o) (upd H a ho) where
  sub := fun b u q => by
    have ne : b ≠ a := fun z => by
      rw [z, nf] at q
      cases q
    rw [upd_ne ne]
    exact S.sub b u q
  len := by simp [S.len]
  nd := S.nd
  live := fun b hb => by
    by_cases hba : b = a
    · subst hba
      exact ⟨_, upd_same⟩
    · obtain ⟨u, q⟩ := S.live b hb
      exact ⟨u, (upd_ne hba).trans q⟩
  at_ := fun j b u q1 q2 => by
    by_cases hji : j = i
    · subst hji
      rw [e] at q1
      cases q1
      rw [List.getElem?_set_self (List.getElem?_eq_some_iff.mp e2).1] at q2
      cases q2
      exact ok
    · rw [List.getElem?_set_ne (Ne.symm hji)] at q2
      exact (S.at_ j b u q1 q2).mono .refl (upd_ne fun z => hji (nodup_at S.nd (z ▸ q1) e)) id
  pin := fun q hq => by
    obtain ⟨h1, h2, h3⟩ := S.pin q hq
    exact ⟨(upd_ne fun z => h3 (by rw [z]; exact List.mem_of_getElem? e)).trans h1, h2, h3⟩
  pnd := S.pnd
/-- an own object is frozen -/
theorem Sim.freeze (S : Sim K P F m h H) {i : Nat} {a : Addr} {ho : HO} (e : m[i]? = some a) (nf : F a = none) (he : H a = some ho) : Sim K P (upd F a ho) m (h.set i .dead) H := by
  have x : Ext F m (upd F a ho) m := ⟨same_new nf, List.prefix_rfl⟩
  refine ⟨fun b u q => ?_, by simp [S.len], S.nd, S.live, fun j b u q1 q2 => ?_, fun q hq => ?_, S.pnd⟩
  · by_cases hb : b = a
    · subst hb
      rw [upd_same] at q
      cases q
      exact he
    · rw [upd_ne hb] at q
      exact S.sub b u q
  · by_cases hji : j = i
    · subst hji
      rw [List.getElem?_set] at q2
      simp at q2
      obtain ⟨_, q2⟩ := q2
      subst q2
      trivial
    · rw [List.getElem?_set_ne (Ne.symm hji)] at q2
      have ne : b ≠ a := fun z => hji (nodup_at S.nd (z ▸ q1) e)
      exact (S.at_ j b u q1 q2).mono x rfl fun z => (upd_ne ne).trans z
  · obtain ⟨h1, h2, h3⟩ := S.pin q hq
    exact ⟨h1, (upd_ne fun z => h3 (by rw [z]; exact List.mem_of_getElem? e)).trans h2, h3⟩
theorem ext_frz {a : Addr} {ho : HO} (nf : F a = none) : Ext F m (upd F a ho) m := ⟨same_new nf, List.prefix_rfl⟩
/-- a new hidden object -/
theorem Sim.hid (S : Sim K P F m h H) {p : Addr} {o : HO} (hp : H p = none) : Sim K ((p, o) :: P) F m h (upd H p o) := by
  have S2 := S.other (o := o) hp
  refine ⟨S2.sub, S2.len, S2.nd, S2.live, S2.at_, fun q hq => ?_, ?_⟩
  · rcases List.mem_cons.mp hq with rfl | hq
    · exact ⟨upd_same, S.free hp, S.notMem hp⟩
    · exact S2.pin q hq
  · rw [List.map_cons, List.nodup_cons]
    refine ⟨fun z => ?_, S.pnd⟩
    obtain ⟨q, hq, e⟩ := List.mem_map.mp z
    exact S.notPin hp q hq e
/-- a hidden object is written -/
theorem Sim.hidSet {p : Addr} {o o' : HO} (S : Sim K ((p, o) :: P) F m h H) : Sim K ((p, o') :: P) F m h (upd H p o') := by
  obtain ⟨h1, h2, h3⟩ := S.pin (p, o) List.mem_cons_self
  have nm : ∀ a, a ∈ m → a ≠ p := fun a ha z => h3 (z ▸ ha)
  have pn := S.pnd
  rw [List.map_cons, List.nodup_cons] at pn
  refine ⟨fun b u q => ?_, S.len, S.nd, fun a ha => ?_, fun i a u e1 e2 => ?_, fun q hq => ?_, by rw [List.map_cons, List.nodup_cons]; exact pn⟩
  · have ne : b ≠ p := fun z => by
      rw [z, h2] at q
      cases q
    rw [upd_ne ne]
    exact S.sub b u q
  · obtain ⟨u, q⟩ := S.live a ha
    exact ⟨u, (upd_ne (nm a ha)).trans q⟩
  · exact (S.at_ i a u e1 e2).mono .refl (upd_ne (nm a (List.mem_of_getElem? e1))) id
  · rcases List.mem_cons.mp hq with rfl | hq
    · exact ⟨upd_same, h2, h3⟩
    · obtain ⟨q1, q2, q3⟩ := S.pin q (List.mem_cons_of_mem _ hq)
      have ne : q.1 ≠ p := fun z => pn.1 (List.mem_map.mpr ⟨q, hq, z⟩)
      exact ⟨(upd_ne ne).trans q1, q2, q3⟩
/-- a hidden object is frozen -/
theorem Sim.hidFrz {p : Addr} {o : HO} (S : Sim K ((p, o) :: P) F m h H) : Sim K P (upd F p o) m h H := by
  obtain ⟨h1, h2, h3⟩ := S.pin (p, o) List.mem_cons_self
  have x : Ext F m (upd F p o) m := ext_frz h2
  have pn := S.pnd
  rw [List.map_cons, List.nodup_cons] at pn
  refine ⟨fun b u q => ?_, S.len, S.nd, S.live, fun i a u e1 e2 => ?_, fun q hq => ?_, pn.2⟩
  · by_cases hb : b = p
    · subst hb
      rw [upd_same] at q
      cases q
      exact h1
    · rw [upd_ne hb] at q
      exact S.sub b u q
  · have ne : a ≠ p := fun z => h3 (z ▸ List.mem_of_getElem? e1)
    exact (S.at_ i a u e1 e2).mono x rfl fun z => (upd_ne ne).trans z
  · obtain ⟨q1, q2, q3⟩ := S.pin q (List.mem_cons_of_mem _ hq)
    have ne : q.1 ≠ p := fun z => pn.1 (List.mem_map.mpr ⟨q, hq, z⟩)
    exact ⟨q1, (upd_ne ne).trans q2, q3⟩
/-- a hidden list becomes an own object -/
theorem Sim.hidOwn {p : Addr} {vs : List V} {xs : List D} (S : Sim K ((p, .lst vs) :: P) F m h H) (r : DenL K F m vs xs) : Sim K P F (m ++ [p]) (h ++ [.lst xs]) H := by
  obtain ⟨h1, h2, h3⟩ := S.pin (p, .lst vs) List.mem_cons_self
  have pn := S.pnd
  rw [List.map_cons, List.nodup_cons] at pn
  refine ⟨S.sub, by simp [S.len], ?_, fun a ha => ?_, fun i a u e1 e2 => ?_, fun q hq => ?_, pn.2⟩
  · refine List.nodup_append.mpr ⟨S.nd, by simp, fun a ha b hb => ?_⟩
    rw [List.mem_singleton] at hb
    subst hb
    exact fun z => h3 (z ▸ ha)
  · rcases List.mem_append.mp ha with ha | ha
    · exact S.live a ha
    · rw [List.mem_singleton] at ha
      subst ha
      exact ⟨_, h1⟩
  · by_cases hi : i < m.length
    · rw [List.getElem?_append_left hi] at e1
      rw [List.getElem?_append_left (by rw [← S.len]; exact hi)] at e2
      exact (S.at_ i a u e1 e2).mono ext_new rfl id
    · have hi2 : i = m.length := by
        have := (List.getElem?_eq_some_iff.mp e1).1
        simp at this
        omega
      subst hi2
      rw [S.len] at e2
      simp at e1 e2
      subst e1 e2
      exact ⟨vs, h1, r.mono ext_new, h2⟩
  · obtain ⟨q1, q2, q3⟩ := S.pin q (List.mem_cons_of_mem _ hq)
    refine ⟨q1, q2, fun z => ?_⟩
    rcases List.mem_append.mp z with z | z
    · exact q3 z
    · rw [List.mem_singleton] at z
      exact pn.1 (List.mem_map.mpr ⟨q, hq, z⟩)
/-- the whole own heap hidden, for a call that sees nothing of it -/
def hidP (F : Hp) (m : List Addr) (H : Hp) : Pins := m.filterMap fun a => if (F a).isNone then (H a).map fun o => (a, o) else none
theorem mem_hidP {q : Addr × HO} : q ∈ hidP F m H ↔ q.1 ∈ m ∧ F q.1 = none ∧ H q.1 = some q.2 := by
  unfold hidP
  rw [List.mem_filterMap]
  constructor
  · rintro ⟨a, ha, e⟩
    split at e
    · rename_i hf
      obtain ⟨o, ho, e2⟩ := Option.map_eq_some_iff.mp e
      subst e2
      exact ⟨ha, by simpa using hf, ho⟩
    · cases e
  · rintro ⟨h1, h2, h3⟩
    exact ⟨q.1, h1, by simp [h2, h3]⟩
theorem hidP_nodup : ∀ {m : List Addr}, m.Nodup → ((hidP F m H).map (·.1)).Nodup
  | [], _ => by simp [hidP]
  | a :: m, hn => by
    rw [List.nodup_cons] at hn
    have ih := hidP_nodup hn.2
    have key : hidP F (a :: m) H = (if (F a).isNone then (H a).map fun o => (a, o) else none).toList ++ hidP F m H := by
      unfold hidP
      rw [List.filterMap_cons]
      split <;> rename_i e <;> rw [e] <;> rfl
    rw [key]
    split
    · cases e : H a with
      | none => simpa using ih
      | some o =>
        simp only [Option.map_some, Option.toList_some, List.singleton_append, List.map_cons, List.nodup_cons]
        refine ⟨fun z => ?_, ih⟩
        obtain ⟨q, hq, e2⟩ := List.mem_map.mp z
        exact hn.1 (e2 ▸ (mem_hidP.mp hq).1)
    · simpa using ih
theorem Sim.hide (S : Sim K P F m h H) : Sim K (hidP F m H ++ P) F [] [] H where
  sub := S.sub
  len := rfl
  nd := List.nodup_nil
  live := fun _ z => by simp at z
  at_ := fun _ _ _ z => by simp at z
  pin := fun q hq => by
    rcases List.mem_append.mp hq with hq | hq
    · obtain ⟨_, h2, h3⟩ := mem_hidP.mp hq
      exact ⟨h3, h2, by simp⟩
    · exact ⟨(S.pin q hq).1, (S.pin q hq).2.1, by simp⟩
  pnd := by
    rw [List.map_append]
    refine List.nodup_append.mpr ⟨hidP_nodup S.nd, S.pnd, fun a ha b hb z => ?_⟩
    obtain ⟨q, hq, e⟩ := List.mem_map.mp ha
    obtain ⟨r, hr, e2⟩ := List.mem_map.mp hb
    exact (S.pin r hr).2.2 (by rw [e2, ← z, ← e]; exact (mem_hidP.mp hq).1)
theorem Sim.unhide {F' : Hp} {m' : List Addr} {h' : OH} {H' : Hp} (S : Sim K P F m h H) (s : Same F F') (S' : Sim K (hidP F m H ++ P) F' m' h' H') : Sim K P F' m h H' where
  sub := S'.sub
  len := S.len
  nd := S.nd
  live := fun a ha => by
    cases e : F a with
    | some o => exact ⟨o, S'.sub a o (s a o e)⟩
    | none =>
      obtain ⟨o, q⟩ := S.live a ha
      exact ⟨o, (S'.pin (a, o) (List.mem_append_left _ (mem_hidP.mpr ⟨ha, e, q⟩))).1⟩
  at_ := fun i a o e1 e2 => by
    have ha := List.mem_of_getElem? e1
    have key : ∀ u, H a = some u → F a = none → H' a = some u ∧ F' a = none := fun u q z =>
      let t := S'.pin (a, u) (List.mem_append_left _ (mem_hidP.mpr ⟨ha, z, q⟩)); ⟨t.1, t.2.1⟩
    have x : Ext F m F' m := ⟨s, List.prefix_rfl⟩
    have ok := S.at_ i a o e1 e2
    cases o with
    | lst xs =>
      obtain ⟨vs, h1, h2, h3⟩ := ok
      obtain ⟨k1, k2⟩ := key _ h1 h3
      exact ⟨vs, k1, h2.mono x, k2⟩
    | ins C fs =>
      obtain ⟨dx, fv, h1, h2, h3, h4⟩ := ok
      obtain ⟨k1, k2⟩ := key _ h1 h4
      exact ⟨dx, fv, k1, h2, h3.mono x, k2⟩
    | dct kvs =>
      obtain ⟨ks, h1, h2, h3⟩ := ok
      obtain ⟨k1, k2⟩ := key _ h1 h3
      exact ⟨ks, k1, h2.mono x, k2⟩
    | dead => trivial
  pin := fun q hq => by
    obtain ⟨h1, h2, _⟩ := S'.pin q (List.mem_append_right _ hq)
    exact ⟨h1, h2, (S.pin q hq).2.2⟩
  pnd := S.pnd
end
/-! ### values without own objects -/
mutual
def D.pure : D → Bool
  | .non | .bl _ | .int _ | .str _ => true
  | .lst xs | .tup xs | .scr xs => D.pureL xs
  | .dct kvs => D.pureK kvs
  | .obj _ fs => D.pureF fs
  | .ref _ => false
  | .exc _ => true
  | .excf _ _ d => d.pure
def D.pureL : List D → Bool
  | [] => true
  | x :: xs => x.pure && D.pureL xs
def D.pureK : List (Key × D) → Bool
  | [] => true
  | x :: xs => x.2.pure && D.pureK xs
def D.pureF : List (String × D) → Bool
  | [] => true
  | x :: xs => x.2.pure && D.pureF xs
end
theorem and2 {a b : Bool} (h : (a && b) = true) : a = true ∧ b = true := Bool.and_eq_true_iff.mp h
theorem Den.pureM {K : PySem.W.Frag} {F : Hp} {m m' : List Addr} {v : V} {d : D} (h : Den K F m v d) : d.pure = true → Den K F m' v d :=
  Den.rec (motive_1 := fun v d _ => d.pure = true → Den K F m' v d) (motive_2 := fun v d _ => D.pureL d = true → DenL K F m' v d) (motive_3 := fun v d _ => D.pureK d = true → DenK K F m' v d) (motive_4 := fun v d _ => D.pureF d = true → DenF K F m' v d)
    (fun _ => .non) (fun b _ => .bl b) (fun i _ => .int i) (fun x _ => .str x)
    (fun q _ r e => .lst q (r (by simpa [D.pure] using e))) (fun q _ r e => .scr q (r (by simpa [D.pure] using e))) (fun q _ r e => .tup q (r (by simpa [D.pure] using e))) (fun q _ r e => .dct q (r (by simpa [D.pure] using e))) (fun q t _ r e => .obj q t (r (by simpa [D.pure] using e)))
    (fun _ e => by simp [D.pure] at e) (fun q _ => .exc q) (fun q q2 _ r e => .excf q q2 (r (by simpa [D.pure] using e)))
    (fun _ => .nil) (fun _ _ a b e => by
      have e' := and2 (by simpa only [D.pureL] using e)
      exact .cons (a e'.1) (b e'.2))
    (fun _ => .nil) (fun _ _ a b e => by
      have e' := and2 (by simpa only [D.pureK] using e)
      exact .cons (a e'.1) (b e'.2))
    (fun _ => .nil) (fun _ _ a b e => by
      have e' := and2 (by simpa only [D.pureF] using e)
      exact .cons (a e'.1) (b e'.2)) h
theorem DenL.pureM {K : PySem.W.Frag} {F : Hp} {m m' : List Addr} : ∀ {vs : List V} {ds : List D}, DenL K F m vs ds → D.pureL ds = true → DenL K F m' vs ds
  | _, _, .nil, _ => .nil
  | _, _, .cons h t, e => by
    have e' := and2 (by simpa only [D.pureL] using e)
    exact .cons (h.pureM e'.1) (DenL.pureM t e'.2)
end HR
set_option Elab.async false
set_option linter.all false
set_option maxRecDepth 100000
set_option maxHeartbeats 2000000
/-! LayB: the judgements over plain functions; names, constants, operators, displays. -/
namespace HR
open PySem L2
/-- an exception's own dict -/
def PayD (K : PySem.W.Frag) (F : Hp) (m : List Addr) : Pay → Option Addr → Prop
  | none, od => od = none
  | some q, od => ∃ a v, od = some a ∧ F a = some (.xd [(Str.ofString q.1, v)]) ∧ Den K F m v q.2
/-- the slots -/
structure EnvR (K : PySem.W.Frag) (F : Hp) (m : List Addr) (σ : St) (e : Env') : Prop where
  len : σ.length = e.length
  at_ : ∀ (i : Nat) (d : D), e[i]? = some (some d) → ∃ v, σ[i]? = some (some v) ∧ Den K F m v d
abbrev Rel (β α : Type) := Hp → List Addr → β → α → Prop
def FinG {α β : Type} (K : PySem.W.Frag) (P : Pins) (W : WX) (σ : St) (rel : Rel β α) (Q : β → Hp → Prop) (F : Hp) (m : List Addr) : Res α → Prop
  | .ok d h' => ∀ v F' m' H', Ext F m F' m' → Sim K P F' m' h' H' → rel F' m' v d → Q v H'
  | .exc C p h' => ∀ od F' m' H', Ext F m F' m' → Sim K P F' m' h' H' → PayD K F' m' p od → W (.ref (He.ga K (Str.ofString C))) od σ H'
  | .bad => False
/-- the reading of a plain function -/
def rdG {α β : Type} (K : PySem.W.Frag) (W : WX) (rel : Rel β α) (f : Env' → OH → Res α) (σ : St) (H : Hp) (Q : β → Hp → Prop) : Prop :=
  ∃ P F m e h, Sim K P F m h H ∧ EnvR K F m σ e ∧ FinG K P W σ rel Q F m (f e h)
abbrev relB : Rel Bool Bool := fun _ _ b c => b = c
abbrev DE (X : Cx) (W : WX) (e : Expr) (f : SE) : Prop := PE X e (rdG X.K W (Den X.K) f)
abbrev DT (X : Cx) (W : WX) (e : Expr) (f : ST) : Prop := PT X e (rdG X.K W relB f)
abbrev DW (X : Cx) (W : WX) (e : Expr) (f : ST) : Prop := PW X e (rdG X.K W relB f)
abbrev DA (X : Cx) (W : WX) (es : List Expr) (f : SA) : Prop := PA X es (rdG X.K W (DenL X.K) f)
section
variable {K : PySem.W.Frag} {P : Pins} {W : WX} {σ : St} {F F' : Hp} {m m' : List Addr} {h : OH} {H : Hp} {e : Env'}
theorem EnvR.mono (x : Ext F m F' m') (E : EnvR K F m σ e) : EnvR K F' m' σ e :=
  ⟨E.len, fun i d q => let ⟨v, a, b⟩ := E.at_ i d q; ⟨v, a, b.mono x⟩⟩
theorem FinG.weak {α β : Type} {rel : Rel β α} {Q : β → Hp → Prop} (x : Ext F m F' m') : ∀ {r : Res α}, FinG K P W σ rel Q F m r → FinG K P W σ rel Q F' m' r
  | .ok _ _, q => fun v F2 m2 H2 y S d => q v F2 m2 H2 (x.trans y) S d
  | .exc _ _ _, q => fun od F2 m2 H2 y S d => q od F2 m2 H2 (x.trans y) S d
  | .bad, q => q
theorem FinG.ok {α β : Type} {rel : Rel β α} {Q : β → Hp → Prop} {a : α} {v : β} (q : FinG K P W σ rel Q F m (.ok a h)) (S : Sim K P F m h H) (r : rel F m v a) : Q v H := q v F m H .refl S r
theorem FinG.okX {α β : Type} {rel : Rel β α} {Q : β → Hp → Prop} {a : α} {v : β} (q : FinG K P W σ rel Q F m (.ok a h)) (x : Ext F m F' m') (S : Sim K P F' m' h H) (r : rel F' m' v a) : Q v H := q v F' m' H x S r
/-- one step -/
theorem rd_seq {α β γ δ : Type} {rel1 : Rel β α} {rel2 : Rel δ γ} {f : Env' → OH → Res α} {g : α → OH → Res γ} {Q : δ → Hp → Prop} {R : β → Hp → Prop} (S : Sim K P F m h H) (E : EnvR K F m σ e)
    (fin : FinG K P W σ rel2 Q F m ((f e h).bind g))
    (k : ∀ F' m' h' H' v a, Ext F m F' m' → Sim K P F' m' h' H' → EnvR K F' m' σ e → rel1 F' m' v a → FinG K P W σ rel2 Q F' m' (g a h') → R v H') : rdG K W rel1 f σ H R := by
  refine ⟨P, F, m, e, h, S, E, ?_⟩
  cases q : f e h with
  | ok a h1 =>
    rw [q] at fin
    exact fun v F1 m1 H1 x S1 r => k F1 m1 h1 H1 v a x S1 (E.mono x) r (FinG.weak x fin)
  | exc C p h1 =>
    rw [q] at fin
    exact fin
  | bad =>
    rw [q] at fin
    exact fin.elim
end
section
variable {X : Cx} {W : WX}
theorem PE.of {e : Expr} {t t' : TE} (h : PE X e t) (w : ∀ σ H Q, t' σ H Q → t σ H Q) : PE X e t' := ⟨fun pins s σ H Q I q => h.run pins s σ H Q I (w σ H Q q)⟩
theorem PT.of {e : Expr} {t t' : TT} (h : PT X e t) (w : ∀ σ H Q, t' σ H Q → t σ H Q) : PT X e t' := ⟨fun pins s σ H Q I q => h.run pins s σ H Q I (w σ H Q q)⟩
theorem PA.of {es : List Expr} {t t' : TA} (h : PA X es t) (w : ∀ σ H Q, t' σ H Q → t σ H Q) : PA X es t' := ⟨fun pos pins s σ H Q I q => h.run pos pins s σ H Q I (w σ H Q q)⟩
/-! ### names, constants -/
def sVar (i : Nat) : SE := fun e h => match e[i]? with
  | some (some d) => .ok d h
  | _ => .bad
def sC (d : D) : SE := fun _ h => .ok d h
theorem de_of_var {x : Expr} {i : Nat} (hx : PE X x (tVar i)) : DE X W x (sVar i) := PE.of hx fun σ H Q => by
  rintro ⟨P, F, m, e, h, S, E, fin⟩
  unfold sVar at fin
  cases q : e[i]? with
  | none => rw [q] at fin; exact fin.elim
  | some o =>
    cases o with
    | none => rw [q] at fin; exact fin.elim
    | some d =>
      rw [q] at fin
      obtain ⟨v, e1, r⟩ := E.at_ i d q
      exact ⟨v, e1, fin.ok S r⟩
theorem de_var (i : Nat) {x : Str} {pos : Pos} (hN : X.N[i]? = some x := by rfl) (hv : Vis X.env.scope x := by first | exact Or.inl rfl | exact Or.inr (Or.inl rfl) | exact Or.inr (Or.inr rfl)) (hd : (x == ("__debug__" : Str)) = false := by decide)
    (hcd : (x == ("__classdict__" : Str)) = false := by decide) : DE X W (.Name x pos) (sVar i) := de_of_var (pe_var hN hv hd hcd)
theorem de_of_const {x : Expr} {v : V} {d : D} (hx : PE X x (tC v)) (r : ∀ F m, Den X.K F m v d) : DE X W x (sC d) := PE.of hx fun σ H Q => by
  rintro ⟨P, F, m, e, h, S, E, fin⟩
  exact fin.ok S (r F m)
theorem de_int {i : Int} {j : Nat} {pos : Pos} : DE X W (.Constant (.int i) j pos) (sC (.int i)) := de_of_const pe_int fun _ _ => .int i
theorem de_bl {b : Bool} {j : Nat} {pos : Pos} : DE X W (.Constant (.bool b) j pos) (sC (.bl b)) := de_of_const pe_bl fun _ _ => .bl b
theorem de_non {j : Nat} {pos : Pos} : DE X W (.Constant .none j pos) (sC .non) := de_of_const pe_non fun _ _ => .non
theorem de_str {x : Str} {j : Nat} {pos : Pos} : DE X W (.Constant (.str x) j pos) (sC (.str x)) := de_of_const pe_str fun _ _ => .str x
theorem de_globI {x : Str} {i : Int} {pos : Pos} (hg : Gl X x) (hm : ∃ t, X.mg x = some (.int i t)) (hd : (x == ("__debug__" : Str)) = false := by decide) : DE X W (.Name x pos) (sC (.int i)) := by
  obtain ⟨t, e⟩ := hm
  exact de_of_const (pe_glob (v := .int i) hg e ⟨t, rfl⟩ hd) fun _ _ => .int i
theorem de_globS {x z : Str} {pos : Pos} (hg : Gl X x) (hm : ∃ t, X.mg x = some (.str z t)) (hd : (x == ("__debug__" : Str)) = false := by decide) : DE X W (.Name x pos) (sC (.str z)) := by
  obtain ⟨t, e⟩ := hm
  exact de_of_const (pe_glob (v := .str z) hg e ⟨t, rfl⟩ hd) fun _ _ => .str z
/-! ### two operands, one operand -/
def sBin (g : D → D → OH → Res D) (a b : SE) : SE := fun e h => (a e h).bind fun x h1 => (b e h1).bind fun y h2 => g x y h2
def sUn (g : D → OH → Res D) (a : SE) : SE := fun e h => (a e h).bind g
def OpH (K : PySem.W.Frag) (W : WX) (g : D → D → OH → Res D) (r : R2) : Prop :=
  ∀ (P : Pins) (F : Hp) (m : List Addr) (h : OH) (H : Hp) (σ : St) (Q : VK) (x y : V) (dx dy : D), Sim K P F m h H → Den K F m x dx → Den K F m y dy → FinG K P W σ (Den K) Q F m (g dx dy h) → r x y H Q
theorem rd_op {g : D → D → OH → Res D} {r : R2} (hg : OpH X.K W g r) {fa fb : SE} {σ : St} {H : Hp} {Q : VK} (q : rdG X.K W (Den X.K) (sBin g fa fb) σ H Q) : tOp r (rdG X.K W (Den X.K) fa) (rdG X.K W (Den X.K) fb) σ H Q := by
  obtain ⟨P, F, m, e, h, S, E, fin⟩ := q
  refine rd_seq S E fin fun F1 m1 h1 H1 x dx x1 S1 E1 r1 fin1 => ?_
  refine rd_seq S1 E1 fin1 fun F2 m2 h2 H2 y dy x2 S2 E2 r2 fin2 => ?_
  exact hg P F2 m2 h2 H2 σ Q x y dx dy S2 (r1.mono x2) r2 fin2
theorem de_op {a b : Expr} {op : Operator} {pos : Pos} {g : D → D → OH → Res D} {r : R2} {fa fb : SE} (ho : OpR X (binaryOp op) r) (hg : OpH X.K W g r) (ha : DE X W a fa) (hb : DE X W b fb) : DE X W (.BinOp a op b pos) (sBin g fa fb) :=
  PE.of (pe_op ho ha hb) fun _ _ _ => rd_op hg
theorem de_cmp {a b : Expr} {op : CmpOp} {pos : Pos} {g : D → D → OH → Res D} {r : R2} {fa fb : SE} (ho : OpR X (compareOp op) r) (hg : OpH X.K W g r) (hm : behindInMarks op b = false) (ha : DE X W a fa) (hb : DE X W b fb) : DE X W (.Compare a [op] [b] pos) (sBin g fa fb) :=
  PE.of (pe_cmpR ho ha hb hm) fun _ _ _ => rd_op hg
theorem de_un {a : Expr} {op : UnaryOp} {pos : Pos} {g : D → OH → Res D} {r : V → Hp → VK → Prop} {fa : SE} (ho : UnR X (unaryOp op) r)
    (hg : ∀ (P : Pins) (F : Hp) (m : List Addr) (h : OH) (H : Hp) (σ : St) (Q : VK) (x : V) (dx : D), Sim X.K P F m h H → Den X.K F m x dx → FinG X.K P W σ (Den X.K) Q F m (g dx h) → r x H Q) (ha : DE X W a fa) : DE X W (.UnaryOp op a pos) (sUn g fa) :=
  PE.of (pe_un ho ha) fun σ H Q => by
    rintro ⟨P, F, m, e, h, S, E, fin⟩
    exact rd_seq S E fin fun F1 m1 h1 H1 x dx x1 S1 E1 r1 fin1 => hg P F1 m1 h1 H1 σ Q x dx S1 r1 fin1
/-! ### what is read as a sequence -/
/-- lists that may be read by every rule -/
def lstAt (h : OH) : D → Option (List D)
  | .lst xs => some xs
  | .ref i => (match h[i]? with
    | some (.lst xs) => some xs
    | _ => none)
  | _ => none
def tupAt : D → Option (List D)
  | .tup xs => some xs
  | _ => none
def seqAt (h : OH) : D → Option (List D)
  | .lst xs => some xs
  | .tup xs => some xs
  | .scr xs => some xs
  | .ref i => (match h[i]? with
    | some (.lst xs) => some xs
    | _ => none)
  | _ => none
section
variable {K : PySem.W.Frag} {P : Pins} {F : Hp} {m : List Addr} {h : OH} {H : Hp} {v : V} {d : D} {xs : List D}
theorem Sim.own (S : Sim K P F m h H) {i : Nat} {a : Addr} (e : m[i]? = some a) : ∃ o, h[i]? = some o ∧ OOk K F m H a o := by
  have hi : i < h.length := by rw [← S.len]; exact (List.getElem?_eq_some_iff.mp e).1
  exact ⟨h[i], List.getElem?_eq_getElem hi, S.at_ i a _ e (List.getElem?_eq_getElem hi)⟩
theorem lstAt_ok (S : Sim K P F m h H) (r : Den K F m v d) (q : lstAt h d = some xs) : ∃ a vs, v = .ref a ∧ H a = some (.lst vs) ∧ DenL K F m vs xs := by
  cases r with
  | lst e t => cases q; exact ⟨_, _, rfl, S.sub _ _ e, t⟩
  | ref e =>
    obtain ⟨o, h1, h2⟩ := S.own e
    dsimp only [lstAt] at q
    rw [h1] at q
    cases o with
    | lst ys =>
      cases q
      obtain ⟨vs, k1, k2, _⟩ := h2
      exact ⟨_, vs, rfl, k1, k2⟩
    | _ => cases q
  | _ => cases q
theorem tupAt_ok (S : Sim K P F m h H) (r : Den K F m v d) (q : tupAt d = some xs) : ∃ a vs, v = .ref a ∧ H a = some (.tup vs) ∧ DenL K F m vs xs := by
  cases r with
  | tup e t => cases q; exact ⟨_, _, rfl, S.sub _ _ e, t⟩
  | _ => cases q
theorem seqAt_ok (S : Sim K P F m h H) (r : Den K F m v d) (q : seqAt h d = some xs) : ∃ a vs, v = .ref a ∧ (SqL K H a vs ∨ SqT K H a vs) ∧ DenL K F m vs xs := by
  cases r with
  | lst e t => cases q; exact ⟨_, _, rfl, .inl (.inl (.inl (S.sub _ _ e))), t⟩
  | scr e t => cases q; exact ⟨_, _, rfl, .inl (S.sub.seq e), t⟩
  | tup e t => cases q; exact ⟨_, _, rfl, .inr (.inl (.inl (S.sub _ _ e))), t⟩
  | ref e =>
    obtain ⟨o, h1, h2⟩ := S.own e
    dsimp only [seqAt] at q
    rw [h1] at q
    cases o with
    | lst ys =>
      cases q
      obtain ⟨vs, k1, k2, _⟩ := h2
      exact ⟨_, vs, rfl, .inl (.inl (.inl k1)), k2⟩
    | _ => cases q
  | _ => cases q
/-- lists alone -/
def lsqAt (h : OH) : D → Option (List D)
  | .tup _ => none
  | d => seqAt h d
theorem lsqAt_ok (S : Sim K P F m h H) (r : Den K F m v d) (q : lsqAt h d = some xs) : ∃ a vs, v = .ref a ∧ SqL K H a vs ∧ DenL K F m vs xs := by
  cases r with
  | lst e t => cases q; exact ⟨_, _, rfl, .inl (.inl (S.sub _ _ e)), t⟩
  | scr e t => cases q; exact ⟨_, _, rfl, S.sub.seq e, t⟩
  | ref e =>
    obtain ⟨a, vs, e1, e2, e3⟩ := lstAt_ok S (.ref e) (show lstAt h _ = some xs from q)
    exact ⟨a, vs, e1, .inl (.inl e2), e3⟩
  | _ => cases q
theorem FinG.bad_elim {α β : Type} {rel : Rel β α} {W : WX} {σ : St} {Q : β → Hp → Prop} {p : Prop} (q : FinG K P W σ rel Q F m (.bad : Res α)) : p := False.elim q
theorem den_int {i : Int} (r : Den K F m v (.int i)) : v = .int i := by cases r; rfl
theorem den_str {x : Str} (r : Den K F m v (.str x)) : v = .str x := by cases r; rfl
theorem den_bl {b : Bool} (r : Den K F m v (.bl b)) : v = .bl b := by cases r; rfl
end
/-- a new list -/
theorem FinG.newL {K : PySem.W.Frag} {P : Pins} {F : Hp} {m : List Addr} {h : OH} {H : Hp} {σ : St} {Q : VK} {vs : List V} {xs : List D} {p : Addr} (fin : FinG K P W σ (Den K) Q F m (.ok (.lst xs) h)) (S : Sim K P F m h H) (r : DenL K F m vs xs) (hp : H p = none) : Q (.ref p) (upd H p (.lst vs)) :=
  fin.okX (S.extF hp) (S.frozen hp) (.lst upd_same (r.mono (S.extF hp)))
theorem FinG.newT {K : PySem.W.Frag} {P : Pins} {F : Hp} {m : List Addr} {h : OH} {H : Hp} {σ : St} {Q : VK} {vs : List V} {xs : List D} {p : Addr} (fin : FinG K P W σ (Den K) Q F m (.ok (.tup xs) h)) (S : Sim K P F m h H) (r : DenL K F m vs xs) (hp : H p = none) : Q (.ref p) (upd H p (.tup vs)) :=
  fin.okX (S.extF hp) (S.frozen hp) (.tup upd_same (r.mono (S.extF hp)))
/-! ### arithmetic -/
def opI2 (f : Int → Int → D) (c : Int → Int → Bool) : D → D → OH → Res D
  | .int i, .int j, h => if c i j then .ok (f i j) h else .bad
  | _, _, _ => .bad
theorem opI2_h {f : Int → Int → D} {g : Int → Int → V} {c : Int → Int → Bool} {C : Int → Int → Prop} (hc : ∀ i j, c i j = true → C i j) (hf : ∀ (F : Hp) (m : List Addr) i j, Den X.K F m (g i j) (f i j)) : OpH X.K W (opI2 f c) (rI C g) := by
  intro P F m h H σ Q x y dx dy S r1 r2 fin
  cases r1 with
  | int i =>
    cases r2 with
    | int j =>
      dsimp only [opI2] at fin
      by_cases hh : c i j = true
      · rw [if_pos hh] at fin
        exact ⟨i, j, rfl, rfl, hc i j hh, fin.ok S (hf F m i j)⟩
      · rw [if_neg hh] at fin
        exact fin.bad_elim
    | _ => exact fin.bad_elim
  | _ => exact fin.bad_elim
theorem opI2_h0 {f : Int → Int → D} {g : Int → Int → V} (hf : ∀ (F : Hp) (m : List Addr) i j, Den X.K F m (g i j) (f i j)) : OpH X.K W (opI2 f fun _ _ => true) (rI0 g) := by
  intro P F m h H σ Q x y dx dy S r1 r2 fin
  obtain ⟨i, j, e1, e2, _, q⟩ := opI2_h (C := fun _ _ => True) (fun _ _ _ => trivial) hf P F m h H σ Q x y dx dy S r1 r2 fin
  exact ⟨i, j, e1, e2, q⟩
abbrev big : Nat := 1000000
/-- a + b -/
def opAdd : D → D → OH → Res D
  | .int i, .int j, h => .ok (.int (i + j)) h
  | .str x, .str y, h => if x.length + y.length ≤ big then .ok (.str (x ++ y)) h else .bad
  | .tup xs, .tup ys, h => if xs ≠ [] ∧ xs.length + ys.length ≤ big then .ok (.tup (xs ++ ys)) h else .bad
  | a, b, h => (match lstAt h a, lstAt h b with
    | some xs, some ys => if xs.length + ys.length ≤ big then .ok (.lst (xs ++ ys)) h else .bad
    | _, _ => .bad)
theorem big_line {n : Nat} (h : n ≤ big) : n ≤ sizeLine := Nat.le_trans h (by decide)
theorem big_lt {n : Nat} (h : n < big) : n < sizeLine := Nat.lt_of_lt_of_le h (by decide)
abbrev rAddU (K : PySem.W.Frag) : R2 := fun x y H Q => rI0 (fun i j => .int (i + j)) x y H Q ∨ ((∃ i j, x = .str i ∧ y = .str j ∧ i.length + j.length ≤ sizeLine ∧ Q (.str (i ++ j)) H) ∨ (rCat x y H Q ∨ rCatT K x y H Q))
theorem opAdd_h : OpH X.K W opAdd (rAddU X.K) := by
  intro P F m h H σ Q x y dx dy S r1 r2 fin
  have lists : ∀ {a b : D}, Den X.K F m x a → Den X.K F m y b → FinG X.K P W σ (Den X.K) Q F m (match lstAt h a, lstAt h b with
    | some xs, some ys => if xs.length + ys.length ≤ big then .ok (.lst (xs ++ ys)) h else .bad
    | _, _ => .bad) → rAddU X.K x y H Q := by
    intro a b q1 q2 fin
    cases e1 : lstAt h a with
    | none => rw [e1] at fin; exact fin.bad_elim
    | some xs =>
      cases e2 : lstAt h b with
      | none => rw [e1, e2] at fin; exact fin.bad_elim
      | some ys =>
        rw [e1, e2] at fin
        dsimp only at fin
        obtain ⟨l, vs, rfl, hl, rl⟩ := lstAt_ok S q1 e1
        obtain ⟨l2, ws, rfl, hl2, rl2⟩ := lstAt_ok S q2 e2
        by_cases hz : xs.length + ys.length ≤ big
        · rw [if_pos hz] at fin
          exact .inr (.inr (.inl ⟨l, l2, vs, ws, rfl, rfl, hl, hl2, by rw [rl.length, rl2.length]; exact big_line hz, fun p hp => fin.newL S (rl.append rl2) hp⟩))
        · rw [if_neg hz] at fin
          exact fin.bad_elim
  cases dx with
  | int i =>
    cases dy with
    | int j =>
      cases den_int r1
      cases den_int r2
      exact .inl ⟨i, j, rfl, rfl, fin.ok S (.int _)⟩
    | _ => exact lists r1 r2 fin
  | str a =>
    cases dy with
    | str b =>
      cases den_str r1
      cases den_str r2
      dsimp only [opAdd] at fin
      by_cases hz : a.length + b.length ≤ big
      · rw [if_pos hz] at fin
        exact .inr (.inl ⟨a, b, rfl, rfl, big_line hz, fin.ok S (.str _)⟩)
      · rw [if_neg hz] at fin
        exact fin.bad_elim
    | _ => exact lists r1 r2 fin
  | tup xs =>
    cases dy with
    | tup ys =>
      dsimp only [opAdd] at fin
      by_cases hz : xs ≠ [] ∧ xs.length + ys.length ≤ big
      · rw [if_pos hz] at fin
        obtain ⟨l, vs, rfl, hl, rl⟩ := tupAt_ok S r1 (rfl : tupAt (.tup xs) = some xs)
        obtain ⟨l2, ws, rfl, hl2, rl2⟩ := tupAt_ok S r2 (rfl : tupAt (.tup ys) = some ys)
        refine .inr (.inr (.inr ⟨l, l2, vs, ws, rfl, rfl, .inl (.inl hl), .inl (.inl hl2), fun z => hz.1 ?_, by rw [rl.length, rl2.length]; exact big_line hz.2, ?_⟩))
        · subst z
          cases rl
          rfl
        · refine ⟨fun z => ?_, fun _ p hp => fin.newT S (rl.append rl2) hp⟩
          subst z
          cases rl2
          rw [List.append_nil] at fin
          exact fin.ok S r1
      · rw [if_neg hz] at fin
        exact fin.bad_elim
    | _ => exact lists r1 r2 fin
  | _ => exact lists r1 r2 fin
theorem or_add : OpR X (binaryOp .Add) (rAddU X.K) := op_add.or (op_add_str.or (op_cat.or op_catT))
theorem de_add {a b : Expr} {pos : Pos} {fa fb : SE} (ha : DE X W a fa) (hb : DE X W b fb) : DE X W (.BinOp a .Add b pos) (sBin opAdd fa fb) := de_op or_add opAdd_h ha hb
abbrev opSub := opI2 (fun i j => .int (i - j)) fun _ _ => true
theorem de_sub {a b : Expr} {pos : Pos} {fa fb : SE} (ha : DE X W a fa) (hb : DE X W b fb) : DE X W (.BinOp a .Sub b pos) (sBin opSub fa fb) := de_op op_sub (opI2_h0 fun _ _ _ _ => .int _) ha hb
/-- a product: one side below 2^64, or both not too large -/
def mulOk (i j : Int) : Bool := decide (i.natAbs < 2 ^ 64) || decide (j.natAbs < 2 ^ 64) || decide (i.natAbs.log2 + j.natAbs.log2 < 1000000)
def opMul : D → D → OH → Res D
  | .int i, .int j, h => if mulOk i j then .ok (.int (i * j)) h else .bad
  | a, .int k, h => (match lstAt h a with
    | some xs => if -(2 ^ 63) ≤ k ∧ k < 2 ^ 63 ∧ xs.length * k.toNat ≤ big then .ok (.lst (List.replicate k.toNat xs).flatten) h else .bad
    | none => .bad)
  | _, _, _ => .bad
theorem mulOk_c {i j : Int} (h : mulOk i j = true) : CMul i j ∨ CMulW i j := by
  unfold mulOk at h
  simp only [Bool.or_eq_true, decide_eq_true_eq] at h
  rcases h with (h | h) | h
  · exact .inl (.inl (by constructor <;> omega))
  · exact .inl (.inr (by constructor <;> omega))
  · exact .inr h
abbrev rMulU : R2 := fun x y H Q => rI CMul (fun i j => .int (i * j)) x y H Q ∨ (rI CMulW (fun i j => .int (i * j)) x y H Q ∨ rRep x y H Q)
theorem opMul_h : OpH X.K W opMul rMulU := by
  intro P F m h H σ Q x y dx dy S r1 r2 fin
  have lists : ∀ {a : D} {k : Int}, Den X.K F m x a → y = .int k → FinG X.K P W σ (Den X.K) Q F m (match lstAt h a with
    | some xs => if -(2 ^ 63) ≤ k ∧ k < 2 ^ 63 ∧ xs.length * k.toNat ≤ big then .ok (.lst (List.replicate k.toNat xs).flatten) h else .bad
    | none => .bad) → rMulU x y H Q := by
    intro a k q1 ey fin
    cases e1 : lstAt h a with
    | none => rw [e1] at fin; exact fin.bad_elim
    | some xs =>
      rw [e1] at fin
      dsimp only at fin
      obtain ⟨l, vs, rfl, hl, rl⟩ := lstAt_ok S q1 e1
      by_cases hz : -(2 ^ 63) ≤ k ∧ k < 2 ^ 63 ∧ xs.length * k.toNat ≤ big
      · rw [if_pos hz] at fin
        exact .inr (.inr ⟨l, k, vs, rfl, ey, hl, hz.1, hz.2.1, by rw [rl.length]; exact big_line hz.2.2, fun p hp => fin.newL S (rl.rep _) hp⟩)
      · rw [if_neg hz] at fin
        exact fin.bad_elim
  cases dy with
  | int j =>
    cases den_int r2
    cases dx with
    | int i =>
      cases den_int r1
      dsimp only [opMul] at fin
      by_cases hm : mulOk i j = true
      · rw [if_pos hm] at fin
        rcases mulOk_c hm with c | c
        · exact .inl ⟨i, j, rfl, rfl, c, fin.ok S (.int _)⟩
        · exact .inr (.inl ⟨i, j, rfl, rfl, c, fin.ok S (.int _)⟩)
      · rw [if_neg hm] at fin
        exact fin.bad_elim
    | _ => exact lists r1 rfl fin
  | _ => cases dx <;> exact fin.bad_elim
theorem de_mul {a b : Expr} {pos : Pos} {fa fb : SE} (ha : DE X W a fa) (hb : DE X W b fb) : DE X W (.BinOp a .Mult b pos) (sBin opMul fa fb) := de_op (op_mul.or (op_mulW.or op_rep)) opMul_h ha hb
def divOk (_ j : Int) : Bool := decide (0 < j) && decide (j.natAbs.log2 < 9000)
abbrev opDiv := opI2 (fun i j => .int (i / j)) divOk
abbrev opMod := opI2 (fun i j => .int (i % j)) fun _ j => decide (0 < j)
theorem de_div {a b : Expr} {pos : Pos} {fa fb : SE} (ha : DE X W a fa) (hb : DE X W b fb) : DE X W (.BinOp a .FloorDiv b pos) (sBin opDiv fa fb) :=
  de_op op_fdivW (opI2_h (fun i j h => by
    unfold divOk at h
    simp only [Bool.and_eq_true, decide_eq_true_eq] at h
    exact h) fun _ _ _ _ => .int _) ha hb
theorem de_mod {a b : Expr} {pos : Pos} {fa fb : SE} (ha : DE X W a fa) (hb : DE X W b fb) : DE X W (.BinOp a .Mod b pos) (sBin opMod fa fb) := de_op op_mod (opI2_h (fun i j h => of_decide_eq_true h) fun _ _ _ _ => .int _) ha hb
abbrev opPow := opI2 (fun i j => .int (i ^ j.toNat)) fun i j => decide (0 ≤ j) && decide (j ≤ 1000000) && decide (i.natAbs < 2 ^ 64)
theorem de_pow {a b : Expr} {pos : Pos} {fa fb : SE} (ha : DE X W a fa) (hb : DE X W b fb) : DE X W (.BinOp a .Pow b pos) (sBin opPow fa fb) :=
  de_op op_pow (opI2_h (fun i j h => by
    simp only [Bool.and_eq_true, decide_eq_true_eq] at h
    exact ⟨h.1.1, h.1.2, h.2⟩) fun _ _ _ _ => .int _) ha hb
def opNeg : D → OH → Res D
  | .int i, h => .ok (.int (-i)) h
  | _, _ => .bad
theorem de_neg {a : Expr} {pos : Pos} {fa : SE} (ha : DE X W a fa) : DE X W (.UnaryOp .USub a pos) (sUn opNeg fa) := de_un un_neg (fun P F m h H σ Q x dx S r fin => by
  cases r with
  | int i => exact ⟨i, rfl, fin.ok S (.int _)⟩
  | _ => exact fin.bad_elim) ha
/-! ### order -/
abbrev opLt := opI2 (fun i j => .bl (decide (i < j))) fun _ _ => true
abbrev opLe := opI2 (fun i j => .bl (decide (i ≤ j))) fun _ _ => true
abbrev opGt := opI2 (fun i j => .bl (decide (j < i))) fun _ _ => true
abbrev opGe := opI2 (fun i j => .bl (decide (j ≤ i))) fun _ _ => true
theorem de_le {a b : Expr} {pos : Pos} {fa fb : SE} (ha : DE X W a fa) (hb : DE X W b fb) : DE X W (.Compare a [.LtE] [b] pos) (sBin opLe fa fb) := de_cmp op_le (opI2_h0 fun _ _ _ _ => .bl _) (nomark _) ha hb
theorem de_ge {a b : Expr} {pos : Pos} {fa fb : SE} (ha : DE X W a fa) (hb : DE X W b fb) : DE X W (.Compare a [.GtE] [b] pos) (sBin opGe fa fb) := de_cmp op_ge (opI2_h0 fun _ _ _ _ => .bl _) (nomark _) ha hb
/-- a op b op' c -/
def sChain (g g' : D → D → OH → Res D) (a b c : SE) : SE := fun e h => (a e h).bind fun x h1 => (b e h1).bind fun y h2 => (g x y h2).bind fun z h3 => match z with
  | .bl true => (c e h3).bind fun u h4 => g' y u h4
  | .bl false => .ok (.bl false) h3
  | _ => .bad
/-! ### is None, is a bool -/
def opIs (neg : Bool) : D → D → OH → Res D
  | a, .non, h => .ok (.bl (match a with
    | .non => !neg
    | _ => neg)) h
  | _, _, _ => .bad
theorem den_is {K : PySem.W.Frag} {F : Hp} {m : List Addr} {v : V} {d : D} (r : Den K F m v d) : decide (v = .non) = (match d with
    | .non => true
    | _ => false) := by
  cases r <;> simp
theorem opIs_h : OpH X.K W (opIs false) (fun x y H Q => y = .non ∧ Q (.bl (decide (x = .non))) H) := by
  intro P F m h H σ Q x y dx dy S r1 r2 fin
  cases r2 with
  | non =>
    refine ⟨rfl, ?_⟩
    rw [den_is r1]
    cases dx <;> exact FinG.ok fin S (.bl _)
  | _ => cases dx <;> exact fin.bad_elim
theorem opIsNot_h : OpH X.K W (opIs true) (fun x y H Q => y = .non ∧ Q (.bl (!decide (x = .non))) H) := by
  intro P F m h H σ Q x y dx dy S r1 r2 fin
  cases r2 with
  | non =>
    refine ⟨rfl, ?_⟩
    rw [den_is r1]
    cases dx <;> exact FinG.ok fin S (.bl _)
  | _ => cases dx <;> exact fin.bad_elim
theorem de_is {a b : Expr} {pos : Pos} {fa fb : SE} (ha : DE X W a fa) (hb : DE X W b fb) : DE X W (.Compare a [.Is] [b] pos) (sBin (opIs false) fa fb) := de_cmp op_isN opIs_h (nomark _) ha hb
/-! ### arguments, displays -/
def sNil : SA := fun _ h => .ok [] h
def sCons (a : SE) (r : SA) : SA := fun e h => (a e h).bind fun x h1 => (r e h1).bind fun xs h2 => .ok (x :: xs) h2
theorem da_nil : DA X W [] sNil := PA.of pa_nil fun σ H Q => by
  rintro ⟨P, F, m, e, h, S, E, fin⟩
  exact fin.ok S .nil
theorem da_cons {a : Expr} {es : List Expr} {fa : SE} {fr : SA} (ha : DE X W a fa) (hr : DA X W es fr) (hs : starEach (a :: es) X.env = (false, eval a X.env) :: starEach es X.env := by rfl) : DA X W (a :: es) (sCons fa fr) :=
  PA.of (pa_cons ha hr hs) fun σ H Q => by
    rintro ⟨P, F, m, e, h, S, E, fin⟩
    refine rd_seq S E fin fun F1 m1 h1 H1 x dx x1 S1 E1 r1 fin1 => ?_
    refine rd_seq S1 E1 fin1 fun F2 m2 h2 H2 y dy x2 S2 E2 r2 fin2 => ?_
    exact fin2.ok S2 (.cons (r1.mono x2) r2)
def sTup (a : SA) : SE := fun e h => (a e h).bind fun xs h1 => if xs.length ≤ big then .ok (.tup xs) h1 else .bad
def sLst (a : SA) : SE := fun e h => (a e h).bind fun xs h1 => if xs.length ≤ big then .ok (.lst xs) h1 else .bad
/-- .. as an own object -/
def sLstO (a : SA) : SE := fun e h => (a e h).bind fun xs h1 => if xs.length ≤ big then .ok (.ref h1.length) (h1 ++ [.lst xs]) else .bad
theorem de_tup {es : List Expr} {j : Nat} {pos : Pos} {fa : SA} (ha : DA X W es fa) : DE X W (.Tuple es j pos) (sTup fa) := PE.of (pe_tup ha) fun σ H Q => by
  rintro ⟨P, F, m, e, h, S, E, fin⟩
  refine rd_seq S E fin fun F1 m1 h1 H1 x dx x1 S1 E1 r1 fin1 => ?_
  by_cases hz : dx.length ≤ big
  · rw [if_pos hz] at fin1
    exact ⟨by rw [r1.length]; exact big_line hz, fun p hp => fin1.newT S1 r1 hp⟩
  · rw [if_neg hz] at fin1
    exact fin1.bad_elim
theorem de_lst {es : List Expr} {pos : Pos} {fa : SA} (ha : DA X W es fa) : DE X W (.List es pos) (sLst fa) := PE.of (pe_lst ha) fun σ H Q => by
  rintro ⟨P, F, m, e, h, S, E, fin⟩
  refine rd_seq S E fin fun F1 m1 h1 H1 x dx x1 S1 E1 r1 fin1 => ?_
  by_cases hz : dx.length ≤ big
  · rw [if_pos hz] at fin1
    exact ⟨by rw [r1.length]; exact big_line hz, fun p hp => fin1.newL S1 r1 hp⟩
  · rw [if_neg hz] at fin1
    exact fin1.bad_elim
/-- a new own list -/
theorem FinG.ownL {K : PySem.W.Frag} {P : Pins} {F : Hp} {m : List Addr} {h : OH} {H : Hp} {σ : St} {Q : VK} {vs : List V} {xs : List D} {p : Addr} (fin : FinG K P W σ (Den K) Q F m (.ok (.ref h.length) (h ++ [.lst xs]))) (S : Sim K P F m h H) (r : DenL K F m vs xs) (hp : H p = none) : Q (.ref p) (upd H p (.lst vs)) :=
  fin.okX ext_new (S.alloc hp ⟨vs, upd_same, r.mono ext_new, S.free hp⟩) (.ref (by rw [← S.len]; simp))
theorem de_lstO {es : List Expr} {pos : Pos} {fa : SA} (ha : DA X W es fa) : DE X W (.List es pos) (sLstO fa) := PE.of (pe_lst ha) fun σ H Q => by
  rintro ⟨P, F, m, e, h, S, E, fin⟩
  refine rd_seq S E fin fun F1 m1 h1 H1 x dx x1 S1 E1 r1 fin1 => ?_
  by_cases hz : dx.length ≤ big
  · rw [if_pos hz] at fin1
    exact ⟨by rw [r1.length]; exact big_line hz, fun p hp => fin1.ownL S1 r1 hp⟩
  · rw [if_neg hz] at fin1
    exact fin1.bad_elim
end
end HR
set_option Elab.async false
set_option linter.all false
set_option maxRecDepth 100000
set_option maxHeartbeats 2000000
/-! LayC: tests, equality, subscripts, slices, calls of built-ins, attributes, methods of lists. -/
namespace HR
open PySem L2
/-! ### data as a whole -/
mutual
def pyG (get : Nat → Option (List PyData)) : D → Option PyData
  | .non => some .none
  | .bl b => some (.bool b)
  | .int i => some (.int i)
  | .str x => some (.str x)
  | .lst xs => (pyGL get xs).map .list
  | .scr xs => (pyGL get xs).map .list
  | .tup xs => (pyGL get xs).map .tuple
  | .ref i => (get i).map .list
  | .dct _ => none
  | .obj _ _ => none
  | .exc _ => none
  | .excf _ _ _ => none
def pyGL (get : Nat → Option (List PyData)) : List D → Option (List PyData)
  | [] => some []
  | x :: xs => match pyG get x, pyGL get xs with
    | some d, some ds => some (d :: ds)
    | _, _ => none
end
def pyGet (h : OH) : Nat → Nat → Option (List PyData)
  | 0, _ => none
  | n + 1, i => match h[i]? with
    | some (.lst xs) => pyGL (pyGet h n) xs
    | _ => none
/-- what a value is to == and repr -/
def pyAt (h : OH) (d : D) : Option PyData := pyG (pyGet h 4) d
section
variable {K : PySem.W.Frag} {P : Pins} {F : Hp} {m : List Addr} {h : OH} {H : Hp}
theorem dp_of (S : Sim K P F m h H) {get : Nat → Option (List PyData)} (hg : ∀ i a ds, m[i]? = some a → get i = some ds → ∃ vs, H a = some (.lst vs) ∧ DpAll K H vs ds) {v : V} {d : D} (r : Den K F m v d) : ∀ p, pyG get d = some p → Dp K H v p :=
  Den.rec (motive_1 := fun v d _ => ∀ p, pyG get d = some p → Dp K H v p) (motive_2 := fun vs ds _ => ∀ ps, pyGL get ds = some ps → DpAll K H vs ps) (motive_3 := fun _ _ _ => True) (motive_4 := fun _ _ _ => True)
    (fun p e => by simp only [pyG, Option.some.injEq] at e; subst e; exact .non) (fun b p e => by simp only [pyG, Option.some.injEq] at e; subst e; exact .bl b)
    (fun i p e => by simp only [pyG, Option.some.injEq] at e; subst e; exact .int i) (fun x p e => by simp only [pyG, Option.some.injEq] at e; subst e; exact .str x)
    (fun q _ ih p e => by
      simp only [pyG, Option.map_eq_some_iff] at e
      obtain ⟨ps, e1, e2⟩ := e
      subst e2
      exact .lst (.inl (.inl (S.sub _ _ q))) (ih ps e1))
    (fun q _ ih p e => by
      simp only [pyG, Option.map_eq_some_iff] at e
      obtain ⟨ps, e1, e2⟩ := e
      subst e2
      exact .lst (S.sub.seq q) (ih ps e1))
    (fun q _ ih p e => by
      simp only [pyG, Option.map_eq_some_iff] at e
      obtain ⟨ps, e1, e2⟩ := e
      subst e2
      exact .tup (.inl (.inl (S.sub _ _ q))) (ih ps e1))
    (fun _ _ _ p e => by simp only [pyG] at e; cases e) (fun _ _ _ _ p e => by simp only [pyG] at e; cases e)
    (fun {a i} q p e => by
      simp only [pyG, Option.map_eq_some_iff] at e
      obtain ⟨ps, e1, e2⟩ := e
      subst e2
      obtain ⟨vs, k1, k2⟩ := hg i a ps q e1
      exact .lst (.inl (.inl k1)) k2)
    (fun _ p e => by simp only [pyG] at e; cases e) (fun _ _ _ _ p e => by simp only [pyG] at e; cases e)
    (fun ps e => by simp only [pyGL, Option.some.injEq] at e; subst e; exact .nil)
    (fun {v d vs ds} _ _ ih1 ih2 ps e => by
      simp only [pyGL] at e
      cases e1 : pyG get d with
      | none => rw [e1] at e; simp at e
      | some p =>
        cases e2 : pyGL get ds with
        | none => rw [e1, e2] at e; simp at e
        | some qs =>
          rw [e1, e2] at e
          simp only [Option.some.injEq] at e
          subst e
          exact .cons (ih1 p e1) (ih2 qs e2))
    trivial (fun _ _ _ _ => trivial) trivial (fun _ _ _ _ => trivial) r
theorem dpL_of (S : Sim K P F m h H) {get : Nat → Option (List PyData)} (hg : ∀ i a ds, m[i]? = some a → get i = some ds → ∃ vs, H a = some (.lst vs) ∧ DpAll K H vs ds) : ∀ {vs : List V} {ds : List D}, DenL K F m vs ds → ∀ ps, pyGL get ds = some ps → DpAll K H vs ps
  | _, _, .nil, ps, e => by simp only [pyGL, Option.some.injEq] at e; subst e; exact .nil
  | _, d :: ds, .cons a b, ps, e => by
    simp only [pyGL] at e
    cases e1 : pyG get d with
    | none => rw [e1] at e; simp at e
    | some p =>
      cases e2 : pyGL get ds with
      | none => rw [e1, e2] at e; simp at e
      | some qs =>
        rw [e1, e2] at e
        simp only [Option.some.injEq] at e
        subst e
        exact .cons (dp_of S hg a p e1) (dpL_of S hg b qs e2)
theorem pyGet_ok (S : Sim K P F m h H) : ∀ n i a ds, m[i]? = some a → pyGet h n i = some ds → ∃ vs, H a = some (.lst vs) ∧ DpAll K H vs ds
  | 0, _, _, _, _, e => by simp [pyGet] at e
  | n + 1, i, a, ds, e1, e => by
    obtain ⟨o, h1, h2⟩ := S.own e1
    simp only [pyGet, h1] at e
    cases o with
    | lst xs =>
      obtain ⟨vs, k1, k2, _⟩ := h2
      exact ⟨vs, k1, dpL_of S (fun j b es q1 q2 => pyGet_ok S n j b es q1 q2) k2 ds e⟩
    | _ => cases e
theorem pyAt_ok (S : Sim K P F m h H) {v : V} {d : D} {p : PyData} (r : Den K F m v d) (e : pyAt h d = some p) : Dp K H v p := dp_of S (fun i a ds q1 q2 => pyGet_ok S 4 i a ds q1 q2) r p e
end
@[simp] theorem pyAt_int {h : OH} {i : Int} : pyAt h (.int i) = some (.int i) := by simp [pyAt, pyG]
@[simp] theorem pyAt_bl {h : OH} {b : Bool} : pyAt h (.bl b) = some (.bool b) := by simp [pyAt, pyG]
@[simp] theorem pyAt_str {h : OH} {x : Str} : pyAt h (.str x) = some (.str x) := by simp [pyAt, pyG]
@[simp] theorem pyAt_non {h : OH} : pyAt h .non = some .none := by simp [pyAt, pyG]
section
variable {X : Cx} {W : WX}
def opEq (neg : Bool) : D → D → OH → Res D := fun a b h => match pyAt h a, pyAt h b with
  | some p, some q => if SeqAt.shaped p && SeqAt.shaped q then .ok (.bl (if neg then !PyData.eqv p q else PyData.eqv p q)) h else .bad
  | _, _ => .bad
theorem opEq_h (neg : Bool) : OpH X.K W (opEq neg) (if neg then rNeD X.K else rEqD X.K) := by
  intro P F m h H σ Q x y dx dy S r1 r2 fin
  dsimp only [opEq] at fin
  cases e1 : pyAt h dx with
  | none => rw [e1] at fin; exact fin.bad_elim
  | some p =>
    cases e2 : pyAt h dy with
    | none => rw [e1, e2] at fin; exact fin.bad_elim
    | some q =>
      rw [e1, e2] at fin
      dsimp only at fin
      by_cases hs : (SeqAt.shaped p && SeqAt.shaped q) = true
      · rw [if_pos hs] at fin
        obtain ⟨s1, s2⟩ := and2 hs
        cases neg with
        | true => exact ⟨p, q, pyAt_ok S r1 e1, pyAt_ok S r2 e2, s1, s2, fin.ok S (.bl _)⟩
        | false => exact ⟨p, q, pyAt_ok S r1 e1, pyAt_ok S r2 e2, s1, s2, fin.ok S (.bl _)⟩
      · rw [if_neg hs] at fin
        exact fin.bad_elim
theorem de_eq {a b : Expr} {pos : Pos} {fa fb : SE} (hu : X.A.units + 64 < cLine) (ha : DE X W a fa) (hb : DE X W b fb) : DE X W (.Compare a [.Eq] [b] pos) (sBin (opEq false) fa fb) := de_cmp (op_eqD hu) (opEq_h false) (nomark _) ha hb
/-! ### in -/
end
/-! ### tests -/
def sTest (f : SE) : ST := fun e h => (f e h).bind fun d h1 => match d with
  | .bl b => .ok b h1
  | _ => .bad
def sAnd (a b : ST) : ST := fun e h => (a e h).bind fun c h1 => if c then b e h1 else .ok false h1
def sOr (a b : ST) : ST := fun e h => (a e h).bind fun c h1 => if c then .ok true h1 else b e h1
def sNot (a : ST) : ST := fun e h => (a e h).bind fun c h1 => .ok (!c) h1
/-- a test as a value -/
def sVal (a : ST) : SE := fun e h => (a e h).bind fun c h1 => .ok (.bl c) h1
def sIf (c : ST) (a b : SE) : SE := fun e h => (c e h).bind fun t h1 => if t then a e h1 else b e h1
section
variable {X : Cx} {W : WX}
theorem rd_test {f : SE} {σ : St} {H : Hp} {Q : Bool → Hp → Prop} (q : rdG X.K W relB (sTest f) σ H Q) : tTest (rdG X.K W (Den X.K) f) σ H Q := by
  obtain ⟨P, F, m, e, h, S, E, fin⟩ := q
  refine rd_seq S E fin fun F1 m1 h1 H1 x dx x1 S1 E1 r1 fin1 => ?_
  cases r1 with
  | bl b => exact ⟨b, rfl, fin1.ok S1 rfl⟩
  | _ => exact fin1.bad_elim
/-- a call, a name, an attribute, an item as a test -/
theorem dt_val {a : Expr} {f : SE} (ha : DE X W a f) (he : ∀ whole, isTrue a X.env whole = (do let v ← whole; standAt a.pos; holding [v] (truthy v)) := by intro _; rfl) : DT X W a (sTest f) := PT.of (pt_val ha he) fun _ _ _ => rd_test
theorem dt_cmp {a b : Expr} {op : CmpOp} {pos : Pos} {g : D → D → OH → Res D} {r : R2} {fa fb : SE} (ho : OpR X (compareOp op) r) (hg : OpH X.K W g r) (hm : behindInMarks op b = false) (ha : DE X W a fa) (hb : DE X W b fb) : DT X W (.Compare a [op] [b] pos) (sTest (sBin g fa fb)) :=
  PT.of (pt_cmpR ho ha hb hm) fun σ H Q q => by
    obtain ⟨P, F, m, e, h, S, E, fin⟩ := q
    have key : rdG X.K W (Den X.K) (sBin g fa fb) σ H (fun x H' => ∃ k, x = .bl k ∧ Q k H') := rd_test ⟨P, F, m, e, h, S, E, fin⟩
    exact rd_op hg key
theorem dt_eq {a b : Expr} {pos : Pos} {fa fb : SE} (hu : X.A.units + 64 < cLine) (ha : DE X W a fa) (hb : DE X W b fb) : DT X W (.Compare a [.Eq] [b] pos) (sTest (sBin (opEq false) fa fb)) := dt_cmp (op_eqD hu) (opEq_h false) (nomark _) ha hb
theorem dt_ne {a b : Expr} {pos : Pos} {fa fb : SE} (hu : X.A.units + 64 < cLine) (ha : DE X W a fa) (hb : DE X W b fb) : DT X W (.Compare a [.NotEq] [b] pos) (sTest (sBin (opEq true) fa fb)) := dt_cmp (op_neD hu) (opEq_h true) (nomark _) ha hb
theorem dt_lt {a b : Expr} {pos : Pos} {fa fb : SE} (ha : DE X W a fa) (hb : DE X W b fb) : DT X W (.Compare a [.Lt] [b] pos) (sTest (sBin opLt fa fb)) := dt_cmp op_lt (opI2_h0 fun _ _ _ _ => .bl _) (nomark _) ha hb
theorem dt_gt {a b : Expr} {pos : Pos} {fa fb : SE} (ha : DE X W a fa) (hb : DE X W b fb) : DT X W (.Compare a [.Gt] [b] pos) (sTest (sBin opGt fa fb)) := dt_cmp op_gt (opI2_h0 fun _ _ _ _ => .bl _) (nomark _) ha hb
theorem dt_ge {a b : Expr} {pos : Pos} {fa fb : SE} (ha : DE X W a fa) (hb : DE X W b fb) : DT X W (.Compare a [.GtE] [b] pos) (sTest (sBin opGe fa fb)) := dt_cmp op_ge (opI2_h0 fun _ _ _ _ => .bl _) (nomark _) ha hb
theorem dt_is {a b : Expr} {pos : Pos} {fa fb : SE} (ha : DE X W a fa) (hb : DE X W b fb) : DT X W (.Compare a [.Is] [b] pos) (sTest (sBin (opIs false) fa fb)) := dt_cmp op_isN opIs_h (nomark _) ha hb
theorem dt_isnot {a b : Expr} {pos : Pos} {fa fb : SE} (ha : DE X W a fa) (hb : DE X W b fb) : DT X W (.Compare a [.IsNot] [b] pos) (sTest (sBin (opIs true) fa fb)) := dt_cmp op_notN opIsNot_h (nomark _) ha hb
theorem DW.dt {a : Expr} {f : ST} (h : DW X W a f) : DT X W a f := PW.pt h
theorem PW.of {e : Expr} {t t' : TT} (h : PW X e t) (w : ∀ σ H Q, t' σ H Q → t σ H Q) : PW X e t' := ⟨fun wh pins s σ H Q I q => h.run wh pins s σ H Q I (w σ H Q q)⟩
theorem dw_and1 {a : Expr} {f : ST} {pos : Pos} (ha : DT X W a f) : DW X W (.BoolOp .And [a] pos) f := pw_and1 ha
theorem dw_or1 {a : Expr} {f : ST} {pos : Pos} (ha : DT X W a f) : DW X W (.BoolOp .Or [a] pos) f := pw_or1 ha
theorem dw_and {a b : Expr} {rest : List Expr} {f g : ST} {pos : Pos} (ha : DT X W a f) (hb : DW X W (.BoolOp .And (b :: rest) pos) g) : DW X W (.BoolOp .And (a :: b :: rest) pos) (sAnd f g) := PW.of (pw_and ha hb) fun σ H Q => by
  rintro ⟨P, F, m, e, h, S, E, fin⟩
  refine rd_seq S E fin fun F1 m1 h1 H1 x dx x1 S1 E1 r1 fin1 => ?_
  have r1 : x = dx := r1
  subst r1
  cases x with
  | true => exact ⟨P, F1, m1, e, h1, S1, E1, fin1⟩
  | false => exact fin1.ok S1 rfl
theorem dw_or {a b : Expr} {rest : List Expr} {f g : ST} {pos : Pos} (ha : DT X W a f) (hb : DW X W (.BoolOp .Or (b :: rest) pos) g) : DW X W (.BoolOp .Or (a :: b :: rest) pos) (sOr f g) := PW.of (pw_or ha hb) fun σ H Q => by
  rintro ⟨P, F, m, e, h, S, E, fin⟩
  refine rd_seq S E fin fun F1 m1 h1 H1 x dx x1 S1 E1 r1 fin1 => ?_
  have r1 : x = dx := r1
  subst r1
  cases x with
  | true => exact fin1.ok S1 rfl
  | false => exact ⟨P, F1, m1, e, h1, S1, E1, fin1⟩
theorem dt_not {a : Expr} {f : ST} {pos : Pos} (ha : DT X W a f) : DT X W (.UnaryOp .Not a pos) (sNot f) := PT.of (pt_not ha) fun σ H Q => by
  rintro ⟨P, F, m, e, h, S, E, fin⟩
  refine rd_seq S E fin fun F1 m1 h1 H1 x dx x1 S1 E1 r1 fin1 => ?_
  have r1 : x = dx := r1
  subst r1
  exact fin1.ok S1 rfl
/-- and, or, not as values -/
theorem de_one {a : Expr} {op : BoolOp} {f : SE} {pos : Pos} (ha : DE X W a f) : DE X W (.BoolOp op [a] pos) f := pe_one ha
def sAndV (a b : SE) : SE := fun e h => (a e h).bind fun d h1 => match d with
  | .bl true => b e h1
  | .bl false => .ok (.bl false) h1
  | _ => .bad
def sOrV (a b : SE) : SE := fun e h => (a e h).bind fun d h1 => match d with
  | .bl true => .ok (.bl true) h1
  | .bl false => b e h1
  | _ => .bad
def sNotV (a : SE) : SE := fun e h => (a e h).bind fun d h1 => match d with
  | .bl b => .ok (.bl (!b)) h1
  | _ => .bad
theorem de_and {a b : Expr} {rest : List Expr} {f g : SE} {pos : Pos} (ha : DE X W a f) (hb : DE X W (.BoolOp .And (b :: rest) pos) g) : DE X W (.BoolOp .And (a :: b :: rest) pos) (sAndV f g) := PE.of (pe_and ha hb) fun σ H Q => by
  rintro ⟨P, F, m, e, h, S, E, fin⟩
  refine rd_seq S E fin fun F1 m1 h1 H1 x dx x1 S1 E1 r1 fin1 => ?_
  cases r1 with
  | bl b =>
    cases b with
    | true => exact ⟨true, rfl, P, F1, m1, e, h1, S1, E1, fin1⟩
    | false => exact ⟨false, rfl, fin1.ok S1 (.bl _)⟩
  | _ => exact fin1.bad_elim
theorem de_or {a b : Expr} {rest : List Expr} {f g : SE} {pos : Pos} (ha : DE X W a f) (hb : DE X W (.BoolOp .Or (b :: rest) pos) g) : DE X W (.BoolOp .Or (a :: b :: rest) pos) (sOrV f g) := PE.of (pe_or ha hb) fun σ H Q => by
  rintro ⟨P, F, m, e, h, S, E, fin⟩
  refine rd_seq S E fin fun F1 m1 h1 H1 x dx x1 S1 E1 r1 fin1 => ?_
  cases r1 with
  | bl b =>
    cases b with
    | true => exact ⟨true, rfl, fin1.ok S1 (.bl _)⟩
    | false => exact ⟨false, rfl, P, F1, m1, e, h1, S1, E1, fin1⟩
  | _ => exact fin1.bad_elim
theorem de_if {c a b : Expr} {fc : ST} {fa fb : SE} {pos : Pos} (hc : DT X W c fc) (ha : DE X W a fa) (hb : DE X W b fb) : DE X W (.IfExp c a b pos) (sIf fc fa fb) := PE.of (pe_ifExp hc ha hb) fun σ H Q => by
  rintro ⟨P, F, m, e, h, S, E, fin⟩
  refine rd_seq S E fin fun F1 m1 h1 H1 x dx x1 S1 E1 r1 fin1 => ?_
  have r1 : x = dx := r1
  subst r1
  cases x with
  | true => exact ⟨P, F1, m1, e, h1, S1, E1, fin1⟩
  | false => exact ⟨P, F1, m1, e, h1, S1, E1, fin1⟩
theorem rd_chain {g g' : D → D → OH → Res D} {r r' : R2} (hg : OpH X.K W g r) (hg' : OpH X.K W g' r') {fa fb fc : SE} {σ : St} {H : Hp} {Q : VK} (q : rdG X.K W (Den X.K) (sChain g g' fa fb fc) σ H Q) :
    tChain r r' (rdG X.K W (Den X.K) fa) (rdG X.K W (Den X.K) fb) (rdG X.K W (Den X.K) fc) σ H Q := by
  obtain ⟨P, F, m, e, h, S, E, fin⟩ := q
  refine rd_seq S E fin fun F1 m1 h1 H1 x dx x1 S1 E1 r1 fin1 => ?_
  refine rd_seq S1 E1 fin1 fun F2 m2 h2 H2 y dy x2 S2 E2 r2 fin2 => ?_
  refine hg P F2 m2 h2 H2 σ _ x y dx dy S2 (r1.mono x2) r2 ?_
  cases q : g dx dy h2 with
  | bad => rw [q] at fin2; exact fin2
  | exc C p h3 => rw [q] at fin2; exact fin2
  | ok z h3 =>
    rw [q] at fin2
    intro v F3 m3 H3 x3 S3 r3
    cases r3 with
    | bl b =>
      refine ⟨b, rfl, ?_⟩
      cases b with
      | true =>
        rw [if_pos rfl]
        refine rd_seq S3 ((E2.mono x3)) (FinG.weak x3 fin2) fun F4 m4 h4 H4 u du x4 S4 E4 r4 fin4 => ?_
        exact hg' P F4 m4 h4 H4 σ Q y u dy du S4 (r2.mono (x3.trans x4)) r4 fin4
      | false =>
        rw [if_neg Bool.false_ne_true]
        exact FinG.okX fin2 x3 S3 (.bl _)
    | _ => exact FinG.bad_elim fin2
theorem de_chain {a b c : Expr} {op op' : CmpOp} {pos : Pos} {g g' : D → D → OH → Res D} {r r' : R2} {fa fb fc : SE} (ho : OpR X (compareOp op) r) (ho' : OpR X (compareOp op') r') (hg : OpH X.K W g r) (hg' : OpH X.K W g' r') (ha : DE X W a fa) (hb : DE X W b fb) (hc : DE X W c fc)
    (hm : lastMarks [op, op'] [b, c] = false := by with_unfolding_all rfl) : DE X W (.Compare a [op, op'] [b, c] pos) (sChain g g' fa fb fc) := PE.of (pe_chain ho ho' ha hb hc hm) fun _ _ _ => rd_chain hg hg'
theorem de_lele {a b c : Expr} {pos : Pos} {fa fb fc : SE} (ha : DE X W a fa) (hb : DE X W b fb) (hc : DE X W c fc) (hm : lastMarks [.LtE, .LtE] [b, c] = false := by with_unfolding_all rfl) : DE X W (.Compare a [.LtE, .LtE] [b, c] pos) (sChain opLe opLe fa fb fc) :=
  de_chain op_le op_le (opI2_h0 fun _ _ _ _ => .bl _) (opI2_h0 fun _ _ _ _ => .bl _) ha hb hc hm
/-! ### subscripts, slices -/
def opIx : D → D → OH → Res D := fun a b h => match b with
  | .int i => (match a with
    | .str z => if z.length ≤ big then (match atI z.cps.toList i with
      | some c => .ok (.str ⟨#[c]⟩) h
      | none => .bad) else .bad
    | a => match seqAt h a with
      | some xs => (match atI xs i with
        | some d => .ok d h
        | none => .bad)
      | none => .bad)
  | _ => .bad
theorem atI_den {K : PySem.W.Frag} {F : Hp} {m : List Addr} {vs : List V} {ds : List D} {i : Int} {d : D} (r : DenL K F m vs ds) (e : atI ds i = some d) : ∃ v, atI vs i = some v ∧ Den K F m v d := by
  unfold atI at e ⊢
  rw [r.length]
  cases q : ixN ds.length i with
  | none => rw [q] at e; simp at e
  | some j =>
    rw [q] at e
    simp only [Option.bind_some] at e ⊢
    exact r.get e
theorem opIx_h : OpH X.K W opIx (rIx X.K) := by
  intro P F m h H σ Q x y dx dy S r1 r2 fin
  cases r2 with
  | int i =>
    have seqs : ∀ {a : D}, Den X.K F m x a → FinG X.K P W σ (Den X.K) Q F m (match seqAt h a with
      | some xs => (match atI xs i with
        | some d => .ok d h
        | none => .bad)
      | none => .bad) → rIx X.K x (.int i) H Q := by
      intro a q fin
      cases e : seqAt h a with
      | none => rw [e] at fin; exact fin.bad_elim
      | some xs =>
        rw [e] at fin
        dsimp only at fin
        obtain ⟨l, vs, rfl, hl, rl⟩ := seqAt_ok S q e
        cases e2 : atI xs i with
        | none => rw [e2] at fin; exact fin.bad_elim
        | some d =>
          rw [e2] at fin
          obtain ⟨v, e3, r3⟩ := atI_den rl e2
          rcases hl with hl | hl
          · exact .inl ⟨l, vs, i, v, rfl, rfl, hl, e3, fin.ok S r3⟩
          · exact .inr (.inl ⟨l, vs, i, v, rfl, rfl, hl, e3, fin.ok S r3⟩)
    cases dx with
    | str z =>
      cases den_str r1
      dsimp only [opIx] at fin
      by_cases hz : z.length ≤ big
      · rw [if_pos hz] at fin
        cases e : atI z.cps.toList i with
        | none => rw [e] at fin; exact fin.bad_elim
        | some c =>
          rw [e] at fin
          exact .inr (.inr ⟨z, i, c, rfl, rfl, big_line hz, e, fin.ok S (.str _)⟩)
      · rw [if_neg hz] at fin
        exact fin.bad_elim
    | _ => exact seqs r1 fin
  | _ => exact fin.bad_elim
theorem de_ix {a b : Expr} {pos : Pos} {fa fb : SE} (ha : DE X W a fa) (hb : DE X W b fb) (hs : PlainIx b := by exact fun _ _ => rfl) : DE X W (.Subscript a b pos) (sBin opIx fa fb) := PE.of (pe_ix ix_seq ha hb hs) fun _ _ _ => rd_op opIx_h
abbrev SO := Env' → OH → Res (Option Int)
abbrev relO : Rel (Option Int) (Option Int) := fun _ _ b c => b = c
abbrev DO (X : Cx) (W : WX) (e : Option Expr) (f : SO) : Prop := PO X e (rdG X.K W relO f)
def sNoPart : SO := fun _ h => .ok none h
def sPart (f : SE) : SO := fun e h => (f e h).bind fun d h1 => match d with
  | .int i => .ok (some i) h1
  | _ => .bad
theorem PO.of {e : Option Expr} {t t' : TO} (h : PO X e t) (w : ∀ σ H Q, t' σ H Q → t σ H Q) : PO X e t' := by
  obtain ⟨h⟩ := h
  constructor
  intros
  first
    | (apply h <;> first | assumption | (apply w; assumption))
theorem do_none : DO X W none sNoPart := PO.of po_none fun σ H Q => by
  rintro ⟨P, F, m, e, h, S, E, fin⟩
  exact fin.ok S rfl
theorem do_some {a : Expr} {f : SE} (ha : DE X W a f) : DO X W (some a) (sPart f) := PO.of (po_some ha) fun σ H Q => by
  rintro ⟨P, F, m, e, h, S, E, fin⟩
  refine rd_seq S E fin fun F1 m1 h1 H1 x dx x1 S1 E1 r1 fin1 => ?_
  cases r1 with
  | int i => exact ⟨i, rfl, fin1.ok S1 rfl⟩
  | _ => exact fin1.bad_elim
def cutD (xs : List D) (lo hi : Option Int) : List D := (xs.drop (HT.sIx xs.length 0 lo)).take (HT.sIx xs.length xs.length hi - HT.sIx xs.length 0 lo)
theorem cut_den {K : PySem.W.Frag} {F : Hp} {m : List Addr} {vs : List V} {ds : List D} (r : DenL K F m vs ds) (lo hi : Option Int) : DenL K F m (cutV vs lo hi) (cutD ds lo hi) := by
  unfold cutV cutD
  rw [r.length]
  exact (r.drop _).take _
def opCut (own : Bool) (a : D) (lo hi : Option Int) (h : OH) : Res D := match lsqAt h a with
  | some xs => if own then .ok (.ref h.length) (h ++ [.lst (cutD xs lo hi)]) else .ok (.lst (cutD xs lo hi)) h
  | none => (match a with
    | .tup xs => if ¬ (HT.sIx xs.length 0 lo = 0 ∧ HT.sIx xs.length xs.length hi = xs.length) then .ok (.tup (cutD xs lo hi)) h else .bad
    | _ => .bad)
def sCut (own : Bool) (a : SE) (lo hi : SO) : SE := fun e h => (a e h).bind fun x h1 => (lo e h1).bind fun l h2 => (hi e h2).bind fun u h3 => opCut own x l u h3
theorem de_cut {a : Expr} {lo hi : Option Expr} {p2 pos : Pos} {fa : SE} {fl fu : SO} (own : Bool) (ha : DE X W a fa) (hl : DO X W lo fl) (hh : DO X W hi fu) : DE X W (.Subscript a (.Slice lo hi none p2) pos) (sCut own fa fl fu) :=
  PE.of (pe_slice (sl_list.or sl_tup) ha hl hh) fun σ H Q => by
    rintro ⟨P, F, m, e, h, S, E, fin⟩
    refine rd_seq S E fin fun F1 m1 h1 H1 x dx x1 S1 E1 r1 fin1 => ?_
    refine rd_seq S1 E1 fin1 fun F2 m2 h2 H2 l dl x2 S2 E2 r2 fin2 => ?_
    refine rd_seq S2 E2 fin2 fun F3 m3 h3 H3 u du x3 S3 E3 r3 fin3 => ?_
    have r2 : l = dl := r2
    have r3 : u = du := r3
    subst r2 r3
    have r4 := r1.mono (x2.trans x3)
    unfold opCut at fin3
    cases q : lsqAt h3 dx with
    | some xs =>
      rw [q] at fin3
      obtain ⟨c, vs, rfl, hc, rc⟩ := lsqAt_ok S3 r4 q
      refine .inl ⟨c, vs, rfl, hc, fun p hp => ?_⟩
      cases own with
      | true => exact FinG.ownL fin3 S3 (cut_den rc l u) hp
      | false => exact FinG.newL fin3 S3 (cut_den rc l u) hp
    | none =>
      rw [q] at fin3
      cases r4 with
      | tup ct tt =>
        dsimp only at fin3
        rename_i c vs ds
        by_cases hz : HT.sIx ds.length 0 l = 0 ∧ HT.sIx ds.length ds.length u = ds.length
        · rw [if_neg fun z => z hz] at fin3
          exact fin3.bad_elim
        · rw [if_pos hz] at fin3
          refine .inr ⟨c, vs, rfl, .inl (.inl (S3.sub _ _ ct)), ?_, fun p hp => fin3.newT S3 (cut_den tt l u) hp⟩
          rw [tt.length]
          exact hz
      | _ => exact fin3.bad_elim
/-! ### calls of built-ins -/
def sCall (g : List D → OH → Res D) (a : SA) : SE := fun e h => (a e h).bind g
def ClH (K : PySem.W.Frag) (W : WX) (g : List D → OH → Res D) (r : List V → Hp → VK → Prop) : Prop :=
  ∀ (P : Pins) (F : Hp) (m : List Addr) (h : OH) (H : Hp) (σ : St) (Q : VK) (vs : List V) (ds : List D), Sim K P F m h H → DenL K F m vs ds → FinG K P W σ (Den K) Q F m (g ds h) → r vs H Q
theorem rd_call {g : List D → OH → Res D} {r : List V → Hp → VK → Prop} (hg : ClH X.K W g r) {fa : SA} {σ : St} {H : Hp} {Q : VK} (q : rdG X.K W (Den X.K) (sCall g fa) σ H Q) : tCB r (rdG X.K W (DenL X.K) fa) σ H Q := by
  obtain ⟨P, F, m, e, h, S, E, fin⟩ := q
  exact rd_seq S E fin fun F1 m1 h1 H1 x dx x1 S1 E1 r1 fin1 => hg P F1 m1 h1 H1 σ Q x dx S1 r1 fin1
theorem de_blt {id : String} {g : List D → OH → Res D} {r : List V → Hp → VK → Prop} {x : Str} {p pos : Pos} {a : Expr} {es : List Expr} {fa : SA} (hc : CallR X (.builtin id) r) (hg : ClH X.K W g r) (hx : Gl X x) (hm : X.mg x = none) (hv : bootBuiltins x = some (.builtin id)) (ha : DA X W (a :: es) fa)
    (hn : x ≠ "__name__" := by decide) (hdb : (x == ("__debug__" : Str)) = false := by decide) (he : starEach (a :: es) X.env = (false, eval a X.env) :: starEach es X.env := by rfl) (hpl : (backTo pos (starEach es X.env)).any (·.1) = false := by rfl) : DE X W (.Call (.Name x p) (a :: es) [] pos) (sCall g fa) :=
  PE.of (pe_callB hc hx hm hv ha hn hdb he hpl) fun _ _ _ => rd_call hg
theorem de_bty {T : String} {g : List D → OH → Res D} {r : List V → Hp → VK → Prop} {x : Str} {p pos : Pos} {a : Expr} {es : List Expr} {fa : SA} (hc : CallR X (.type T) r) (hg : ClH X.K W g r) (hx : Gl X x) (hm : X.mg x = none) (hv : bootBuiltins x = some (.type T)) (ha : DA X W (a :: es) fa)
    (hn : x ≠ "__name__" := by decide) (hdb : (x == ("__debug__" : Str)) = false := by decide) (he : starEach (a :: es) X.env = (false, eval a X.env) :: starEach es X.env := by rfl) (hpl : (backTo pos (starEach es X.env)).any (·.1) = false := by rfl) : DE X W (.Call (.Name x p) (a :: es) [] pos) (sCall g fa) :=
  PE.of (pe_callTy hc hx hm hv ha hn hdb he hpl) fun _ _ _ => rd_call hg
theorem denL1 {K : PySem.W.Frag} {F : Hp} {m : List Addr} {vs : List V} {d : D} (r : DenL K F m vs [d]) : ∃ v, vs = [v] ∧ Den K F m v d := by
  cases r with
  | cons a b =>
    cases b
    exact ⟨_, rfl, a⟩
theorem denL2 {K : PySem.W.Frag} {F : Hp} {m : List Addr} {vs : List V} {d d2 : D} (r : DenL K F m vs [d, d2]) : ∃ v v2, vs = [v, v2] ∧ Den K F m v d ∧ Den K F m v2 d2 := by
  cases r with
  | cons a b =>
    obtain ⟨v2, rfl, r2⟩ := denL1 b
    exact ⟨_, v2, rfl, a, r2⟩
def b1 (f : D → OH → Res D) : List D → OH → Res D
  | [d], h => f d h
  | _, _ => .bad
def b2 (f : D → D → OH → Res D) : List D → OH → Res D
  | [d, d2], h => f d d2 h
  | _, _ => .bad
theorem b1_inv {f : D → OH → Res D} {P : Pins} {F : Hp} {m : List Addr} {h : OH} {σ : St} {Q : VK} {vs : List V} {ds : List D} (r : DenL X.K F m vs ds) (fin : FinG X.K P W σ (Den X.K) Q F m (b1 f ds h)) : ∃ v d, vs = [v] ∧ Den X.K F m v d ∧ FinG X.K P W σ (Den X.K) Q F m (f d h) := by
  unfold b1 at fin
  split at fin
  · obtain ⟨v, rfl, r1⟩ := denL1 r
    exact ⟨v, _, rfl, r1, fin⟩
  · exact fin.bad_elim
theorem b2_inv {f : D → D → OH → Res D} {P : Pins} {F : Hp} {m : List Addr} {h : OH} {σ : St} {Q : VK} {vs : List V} {ds : List D} (r : DenL X.K F m vs ds) (fin : FinG X.K P W σ (Den X.K) Q F m (b2 f ds h)) : ∃ v v2 d d2, vs = [v, v2] ∧ Den X.K F m v d ∧ Den X.K F m v2 d2 ∧ FinG X.K P W σ (Den X.K) Q F m (f d d2 h) := by
  unfold b2 at fin
  split at fin
  · obtain ⟨v, v2, rfl, r1, r2⟩ := denL2 r
    exact ⟨v, v2, _, _, rfl, r1, r2, fin⟩
  · exact fin.bad_elim
def opLen : D → OH → Res D
  | .str z, h => if z.length ≤ big then .ok (.int z.length) h else .bad
  | d, h => (match seqAt h d with
    | some xs => .ok (.int xs.length) h
    | none => .bad)
abbrev bLen := b1 opLen
theorem bLen_h : ClH X.K W bLen (fun xs H Q => ∃ x n, xs = [x] ∧ LenV X.K x H n ∧ Q (.int n) H) := by
  intro P F m h H σ Q vs ds S r fin
  obtain ⟨v, d, rfl, r1, fin⟩ := b1_inv r fin
  have seqs : FinG X.K P W σ (Den X.K) Q F m (match seqAt h d with
    | some xs => .ok (.int xs.length) h
    | none => .bad) → ∃ x n, [v] = [x] ∧ LenV X.K x H n ∧ Q (.int n) H := by
    intro fin
    cases e : seqAt h d with
    | none => rw [e] at fin; exact fin.bad_elim
    | some xs =>
      rw [e] at fin
      obtain ⟨a, ws, rfl, ha, rl⟩ := seqAt_ok S r1 e
      refine ⟨_, xs.length, rfl, ?_, fin.ok S (.int _)⟩
      rcases ha with ha | ha
      · exact .inl ⟨ws, ha, rl.length.symm⟩
      · exact .inr ⟨ws, ha, rl.length.symm⟩
  cases d with
  | str z =>
    cases den_str r1
    dsimp only [opLen] at fin
    by_cases hz : z.length ≤ big
    · rw [if_pos hz] at fin
      exact ⟨.str z, z.length, rfl, ⟨big_line hz, rfl⟩, fin.ok S (.int _)⟩
    · rw [if_neg hz] at fin
      exact fin.bad_elim
  | _ => exact seqs fin
theorem de_len {p pos : Pos} {a : Expr} {fa : SE} (hx : Gl X "len") (hm : X.mg "len" = none) (ha : DE X W a fa) (he : starEach [a] X.env = (false, eval a X.env) :: starEach [] X.env := by rfl) : DE X W (.Call (.Name "len" p) [a] [] pos) (sCall bLen (sCons fa sNil)) :=
  de_blt call_len bLen_h hx hm PySem.boot_len (da_cons ha da_nil he) (he := he)
def opAbs : D → OH → Res D
  | .int i, h => .ok (.int (if i < 0 then -i else i)) h
  | _, _ => .bad
theorem bI2_inv {f : Int → Int → Int} {P : Pins} {F : Hp} {m : List Addr} {h : OH} {H : Hp} {σ : St} {Q : VK} {vs : List V} {ds : List D} (S : Sim X.K P F m h H) (r : DenL X.K F m vs ds) (fin : FinG X.K P W σ (Den X.K) Q F m (b2 (opI2 (fun i j => .int (f i j)) fun _ _ => true) ds h)) : ∃ i j, vs = [.int i, .int j] ∧ Q (.int (f i j)) H := by
  obtain ⟨v, v2, d, d2, rfl, r1, r2, fin⟩ := b2_inv r fin
  obtain ⟨i, j, rfl, rfl, q⟩ := opI2_h0 (X := X) (W := W) (g := fun i j => V.int (f i j)) (fun _ _ _ _ => .int _) P F m h H σ Q v v2 d d2 S r1 r2 fin
  exact ⟨i, j, rfl, q⟩
abbrev bMax := b2 (opI2 (fun i j => .int (if j > i then j else i)) fun _ _ => true)
abbrev bMin := b2 (opI2 (fun i j => .int (if j < i then j else i)) fun _ _ => true)
theorem de_max2 {p pos : Pos} {a b : Expr} {fa fb : SE} (hc : X.calm = true) (hx : Gl X "max") (hm : X.mg "max" = none) (ha : DE X W a fa) (hb : DE X W b fb) (he : starEach [a, b] X.env = (false, eval a X.env) :: starEach [b] X.env := by rfl) (he2 : starEach [b] X.env = (false, eval b X.env) :: starEach [] X.env := by rfl)
    (hpl : (backTo pos (starEach [b] X.env)).any (·.1) = false := by rfl) : DE X W (.Call (.Name "max" p) [a, b] [] pos) (sCall bMax (sCons fa (sCons fb sNil))) :=
  de_blt (call_max2 hc) (fun P F m h H σ Q vs ds S r fin => bI2_inv S r fin) hx hm (by decide +kernel) (da_cons ha (da_cons hb da_nil he2) he) (he := he) (hpl := hpl)
theorem de_min2 {p pos : Pos} {a b : Expr} {fa fb : SE} (hc : X.calm = true) (hx : Gl X "min") (hm : X.mg "min" = none) (ha : DE X W a fa) (hb : DE X W b fb) (he : starEach [a, b] X.env = (false, eval a X.env) :: starEach [b] X.env := by rfl) (he2 : starEach [b] X.env = (false, eval b X.env) :: starEach [] X.env := by rfl)
    (hpl : (backTo pos (starEach [b] X.env)).any (·.1) = false := by rfl) : DE X W (.Call (.Name "min" p) [a, b] [] pos) (sCall bMin (sCons fa (sCons fb sNil))) :=
  de_blt (call_min2 hc) (fun P F m h H σ Q vs ds S r fin => bI2_inv S r fin) hx hm (by decide +kernel) (da_cons ha (da_cons hb da_nil he2) he) (he := he) (hpl := hpl)
def opDivmod : D → D → OH → Res D
  | .int i, .int j, h => if divOk i j then .ok (.tup [.int (i / j), .int (i % j)]) h else .bad
  | _, _, _ => .bad
end
end HR
set_option Elab.async false
set_option linter.all false
set_option maxRecDepth 100000
set_option maxHeartbeats 2000000
/-! LayD: further built-ins, isinstance, attributes, methods of lists. -/
namespace HR
open PySem L2
section
variable {X : Cx} {W : WX}
/-! ### int, sum, all, any, list, tuple -/
def opInt : D → OH → Res D
  | .int i, h => .ok (.int i) h
  | .bl b, h => .ok (.int (if b then 1 else 0)) h
  | _, _ => .bad
theorem bInt_h : ClH X.K W (b1 opInt) (fun xs H Q => (∃ i, xs = [.int i] ∧ Q (.int i) H) ∨ ∃ k, xs = [.bl k] ∧ Q (.int (if k then 1 else 0)) H) := by
  intro P F m h H σ Q vs ds S r fin
  obtain ⟨v, d, rfl, r1, fin⟩ := b1_inv r fin
  cases r1 with
  | int i => exact .inl ⟨i, rfl, fin.ok S (.int _)⟩
  | bl b => exact .inr ⟨b, rfl, fin.ok S (.int _)⟩
  | _ => exact fin.bad_elim
theorem de_toint {p pos : Pos} {a : Expr} {fa : SE} (hx : Gl X "int") (hm : X.mg "int" = none) (ha : DE X W a fa) (he : starEach [a] X.env = (false, eval a X.env) :: starEach [] X.env := by rfl) : DE X W (.Call (.Name "int" p) [a] [] pos) (sCall (b1 opInt) (sCons fa sNil)) :=
  de_bty call_int1 bInt_h hx hm (by decide +kernel) (da_cons ha da_nil he) (he := he)
/-- the ints of a list, if it holds no more -/
def intsOf : List D → Option (List Int)
  | [] => some []
  | .int i :: r => (intsOf r).map (i :: ·)
  | _ => none
def bsOf : List D → Option (List Bool)
  | [] => some []
  | .bl b :: r => (bsOf r).map (b :: ·)
  | _ => none
theorem bsOf_ok {K : PySem.W.Frag} {F : Hp} {m : List Addr} : ∀ {vs : List V} {ds : List D} {ns : List Bool}, DenL K F m vs ds → bsOf ds = some ns → vs = ns.map V.bl
  | _, _, _, .nil, e => by simp only [bsOf, Option.some.injEq] at e; subst e; rfl
  | _, _, _, .cons (.bl b) t, e => by
    simp only [bsOf, Option.map_eq_some_iff] at e
    obtain ⟨ns, e1, e2⟩ := e
    subst e2
    rw [bsOf_ok t e1]
    rfl
  | _, _, _, .cons (.non) _, e | _, _, _, .cons (.int _) _, e | _, _, _, .cons (.str _) _, e | _, _, _, .cons (.lst _ _) _, e | _, _, _, .cons (.scr _ _) _, e | _, _, _, .cons (.tup _ _) _, e | _, _, _, .cons (.dct _ _) _, e | _, _, _, .cons (.obj _ _ _) _, e | _, _, _, .cons (.ref _) _, e | _, _, _, .cons (.exc _) _, e | _, _, _, .cons (.excf _ _ _) _, e => by simp [bsOf] at e
@[simp] theorem intsOf_map (ns : List Int) : intsOf (ns.map D.int) = some ns := by
  induction ns with
  | nil => rfl
  | cons n r ih => simp [intsOf, ih]
@[simp] theorem bsOf_map (ns : List Bool) : bsOf (ns.map D.bl) = some ns := by
  induction ns with
  | nil => rfl
  | cons n r ih => simp [bsOf, ih]
def opSum : D → OH → Res D := fun d h => match (lsqAt h d).bind intsOf with
  | some ns => .ok (.int ns.sum) h
  | none => .bad
theorem lbls_inv {P : Pins} {F : Hp} {m : List Addr} {h : OH} {H : Hp} {v : V} {d : D} {ns : List Bool} (S : Sim X.K P F m h H) (r : Den X.K F m v d) (e : (lsqAt h d).bind bsOf = some ns) : ∃ a, v = .ref a ∧ SqL X.K H a (ns.map V.bl) := by
  cases q : lsqAt h d with
  | none => rw [q] at e; simp at e
  | some xs =>
    rw [q] at e
    simp only [Option.bind_some] at e
    obtain ⟨a, vs, rfl, ha, rl⟩ := lsqAt_ok S r q
    rw [bsOf_ok rl e] at ha
    exact ⟨a, rfl, ha⟩
def opAll : D → OH → Res D := fun d h => match (lsqAt h d).bind bsOf with
  | some ns => .ok (.bl (ns.all id)) h
  | none => .bad
def opAny : D → OH → Res D := fun d h => match (lsqAt h d).bind bsOf with
  | some ns => .ok (.bl (ns.any id)) h
  | none => .bad
theorem bAll_h : ClH X.K W (b1 opAll) (rAll X.K) := by
  intro P F m h H σ Q vs ds S r fin
  obtain ⟨v, d, rfl, r1, fin⟩ := b1_inv r fin
  unfold opAll at fin
  split at fin
  · rename_i ns e
    obtain ⟨a, rfl, ha⟩ := lbls_inv S r1 e
    exact ⟨a, ns, rfl, ha, fin.ok S (.bl _)⟩
  · exact fin.bad_elim
theorem de_all {p pos : Pos} {a : Expr} {fa : SE} (hc : X.calm = true) (hx : Gl X "all") (hm : X.mg "all" = none) (ha : DE X W a fa) (he : starEach [a] X.env = (false, eval a X.env) :: starEach [] X.env := by rfl) : DE X W (.Call (.Name "all" p) [a] [] pos) (sCall (b1 opAll) (sCons fa sNil)) :=
  de_blt (cr_all hc) bAll_h hx hm (by decide +kernel) (da_cons ha da_nil he) (he := he)
/-- list(x), a new list, frozen or own -/
def opList (own : Bool) : D → OH → Res D := fun d h => match seqAt h d with
  | some xs => if own then .ok (.ref h.length) (h ++ [.lst xs]) else .ok (.lst xs) h
  | none => .bad
theorem bList_h (own : Bool) : ClH X.K W (b1 (opList own)) (fun xs H Q => ∃ p ys, xs = [.ref p] ∧ (SqL X.K H p ys ∨ SqT X.K H p ys) ∧ ∀ l, H l = none → Q (.ref l) (upd H l (.lst ys))) := by
  intro P F m h H σ Q vs ds S r fin
  obtain ⟨v, d, rfl, r1, fin⟩ := b1_inv r fin
  unfold opList at fin
  cases e : seqAt h d with
  | none => rw [e] at fin; exact fin.bad_elim
  | some xs =>
    rw [e] at fin
    obtain ⟨a, ws, rfl, ha, rl⟩ := seqAt_ok S r1 e
    refine ⟨a, ws, rfl, ha, fun l hl => ?_⟩
    cases own with
    | true => exact FinG.ownL fin S rl hl
    | false => exact FinG.newL fin S rl hl
theorem de_list {p pos : Pos} {a : Expr} {fa : SE} (own : Bool) (hx : Gl X "list") (hm : X.mg "list" = none) (ha : DE X W a fa) (he : starEach [a] X.env = (false, eval a X.env) :: starEach [] X.env := by rfl) : DE X W (.Call (.Name "list" p) [a] [] pos) (sCall (b1 (opList own)) (sCons fa sNil)) :=
  de_bty call_list_of (bList_h own) hx hm (by decide +kernel) (da_cons ha da_nil he) (he := he)
def opTuple : D → OH → Res D := fun d h => match d with
  | .tup xs => .ok (.tup xs) h
  | d => (match lsqAt h d with
    | some xs => .ok (.tup xs) h
    | none => .bad)
theorem bTuple_h : ClH X.K W (b1 opTuple) (fun xs H Q => ∃ p ys, xs = [.ref p] ∧ ((SqL X.K H p ys ∧ ∀ l, H l = none → Q (.ref l) (upd H l (.tup ys))) ∨ (SqT X.K H p ys ∧ Q (.ref p) H))) := by
  intro P F m h H σ Q vs ds S r fin
  obtain ⟨v, d, rfl, r1, fin⟩ := b1_inv r fin
  have lists : FinG X.K P W σ (Den X.K) Q F m (match lsqAt h d with
    | some xs => .ok (.tup xs) h
    | none => .bad) → ∃ p ys, [v] = [.ref p] ∧ ((SqL X.K H p ys ∧ ∀ l, H l = none → Q (.ref l) (upd H l (.tup ys))) ∨ (SqT X.K H p ys ∧ Q (.ref p) H)) := by
    intro fin
    cases e : lsqAt h d with
    | none => rw [e] at fin; exact fin.bad_elim
    | some xs =>
      rw [e] at fin
      obtain ⟨a, ws, rfl, ha, rl⟩ := lsqAt_ok S r1 e
      exact ⟨a, ws, rfl, .inl ⟨ha, fun l hl => FinG.newT fin S rl hl⟩⟩
  cases d with
  | tup xs =>
    obtain ⟨a, ws, rfl, ha, rl⟩ := tupAt_ok S r1 (rfl : tupAt (.tup xs) = some xs)
    exact ⟨a, ws, rfl, .inr ⟨.inl (.inl ha), FinG.ok fin S r1⟩⟩
  | _ => exact lists fin
theorem de_tuple {p pos : Pos} {a : Expr} {fa : SE} (hx : Gl X "tuple") (hm : X.mg "tuple" = none) (ha : DE X W a fa) (he : starEach [a] X.env = (false, eval a X.env) :: starEach [] X.env := by rfl) : DE X W (.Call (.Name "tuple" p) [a] [] pos) (sCall (b1 opTuple) (sCons fa sNil)) :=
  de_bty call_tuple_of bTuple_h hx hm (by decide +kernel) (da_cons ha da_nil he) (he := he)
/-! ### isinstance of built-in types -/
def tyAt (h : OH) : D → Option String
  | .non => some "NoneType"
  | .bl _ => some "bool"
  | .int _ => some "int"
  | .str _ => some "str"
  | .lst _ => some "list"
  | .scr _ => some "list"
  | .tup _ => some "tuple"
  | .dct _ => some "dict"
  | .obj _ _ => none
  | .exc _ => none
  | .excf _ _ _ => none
  | .ref i => (match h[i]? with
    | some (.lst _) => some "list"
    | some (.dct _) => some "dict"
    | _ => none)
def isiB (a b : String) : Bool := a == b || (a == "bool" && b == "int")
theorem kit_tab : (["NoneType", "bool", "int", "str", "list", "tuple", "dict"].all fun a => ["bool", "int", "str", "list", "tuple", "dict"].all fun b => kitB a b == some (isiB a b)) = true := by decide +kernel
theorem kit_at {a b : String} (ha : a ∈ ["NoneType", "bool", "int", "str", "list", "tuple", "dict"]) (hb : b ∈ ["bool", "int", "str", "list", "tuple", "dict"]) : kitB a b = some (isiB a b) := by
  have h := List.all_eq_true.mp kit_tab a ha
  have h2 := List.all_eq_true.mp h b hb
  exact eq_of_beq h2
theorem tyAt_mem {h : OH} {d : D} {t : String} (e : tyAt h d = some t) : t ∈ ["NoneType", "bool", "int", "str", "list", "tuple", "dict"] := by
  unfold tyAt at e
  split at e
  all_goals (try (simp only [Option.some.injEq] at e; subst e; decide))
  · cases e
  · cases e
  · cases e
  · split at e
    all_goals (try (simp only [Option.some.injEq] at e; subst e; decide))
    cases e
theorem tyAt_ok {P : Pins} {F : Hp} {m : List Addr} {h : OH} {H : Hp} {v : V} {d : D} {t : String} (S : Sim X.K P F m h H) (r : Den X.K F m v d) (e : tyAt h d = some t) : TyX X.K H v (.type t) := by
  cases r with
  | non => cases e; exact .base .non
  | bl b => cases e; exact .base (.bl b)
  | int i => cases e; exact .base (.int i)
  | str x => cases e; exact .base (.str x)
  | lst q _ => cases e; exact .base (.lst (S.sub _ _ q))
  | scr q _ =>
    cases e
    rcases S.sub.seq q with (q | ⟨o, q⟩) | ⟨o, its, n, q, c, _⟩
    · exact .base (.lst q)
    · exact .base (.frz q)
    · exact .kList q c
  | tup q _ => cases e; exact .base (.tup (S.sub _ _ q))
  | dct q _ => cases e; exact .base (.dK (S.sub _ _ q))
  | obj _ _ _ => cases e
  | exc _ => cases e
  | excf _ _ _ => cases e
  | ref q =>
    obtain ⟨o, h1, h2⟩ := S.own q
    unfold tyAt at e
    simp only [h1] at e
    cases o with
    | lst xs =>
      cases e
      obtain ⟨vs, k1, _⟩ := h2
      exact .base (.lst k1)
    | dct kvs =>
      cases e
      obtain ⟨ks, k1, _⟩ := h2
      exact .base (.dK k1)
    | ins _ _ => cases e
    | dead => cases e
/-- isinstance(e, T) -/
def sIsi (ts : List String) (f : SE) : SE := fun e h => (f e h).bind fun d h1 => match tyAt h1 d with
  | some t => .ok (.bl (ts.any fun T => isiB t T)) h1
  | none => .bad
theorem de_isi {T : String} {x : Str} {p p2 pos : Pos} {a : Expr} {fa : SE} (hT : T ∈ ["bool", "int", "str", "list", "tuple", "dict"]) (hx : Gl X "isinstance") (hm : X.mg "isinstance" = none) (hx2 : Gl X x) (hm2 : X.mg x = none) (hv2 : bootBuiltins x = some (.type T)) (ha : DE X W a fa) (hn : x ≠ "__name__" := by decide) (hd : (x == ("__debug__" : Str)) = false := by decide)
    (he : starEach [a, .Name x p2] X.env = (false, eval a X.env) :: starEach [.Name x p2] X.env := by rfl) (he2 : starEach [.Name x p2] X.env = (false, eval (.Name x p2) X.env) :: starEach [] X.env := by rfl)
    (hpl : (backTo pos (starEach [.Name x p2] X.env)).any (·.1) = false := by rfl) : DE X W (.Call (.Name "isinstance" p) [a, .Name x p2] [] pos) (sIsi [T] fa) :=
  PE.of (pe_callB call_isi hx hm (by decide +kernel) (pa_cons ha (pa_cons (pe_bltn (v := .ty T) hx2 hm2 hv2 rfl hn hd) pa_nil he2) he) (he := he) (hpl := hpl)) fun σ H Q => by
    rintro ⟨P, F, m, e, h, S, E, fin⟩
    refine rd_seq S E fin fun F1 m1 h1 H1 x dx x1 S1 E1 r1 fin1 => ?_
    cases q : tyAt h1 dx with
    | none => rw [q] at fin1; exact fin1.bad_elim
    | some t =>
      rw [q] at fin1
      exact ⟨x, .ty T, .type t, .type T, isiB t T, rfl, .ty T, tyAt_ok S1 r1 q, kit_ty (kit_at (tyAt_mem q) hT), fin1.ok S1 (by simp only [List.any_cons, List.any_nil, Bool.or_false]; exact .bl _)⟩
theorem kitAny_two {K : PySem.W.Frag} {t T1 T2 : String} (h1 : kitB t T1 = some (isiB t T1)) (h2 : kitB t T2 = some (isiB t T2)) : PySem.W.kitAny K (.type t) [.type T1, .type T2] = some (isiB t T1 || isiB t T2) := by
  refine kitAny_cons (kit_ty h1) (fun e => ?_) (fun e => by rw [e, Bool.true_or])
  rw [e, Bool.false_or]
  refine kitAny_cons (kit_ty h2) (fun e2 => ?_) (fun e2 => e2)
  rw [e2]
  exact kitAny_nil
/-- isinstance(e, (T1, T2)) -/
theorem de_isi2 {T1 T2 : String} {x y : Str} {p p2 p3 p4 pos : Pos} {j : Nat} {a : Expr} {fa : SE} (hT1 : T1 ∈ ["bool", "int", "str", "list", "tuple", "dict"]) (hT2 : T2 ∈ ["bool", "int", "str", "list", "tuple", "dict"]) (hx : Gl X "isinstance") (hm : X.mg "isinstance" = none)
    (hx2 : Gl X x) (hm2 : X.mg x = none) (hv2 : bootBuiltins x = some (.type T1)) (hx3 : Gl X y) (hm3 : X.mg y = none) (hv3 : bootBuiltins y = some (.type T2)) (ha : DE X W a fa) (hn : x ≠ "__name__" := by decide) (hd : (x == ("__debug__" : Str)) = false := by decide) (hn3 : y ≠ "__name__" := by decide) (hd3 : (y == ("__debug__" : Str)) = false := by decide)
    (he : starEach [a, .Tuple [.Name x p2, .Name y p3] j p4] X.env = (false, eval a X.env) :: starEach [.Tuple [.Name x p2, .Name y p3] j p4] X.env := by rfl) (he2 : starEach [.Tuple [.Name x p2, .Name y p3] j p4] X.env = (false, eval (.Tuple [.Name x p2, .Name y p3] j p4) X.env) :: starEach [] X.env := by rfl)
    (he3 : starEach [.Name x p2, .Name y p3] X.env = (false, eval (.Name x p2) X.env) :: starEach [.Name y p3] X.env := by rfl) (he4 : starEach [.Name y p3] X.env = (false, eval (.Name y p3) X.env) :: starEach [] X.env := by rfl)
    (hpl : (backTo pos (starEach [.Tuple [.Name x p2, .Name y p3] j p4] X.env)).any (·.1) = false := by rfl) : DE X W (.Call (.Name "isinstance" p) [a, .Tuple [.Name x p2, .Name y p3] j p4] [] pos) (sIsi [T1, T2] fa) :=
  PE.of (pe_callB call_isiT hx hm (by decide +kernel) (pa_cons ha (pa_cons (pe_tup (pa_cons (pe_bltn (v := .ty T1) hx2 hm2 hv2 rfl hn hd) (pa_cons (pe_bltn (v := .ty T2) hx3 hm3 hv3 rfl hn3 hd3) pa_nil he4) he3)) pa_nil he2) he) (he := he) (hpl := hpl)) fun σ H Q => by
    rintro ⟨P, F, m, e, h, S, E, fin⟩
    refine rd_seq S E fin fun F1 m1 h1 H1 x dx x1 S1 E1 r1 fin1 => ?_
    refine ⟨by show 2 ≤ sizeLine; decide, fun tp hp => ?_⟩
    cases q : tyAt h1 dx with
    | none => rw [q] at fin1; exact fin1.bad_elim
    | some t =>
      rw [q] at fin1
      have S2 := S1.other (o := .tup [.ty T1, .ty T2]) hp
      refine ⟨x, tp, [.ty T1, .ty T2], .type t, [.type T1, .type T2], isiB t T1 || isiB t T2, rfl, upd_same, .cons (.ty _) (.cons (.ty _) .nil), tyAt_ok S2 r1 q, kitAny_two (kit_at (tyAt_mem q) hT1) (kit_at (tyAt_mem q) hT2), fin1.ok S2 ?_⟩
      simp only [List.any_cons, List.any_nil, Bool.or_false]
      exact .bl _
/-! ### attributes -/
theorem ofString_inj {a b : String} (h : Str.ofString a = Str.ofString b) : a = b := by
  rw [Str.ofString_eq_toList, Str.ofString_eq_toList] at h
  have h2 : (a.toList.map Char.toNat) = (b.toList.map Char.toNat) := by simpa using h
  have h3 : a.toList = b.toList := by
    have inj : ∀ (l l' : List Char), l.map Char.toNat = l'.map Char.toNat → l = l' := by
      intro l
      induction l with
      | nil => intro l' e; cases l' with
        | nil => rfl
        | cons _ _ => simp at e
      | cons c l ih => intro l' e; cases l' with
        | nil => simp at e
        | cons c' l' =>
          simp only [List.map_cons, List.cons.injEq] at e
          rw [Char.toNat_inj.mp e.1, ih l' e.2]
    exact inj _ _ h2
  exact String.toList_inj.mp h3
theorem ofString_beq (a b : String) : (Str.ofString a == Str.ofString b) = (a == b) := by
  by_cases e : a = b
  · subst e; simp
  · have e2 : Str.ofString a ≠ Str.ofString b := fun z => e (ofString_inj z)
    rw [beq_eq_false_iff_ne.mpr e, beq_eq_false_iff_ne.mpr e2]
theorem DenF.look {K : PySem.W.Frag} {F : Hp} {m : List Addr} {f : String} {d : D} : ∀ {fv : List (Str × V)} {fs : List (String × D)}, DenF K F m fv fs → fs.lookup f = some d → ∃ v, fv.lookup (Str.ofString f) = some v ∧ Den K F m v d
  | _, _, .nil, e => by simp at e
  | _, _, .cons (f := g) h t, e => by
    rw [List.lookup_cons] at e ⊢
    rw [ofString_beq]
    cases q : (f == g) with
    | true =>
      rw [q] at e
      simp only [Option.some.injEq] at e
      subst e
      exact ⟨_, rfl, h⟩
    | false =>
      rw [q] at e
      exact DenF.look t e
theorem DenF.none {K : PySem.W.Frag} {F : Hp} {m : List Addr} {f : String} : ∀ {fv : List (Str × V)} {fs : List (String × D)}, DenF K F m fv fs → fs.lookup f = none → fv.lookup (Str.ofString f) = none
  | _, _, .nil, _ => rfl
  | _, _, .cons (f := g) h t, e => by
    rw [List.lookup_cons] at e ⊢
    rw [ofString_beq]
    cases q : (f == g) with
    | true => rw [q] at e; cases e
    | false => rw [q] at e; exact DenF.none t e
def putS (f : String) (d : D) : List (String × D) → List (String × D)
  | [] => [(f, d)]
  | (g, x) :: r => if g = f then (g, d) :: r else (g, x) :: putS f d r
/-- the fields of an instance -/
def insAt (h : OH) : D → Option (String × List (String × D))
  | .obj C fs => some (C, fs)
  | .ref i => (match h[i]? with
    | some (.ins C fs) => some (C, fs)
    | _ => none)
  | _ => none
theorem insAt_ok {K : PySem.W.Frag} {P : Pins} {F : Hp} {m : List Addr} {h : OH} {H : Hp} {v : V} {d : D} {C : String} {fs : List (String × D)} (S : Sim K P F m h H) (r : Den K F m v d) (q : insAt h d = some (C, fs)) : ∃ a dx fv, v = .ref a ∧ H a = some (.ins (He.ga K (Str.ofString C)) dx fv) ∧ ObT K C fs ∧ DenF K F m fv fs := by
  cases r with
  | obj e t r => cases q; exact ⟨_, _, _, rfl, S.sub _ _ e, t, r⟩
  | ref e =>
    obtain ⟨o, h1, h2⟩ := S.own e
    unfold insAt at q
    simp only [h1] at q
    cases o with
    | ins C' fs' =>
      cases q
      obtain ⟨dx, fv, k1, k2, k3, _⟩ := h2
      exact ⟨_, dx, fv, rfl, k1, k2, k3⟩
    | _ => cases q
  | _ => cases q
theorem mem_of_lookup {f : String} {d : D} : ∀ {fs : List (String × D)}, fs.lookup f = some d → ∃ q ∈ fs, q.1 = f
  | [], e => by simp at e
  | (g, x) :: r, e => by
    rw [List.lookup_cons] at e
    cases q : (f == g) with
    | true => exact ⟨(g, x), List.mem_cons_self, (eq_of_beq q).symm⟩
    | false =>
      rw [q] at e
      obtain ⟨p, hp, e2⟩ := mem_of_lookup e
      exact ⟨p, List.mem_cons_of_mem _ hp, e2⟩
def opFld (f : String) : D → OH → Res D := fun d h => match insAt h d with
  | some q => (match q.2.lookup f with
    | some x => .ok x h
    | none => .bad)
  | none => .bad
theorem de_fld {a : Expr} {f : String} {pos : Pos} {fa : SE} (ha : DE X W a fa) (hb : attributeBase a (Str.ofString f) X.env (eval a X.env) = eval a X.env := by rfl) : DE X W (.Attribute a (Str.ofString f) pos) (sUn (opFld f) fa) := PE.of (pe_fld ha hb) fun σ H Q => by
  rintro ⟨P, F, m, e, h, S, E, fin⟩
  refine rd_seq S E fin fun F1 m1 h1 H1 x dx x1 S1 E1 r1 fin1 => ?_
  unfold opFld at fin1
  cases q : insAt h1 dx with
  | none => rw [q] at fin1; exact fin1.bad_elim
  | some z =>
    obtain ⟨C, fs⟩ := z
    rw [q] at fin1
    dsimp only at fin1
    obtain ⟨b, dxx, fv, rfl, hb2, ob, rf⟩ := insAt_ok S1 r1 q
    cases q2 : fs.lookup f with
    | none => rw [q2] at fin1; exact fin1.bad_elim
    | some d =>
      rw [q2] at fin1
      obtain ⟨v, l, rv⟩ := rf.look q2
      obtain ⟨p, hp, e2⟩ := mem_of_lookup q2
      subst e2
      exact ⟨b, _, dxx, fv, v, rfl, hb2, ob.1, ob.2 p hp, l, fin1.ok S1 rv⟩
/-! ### methods of own lists -/
/-- the receiver must be an own list all along -/
def isOwn (h : OH) : D → Bool
  | .ref i => (match h[i]? with
    | some (.lst _) => true
    | _ => false)
  | _ => false
def sMtO (g : Nat → List D → List D → OH → Res D) (o : SE) (a : SA) : SE := fun e h => (o e h).bind fun x h1 => if isOwn h1 x then (a e h1).bind fun ys h2 => (match x with
    | .ref i => (match h2[i]? with
      | some (.lst xs) => g i xs ys h2
      | _ => .bad)
    | _ => .bad) else .bad
theorem rd_mt {g : Nat → List D → List D → OH → Res D} {r : V → List V → Hp → VK → Prop} {fo : SE} {fa : SA} {σ : St} {H : Hp} {Q : VK}
    (hg : ∀ (P : Pins) (F : Hp) (m : List Addr) (h : OH) (H : Hp) (i : Nat) (a : Addr) (vs ws : List V) (xs ys : List D), Sim X.K P F m h H → m[i]? = some a → h[i]? = some (.lst xs) → H a = some (.lst vs) → DenL X.K F m vs xs → F a = none → DenL X.K F m ws ys → FinG X.K P W σ (Den X.K) Q F m (g i xs ys h) → r (.ref a) ws H Q)
    (q : rdG X.K W (Den X.K) (sMtO g fo fa) σ H Q) : rdG X.K W (Den X.K) fo σ H (fun x H1 => tyV X.K "list" x H1 ∧ rdG X.K W (DenL X.K) fa σ H1 fun xs H2 => r x xs H2 Q) := by
  obtain ⟨P, F, m, e, h, S, E, fin⟩ := q
  refine rd_seq S E fin fun F1 m1 h1 H1 x dx x1 S1 E1 r1 fin1 => ?_
  by_cases ho : isOwn h1 dx = true
  · rw [if_pos ho] at fin1
    cases r1 with
    | @ref a i e1 =>
      have ty : tyV X.K "list" (.ref a) H1 := by
        obtain ⟨o, k1, k2⟩ := S1.own e1
        simp only [isOwn, k1] at ho
        cases o with
        | lst xs =>
          obtain ⟨vs, k3, _⟩ := k2
          exact .inl ⟨rfl, vs, .inl (.inl k3)⟩
        | _ => cases ho
      refine ⟨ty, ?_⟩
      refine rd_seq S1 E1 fin1 fun F2 m2 h2 H2 ws ys x2 S2 E2 r2 fin2 => ?_
      have e2 := pre_get x2.p e1
      obtain ⟨o, k1, k2⟩ := S2.own e2
      dsimp only at fin2
      rw [k1] at fin2
      cases o with
      | lst xs =>
        obtain ⟨vs, k3, k4, k5⟩ := k2
        exact hg P F2 m2 h2 H2 i a vs ws xs ys S2 e2 k1 k3 k4 k5 r2 fin2
      | _ => exact fin2.bad_elim
    | _ => simp [isOwn] at ho
  · rw [if_neg ho] at fin1
    exact fin1.bad_elim
def gAppend (i : Nat) (xs ys : List D) (h : OH) : Res D := match ys with
  | [y] => if xs.length < big then .ok .non (h.set i (.lst (xs ++ [y]))) else .bad
  | _ => .bad
theorem de_append {o a : Expr} {fo fa : SE} {apos cpos : Pos} (ho : DE X W o fo) (ha : DE X W a fa) (hbase : attributeBase o "append" X.env (eval o X.env) = eval o X.env := by rfl)
    (hfew : ((backTo cpos (starEach [a] X.env)).all (fun x => !x.1) && (backToKw cpos (keywordEach [] X.env)).all (fun x => x.1.isSome) && decide (([a] : List Expr).length + ([] : List Keyword).length + (if ([] : List Keyword).isEmpty then 0 else 1) < 30)) = true := by rfl)
    (hline : (apos.endLine == cpos.line) = true := by rfl) (hs : starEach [a] X.env = (false, eval a X.env) :: starEach [] X.env := by rfl) (hplain : (backTo cpos (starEach [] X.env)).any (·.1) = false := by rfl) : DE X W (.Call (.Attribute o "append" apos) [a] [] cpos) (sMtO gAppend fo (sCons fa sNil)) :=
  PE.of (pe_bm PySem.F.plainAttrs_list PySem.F.slot_list_append PySem.F.type_list_append mt_append ho (da_cons ha da_nil hs) hbase hfew hline hs hplain) fun σ H Q => rd_mt (r := rAppend) fun P F m h H i a vs ws xs ys S e1 e2 ha rl nf rw fin => by
    unfold gAppend at fin
    split at fin
    · rename_i y
      obtain ⟨w, rfl, ry⟩ := denL1 rw
      by_cases hz : xs.length < big
      · rw [if_pos hz] at fin
        refine ⟨a, vs, w, rfl, rfl, ha, by rw [rl.length]; exact big_lt hz, fin.ok (S.write e1 e2 nf ⟨_, upd_same, rl.append (.cons ry .nil), nf⟩) .non⟩
      · rw [if_neg hz] at fin
        exact fin.bad_elim
    · exact fin.bad_elim
def gPop (i : Nat) (xs ys : List D) (h : OH) : Res D := match ys with
  | [] => (match xs[xs.length - 1]? with
    | some y => .ok y (h.set i (.lst xs.dropLast))
    | none => .bad)
  | _ => .bad
def gPopAt (i : Nat) (xs ys : List D) (h : OH) : Res D := match ys with
  | [.int k] => if -(2 ^ 63) ≤ k ∧ k < 2 ^ 63 then (match seqIndex? k xs.length with
    | some j => (match xs[j]? with
      | some y => .ok y (h.set i (.lst (xs.eraseIdx j)))
      | none => .bad)
    | none => .bad) else .bad
  | _ => .bad
theorem DenL.dropLast {K : PySem.W.Frag} {F : Hp} {m : List Addr} {vs : List V} {ds : List D} (r : DenL K F m vs ds) : DenL K F m vs.dropLast ds.dropLast := by
  rw [List.dropLast_eq_take, List.dropLast_eq_take, r.length]
  exact r.take _
theorem de_popAt {o a : Expr} {fo fa : SE} {apos cpos : Pos} (ho : DE X W o fo) (ha : DE X W a fa) (hbase : attributeBase o "pop" X.env (eval o X.env) = eval o X.env := by rfl)
    (hfew : ((backTo cpos (starEach [a] X.env)).all (fun x => !x.1) && (backToKw cpos (keywordEach [] X.env)).all (fun x => x.1.isSome) && decide (([a] : List Expr).length + ([] : List Keyword).length + (if ([] : List Keyword).isEmpty then 0 else 1) < 30)) = true := by rfl)
    (hline : (apos.endLine == cpos.line) = true := by rfl) (hs : starEach [a] X.env = (false, eval a X.env) :: starEach [] X.env := by rfl) (hplain : (backTo cpos (starEach [] X.env)).any (·.1) = false := by rfl) : DE X W (.Call (.Attribute o "pop" apos) [a] [] cpos) (sMtO gPopAt fo (sCons fa sNil)) :=
  PE.of (pe_bm PySem.F.plainAttrs_list PySem.F.slot_list_pop PySem.F.type_list_pop mt_popAt ho (da_cons ha da_nil hs) hbase hfew hline hs hplain) fun σ H Q => rd_mt (r := rPopAt) fun P F m h H i a vs ws xs ys S e1 e2 ha rl nf rw fin => by
    unfold gPopAt at fin
    split at fin
    · rename_i k
      obtain ⟨w, rfl, ry⟩ := denL1 rw
      cases den_int ry
      by_cases hz : -(2 ^ 63) ≤ k ∧ k < 2 ^ 63
      · rw [if_pos hz] at fin
        cases q : seqIndex? k xs.length with
        | none => rw [q] at fin; exact fin.bad_elim
        | some j =>
          rw [q] at fin
          dsimp only at fin
          cases q2 : xs[j]? with
          | none => rw [q2] at fin; exact fin.bad_elim
          | some y =>
            rw [q2] at fin
            obtain ⟨v, e3, rv⟩ := rl.get q2
            exact ⟨a, vs, k, j, v, rfl, rfl, ha, hz.1, hz.2, by rw [rl.length]; exact q, e3, fin.ok (S.write e1 e2 nf ⟨_, upd_same, rl.eraseIdx j, nf⟩) rv⟩
      · rw [if_neg hz] at fin
        exact fin.bad_elim
    · exact fin.bad_elim
theorem de_pop {o : Expr} {fo : SE} {apos cpos : Pos} (ho : DE X W o fo) (hbase : attributeBase o "pop" X.env (eval o X.env) = eval o X.env := by rfl) (hline : (apos.endLine == cpos.line) = true := by rfl) : DE X W (.Call (.Attribute o "pop" apos) [] [] cpos) (sMtO gPop fo sNil) :=
  PE.of (pe_bm0 PySem.F.plainAttrs_list PySem.F.slot_list_pop PySem.F.type_list_pop mt_pop ho hbase hline) fun σ H Q q => by
    have q2 := rd_mt (r := rPop) (fun P F m h H i a vs ws xs ys S e1 e2 ha rl nf rw fin => by
      unfold gPop at fin
      split at fin
      · cases rw
        cases q2 : xs[xs.length - 1]? with
        | none => rw [q2] at fin; exact fin.bad_elim
        | some y =>
          rw [q2] at fin
          obtain ⟨v, e3, rv⟩ := rl.get q2
          exact ⟨a, vs, v, rfl, rfl, ha, by rw [rl.length]; exact e3, fin.ok (S.write e1 e2 nf ⟨_, upd_same, rl.dropLast, nf⟩) rv⟩
      · exact fin.bad_elim) q
    obtain ⟨P, F, m, e, h, S, E, fin⟩ := q2
    refine ⟨P, F, m, e, h, S, E, ?_⟩
    cases k : fo e h with
    | bad => rw [k] at fin; exact fin.elim
    | exc C p h1 => rw [k] at fin; exact fin
    | ok d h1 =>
      rw [k] at fin
      intro v F1 m1 H1 x1 S1 r1
      obtain ⟨t1, P2, F2, m2, e2, h2, S2, E2, fin2⟩ := fin v F1 m1 H1 x1 S1 r1
      exact ⟨t1, FinG.ok fin2 S2 .nil⟩
end
end HR
set_option Elab.async false
set_option linter.all false
set_option maxRecDepth 100000
set_option maxHeartbeats 2000000
/-! LayE: statements, targets, loops, comprehensions. -/
namespace HR
open PySem L2
def FinS (K : PySem.W.Frag) (P : Pins) (W : WX) (Dn : Ends) (F : Hp) (m : List Addr) : SRes → Prop
  | .nx e h' => ∀ σ F' m' H', Ext F m F' m' → Sim K P F' m' h' H' → EnvR K F' m' σ e → Dn.nx σ H'
  | .bk e h' => ∀ σ F' m' H', Ext F m F' m' → Sim K P F' m' h' H' → EnvR K F' m' σ e → Dn.bk σ H'
  | .ct e h' => ∀ σ F' m' H', Ext F m F' m' → Sim K P F' m' h' H' → EnvR K F' m' σ e → Dn.ct σ H'
  | .rt d h' => ∀ v F' m' H', Ext F m F' m' → Sim K P F' m' h' H' → Den K F' m' v d → Dn.rt v H'
  | .exc C p e h' => ∀ od σ F' m' H', Ext F m F' m' → Sim K P F' m' h' H' → PayD K F' m' p od → EnvR K F' m' σ e → W (.ref (He.ga K (Str.ofString C))) od σ H'
  | .bad => False
def rdS (K : PySem.W.Frag) (W : WX) (f : SS) : TS := fun Dn σ H => ∃ P F m e h, Sim K P F m h H ∧ EnvR K F m σ e ∧ FinS K P W Dn F m (f e h)
abbrev DS (X : Cx) (W : WX) (st : Stmt) (f : SS) : Prop := PS X st (rdS X.K W f)
abbrev DSs (X : Cx) (W : WX) (sts : List Stmt) (f : SS) : Prop := PSs X sts (rdS X.K W f)
/-- behind an expression -/
def Res.toS {α : Type} (r : Res α) (e : Env') (g : α → OH → SRes) : SRes := match r with
  | .ok a h => g a h
  | .exc C p h => .exc C p e h
  | .bad => .bad
@[simp] theorem Res.toS_ok {α : Type} (a : α) (h : OH) (e : Env') (g : α → OH → SRes) : (Res.ok a h).toS e g = g a h := rfl
@[simp] theorem Res.toS_bad {α : Type} (e : Env') (g : α → OH → SRes) : (Res.bad : Res α).toS e g = .bad := rfl
@[simp] theorem Res.toS_exc {α : Type} (C : String) (p : Pay) (h : OH) (e : Env') (g : α → OH → SRes) : (Res.exc C p h : Res α).toS e g = .exc C p e h := rfl
section
variable {K : PySem.W.Frag} {P : Pins} {W : WX} {σ : St} {F F' : Hp} {m m' : List Addr} {h : OH} {H : Hp} {e : Env'} {Dn : Ends}
theorem FinS.weak (x : Ext F m F' m') : ∀ {r : SRes}, FinS K P W Dn F m r → FinS K P W Dn F' m' r
  | .nx _ _, q => fun σ F2 m2 H2 y => q σ F2 m2 H2 (x.trans y)
  | .bk _ _, q => fun σ F2 m2 H2 y => q σ F2 m2 H2 (x.trans y)
  | .ct _ _, q => fun σ F2 m2 H2 y => q σ F2 m2 H2 (x.trans y)
  | .rt _ _, q => fun v F2 m2 H2 y => q v F2 m2 H2 (x.trans y)
  | .exc _ _ _ _, q => fun od σ F2 m2 H2 y => q od σ F2 m2 H2 (x.trans y)
  | .bad, q => q
/-- an expression, then more -/
theorem st_seq {α β : Type} {rel : Rel β α} {f : Env' → OH → Res α} {g : α → OH → SRes} {R : β → Hp → Prop} (S : Sim K P F m h H) (E : EnvR K F m σ e) (fin : FinS K P W Dn F m ((f e h).toS e g))
    (k : ∀ F' m' h' H' v a, Ext F m F' m' → Sim K P F' m' h' H' → EnvR K F' m' σ e → rel F' m' v a → FinS K P W Dn F' m' (g a h') → R v H') : rdG K W rel f σ H R := by
  refine ⟨P, F, m, e, h, S, E, ?_⟩
  cases q : f e h with
  | ok a h1 =>
    rw [q] at fin
    exact fun v F1 m1 H1 x S1 r => k F1 m1 h1 H1 v a x S1 (E.mono x) r (FinS.weak x fin)
  | exc C p h1 =>
    rw [q] at fin
    exact fun od F1 m1 H1 x S1 pd => fin od σ F1 m1 H1 x S1 pd (E.mono x)
  | bad =>
    rw [q] at fin
    exact fin.elim
theorem EnvR.set (E : EnvR K F m σ e) (i : Nat) {v : V} {d : D} (r : Den K F m v d) : EnvR K F m (σ.set i (some v)) (e.set i (some d)) := by
  refine ⟨by simp [E.len], fun j c q => ?_⟩
  by_cases hj : i = j
  · subst hj
    rw [List.getElem?_set] at q
    simp only [if_true] at q
    by_cases hi : i < e.length
    · rw [if_pos hi] at q
      simp only [Option.some.injEq] at q
      subst q
      exact ⟨v, by rw [List.getElem?_set_self (by rw [E.len]; exact hi)], r⟩
    · rw [if_neg hi] at q
      cases q
  · rw [List.getElem?_set_ne hj] at q
    obtain ⟨w, a, b⟩ := E.at_ j c q
    exact ⟨w, by rw [List.getElem?_set_ne hj]; exact a, b⟩
theorem EnvR.clr (E : EnvR K F m σ e) (i : Nat) : EnvR K F m (σ.set i none) (e.set i none) := by
  refine ⟨by simp [E.len], fun j c q => ?_⟩
  by_cases hj : i = j
  · subst hj
    rw [List.getElem?_set] at q
    simp only [if_true] at q
    split at q <;> cases q
  · rw [List.getElem?_set_ne hj] at q
    obtain ⟨w, a, b⟩ := E.at_ j c q
    exact ⟨w, by rw [List.getElem?_set_ne hj]; exact a, b⟩
def wipeD (e : Env') : List Nat → Env'
  | [] => e
  | v :: vs => (wipeD e vs).set v none
theorem EnvR.wipe (E : EnvR K F m σ e) : ∀ vs : List Nat, EnvR K F m (L2.wipe σ vs) (wipeD e vs)
  | [] => E
  | v :: vs => (E.wipe vs).clr v
end
theorem wipe_set {σ : St} {i : Nat} {x : Option V} : ∀ {vs : List Nat}, i ∈ vs → L2.wipe (σ.set i x) vs = L2.wipe σ vs
  | [], h => by simp at h
  | v :: vs, h => by
    show (L2.wipe (σ.set i x) vs).set v none = (L2.wipe σ vs).set v none
    by_cases hi : i ∈ vs
    · rw [wipe_set hi]
    · have hv : i = v := by
        rcases List.mem_cons.mp h with h | h
        · exact h
        · exact absurd h hi
      subst hv
      have comm : ∀ (ws : List Nat), i ∉ ws → L2.wipe (σ.set i x) ws = (L2.wipe σ ws).set i x := by
        intro ws
        induction ws with
        | nil => intro _; rfl
        | cons w ws ih =>
          intro hw
          simp only [List.mem_cons, not_or] at hw
          show (L2.wipe (σ.set i x) ws).set w none = ((L2.wipe σ ws).set w none).set i x
          rw [ih hw.2, List.set_comm _ _ (fun z => hw.1 z)]
      rw [comm vs hi, List.set_set]
section
variable {X : Cx} {W : WX}
theorem PS.of {st : Stmt} {t t' : TS} (h : PS X st t) (w : ∀ Dn σ H, t' Dn σ H → t Dn σ H) : PS X st t' := ⟨fun pins s σ H Dn I q => h.run pins s σ H Dn I (w Dn σ H q)⟩
theorem PSs.of {st : List Stmt} {t t' : TS} (h : PSs X st t) (w : ∀ Dn σ H, t' Dn σ H → t Dn σ H) : PSs X st t' := ⟨fun pins s σ H Dn I q => h.run pins s σ H Dn I (w Dn σ H q)⟩
def sNext : SS := fun e h => .nx e h
def sSeq (f g : SS) : SS := fun e h => match f e h with
  | .nx e1 h1 => g e1 h1
  | r => r
def sBreak : SS := fun e h => .bk e h
def sCont : SS := fun e h => .ct e h
def sExpr (f : SE) : SS := fun e h => (f e h).toS e fun _ h1 => .nx e h1
def sRet (f : SE) : SS := fun e h => (f e h).toS e fun d h1 => .rt d h1
def sRetN : SS := fun _ h => .rt .non h
def sSet (i : Nat) (f : SE) : SS := fun e h => (f e h).toS e fun d h1 => .nx (e.set i (some d)) h1
def sIfS (c : ST) (a b : SS) : SS := fun e h => (c e h).toS e fun t h1 => if t then a e h1 else b e h1
theorem ds_nil : DSs X W [] sNext := PSs.of pss_nil fun Dn σ H => by
  rintro ⟨P, F, m, e, h, S, E, fin⟩
  exact fin σ F m H .refl S E
theorem ds_cons {st : Stmt} {rest : List Stmt} {f g : SS} (h1 : DS X W st f) (h2 : DSs X W rest g) : DSs X W (st :: rest) (sSeq f g) := PSs.of (pss_cons h1 h2) fun Dn σ H => by
  rintro ⟨P, F, m, e, h, S, E, fin⟩
  refine ⟨P, F, m, e, h, S, E, ?_⟩
  unfold sSeq at fin
  cases q : f e h with
  | nx e1 h1 =>
    rw [q] at fin
    exact fun σ' F1 m1 H1 x S1 E1 => ⟨P, F1, m1, e1, h1, S1, E1, FinS.weak x fin⟩
  | bk e1 h1 => rw [q] at fin; exact fin
  | ct e1 h1 => rw [q] at fin; exact fin
  | rt d h1 => rw [q] at fin; exact fin
  | exc C p e1 h1 => rw [q] at fin; exact fin
  | bad => rw [q] at fin; exact fin
theorem ds_one {st : Stmt} {f : SS} (h1 : DS X W st f) : DSs X W [st] f := PSs.of (pss_one h1) fun Dn σ H q => q
theorem ds_break {pos : Pos} : DS X W (.Break pos) sBreak := PS.of ps_break fun Dn σ H => by
  rintro ⟨P, F, m, e, h, S, E, fin⟩
  exact fin σ F m H .refl S E
theorem ds_expr {a : Expr} {f : SE} {pos : Pos} (ha : DE X W a f) (hs : swapsWith a none pos.line X.env = pure false := by rfl) : DS X W (.Expr a pos) (sExpr f) := PS.of (ps_expr ha hs) fun Dn σ H => by
  rintro ⟨P, F, m, e, h, S, E, fin⟩
  exact st_seq S E fin fun F1 m1 h1 H1 v d x S1 E1 r fin1 => fin1 σ F1 m1 H1 .refl S1 E1
theorem ds_ret {a : Expr} {f : SE} {pos : Pos} (ha : DE X W a f) : DS X W (.Return (some a) pos) (sRet f) := PS.of (ps_ret ha) fun Dn σ H => by
  rintro ⟨P, F, m, e, h, S, E, fin⟩
  exact st_seq S E fin fun F1 m1 h1 H1 v d x S1 E1 r fin1 => fin1 v F1 m1 H1 .refl S1 r
theorem ds_set (i : Nat) {x : Str} {a : Expr} {f : SE} {pos pos' : Pos} (hN : X.N.Nodup) (ha : DE X W a f) (hi : X.N[i]? = some x := by rfl) (hx : Loc X.env.scope x := by first | exact Or.inl rfl | exact Or.inr rfl) (hs : swapsWith a (some (.Name x pos')) pos.line X.env = pure false := by rfl)
    (hf : X.fn x = true ∨ X.env.scope.names.lookup x = some .local := by first | exact .inl rfl | exact .inr rfl | assumption) : DS X W (.Assign [.Name x pos'] a pos) (sSet i f) := PS.of (ps_set hN hi hx ha hs hf) fun Dn σ H => by
  rintro ⟨P, F, m, e, h, S, E, fin⟩
  exact st_seq S E fin fun F1 m1 h1 H1 v d x S1 E1 r fin1 => fin1 _ F1 m1 H1 .refl S1 (E1.set i r)
theorem ds_if {c : Expr} {a b : List Stmt} {fc : ST} {fa fb : SS} {pos : Pos} (hc : DT X W c fc) (ha : DSs X W a fa) (hb : DSs X W b fb) : DS X W (.If c a b pos) (sIfS fc fa fb) := PS.of (ps_if hc ha hb) fun Dn σ H => by
  rintro ⟨P, F, m, e, h, S, E, fin⟩
  refine st_seq S E fin fun F1 m1 h1 H1 v d x S1 E1 r fin1 => ?_
  have r : v = d := r
  subst r
  cases v with
  | true => exact ⟨P, F1, m1, e, h1, S1, E1, fin1⟩
  | false => exact ⟨P, F1, m1, e, h1, S1, E1, fin1⟩
/-! ### targets -/
abbrev TF := D → Env' → OH → Option Env'
def rdTG (K : PySem.W.Frag) (vs : List Nat) (g : TF) : TG := fun v σ H Q => ∃ P F m e h d, Sim K P F m h H ∧ EnvR K F m σ e ∧ Den K F m v d ∧ ∃ e', g d e h = some e' ∧ ∀ σ', EnvR K F m σ' e' → L2.wipe σ' vs = L2.wipe σ vs → Q σ' H
abbrev DG (X : Cx) (vs : List Nat) (tg : Expr) (g : TF) : Prop := PG X tg (rdTG X.K vs g)
abbrev TFs := List D → Env' → OH → Option Env'
def rdTGs (K : PySem.W.Frag) (vs : List Nat) (g : TFs) : TGs := fun ws σ H Q => ∃ P F m e h ds, Sim K P F m h H ∧ EnvR K F m σ e ∧ DenL K F m ws ds ∧ ∃ e', g ds e h = some e' ∧ ∀ σ', EnvR K F m σ' e' → L2.wipe σ' vs = L2.wipe σ vs → Q σ' H
abbrev DGs (X : Cx) (vs : List Nat) (ts : List Expr) (g : TFs) : Prop := PGs X ts (rdTGs X.K vs g)
theorem PG.of {tg : Expr} {t t' : TG} (h : PG X tg t) (w : ∀ v σ H Q, t' v σ H Q → t v σ H Q) : PG X tg t' := ⟨fun pins s σ H v u Q I r q => h.run pins s σ H v u Q I r (w v σ H Q q)⟩
theorem PGs.of {ts : List Expr} {t t' : TGs} (h : PGs X ts t) (w : ∀ v σ H Q, t' v σ H Q → t v σ H Q) : PGs X ts t' := ⟨fun pins s σ H v u Q I r q => h.run pins s σ H v u Q I r (w v σ H Q q)⟩
theorem pgOr {tg : Expr} {t t' : TG} (h : PG X tg t) (h' : PG X tg t') : PG X tg (fun v σ H Q => t v σ H Q ∨ t' v σ H Q) := ⟨fun pins s σ H v u Q I r q => q.elim (h.run pins s σ H v u Q I r) (h'.run pins s σ H v u Q I r)⟩
def gN (i : Nat) : TF := fun d e _ => some (e.set i (some d))
def gNl : TFs := fun ds e _ => match ds with
  | [] => some e
  | _ => none
def gCs (g : TF) (r : TFs) : TFs := fun ds e h => match ds with
  | d :: ds => (g d e h).bind fun e1 => r ds e1 h
  | [] => none
/-- a tuple or a list of n -/
def gT (n : Nat) (g : TFs) : TF := fun d e h => match seqAt h d with
  | some xs => if xs.length = n then g xs e h else none
  | none => none
theorem dg_name (i : Nat) {x : Str} {pos : Pos} {vs : List Nat} (hN : X.N.Nodup) (hi : X.N[i]? = some x := by rfl) (hx : Loc X.env.scope x := by first | exact Or.inl rfl | exact Or.inr rfl) (hv : i ∈ vs := by simp) (hf : X.fn x = true ∨ X.env.scope.names.lookup x = some .local := by first | exact .inl rfl | exact .inr rfl | assumption) : DG X vs (.Name x pos) (gN i) :=
  PG.of (pg_name hN hi hx hf) fun v σ H Q => by
    rintro ⟨P, F, m, e, h, d, S, E, r, e', q, k⟩
    cases q
    exact k _ (E.set i r) (wipe_set hv)
theorem dg_nil {vs : List Nat} : DGs X vs [] gNl := PGs.of pgs_nil fun v σ H Q => by
  rintro ⟨P, F, m, e, h, ds, S, E, r, e', q, k⟩
  cases r with
  | nil =>
    cases q
    exact ⟨rfl, k σ E rfl⟩
  | cons _ _ => cases q
theorem dg_cons {t : Expr} {ts : List Expr} {vs : List Nat} {g : TF} {gr : TFs} (h1 : DG X vs t g) (h2 : DGs X vs ts gr) (hs : (assignEach (t :: ts) X.env).map (·.2) = assign t X.env :: (assignEach ts X.env).map (·.2) := by rfl) : DGs X vs (t :: ts) (gCs g gr) := PGs.of (pgs_cons h1 h2 hs) fun v σ H Q => by
  rintro ⟨P, F, m, e, h, ds, S, E, r, e', q, k⟩
  cases r with
  | nil => cases q
  | @cons v d ws ds a b =>
    simp only [gCs, Option.bind_eq_some_iff] at q
    obtain ⟨e1, q1, q2⟩ := q
    exact ⟨v, ws, rfl, P, F, m, e, h, d, S, E, a, e1, q1, fun σ1 E1 w1 => ⟨P, F, m, e1, h, ds, S, E1, b, e', q2, fun σ2 E2 w2 => k σ2 E2 (w2.trans w1)⟩⟩
theorem dg_tup {ts : List Expr} {n j : Nat} {vs : List Nat} {pos : Pos} {gr : TFs} (hc : X.calm = true) (h : DGs X vs ts gr) (hn : ts.length = n := by rfl) (h1 : PG X (.Tuple ts j pos) (gTup X.K n (rdTGs X.K vs gr))) (h2 : PG X (.Tuple ts j pos) (gLst X.K n (rdTGs X.K vs gr))) : DG X vs (.Tuple ts j pos) (gT n gr) :=
  PG.of (pgOr h1 h2) fun v σ H Q => by
    rintro ⟨P, F, m, e, h, d, S, E, r, e', q, k⟩
    unfold gT at q
    cases q1 : seqAt h d with
    | none => rw [q1] at q; cases q
    | some xs =>
      rw [q1] at q
      dsimp only at q
      by_cases hz : xs.length = n
      · rw [if_pos hz] at q
        obtain ⟨a, ws, rfl, ha, rl⟩ := seqAt_ok S r q1
        have body : rdTGs X.K vs gr ws σ H Q := ⟨P, F, m, e, h, xs, S, E, rl, e', q, k⟩
        rcases ha with ha | ha
        · exact .inr ⟨a, ws, rfl, ha, by rw [rl.length]; exact hz, body⟩
        · exact .inl ⟨a, ws, rfl, ha, by rw [rl.length]; exact hz, body⟩
      · rw [if_neg hz] at q
        cases q
/-- target = e, a tuple of names -/
def sAsg (g : TF) (f : SE) : SS := fun e h => (f e h).toS e fun d h1 => match g d e h1 with
  | some e1 => .nx e1 h1
  | none => .bad
theorem ds_asg {tg a : Expr} {vs : List Nat} {g : TF} {f : SE} {pos : Pos} (ha : DE X W a f) (hg : DG X vs tg g) (hs : swapsWithSole [tg] a pos.line X.env = pure false := by rfl) (hw : swappedStores [tg] a X.env = pure none := by rfl) (h1 : (assignEach [tg] X.env).map (·.2) = [assign tg X.env] := by rfl) : DS X W (.Assign [tg] a pos) (sAsg g f) :=
  PS.of (ps_asg ha hg hs hw h1) fun Dn σ H => by
    rintro ⟨P, F, m, e, h, S, E, fin⟩
    refine st_seq S E fin fun F1 m1 h1 H1 v d x S1 E1 r fin1 => ?_
    cases q : g d e h1 with
    | none => rw [q] at fin1; exact fin1.elim
    | some e1 =>
      rw [q] at fin1
      exact ⟨P, F1, m1, e, h1, d, S1, E1, r, e1, q, fun σ' E' _ => fin1 σ' F1 m1 H1 .refl S1 E'⟩
/-- a, b = x, y -/
def sPar (i j : Nat) (f : SA) : SS := fun e h => (f e h).toS e fun ds h1 => match ds with
  | [x, y] => .nx ((e.set i (some x)).set j (some y)) h1
  | _ => .bad
theorem ds_par {i j : Nat} {x y : Str} {a b : Expr} {fa : SA} {px py pt : Pos} {kt k2 : Nat} {pt2 pos : Pos} (hc : X.calm = true) (hN : X.N.Nodup) (ha : DA X W [a, b] fa) (hi : X.N[i]? = some x := by rfl) (hj : X.N[j]? = some y := by rfl) (hij : i ≠ j := by decide)
    (hx : X.env.scope.names.lookup x = some .local := by rfl) (hy : X.env.scope.names.lookup y = some .local := by rfl)
    (hw : swappedStores [.Tuple [.Name x px, .Name y py] kt pt] (.Tuple [a, b] k2 pt2) X.env = pure (some [x, y]) := by rfl)
    (hs : swapsWithSole [.Tuple [.Name x px, .Name y py] kt pt] (.Tuple [a, b] k2 pt2) pos.line X.env = pure false := by rfl) : DS X W (.Assign [.Tuple [.Name x px, .Name y py] kt pt] (.Tuple [a, b] k2 pt2) pos) (sPar i j fa) :=
  PS.of (ps_par hc hN hi hj hij hx hy ha hw hs) fun Dn σ H => by
    rintro ⟨P, F, m, e, h, S, E, fin⟩
    refine st_seq S E fin fun F1 m1 h1 H1 v d x S1 E1 r fin1 => ?_
    match d, r, fin1 with
    | [c1, c2], r, fin1 =>
      obtain ⟨v1, v2, rfl, r1, r2⟩ := denL2 r
      exact ⟨v1, v2, rfl, fin1 _ F1 m1 H1 .refl S1 ((E1.set i r1).set j r2)⟩
    | [], _, fin1 => exact fin1.elim
    | [_], _, fin1 => exact fin1.elim
    | _ :: _ :: _ :: _, _, fin1 => exact fin1.elim
/-! ### x op= e -/
def sAug (i : Nat) (g : D → D → OH → Res D) (f : SE) : SS := fun e h => match e[i]? with
  | some (some x) => (f e h).toS e fun y h1 => (g x y h1).toS e fun z h2 => .nx (e.set i (some z)) h2
  | _ => .bad
/-- o.f = e -/
def sFldS (C f : String) (o v : SE) : SS := fun e h => (v e h).toS e fun y h1 => (o e h1).toS e fun x h2 => match x with
  | .ref i => (match h2[i]? with
    | some (.ins C' fs) => if C' = C ∧ fs.length < 900 then .nx e (h2.set i (.ins C (putS f y fs))) else .bad
    | _ => .bad)
  | _ => .bad
theorem putF_den {K : PySem.W.Frag} {F : Hp} {m : List Addr} {f : String} {v : V} {d : D} (r : Den K F m v d) : ∀ {fv : List (Str × V)} {fs : List (String × D)}, DenF K F m fv fs → DenF K F m (putF (Str.ofString f) v fv) (putS f d fs)
  | _, _, .nil => .cons r .nil
  | _, _, .cons (f := g) (d := d0) h t => by
    unfold putF putS
    by_cases e : g = f
    · subst e
      rw [if_pos rfl]
      first
        | (rw [if_pos rfl]; exact .cons r t)
        | (simp only [beq_self_eq_true, if_true]; exact .cons r t)
    · have e2 : ¬ Str.ofString g = Str.ofString f := fun z => e (ofString_inj z)
      rw [if_neg e]
      first
        | (rw [if_neg e2]; exact .cons h (putF_den r t))
        | (rw [if_neg (fun z => e2 z.symm)]; exact .cons h (putF_den r t))
theorem putS_keys {f : String} {d : D} : ∀ {fs : List (String × D)} {q : String × D}, q ∈ putS f d fs → q.1 = f ∨ ∃ p ∈ fs, p.1 = q.1
  | [], q, h => by
    simp only [putS, List.mem_singleton] at h
    subst h
    exact .inl rfl
  | (g, x) :: r, q, h => by
    unfold putS at h
    by_cases e : g = f
    · rw [if_pos e] at h
      rcases List.mem_cons.mp h with h | h
      · subst h; exact .inl e
      · exact .inr ⟨q, List.mem_cons_of_mem _ h, rfl⟩
    · rw [if_neg e] at h
      rcases List.mem_cons.mp h with h | h
      · subst h; exact .inr ⟨(g, x), List.mem_cons_self, rfl⟩
      · rcases putS_keys h with h | ⟨p, hp, e2⟩
        · exact .inl h
        · exact .inr ⟨p, List.mem_cons_of_mem _ hp, e2⟩
theorem DenF.length {K : PySem.W.Frag} {F : Hp} {m : List Addr} : ∀ {fv : List (Str × V)} {fs : List (String × D)}, DenF K F m fv fs → fv.length = fs.length
  | _, _, .nil => rfl
  | _, _, .cons _ t => by rw [List.length_cons, List.length_cons, DenF.length t]
theorem ds_fld {o a : Expr} {C f : String} {fo fa : SE} {pos pos' : Pos} (hn : NoAttr X.K (He.ga X.K (Str.ofString C)) (Str.ofString f)) (ho : DE X W o fo) (ha : DE X W a fa) (hs : swapsWith a (some (.Attribute o (Str.ofString f) pos')) pos.line X.env = pure false := by rfl) :
    DS X W (.Assign [.Attribute o (Str.ofString f) pos'] a pos) (sFldS C f fo fa) := PS.of (ps_fld ho ha hs) fun Dn σ H => by
  rintro ⟨P, F, m, e, h, S, E, fin⟩
  refine st_seq S E fin fun F1 m1 h1 H1 y dy x1 S1 E1 ry fin1 => ?_
  refine st_seq S1 E1 fin1 fun F2 m2 h2 H2 x dx x2 S2 E2 rx fin2 => ?_
  cases rx with
  | @ref b i e1 =>
    obtain ⟨ob, k1, k2⟩ := S2.own e1
    dsimp only at fin2
    rw [k1] at fin2
    cases ob with
    | ins C' fs =>
      dsimp only at fin2
      by_cases hz : C' = C ∧ fs.length < 900
      · rw [if_pos hz] at fin2
        obtain ⟨rfl, hl⟩ := hz
        obtain ⟨dx2, fv, k3, k4, k5, k6⟩ := k2
        have rd := putF_den (f := f) (ry.mono x2) k5
        refine ⟨b, _, dx2, fv, rfl, k3, k4.1, hn, by rw [k5.length]; omega, fin2 σ F2 m2 _ .refl (S2.write e1 k1 k6 ⟨dx2, _, upd_same, ⟨k4.1, fun q hq => ?_⟩, rd, k6⟩) E2⟩
        rcases putS_keys hq with h | ⟨p, hp, e2⟩
        · rw [h]; exact hn
        · rw [← e2]; exact k4.2 p hp
      · rw [if_neg hz] at fin2
        exact fin2.elim
    | _ => exact fin2.elim
  | _ => exact fin2.elim
/-- x[i] = e, x an own list -/
def sIxS (o i v : SE) : SS := fun e h => (v e h).toS e fun y h1 => (o e h1).toS e fun x h2 => (i e h2).toS e fun k h3 => match x, k with
  | .ref n, .int j => (match h3[n]? with
    | some (.lst xs) => (match ixN xs.length j with
      | some q => .nx e (h3.set n (.lst (xs.set q y)))
      | none => .bad)
    | _ => .bad)
  | _, _ => .bad
theorem ds_ix {o i a : Expr} {fo fi fa : SE} {pos pos' : Pos} (ho : DE X W o fo) (hi : DE X W i fi) (ha : DE X W a fa)
    (hg : PG X (.Subscript o i pos') (gSub (rdG X.K W (Den X.K) fo) (rdG X.K W (Den X.K) fi) rSetL)) (hs : swapsWithSole [.Subscript o i pos'] a pos.line X.env = pure false := by rfl) (hw : swappedStores [.Subscript o i pos'] a X.env = pure none := by rfl) (h1 : (assignEach [.Subscript o i pos'] X.env).map (·.2) = [assign (.Subscript o i pos') X.env] := by rfl) :
    DS X W (.Assign [.Subscript o i pos'] a pos) (sIxS fo fi fa) := PS.of (ps_asg ha hg hs hw h1) fun Dn σ H => by
  rintro ⟨P, F, m, e, h, S, E, fin⟩
  refine st_seq S E fin fun F1 m1 h1 H1 y dy x1 S1 E1 ry fin1 => ?_
  refine st_seq S1 E1 fin1 fun F2 m2 h2 H2 x dx x2 S2 E2 rx fin2 => ?_
  refine st_seq S2 E2 fin2 fun F3 m3 h3 H3 z dz x3 S3 E3 rz fin3 => ?_
  cases rx with
  | @ref b n e1 =>
    cases rz with
    | int j =>
      have e2 := pre_get x3.p e1
      obtain ⟨ob, k1, k2⟩ := S3.own e2
      dsimp only at fin3
      rw [k1] at fin3
      cases ob with
      | lst xs =>
        dsimp only at fin3
        obtain ⟨vs, k3, k4, k5⟩ := k2
        cases q : ixN xs.length j with
        | none => rw [q] at fin3; exact fin3.elim
        | some t =>
          rw [q] at fin3
          exact ⟨b, vs, j, t, rfl, rfl, k3, by rw [k4.length]; exact q, fin3 σ F3 m3 _ .refl (S3.write e2 k1 k5 ⟨_, upd_same, k4.set (ry.mono (x2.trans x3)) t, k5⟩) E3⟩
      | _ => exact fin3.elim
    | _ => exact fin3.elim
  | _ => cases dz <;> exact fin3.elim
/-! ### while -/
def whileF (c : ST) (b : SS) : Nat → SS
  | 0 => fun _ _ => .bad
  | n + 1 => fun e h => (c e h).toS e fun t h1 => if t then (match b e h1 with
    | .nx e2 h2 => whileF c b n e2 h2
    | .ct e2 h2 => whileF c b n e2 h2
    | .bk e2 h2 => .nx e2 h2
    | r => r) else .nx e h1
theorem ds_while {c : Expr} {body : List Stmt} {fc : ST} {fb : SS} {pos : Pos} (hp : PassesOwn (model X.prog X.w) X.A X.env X.xe) (n : Env' → OH → Nat) (hc : DT X W c fc) (hb : DSs X W body fb) : DS X W (.While c body [] pos) (fun e h => whileF fc fb (n e h) e h) := PS.of (ps_while hp hc hb) fun Dn σ H => by
  rintro ⟨P0, F0, m0, e0, h0, S0, E0, fin0⟩
  refine ⟨fun k σ H => ∃ P F m e h, Sim X.K P F m h H ∧ EnvR X.K F m σ e ∧ FinS X.K P W Dn F m (whileF fc fb k e h), ⟨n e0 h0, P0, F0, m0, e0, h0, S0, E0, fin0⟩, ?_⟩
  rintro k σ H ⟨P, F, m, e, h, S, E, fin⟩
  cases k with
  | zero => exact fin.elim
  | succ k =>
    refine st_seq S E fin fun F1 m1 h1 H1 v d x S1 E1 r fin1 => ?_
    have r : v = d := r
    subst r
    cases v with
    | false => exact fin1 σ F1 m1 H1 .refl S1 E1
    | true =>
      refine ⟨fun σ H => ∃ P F m e h, Sim X.K P F m h H ∧ EnvR X.K F m σ e ∧ FinS X.K P W Dn F m (whileF fc fb k e h), fun σ' H' q => ⟨k, Nat.lt_succ_self k, q⟩, P, F1, m1, e, h1, S1, E1, ?_⟩
      simp only [if_true] at fin1
      cases q : fb e h1 with
      | nx e2 h2 => rw [q] at fin1; exact fun σ2 F2 m2 H2 x2 S2 E2 => ⟨P, F2, m2, e2, h2, S2, E2, FinS.weak x2 fin1⟩
      | ct e2 h2 => rw [q] at fin1; exact fun σ2 F2 m2 H2 x2 S2 E2 => ⟨P, F2, m2, e2, h2, S2, E2, FinS.weak x2 fin1⟩
      | bk e2 h2 => rw [q] at fin1; exact fin1
      | rt d h2 => rw [q] at fin1; exact fin1
      | exc C p e2 h2 => rw [q] at fin1; exact fin1
      | bad => rw [q] at fin1; exact fin1
end
end HR
set_option Elab.async false
set_option linter.all false
set_option maxRecDepth 100000
set_option maxHeartbeats 2000000
/-! LayF: what is walked, for, comprehensions, defs and their calls, the law's end. -/
namespace HR
open PySem L2
open PyProof.Rows (envOfC)
/-- the iterator J gives ds -/
def Walks (K : PySem.W.Frag) (F0 : Hp) (m0 : List Addr) (J : It) (ds : List D) : Prop :=
  ∀ (P : Pins) (F : Hp) (m : List Addr) (h : OH) (H : Hp) (i : Nat), Ext F0 m0 F m → Sim K P F m h H →
    (i < ds.length → J.go i H ∧ ∀ x H', J.yld i H x H' → ∃ F', Ext F m F' m ∧ Sim K P F' m h H' ∧ ∃ d, ds[i]? = some d ∧ Den K F' m x d) ∧ (ds.length ≤ i → J.stop i H)
abbrev relI (K : PySem.W.Frag) : Rel It (List D) := fun F m J ds => Walks K F m J ds
abbrev DI (X : Cx) (W : WX) (tg iter : Expr) (f : SA) : Prop := PI X tg iter (rdG X.K W (relI X.K) f)
theorem Walks.mono {K : PySem.W.Frag} {F F' : Hp} {m m' : List Addr} {J : It} {ds : List D} (x : Ext F m F' m') (w : Walks K F m J ds) : Walks K F' m' J ds := fun P F2 m2 h H i y S => w P F2 m2 h H i (x.trans y) S
theorem PI.of {X : Cx} {tg iter : Expr} {w w' : TI} (h : PI X tg iter w) (k : ∀ σ H R, w' σ H R → w σ H R) : PI X tg iter w' := ⟨fun pins s σ H R I q => h.run pins s σ H R I (k σ H R q)⟩
section
variable {X : Cx} {W : WX}
/-- what a for takes from a frozen list or tuple -/
def frzAt : D → Option (List D)
  | .lst xs => some xs
  | .scr xs => some xs
  | _ => none
theorem den_sq {K : PySem.W.Frag} {F : Hp} {m : List Addr} {v : V} {d : D} {xs : List D} (r : Den K F m v d) (q : frzAt d = some xs) : ∃ a vs, v = .ref a ∧ SqL K F a vs ∧ DenL K F m vs xs := by
  cases r with
  | lst e t => cases q; exact ⟨_, _, rfl, .inl (.inl e), t⟩
  | scr e t => cases q; exact ⟨_, _, rfl, e, t⟩
  | _ => cases q
theorem walks_list {K : PySem.W.Frag} {F : Hp} {m : List Addr} {a : Addr} {vs : List V} {xs : List D} (q : SqL K F a vs) (r : DenL K F m vs xs) : Walks K F m (Itl K a) xs := by
  intro P F2 m2 h H i x S
  have q2 : SqL K H a vs := S.sub.seq (x.s.seq q)
  refine ⟨fun hi => ?_, fun hi => ⟨vs, q2, by rw [r.length]; exact hi⟩⟩
  have hv : i < vs.length := by rw [r.length]; exact hi
  refine ⟨⟨vs, vs[i], q2, List.getElem?_eq_getElem hv⟩, fun y H' yl => ?_⟩
  obtain ⟨rfl, yl⟩ := yl
  obtain ⟨d, e1, r1⟩ := r.getV (yl vs q2)
  exact ⟨F2, .refl, S, d, e1, r1.mono x⟩
theorem walks_tup {K : PySem.W.Frag} {F : Hp} {m : List Addr} {a : Addr} {vs : List V} {xs : List D} (q : SqT K F a vs) (r : DenL K F m vs xs) : Walks K F m (Itt K a) xs := by
  intro P F2 m2 h H i x S
  have q2 : SqT K H a vs := Same.sqT S.sub (Same.sqT x.s q)
  refine ⟨fun hi => ?_, fun hi => ⟨vs, q2, by rw [r.length]; exact hi⟩⟩
  have hv : i < vs.length := by rw [r.length]; exact hi
  refine ⟨⟨vs, vs[i], q2, List.getElem?_eq_getElem hv⟩, fun y H' yl => ?_⟩
  obtain ⟨rfl, yl⟩ := yl
  obtain ⟨d, e1, r1⟩ := r.getV (yl vs q2)
  exact ⟨F2, .refl, S, d, e1, r1.mono x⟩
def rngD (lo : Int) (n : Nat) : List D := (List.range n).map fun (k : Nat) => D.int (lo + k)
theorem walks_rng {K : PySem.W.Frag} {F : Hp} {m : List Addr} (lo : Int) (n : Nat) : Walks K F m (Itr lo n) (rngD lo n) := by
  intro P F2 m2 h H i x S
  have hl : (rngD lo n).length = n := by simp [rngD]
  rw [hl]
  refine ⟨fun hi => ⟨hi, fun y H' yl => ?_⟩, fun hi => hi⟩
  obtain ⟨rfl, rfl⟩ := yl
  exact ⟨F2, .refl, S, .int (lo + i), by simp [rngD, hi], .int _⟩
/-- a list or a tuple -/
def sItS (f : SE) : SA := fun e h => (f e h).bind fun d h1 => match d with
  | .tup xs => .ok xs h1
  | d => (match frzAt d with
    | some xs => .ok xs h1
    | none => .bad)
theorem pi_or {tg iter : Expr} {w w' : TI} (a : PI X tg iter w) (b : PI X tg iter w') : PI X tg iter (fun σ H R => w σ H R ∨ w' σ H R) := ⟨fun pins s σ H R I q => q.elim (a.run pins s σ H R I) (b.run pins s σ H R I)⟩
/-- what both walk: decided by the value (the expression is read once by either rule) -/
theorem di_seq {tg a : Expr} {f : SE} (ha : DE X W a f) : DI X W tg a (sItS f) := PI.of (pi_or (pi_list ha) (pi_tup ha)) fun σ H R => by
  rintro ⟨P, F, m, e, h, S, E, fin⟩
  cases q : f e h with
  | bad => unfold sItS at fin; rw [q] at fin; exact fin.elim
  | exc C p h1 =>
    unfold sItS at fin
    rw [q] at fin
    exact .inl ⟨P, F, m, e, h, S, E, by rw [q]; exact fin⟩
  | ok d h1 =>
    unfold sItS at fin
    rw [q] at fin
    simp only [Res.bind_ok] at fin
    cases d with
    | tup xs =>
      refine .inr ⟨P, F, m, e, h, S, E, ?_⟩
      rw [q]
      intro v F1 m1 H1 x S1 r
      cases r with
      | @tup b vs ds q rl => exact ⟨b, rfl, ⟨vs, .inl (.inl (S1.sub _ _ q))⟩, FinG.okX fin x S1 (walks_tup (.inl (.inl q)) rl)⟩
    | _ =>
      refine .inl ⟨P, F, m, e, h, S, E, ?_⟩
      rw [q]
      intro v F1 m1 H1 x S1 r
      first
        | exact False.elim fin
        | (obtain ⟨b, vs, rfl, hb, rl⟩ := den_sq r rfl
           exact ⟨b, rfl, ⟨vs, S1.sub.seq hb⟩, FinG.okX fin x S1 (walks_list hb rl)⟩)
def rngOk (i : Int) : Bool := decide (-(2 ^ 62) ≤ i) && decide (i < 2 ^ 62)
def sRng1 (a : SE) : SA := fun e h => (a e h).bind fun d h1 => match d with
  | .int j => if rngOk j then .ok (rngD 0 j.toNat) h1 else .bad
  | _ => .bad
def sRng2 (a b : SE) : SA := fun e h => (a e h).bind fun d h1 => (b e h1).bind fun d2 h2 => match d, d2 with
  | .int i, .int j => if rngOk i && rngOk j then .ok (rngD i (j - i).toNat) h2 else .bad
  | _, _ => .bad
theorem rngOk_ok {i : Int} (h : rngOk i = true) : -(2 ^ 62) ≤ i ∧ i < 2 ^ 62 := by
  unfold rngOk at h
  simpa using h
theorem di_rng1 {tg a : Expr} {f : SE} {p pos : Pos} (hg : Gl X "range") (hm : X.mg "range" = none) (ha : DE X W a f) (he : starEach [a] X.env = (false, eval a X.env) :: starEach [] X.env := by rfl) (hs : starEach [a] X.env = [(false, eval a X.env)] := by rfl) : DI X W tg (.Call (.Name "range" p) [a] [] pos) (sRng1 f) :=
  PI.of (pi_range1 hg hm (da_cons ha da_nil he) hs) fun σ H R => by
    rintro ⟨P, F, m, e, h, S, E, fin⟩
    refine ⟨P, F, m, e, h, S, E, ?_⟩
    unfold sRng1 at fin
    unfold sCons sNil
    cases q : f e h with
    | bad => rw [q] at fin; exact fin.elim
    | exc C p h1 => rw [q] at fin; exact fin
    | ok d h1 =>
      rw [q] at fin
      simp only [Res.bind_ok] at fin ⊢
      intro vs F1 m1 H1 x S1 r
      obtain ⟨v, rfl, r1⟩ := denL1 r
      cases d with
      | int j =>
        cases den_int r1
        dsimp only at fin
        by_cases hk : rngOk j = true
        · rw [if_pos hk] at fin
          have k := rngOk_ok hk
          exact ⟨j, rfl, k.1, k.2, FinG.okX fin x S1 (walks_rng 0 _)⟩
        · rw [if_neg hk] at fin
          exact fin.elim
      | _ => exact False.elim fin
theorem di_rng2 {tg a b : Expr} {f g : SE} {p pos : Pos} (hg : Gl X "range") (hm : X.mg "range" = none) (ha : DE X W a f) (hb : DE X W b g) (he : starEach [a, b] X.env = (false, eval a X.env) :: starEach [b] X.env := by rfl) (he2 : starEach [b] X.env = (false, eval b X.env) :: starEach [] X.env := by rfl)
    (hs : starEach [a, b] X.env = [(false, eval a X.env), (false, eval b X.env)] := by rfl) (hs2 : starEach [b] X.env = [(false, eval b X.env)] := by rfl) : DI X W tg (.Call (.Name "range" p) [a, b] [] pos) (sRng2 f g) :=
  PI.of (pi_range2 hg hm (da_cons ha (da_cons hb da_nil he2) he) hs hs2) fun σ H R => by
    rintro ⟨P, F, m, e, h, S, E, fin⟩
    refine ⟨P, F, m, e, h, S, E, ?_⟩
    unfold sRng2 at fin
    unfold sCons sNil
    cases q : f e h with
    | bad => rw [q] at fin; exact fin.elim
    | exc C p h1 => rw [q] at fin; exact fin
    | ok d h1 =>
      rw [q] at fin
      simp only [Res.bind_ok] at fin ⊢
      cases q2 : g e h1 with
      | bad => rw [q2] at fin; exact fin.elim
      | exc C p h2 => rw [q2] at fin; exact fin
      | ok d2 h2 =>
        rw [q2] at fin
        simp only [Res.bind_ok] at fin ⊢
        intro vs F1 m1 H1 x S1 r
        obtain ⟨v, v2, rfl, r1, r2⟩ := denL2 r
        cases d with
        | int i =>
          cases d2 with
          | int j =>
            cases den_int r1
            cases den_int r2
            dsimp only at fin
            by_cases hk : (rngOk i && rngOk j) = true
            · rw [if_pos hk] at fin
              obtain ⟨k1, k2⟩ := and2 hk
              have k1 := rngOk_ok k1
              have k2 := rngOk_ok k2
              exact ⟨i, j, rfl, ⟨k1.1, k1.2, k2.1, k2.2⟩, FinG.okX fin x S1 (walks_rng i _)⟩
            · rw [if_neg hk] at fin
              exact fin.elim
          | _ => exact False.elim fin
        | _ => cases d2 <;> exact False.elim fin
/-! ### for -/
def forL (g : TF) (b : SS) : List D → SS
  | [] => fun e h => .nx e h
  | d :: ds => fun e h => match g d e h with
    | none => .bad
    | some e1 => (match b e1 h with
      | .nx e2 h2 => forL g b ds e2 h2
      | .ct e2 h2 => forL g b ds e2 h2
      | .bk e2 h2 => .nx e2 h2
      | r => r)
def sFor (it : SA) (g : TF) (b : SS) : SS := fun e h => (it e h).toS e fun ds h1 => forL g b ds e h1
theorem ds_for {tg iter : Expr} {body : List Stmt} {pos : Pos} {it : SA} {vs : List Nat} {g : TF} {b : SS} (hp : PassesOwn (model X.prog X.w) X.A X.env X.xe) (hc : X.calm = true) (hi : DI X W tg iter it) (hg : DG X vs tg g) (hb : DSs X W body b) (hs : ∀ x, foldedSetIterable iter X.env x = pure x := by intro _; rfl) :
    DS X W (.For tg iter body [] pos) (sFor it g b) := PS.of (ps_for hp hc hi hg hb hs) fun Dn σ H => by
  rintro ⟨P0, F0, m0, e0, h0, S0, E0, fin0⟩
  refine st_seq S0 E0 fin0 fun F1 m1 h1 H1 J ds x1 S1 E1 wk fin1 => ?_
  let Wd : Nat → Nat → St → Hp → Prop := fun i n σ H => ∃ P F m e h, Sim X.K P F m h H ∧ EnvR X.K F m σ e ∧ Ext F1 m1 F m ∧ n = (ds.drop i).length ∧ FinS X.K P W Dn F m (forL g b (ds.drop i) e h)
  refine ⟨Wd, ⟨ds.length, P0, F1, m1, e0, h1, S1, E1, .refl, by simp, by simpa using fin1⟩, ?_⟩
  rintro i n σ H ⟨P, F, m, e, h, S, E, x, rfl, fin⟩
  obtain ⟨w1, w2⟩ := wk P F m h H i x S
  by_cases hi : i < ds.length
  · obtain ⟨go, yl⟩ := w1 hi
    have dr : ds.drop i = ds[i] :: ds.drop (i + 1) := List.drop_eq_getElem_cons hi
    rw [dr] at fin
    refine .inr ⟨go, fun σ' H' => Wd (i + 1) (ds.drop (i + 1)).length σ' H', fun σ' H' q => ⟨_, by rw [dr]; exact Nat.lt_succ_self _, q⟩, fun y H' hy => ?_⟩
    obtain ⟨F2, x2, S2, d, e1, r⟩ := yl y H' hy
    have ed : d = ds[i] := by
      rw [List.getElem?_eq_getElem hi] at e1
      exact (Option.some.inj e1).symm
    subst ed
    simp only [forL] at fin
    cases q : g ds[i] e h with
    | none => rw [q] at fin; exact fin.elim
    | some e2 =>
      rw [q] at fin
      refine ⟨P, F2, m, e, h, _, S2, E.mono x2, r, e2, q, fun σ' E' _ => ⟨P, F2, m, e2, h, S2, E', ?_⟩⟩
      dsimp only at fin
      cases q3 : b e2 h with
      | nx e3 h3 => rw [q3] at fin; exact fun σ3 F3 m3 H3 x3 S3 E3 => ⟨P, F3, m3, e3, h3, S3, E3, x.trans (x2.trans x3), rfl, FinS.weak (x2.trans x3) fin⟩
      | ct e3 h3 => rw [q3] at fin; exact fun σ3 F3 m3 H3 x3 S3 E3 => ⟨P, F3, m3, e3, h3, S3, E3, x.trans (x2.trans x3), rfl, FinS.weak (x2.trans x3) fin⟩
      | bk e3 h3 => rw [q3] at fin; exact fun σ3 F3 m3 H3 x3 S3 E3 => fin σ3 F3 m3 H3 (x2.trans x3) S3 E3
      | rt d3 h3 => rw [q3] at fin; exact fun v F3 m3 H3 x3 S3 r3 => fin v F3 m3 H3 (x2.trans x3) S3 r3
      | exc C p e3 h3 => rw [q3] at fin; exact fun od σ3 F3 m3 H3 x3 S3 pd E3 => fin od σ3 F3 m3 H3 (x2.trans x3) S3 pd E3
      | bad => rw [q3] at fin; exact fin.elim
  · have hi2 : ds.length ≤ i := Nat.le_of_not_lt hi
    rw [List.drop_eq_nil_of_le hi2] at fin
    exact .inl ⟨w2 hi2, fin σ F m H .refl S E⟩
/-! ### comprehensions -/
def Res.noX {α : Type} : Res α → Res α
  | .ok a h => .ok a h
  | _ => .bad
def lcGo (g : TF) (tt : ST) (el : SE) (e : Env') : List D → OH → List D → Res (List D)
  | [], h, acc => .ok acc h
  | d :: ds, h, acc => match g d e h with
    | none => .bad
    | some e1 => (tt e1 h).noX.bind fun b h1 => if b then (el e1 h1).noX.bind fun y h2 => if acc.length < big then lcGo g tt el e ds h2 (acc ++ [y]) else .bad else lcGo g tt el e ds h1 acc
def sLc (own : Bool) (it : SA) (g : TF) (tt : ST) (el : SE) (vs : List Nat) : SE := fun e h => (it e h).bind fun ds h1 => (lcGo g tt el (wipeD e vs) ds h1 []).bind fun acc h2 => if own then .ok (.ref h2.length) (h2 ++ [.lst acc]) else .ok (.lst acc) h2
def sYes : ST := fun _ h => .ok true h
abbrev W0 : WX := fun _ _ _ _ => False
abbrev DTs (X : Cx) (W : WX) (ifs : List Expr) (f : ST) : Prop := PTs X ifs (rdG X.K W relB f)
theorem PTs.of {ifs : List Expr} {t t' : TT} (h : PTs X ifs t) (w : ∀ σ H Q, t' σ H Q → t σ H Q) : PTs X ifs t' := by
  obtain ⟨h⟩ := h
  constructor
  intro pins s σ H Q I q
  exact h pins s σ H Q I (w σ H Q q)
theorem dts_nil : DTs X W [] sYes := PTs.of pts_nil fun σ H Q => by
  rintro ⟨P, F, m, e, h, S, E, fin⟩
  exact fin.ok S rfl
theorem dts_one {c : Expr} {f : ST} (h : DT X W c f) : DTs X W [c] f := pts_one h
theorem lc_rd {it : SA} {g : TF} {tt : ST} {el : SE} {vs : List Nat} (own : Bool) {σ : St} {H : Hp} {Q : VK} (q : rdG X.K W (Den X.K) (sLc own it g tt el vs) σ H Q) :
    tLc (rdG X.K W (relI X.K) it) (rdTG X.K vs g) (rdG X.K W0 relB tt) (rdG X.K W0 (Den X.K) el) vs σ H Q := by
  obtain ⟨P0, F0, m0, e0, h0, S0, E0, fin0⟩ := q
  refine rd_seq S0 E0 fin0 fun F1 m1 h1 H1 J ds x1 S1 E1 wk fin1 => ?_
  intro D0 hD
  let go := lcGo g tt el (wipeD e0 vs)
  let fl : List D → OH → Res D := fun acc h2 => if own then .ok (.ref h2.length) (h2 ++ [.lst acc]) else .ok (.lst acc) h2
  let Wd : Nat → Nat → Hp → Prop := fun i n H => ∃ F m h acc ws, Sim X.K ((D0, .lst ws) :: P0) F m h H ∧ Ext F1 m1 F m ∧ DenL X.K F m ws acc ∧ acc.length ≤ big ∧ n = (ds.drop i).length ∧ FinG X.K P0 W σ (Den X.K) Q F m ((go (ds.drop i) h acc).bind fl)
  refine ⟨Wd, ⟨ds.length, F1, m1, h1, [], [], S1.hid hD, .refl, .nil, Nat.zero_le _, by simp, by simpa using fin1⟩, ?_⟩
  rintro i n H ⟨F, m, h, acc, ws, S, x, ra, hl, rfl, fin⟩
  obtain ⟨w1, w2⟩ := wk _ F m h H i x S
  by_cases hi : i < ds.length
  · obtain ⟨go1, yl⟩ := w1 hi
    have dr : ds.drop i = ds[i] :: ds.drop (i + 1) := List.drop_eq_getElem_cons hi
    rw [dr] at fin
    refine .inr ⟨go1, fun H' => Wd (i + 1) (ds.drop (i + 1)).length H', fun H' q => ⟨_, by rw [dr]; exact Nat.lt_succ_self _, q⟩, fun y H' hy => ?_⟩
    obtain ⟨F2, x2, S2, d, e1, r⟩ := yl y H' hy
    have ed : d = ds[i] := by
      rw [List.getElem?_eq_getElem hi] at e1
      exact (Option.some.inj e1).symm
    subst ed
    simp only [go, lcGo] at fin
    have E2 : EnvR X.K F2 m (L2.wipe σ vs) (wipeD e0 vs) := ((E1.mono (x.trans x2))).wipe vs
    cases q : g ds[i] (wipeD e0 vs) h with
    | none => rw [q] at fin; exact fin.elim
    | some e2 =>
      rw [q] at fin
      dsimp only at fin
      refine ⟨_, F2, m, wipeD e0 vs, h, _, S2, E2, r, e2, q, fun σ' E' wi => ⟨?_, _, F2, m, e2, h, S2, E', ?_⟩⟩
      · have idem : L2.wipe (L2.wipe σ vs) vs = L2.wipe σ vs := by
          have key : ∀ (us : List Nat) (τ : St), (∀ u ∈ us, ∀ z, τ[u]? = some z → z = none) → L2.wipe τ us = τ := by
            intro us
            induction us with
            | nil => intro τ _; rfl
            | cons u us ih =>
              intro τ hz
              show (L2.wipe τ us).set u none = τ
              rw [ih τ fun w hw => hz w (List.mem_cons_of_mem _ hw)]
              apply List.ext_getElem?
              intro j
              by_cases hj : u = j
              · subst hj
                rw [List.getElem?_set]
                simp only [if_true]
                by_cases hu : u < τ.length
                · rw [if_pos hu, List.getElem?_eq_getElem hu, hz u List.mem_cons_self τ[u] (List.getElem?_eq_getElem hu)]
                · rw [if_neg hu, List.getElem?_eq_none (Nat.le_of_not_lt hu)]
              · rw [List.getElem?_set_ne hj]
          refine key vs _ fun u hu z hz => ?_
          have cl : ∀ (us : List Nat) (τ : St), u ∈ us → (L2.wipe τ us)[u]? = some z → z = none := by
            intro us
            induction us with
            | nil => intro τ h; simp at h
            | cons w us ih =>
              intro τ h hz
              have hz : ((L2.wipe τ us).set w none)[u]? = some z := hz
              by_cases hw : w = u
              · subst hw
                rw [List.getElem?_set] at hz
                simp only [if_true] at hz
                split at hz
                · simpa using hz.symm
                · cases hz
              · rw [List.getElem?_set_ne hw] at hz
                rcases List.mem_cons.mp h with h | h
                · exact absurd h.symm hw
                · exact ih τ h hz
          exact cl vs σ hu hz
        rw [wi, idem]
      · cases qt : tt e2 h with
        | bad => rw [qt] at fin; exact fin.elim
        | exc C p h3 => rw [qt] at fin; exact fin.elim
        | ok b h3 =>
          rw [qt] at fin
          simp only [Res.noX, Res.bind_ok] at fin
          intro b' F3 m3 H3 x3 S3 rb
          have rb : b' = b := rb
          subst rb
          cases b' with
          | false =>
            simp only [Bool.false_eq_true, if_false] at fin ⊢
            exact ⟨F3, m3, h3, acc, ws, S3, x.trans (x2.trans x3), ra.mono (x2.trans x3), hl, rfl, FinG.weak (x2.trans x3) fin⟩
          | true =>
            simp only [if_true] at fin ⊢
            refine ⟨_, F3, m3, e2, h3, S3, E'.mono x3, ?_⟩
            cases qe : el e2 h3 with
            | bad => rw [qe] at fin; exact fin.elim
            | exc C p h4 => rw [qe] at fin; exact fin.elim
            | ok z h4 =>
              rw [qe] at fin
              simp only [Res.noX, Res.bind_ok] at fin
              intro v F4 m4 H4 x4 S4 rv
              have xx := x2.trans (x3.trans x4)
              by_cases hz : acc.length < big
              · rw [if_pos hz] at fin
                refine ⟨ws, (S4.pin _ List.mem_cons_self).1, by rw [ra.length]; exact big_lt hz, F4, m4, h4, acc ++ [z], ws ++ [v], S4.hidSet, x.trans xx, (ra.mono xx).append (.cons rv .nil), by simp; omega, rfl, FinG.weak xx fin⟩
              · rw [if_neg hz] at fin
                exact fin.elim
  · have hi2 : ds.length ≤ i := Nat.le_of_not_lt hi
    rw [List.drop_eq_nil_of_le hi2] at fin
    refine .inl ⟨w2 hi2, ?_⟩
    simp only [go, lcGo, Res.bind_ok, fl] at fin
    cases own with
    | true =>
      exact FinG.okX fin ext_new (S.hidOwn ra) (.ref (by rw [← S.len]; simp))
    | false =>
      obtain ⟨k1, k2, k3⟩ := S.pin _ List.mem_cons_self
      exact FinG.okX fin (ext_frz k2) S.hidFrz (.lst upd_same (ra.mono (ext_frz k2)))
theorem de_lc {elt tg iter : Expr} {ifs : List Expr} {scope : Scope} (own : Bool) (ow : List (Str × Nat)) {pos : Pos} {it : SA} {g : TF} {tt : ST} {el : SE} (hc : X.calm = true) (hN : X.N.Nodup) (hi : DI X W tg iter it) (ok : BlkOk X.N X.env.scope scope ow)
    (hg : ∀ (s : Shared) (H : Hp) (C : Addr) (cl : List (Str × Addr)) (fp : List Addr), DG (X.blk s H scope (compEnvC scope cl C X.env) fp) (ow.map (·.2)) tg g) (ht : ∀ (s : Shared) (H : Hp) (C : Addr) (cl : List (Str × Addr)) (fp : List Addr), DTs (X.blk s H scope (compEnvC scope cl C X.env) fp) W0 ifs tt)
    (he : ∀ (s : Shared) (H : Hp) (C : Addr) (cl : List (Str × Addr)) (fp : List Addr), DE (X.blk s H scope (compEnvC scope cl C X.env) fp) W0 elt el) (hs : ∀ x, foldedSetIterable iter X.env x = pure x := by intro _; rfl) :
    DE X W (.ListComp elt [⟨tg, iter, ifs, 0⟩] scope pos) (sLc own it g tt el (ow.map (·.2))) := PE.of (pe_lc hc hN hi ok hg ht he hs) fun σ H Q => lc_rd own
theorem ds_setLc (i : Nat) {y : Str} {py : Pos} {elt tg iter : Expr} {ifs : List Expr} {scope : Scope} (own : Bool) (ow : List (Str × Nat)) {pos spos : Pos} {it : SA} {g : TF} {tt : ST} {el : SE} (hc : X.calm = true) (hN : X.N.Nodup) (hi : DI X W tg iter it) (ok : BlkOk X.N X.env.scope scope ow)
    (hg : ∀ (s : Shared) (H : Hp) (C : Addr) (cl : List (Str × Addr)) (fp : List Addr), DG (X.blk s H scope (compEnvC scope cl C X.env) fp) (ow.map (·.2)) tg g) (ht : ∀ (s : Shared) (H : Hp) (C : Addr) (cl : List (Str × Addr)) (fp : List Addr), DTs (X.blk s H scope (compEnvC scope cl C X.env) fp) W0 ifs tt)
    (he : ∀ (s : Shared) (H : Hp) (C : Addr) (cl : List (Str × Addr)) (fp : List Addr), DE (X.blk s H scope (compEnvC scope cl C X.env) fp) W0 elt el)
    (hsw : swapsWith (.ListComp elt [⟨tg, iter, ifs, 0⟩] scope pos) (some (.Name y py)) spos.line X.env = pure true) (hy : X.N[i]? = some y := by rfl) (hyl : X.env.scope.names.lookup y = some .local := by rfl) (hs : ∀ x, foldedSetIterable iter X.env x = pure x := by intro _; rfl) :
    DS X W (.Assign [.Name y py] (.ListComp elt [⟨tg, iter, ifs, 0⟩] scope pos) spos) (sSet i (sLc own it g tt el (ow.map (·.2)))) := PS.of (ps_setLc (own := ow) hc hN hy hyl hsw hi ok hg ht he hs) fun Dn σ H => by
  rintro ⟨P, F, m, e, h, S, E, fin⟩
  refine lc_rd (W := W) own (st_seq S E fin fun F1 m1 h1 H1 v d x S1 E1 r fin1 => ?_)
  exact fin1 _ F1 m1 H1 .refl S1 (E1.set i r)
/-! ### defs -/
def fnOf (n : Nat) (body : SS) : FN := fun ds h => match body (ds.map some ++ List.replicate (n - ds.length) none) h with
  | .nx _ h1 => .ok .non h1
  | .rt d h1 => .ok d h1
  | .exc C p _ h1 => .exc C p h1
  | _ => .bad
def spN (K : PySem.W.Frag) (np : Nat) (f : FN) : Sp := fun vs H Q E => vs.length = np ∧ ∃ P F m ds h, Sim K P F m h H ∧ DenL K F m vs ds ∧ FinG K P (fun cls od _ H => E cls od H) [] (Den K) Q F m (f ds h)
theorem fn_ok {P : Program} {w : World} {K : PySem.W.Frag} {mg : Str → Option Value} {base : Heap} {CX : CXT} {x qual : Str} {params : Arguments} {body : List Stmt} {scope : Scope} {dvs : List V} {kws : List (Str × V)} {f : Addr} {fd : FuncData} {N ps : List Str} {k : Nat} {fB : SS}
    (Fu : FunD K x qual params body scope dvs kws f fd) (S : FnScope N ps scope) (hN : ps.length ≤ N.length)
    (hb : ∀ (cdv : Value) (A : Around) (outer : List Env) (s : Shared) (H : Hp) (E : XK), Room k (A.deeper (envOfC qual scope s.heap.objs.size f cdv)) → DSs (cxOf CX P w K mg base N qual scope f cdv A outer s H E) (fun cls od _ H => E cls od H) body fB) :
    FnOk P w K mg base CX (k + 1) f fd ps (spN K ps.length (fnOf N.length fB)) := by
  refine Fu.ok S (fun vs H Q E h => h.1) (fun cdv A outer s H vs Q E hr h => ?_)
  obtain ⟨hl, P0, F, m, ds, h, S0, r, fin⟩ := h
  refine ⟨_, hb cdv A outer s H E hr, P0, F, m, _, h, S0, (⟨?_, fun i d q => ?_⟩ : EnvR K F m (L2.start N vs) (ds.map some ++ List.replicate (N.length - ds.length) none)), ?_⟩
  · unfold L2.start
    simp [r.length]
  · have hi : i < ds.length := by
      by_cases hi : i < ds.length
      · exact hi
      · rw [List.getElem?_append_right (by simp; omega)] at q
        rw [List.getElem?_replicate] at q
        split at q <;> cases q
    rw [List.getElem?_append_left (by simpa using hi)] at q
    simp only [List.getElem?_map, Option.map_eq_some_iff] at q
    obtain ⟨d', q1, q2⟩ := q
    simp only [Option.some.injEq] at q2
    subst q2
    obtain ⟨v, e1, r1⟩ := r.get q1
    refine ⟨v, ?_, r1⟩
    unfold L2.start
    rw [List.getElem?_append_left (by simp; rw [r.length]; exact hi)]
    simp [e1]
  · unfold fnOf at fin
    cases q : fB (ds.map some ++ List.replicate (N.length - ds.length) none) h with
    | nx e1 h1 => rw [q] at fin; exact fun σ F1 m1 H1 x1 S1 E1 => fin .non F1 m1 H1 x1 S1 .non
    | rt d h1 => rw [q] at fin; exact fin
    | exc C p e1 h1 => rw [q] at fin; exact fun od σ F1 m1 H1 x1 S1 pd E1 => fin od F1 m1 H1 x1 S1 pd
    | bk e1 h1 => rw [q] at fin; exact fin.elim
    | ct e1 h1 => rw [q] at fin; exact fin.elim
    | bad => rw [q] at fin; exact fin.elim
/-! ### calls -/
/-- a call that sees none of the own objects -/
def pureF (f : FN) : FN := fun ds h => if D.pureL ds then (match f ds [] with
  | .ok d _ => if d.pure then .ok d h else .bad
  | .exc C none _ => .exc C none h
  | .exc C (some q) _ => if q.2.pure then .exc C (some q) h else .bad
  | .bad => .bad) else .bad
theorem pure_sp {K : PySem.W.Frag} {np : Nat} {f : FN} {vs : List V} {H : Hp} {Q : VK} {E : XK} (h : spN K np (pureF f) vs H Q E) : spN K np f vs H Q E := by
  obtain ⟨hl, P, F, m, ds, h, S, r, fin⟩ := h
  unfold pureF at fin
  by_cases hp : D.pureL ds = true
  · rw [if_pos hp] at fin
    refine ⟨hl, _, F, [], ds, [], S.hide, r.pureM hp, ?_⟩
    cases q : f ds [] with
    | ok d h' =>
      rw [q] at fin
      dsimp only at fin
      by_cases hd : d.pure = true
      · rw [if_pos hd] at fin
        exact fun v F' m' H' x S' rv => FinG.okX fin ⟨x.s, List.prefix_rfl⟩ (S.unhide x.s S') (rv.pureM hd)
      · rw [if_neg hd] at fin
        exact fin.elim
    | exc C p h' =>
      rw [q] at fin
      cases p with
      | none =>
        intro od F' m' H' x S' pd
        exact fin od F' m H' ⟨x.s, List.prefix_rfl⟩ (S.unhide x.s S') pd
      | some z =>
        dsimp only at fin
        by_cases hd : z.2.pure = true
        · rw [if_pos hd] at fin
          intro od F' m' H' x S' pd
          obtain ⟨a, v, e1, e2, e3⟩ := pd
          exact fin od F' m H' ⟨x.s, List.prefix_rfl⟩ (S.unhide x.s S') ⟨a, v, e1, e2, e3.pureM hd⟩
        · rw [if_neg hd] at fin
          exact fin.elim
    | bad => rw [q] at fin; exact fin
  · rw [if_neg hp] at fin
    exact fin.elim
theorem FnOk.pure {P : Program} {w : World} {K : PySem.W.Frag} {mg : Str → Option Value} {base : Heap} {CX : CXT} {k : Nat} {f : Addr} {fd : FuncData} {ps : List Str} {g : FN} (F : FnOk P w K mg base CX k f fd ps (spN K ps.length g)) : FnOk P w K mg base CX k f fd ps (spN K ps.length (pureF g)) := L2.FnOk.imp F fun _ _ _ _ h => pure_sp h
section
variable {CX : CXT} {k : Nat} {f : Addr} {fd : FuncData} {ps : List Str} {g : FN}
def withD (dd : List D) (g : FN) : FN := fun ds h => g (ds ++ dd) h
/-- f(e, ..); dd: the defaults that fill up -/
theorem de_call {x : Str} {p pos : Pos} {a : Expr} {es : List Expr} {fa : SA} {dvs : List V} {dus : List Value} (dd : List D) (Fk : FnOk X.prog X.w X.K X.mg X.base CX k f fd ps (spN X.K ps.length g)) (hr : Room k X.A) (hm : X.mg x = some (.ref f)) (hk : PySem.W.keepIn X.K (.ref f) = true) (hb : Binds X.K fd ps dus) (hd : Vals dvs dus)
    (hdd : ∀ F m, DenL X.K F m dvs dd) (hn : (a :: es).length + dvs.length = ps.length) (hx : ∀ σ, PassesAt CX X σ fun cls od H => W cls od σ H) (ha : DA X W (a :: es) fa) (hl : ∀ e h ds h', fa e h = .ok ds h' → ds.length = (a :: es).length) (hg : Gl X x := by rfl) (hdb : (x == ("__debug__" : Str)) = false := by decide)
    (he : starEach (a :: es) X.env = (false, eval a X.env) :: starEach es X.env := by rfl) (hpl : (backTo pos (starEach es X.env)).any (·.1) = false := by rfl) : DE X W (.Call (.Name x p) (a :: es) [] pos) (sCall (withD dd g) fa) :=
  PE.of (pe_callSD Fk hr hg hm hk hb hd hx ha hdb he hpl) fun σ H Q => by
    rintro ⟨P, F, m, e, h, S, E, fin⟩
    refine ⟨P, F, m, e, h, S, E, ?_⟩
    unfold sCall at fin
    cases q : fa e h with
    | bad => rw [q] at fin; exact fin.elim
    | exc C p h1 => rw [q] at fin; exact fin
    | ok ds h1 =>
      rw [q] at fin
      intro vs F1 m1 H1 x1 S1 r1
      exact ⟨by rw [List.length_append, r1.length, hl e h ds h1 q]; exact hn, P, F1, m1, ds ++ dd, h1, S1, r1.append (hdd F1 m1), FinG.weak x1 fin⟩
theorem sNil_len : ∀ e h ds h', sNil e h = .ok ds h' → ds.length = 0 := fun e h ds h' q => by
  cases q
  rfl
theorem sCons_len {fa : SE} {fr : SA} {n : Nat} (k : ∀ e h ds h', fr e h = .ok ds h' → ds.length = n) : ∀ e h ds h', sCons fa fr e h = .ok ds h' → ds.length = n + 1 := fun e h ds h' q => by
  unfold sCons at q
  cases q1 : fa e h with
  | bad => rw [q1] at q; cases q
  | exc C p h1 => rw [q1] at q; cases q
  | ok x h1 =>
    rw [q1] at q
    simp only [Res.bind_ok] at q
    cases q2 : fr e h1 with
    | bad => rw [q2] at q; cases q
    | exc C p h2 => rw [q2] at q; cases q
    | ok xs h2 =>
      rw [q2] at q
      simp only [Res.bind_ok, Res.ok.injEq] at q
      rw [← q.1, List.length_cons, k e h1 xs h2 q2]
theorem passAt0 {σ : St} {E : XK} : PassesAt CX0 X σ E := fun _ _ _ _ _ _ h => h.elim
/-- o.m(e, ..), the class written: nothing is raised -/
def sMeth (C mt : String) (g : FN) (o : SE) (a : SA) : SE := fun e h => (o e h).bind fun x h1 => match insAt h1 x with
  | some q => if q.1 = C ∧ q.2.lookup mt = none then (a e h1).bind fun ys h2 => (g (x :: ys) h2).noX else .bad
  | none => .bad
theorem rd_meth {C mt : String} {fo : SE} {fa : SA} {n : Nat} (hn : n + 1 = ps.length) (hl : ∀ e h ds h', fa e h = .ok ds h' → ds.length = n) {σ : St} {H : Hp} {Q : VK} (q : rdG X.K W (Den X.K) (sMeth C mt g fo fa) σ H Q) :
    tMeth (He.ga X.K (Str.ofString C)) (Str.ofString mt) (spN X.K ps.length g) [] E0 (rdG X.K W (Den X.K) fo) (rdG X.K W (DenL X.K) fa) σ H Q := by
  obtain ⟨P, F, m, e, h, S, E, fin⟩ := q
  refine rd_seq S E fin fun F1 m1 h1 H1 x dx x1 S1 E1 r1 fin1 => ?_
  cases q1 : insAt h1 dx with
  | none => rw [q1] at fin1; exact fin1.bad_elim
  | some z =>
    obtain ⟨C', fs⟩ := z
    rw [q1] at fin1
    dsimp only at fin1
    by_cases hz : C' = C ∧ fs.lookup mt = none
    · rw [if_pos hz] at fin1
      obtain ⟨rfl, hm⟩ := hz
      obtain ⟨a, dxx, fv, rfl, ha, ob, rf⟩ := insAt_ok S1 r1 q1
      refine ⟨a, dxx, fv, rfl, ha, rf.none hm, P, F1, m1, e, h1, S1, E1, ?_⟩
      cases q2 : fa e h1 with
      | bad => rw [q2] at fin1; exact fin1.elim
      | exc C p h2 => rw [q2] at fin1; exact fin1
      | ok ys h2 =>
        rw [q2] at fin1
        simp only [Res.bind_ok] at fin1
        intro vs F2 m2 H2 x2 S2 r2
        refine ⟨by rw [List.append_nil, List.length_cons, r2.length, hl e h1 ys h2 q2]; exact hn, P, F2, m2, dx :: ys, h2, S2, by rw [List.append_nil]; exact .cons (r1.mono x2) r2, ?_⟩
        cases q3 : g (dx :: ys) h2 with
        | ok d h3 => rw [q3] at fin1; exact FinG.weak x2 fin1
        | exc C p h3 => rw [q3] at fin1; exact fin1.elim
        | bad => rw [q3] at fin1; exact fin1.elim
    · rw [if_neg hz] at fin1
      exact fin1.bad_elim
theorem de_meth {C mt : String} {o a : Expr} {es : List Expr} {apos pos : Pos} {fo : SE} {fa : SA} (pl : Sem Bool) (c : Cls X.K (He.ga X.K (Str.ofString C))) (hm : Meth X.K (He.ga X.K (Str.ofString C)) (Str.ofString mt) f) (Fk : FnOk X.prog X.w X.K X.mg X.base CX0 k f fd ps (spN X.K ps.length g)) (hr : Room k X.A) (hb : Binds X.K fd ps []) (ho : DE X W o fo) (ha : DA X W (a :: es) fa)
    (hn : (a :: es).length + 1 = ps.length) (hl : ∀ e h ds h', fa e h = .ok ds h' → ds.length = (a :: es).length) (hst : starEach (a :: es) X.env = (false, eval a X.env) :: starEach es X.env := by rfl) (hpl : (backTo pos (starEach es X.env)).any (·.1) = false := by rfl)
    (ht : eval (.Call (.Attribute o (Str.ofString mt) apos) (a :: es) [] pos) X.env = (do
      let ov ← eval o X.env
      standAt apos.atName
      let (f, first) ← holding [ov] (getMethod ov (Str.ofString mt) pl)
      callWith pos f first (backTo pos (starEach (a :: es) X.env)) (backToKw pos (keywordEach [] X.env))) := by rfl) :
    DE X W (.Call (.Attribute o (Str.ofString mt) apos) (a :: es) [] pos) (sMeth C mt g fo fa) := PE.of (pe_meth (pl := pl) ho c hm Fk hr hb .nil (pass0 (X := X)) ha hst hpl ht) fun σ H Q => rd_meth hn hl
theorem de_meth0 {C mt : String} {o : Expr} {apos pos : Pos} {fo : SE} (pl : Sem Bool) (c : Cls X.K (He.ga X.K (Str.ofString C))) (hm : Meth X.K (He.ga X.K (Str.ofString C)) (Str.ofString mt) f) (Fk : FnOk X.prog X.w X.K X.mg X.base CX0 k f fd ps (spN X.K ps.length g)) (hr : Room k X.A) (hb : Binds X.K fd ps []) (ho : DE X W o fo) (hn : 1 = ps.length)
    (ht : eval (.Call (.Attribute o (Str.ofString mt) apos) [] [] pos) X.env = (do
      let ov ← eval o X.env
      standAt apos.atName
      let (f, first) ← holding [ov] (getMethod ov (Str.ofString mt) pl)
      callWith pos f first (backTo pos (starEach [] X.env)) (backToKw pos (keywordEach [] X.env))) := by rfl) :
    DE X W (.Call (.Attribute o (Str.ofString mt) apos) [] [] pos) (sMeth C mt g fo sNil) := PE.of (pe_meth0 (pl := pl) ho c hm Fk hr hb .nil (pass0 (X := X)) ht) fun σ H Q q => by
  obtain ⟨P, F, m, e, h, S, E, fin⟩ := rd_meth (n := 0) hn sNil_len q
  refine ⟨P, F, m, e, h, S, E, ?_⟩
  cases q1 : fo e h with
  | bad => rw [q1] at fin; exact fin.elim
  | exc C p h1 => rw [q1] at fin; exact fin
  | ok d h1 =>
    rw [q1] at fin
    intro v F1 m1 H1 x S1 r
    obtain ⟨b, dx, fs, e1, e2, e3, P2, F2, m2, e5, h2, S2, E2, fin2⟩ := fin v F1 m1 H1 x S1 r
    exact ⟨b, dx, fs, e1, e2, e3, FinG.ok fin2 S2 .nil⟩
/-- C(e, ..), the instance an own object -/
def sMake (C : String) (g : FN) (a : SA) : SE := fun e h => (a e h).bind fun ys h1 => (g (.ref h1.length :: ys) (h1 ++ [.ins C []])).noX.bind fun d h2 => match d with
  | .non => .ok (.ref h1.length) h2
  | _ => .bad
theorem ins_new {K : PySem.W.Frag} {P : Pins} {F : Hp} {m : List Addr} {h : OH} {H : Hp} {C : String} (S : Sim K P F m h H) (c : Cls K (He.ga K (Str.ofString C))) {x dx : Addr} (hx : H x = none) (hdx : H dx = none) (ne : dx ≠ x) :
    Sim K P F (m ++ [x]) (h ++ [.ins C []]) (upd (upd H dx (.own x)) x (.ins (He.ga K (Str.ofString C)) dx [])) := by
  have hx2 : (upd H dx (.own x)) x = none := by rw [upd_ne ne.symm]; exact hx
  exact (S.other hdx).alloc hx2 ⟨dx, [], upd_same, ⟨c, fun _ z => by simp at z⟩, .nil, S.free hx⟩
theorem DenF.pureM {K : PySem.W.Frag} {F : Hp} {m m' : List Addr} : ∀ {vs : List (Str × V)} {ds : List (String × D)}, DenF K F m vs ds → D.pureF ds = true → DenF K F m' vs ds
  | _, _, .nil, _ => .nil
  | _, _, .cons h t, e => by
    have e' := and2 (by simpa only [D.pureF] using e)
    exact .cons (h.pureM e'.1) (DenF.pureM t e'.2)
end
/-! ### an own list is frozen -/
def frzE (f : SE) : SE := fun e h => (f e h).bind fun d h1 => match d with
  | .ref i => (match h1[i]? with
    | some (.lst xs) => .ok (.lst xs) (h1.set i .dead)
    | _ => .bad)
  | _ => .bad
theorem de_frz {a : Expr} {f : SE} (ha : DE X W a f) : DE X W a (frzE f) := PE.of ha fun σ H Q => by
  rintro ⟨P, F, m, e, h, S, E, fin⟩
  refine ⟨P, F, m, e, h, S, E, ?_⟩
  unfold frzE at fin
  cases q : f e h with
  | bad => rw [q] at fin; exact fin.elim
  | exc C p h1 => rw [q] at fin; exact fin
  | ok d h1 =>
    rw [q] at fin
    simp only [Res.bind_ok] at fin
    intro v F1 m1 H1 x S1 r
    cases r with
    | @ref b i e1 =>
      obtain ⟨o, k1, k2⟩ := S1.own e1
      dsimp only at fin
      rw [k1] at fin
      cases o with
      | lst xs =>
        obtain ⟨vs, k3, k4, k5⟩ := k2
        exact FinG.okX fin (x.trans (ext_frz k5)) (S1.freeze e1 k5 k3) (.lst upd_same (k4.mono (ext_frz k5)))
      | _ => exact fin.elim
    | _ => exact fin.elim
end
/-! ### the law's end -/
theorem law_sp {K : PySem.W.Frag} {g : FN} {n : Nat} (hg : ∀ ns : List Int, ns.length ≤ n → ∃ h', g [.scr (ns.map D.int)] [] = .ok (.bl true) h') (H : Hp) (a : Addr) (ns : List Int) (hl : ns.length ≤ n) (hO : Only H) (hS : SqL K H a (ns.map V.int)) : spN K 1 g [.ref a] H (fun v _ => v = .bl true) fun _ _ _ => False := by
  obtain ⟨h', e⟩ := hg ns hl
  refine ⟨rfl, [], H, [], [.scr (ns.map D.int)], [], ⟨Same.refl _, rfl, List.nodup_nil, fun _ z => by simp at z, fun _ _ _ z => by simp at z, fun _ z => by simp at z, by simp⟩, .cons (.scr hS (DenL.ints ns)) .nil, ?_⟩
  rw [e]
  intro v F' m' H' x S r
  exact den_bl r
end HR
set_option Elab.async false
set_option linter.all false
set_option maxRecDepth 100000
set_option maxHeartbeats 4000000
/-! LayG: len(set(xs)) of ints and texts; signs of a text; in; repr. -/
namespace HR
open PySem L2
/-! ### set(xs) of keys -/
abbrev inK (acc : List Key) : Key → Bool := fun k => acc.any fun y => decide (y = k)
/-- keys met so far, each once, in order -/
def ddK : List Key → List Key → List Key
  | acc, [] => acc
  | acc, x :: r => ddK (if inK acc x then acc else acc ++ [x]) r
section
variable {prog : Program} {w : World} {A : Around} {R : Result → Shared → Prop} {I : Addr} {fp wr : List Addr} {G : Array GenState → Array GenState → Prop} {n : Nat} {PV : Nat → Value → Prop} {StI : Nat → Shared → Prop}
theorem setOf_eq {h : Heap} {S : Addr} {f f' : Key → Bool} {c c' : Nat} (q : h.SetOf (mixKind prog w) S f c) (e : ∀ k, f k = f' k) (e2 : c = c') : h.SetOf (mixKind prog w) S f' c' := by
  obtain rfl : f = f' := funext e
  exact e2 ▸ q
theorem setOf_moved {h h' : Heap} {S : Addr} {f : Key → Bool} {c : Nat} (q : h.SetOf (mixKind prog w) S f c) (k : ∀ o, h.get? S = some o → h'.get? S = some o) : h'.SetOf (mixKind prog w) S f c := by
  obtain ⟨o, es, ep, t, ho, r⟩ := q
  exact ⟨o, es, ep, t, k o ho, r⟩
theorem set_loopK (Wk : WalksS prog w A.in1 I fp wr G n PV StI) (S : Addr) (hSf : S ∉ fp) (ks : List Key) (hlen : ks.length = n) (hn : n + 1 < scanBound) (hval : ∀ (i : Nat) (v : Value), PV i v → ∃ k, ks[i]? = some k ∧ keyIs k v = true) :
    ∀ (rest : List Key) (i : Nat) (acc : List Key) (s : Shared), ks.drop i = rest → acc.length ≤ i → i ≤ n → StI i s → s.heap.SetOf (mixKind prog w) S (inK acc) acc.length →
      (∀ s', Moved (S :: wr) G s s' → s'.heap.SetOf (mixKind prog w) S (inK (ddK acc rest)) (ddK acc rest).length → R (.ok (.ret .none)) s') →
      codeAny (model prog w) A (.builtin "set.update.loop" ⟨[.ref S, .ref I], []⟩) R s := by
  have hSw : S ∉ wr := fun z => hSf (Wk.sub _ z)
  have more : ∀ b ∈ wr, b ∈ S :: wr := fun b z => List.mem_cons_of_mem _ z
  intro rest
  induction rest with
  | nil =>
    intro i acc s hr ha hi st hS hR
    have hin : i = n := by
      have z := congrArg List.length hr
      simp at z
      omega
    subst hin
    refine codeAny_builtin (PyProof.Rows.F.entry_set_update_loop) ?_
    rw [Around.under_plainId (PyProof.Rows.F.plain_set_update_loop) _]
    refine wpAny_bind (m := pyNext (.ref I)) (Wk.done s _ _ st fun s' mv => ?_)
    show wpAny _ A.in1 (ret .none) _ _ s'
    exact wpAny_pure (hR s' (mv.mono more) (setOf_moved hS fun o e => mv.heap S o hSw e))
  | cons x r ih =>
    intro i acc s hr ha hi st hS hR
    have hlt : i < n := by
      have z := congrArg List.length hr
      simp at z
      omega
    have hx : ks[i]? = some x := by
      have z : (ks.drop i)[0]? = some x := by rw [hr]; rfl
      simpa using z
    have hr2 : ks.drop (i + 1) = r := by
      have z := congrArg (List.drop 1) hr
      rw [List.drop_drop] at z
      simpa [Nat.add_comm] using z
    refine codeAny_builtin (PyProof.Rows.F.entry_set_update_loop) ?_
    rw [Around.under_plainId (PyProof.Rows.F.plain_set_update_loop) _]
    refine wpAny_bind (m := pyNext (.ref I)) (Wk.item i s _ _ hlt st fun v s' hv st' mv => ?_)
    obtain ⟨k, e1, hk⟩ := hval i v hv
    rw [hx] at e1
    obtain rfl : x = k := Option.some.inj e1
    have hS' := setOf_moved hS fun o e => mv.heap S o hSw e
    show wpAny _ A.in1 (holding [v] (setAdd S v) >>= _) _ _ s'
    refine wpAny_bind (wpAny_holding ?_)
    unfold setAdd
    refine wpAny_holding (wpAny_bind ((mixKind prog w).pyHash (k := x) (by rw [mixKind_is]; exact hk) ?_))
    have sc : v.scannable = true := by
      rcases keyIs_shape hk with ⟨a, t, rfl, rfl⟩ | ⟨a, t, rfl, rfl⟩ <;> rfl
    refine wpAny_setAddHashed_of (knd := mixKind prog w) (s := { s' with toks := s'.toks + 1 }) (by rw [mixKind_is]; exact hk) sc hS' (by omega) fun h' hsb hS2 => ?_
    let acc2 := if inK acc x then acc else acc ++ [x]
    have hS3 : h'.SetOf (mixKind prog w) S (inK acc2) acc2.length := by
      refine setOf_eq hS2 (fun k' => ?_) ?_
      · show (inK acc k' || decide (k' = x)) = inK acc2 k'
        simp only [acc2]
        cases c : inK acc x with
        | true =>
          simp only [if_true]
          by_cases ek : k' = x
          · subst ek; simp [c]
          · simp [ek]
        | false =>
          have comm : decide (k' = x) = decide (x = k') := by
            by_cases ek : k' = x
            · subst ek; simp
            · have ek2 : ¬ x = k' := fun z => ek z.symm
              simp [ek, ek2]
          simp [inK, comm]
      · show (if inK acc x = true then acc.length else acc.length + 1) = (if inK acc x = true then acc else acc ++ [x]).length
        cases inK acc x <;> simp
    have ha2 : acc2.length ≤ i + 1 := by
      show (if inK acc x = true then acc else acc ++ [x]).length ≤ i + 1
      cases inK acc x <;> simp <;> omega
    have ne : ∀ b, b ≠ S → ∀ o, s'.heap.get? b = some o → h'.get? b = some o := fun b hb o e => (hsb.2 b hb).trans e
    refine wpAny_pure ⟨plainId_quiet PyProof.Rows.F.plain_set_update_loop _, ih (i + 1) acc2 _ hr2 ha2 hlt (Wk.frame _ s' _ _ st' (Nat.le_succ _) fun b hb o e => ne b (fun z => hSf (z ▸ hb)) o e) hS3 fun s2 mv2 hS4 => ?_⟩
    exact hR s2 (Moved.trans Wk.gtrans ((mv.mono more).then_heap (Nat.le_succ _) fun b o hb e => ne b (fun z => hb (by rw [z]; exact List.mem_cons_self)) o e) mv2) hS4
end
section
variable {prog : Program} {w : World} {A : Around} {E : Value → Shared → Prop} {s : Shared}
/-- set(xs), xs a list of ints and texts -/
theorem set_of_keys {l : Addr} {items : Array Value} {ks : List Key} {Q : Value → Shared → Prop} (hh : A.handled = none) (hl : s.heap.IsList l items) (hlen : ks.length = items.size) (hi : ∀ (i : Nat) (v : Value), items[i]? = some v → ∃ k, ks[i]? = some k ∧ keyIs k v = true) (hb : items.size + 1 < scanBound)
    (h : ∀ (h' : Heap) (tk : Nat), h'.SetOf (mixKind prog w) s.heap.objs.size (inK (ddK [] ks)) (ddK [] ks).length → (∀ b o, b < s.heap.objs.size → s.heap.get? b = some o → h'.get? b = some o) → Q (.ref s.heap.objs.size) { s with heap := h', toks := tk }) :
    wpAny (model prog w) A (call (.type "set") [.ref l]) Q E s := by
  let fresh (led : Bool) : Obj := { cls := .type "set", dict := none, data := .set #[] 0 (.fresh 0 0 led) }
  obtain ⟨c, tl, hmro⟩ := PySem.F.called_set.mro
  have f1 := PySem.F.called_set.made; have f2 := PySem.F.called_set.sub
  refine wpAny_call (codeAny_of_tree ?_)
  show wpAny _ _ (callAny (.type "set") ⟨[.ref l], []⟩) _ _ _
  refine wpAny_pure ⟨Code.quiet_builtin _ (by decide +kernel), codeAny_builtin (PySem.F.entry_type_call) ?_⟩
  rw [Around.under_plain (weight_type_call_type "set" [.ref l] []) rfl]
  have f3 := PySem.F.called_set.notType; have f4 := PySem.F.called_set.canCreate; have f5 := PySem.F.typeCall_set_1 (.ref l)
  repeat (any_goals (first | assumption | wp_step))
  refine codeAny_mono (code_set_new_1 (.ref l) (E := E) (Q₁ := fun ob t => ∃ led, ob = .ref s.heap.objs.size ∧ t = { s with heap := s.heap.push (fresh led) }) fun led => ⟨led, rfl, rfl⟩) fun r t hr => ?_
  cases r with
  | error e => exact hr
  | ok fl =>
    cases fl with
    | ret ob =>
      obtain ⟨led, rfl, rfl⟩ := hr
      have gS : (s.heap.push (fresh led)).get? s.heap.objs.size = some (fresh led) := Heap.get?_push_size _ rfl
      have tS : Shared.TypeIs { s with heap := s.heap.push (fresh led) } (.ref s.heap.objs.size) "set" := ⟨_, gS, rfl⟩
      have f6 := PySem.F.called_set.init.lookup; have f7 := PySem.F.called_set.init.bind (.ref s.heap.objs.size)
      repeat (any_goals (first | assumption | wp_step))
      let Done : Value → Shared → Prop := fun r t => r = .none ∧ ∃ h' tk, t = { s with heap := h', toks := tk } ∧ h'.SetOf (mixKind prog w) s.heap.objs.size (inK (ddK [] ks)) (ddK [] ks).length ∧ ∀ b o, b < s.heap.objs.size → s.heap.get? b = some o → h'.get? b = some o
      refine codeAny_mono (codeAny_call_builtin (R := wants Done E) PySem.F.called_set.init.plain PySem.F.entry_set_init (check_set_init_1 tS ?_)) fun r₂ t₂ hr₂ => ?_
      · obtain ⟨ol, hol, hcl, nl, hdl⟩ := hl
        obtain ⟨c0, d0, dt0, sl0⟩ := ol
        simp only at hcl hdl; subst hcl hdl
        have hol' : (s.heap.push (fresh led)).get? l = some { cls := .type "list", dict := d0, data := .seq items nl, slots := sl0 } := Heap.get?_push_of_some _ hol
        have g1 := PySem.F.sub_list_set; have g2 := PySem.F.sub_list_frozenset; have g3 : (Value.type "list" == Value.type "dict") = false := by decide
        have hl1 : (s.heap.push (fresh led)).IsList l items := ⟨_, hol', rfl, nl, rfl⟩
        unfold Builtin.«set.__init__»; unfold noKeywords Builtin.Frozenset.updateFrom
        generalize hPI : pyIter = PI
        wp_walk
        subst hPI
        refine wpAny_pyIter_list hl1 (?_)
        refine wpAny_bind (wpAny_runValue (?_))
        have lS : l < s.heap.objs.size := Heap.lt_size hol
        have hh3 : A.in1.in1.in1.handled = none := by rw [show A.in1.in1.in1.handled = A.handled from by simp]; exact hh
        have sz : (s.heap.push (fresh led)).objs.size = s.heap.objs.size + 1 := Heap.size_push _ _
        have nI : l ≠ (s.heap.push (fresh led)).objs.size := by rw [sz]; exact Nat.ne_of_lt (Nat.lt_succ_of_lt lS)
        have nS : s.heap.objs.size ∉ [(s.heap.push (fresh led)).objs.size, l] := by
          rw [sz]
          intro z
          simp only [List.mem_cons, List.not_mem_nil, or_false] at z
          rcases z with z | z
          · exact absurd z (Nat.ne_of_lt (Nat.lt_succ_self _))
          · exact absurd z (Nat.ne_of_gt lS)
        refine set_loopK ((Walks.list hh3 _ l nI items).toS) s.heap.objs.size nS ks hlen hb hi ks 0 [] _ (by simp) (Nat.le_refl _) (Nat.zero_le _) ⟨⟨_, Heap.get?_push_size _ rfl, rfl, rfl⟩, (hl1.push _)⟩ ?hS0 ?hR
        case hS0 =>
          exact ⟨_, #[], 0, _, Heap.get?_push_of_some _ gS, ⟨rfl, rfl, rfl⟩, rfl, fun e he => by simp at he, fun k => by simp [inK], by decide, by rfl, rfl⟩
        case hR =>
          intro t' mv hS'
          obtain ⟨h', g', d', tk', os'⟩ := t'
          obtain rfl : g' = s.gens := mv.gens
          obtain rfl : d' = s.drawn := mv.drawn
          obtain rfl : os' = s.os := mv.os
          refine wpAny_pure ?_
          show wpAny _ _ (ret .none) _ _ _
          refine wpAny_pure ⟨rfl, h', tk', rfl, hS', fun b o hb e => ?_⟩
          refine mv.heap b o (fun z => ?_) (Heap.get?_push_of_some _ (Heap.get?_push_of_some _ e))
          rcases List.mem_cons.mp z with z | z
          · exact absurd z (Nat.ne_of_lt hb)
          · rw [sz] at z
            rcases List.mem_singleton.mp z with rfl
            exact absurd (Nat.lt_of_lt_of_le hb (Nat.le_succ _)) (Nat.lt_irrefl _)
      · cases r₂ with
        | error e => exact hr₂
        | ok fl₂ =>
          cases fl₂ with
          | ret r =>
            obtain ⟨rfl, h', tk, rfl, hS', hk'⟩ := hr₂
            repeat (any_goals (first | assumption | wp_step))
            exact h _ _ hS' hk'
          | _ => exact hr₂.elim
    | _ => exact hr.elim
end
end HR
set_option Elab.async false
set_option linter.all false
set_option maxRecDepth 100000
set_option maxHeartbeats 4000000
/-! LayH: len(set(xs)), signs of a text, in, repr; defs that may call repr. -/
namespace HR
open PySem L2
open PyProof.Rows (envOfC)
/-! ### defs called where no repr runs -/
structure FnOkG (P : Program) (w : World) (K : PySem.W.Frag) (mg : Str → Option Value) (base : Heap) (CX : CXT) (k : Nat) (f : Addr) (fd : FuncData) (ps : List Str) (sp : Sp) : Prop where
  len : ∀ vs H Q E, sp vs H Q E → vs.length = ps.length
  run : ∀ (A : Around) (out : List Env) (s : Shared) (H : Hp) (args : Args) (us : List Value) (vs : List V) (Q : VK) (E : XK), Room k A → A.guards = some [] → Env0 P w K mg base A out s H → BindsTo s fd args (ps.zip us) → Vals vs us → sp vs H Q E →
    codeAny (model P w) A (.call (.ref f) args) (CR CX out P w H s Q E) s
section
variable {P : Program} {w : World} {K : PySem.W.Frag} {mg : Str → Option Value} {base : Heap} {CX : CXT} {k : Nat} {f : Addr} {fd : FuncData} {ps : List Str} {sp : Sp}
theorem FnOkG.mono {j : Nat} (F : FnOkG P w K mg base CX j f fd ps sp) (hj : j ≤ k) : FnOkG P w K mg base CX k f fd ps sp := ⟨F.len, fun A out s H args us vs Q E hr => F.run A out s H args us vs Q E (hr.mono hj)⟩
theorem FnOkG.pure {g : FN} (F : FnOkG P w K mg base CX k f fd ps (spN K ps.length g)) : FnOkG P w K mg base CX k f fd ps (spN K ps.length (pureF g)) :=
  ⟨fun vs H Q E q => F.len vs H Q E (pure_sp q), fun A out s H args us vs Q E hr hg e0 hb r q => F.run A out s H args us vs Q E hr hg e0 hb r (pure_sp q)⟩
theorem fn_okG {x qual : Str} {params : Arguments} {body : List Stmt} {scope : Scope} {dvs : List V} {kws : List (Str × V)} {N : List Str} {fB : SS}
    (Fu : FunD K x qual params body scope dvs kws f fd) (S : FnScope N ps scope) (hN : ps.length ≤ N.length)
    (hb : ∀ (cdv : Value) (A : Around) (outer : List Env) (s : Shared) (H : Hp) (E : XK), Room k (A.deeper (envOfC qual scope s.heap.objs.size f cdv)) → A.guards = some [] → DSs (cxOf CX P w K mg base N qual scope f cdv A outer s H E) (fun cls od _ H => E cls od H) body fB) :
    FnOkG P w K mg base CX (k + 1) f fd ps (spN K ps.length (fnOf N.length fB)) := by
  obtain ⟨oc, od, dV, kV, doc, pm, an, cdv, ct, osl, rfl, lk, hcd, _, _⟩ := Fu.ex
  refine ⟨fun vs H Q E h => h.1, fun A out s H args us vs Q E hr hgd e0 bt rv q => ?_⟩
  -- the body at this place, as a def that fn_ok can take, is asked with this very A alone
  have stay : ∀ b o, base.get? b = some o → s.heap.get? b = some o := fun b o e => (e0.bs b o e).1
  have kinds : ∀ y ∈ ps.zip us, scope.names.lookup y.1 = some .local ∨ (scope.names.lookup y.1 = some .cell ∧ ((cellsFrom (s.heap.objs.size + 1) scope.names []).lookup y.1).isSome = true) := fun y hy =>
    (S.par y.1 (List.of_mem_zip hy).1).imp id fun z => ⟨z, PySem.W.cellsFrom_some _ _ _ (.inl z)⟩
  have nl : s.heap.NoLimit := e0.mod.nolimit.keeps stay
  refine codeAny_call_function (hr.depth) ((e0.mod.kin.keeps stay) _ _ lk) rfl S.co S.gen rfl (PySem.W.codeRec_of (e0.mod.kin.keeps stay) hcd) (bt _ _ _ _ ?_)
  refine wpAny_newFunctionEnv_cells (S.kind) kinds fun en hen s1 x => ?_
  subst hen
  refine ⟨nl.keeps x.toInCall.keep, codeAny_func (?_)⟩
  obtain ⟨hl, P0, F, m, ds, h, S0, r, fin⟩ := q
  let X : Cx := cxOf CX P w K mg base N qual scope f cdv A out s H E
  have I0 : Inv X [] (L2.start N vs) H s1 := inv_start S hr.hd e0 (hl) rv x
  let Dn : Ends := { nx := fun _ H' => Q .non H', rt := Q }
  have E0' : EnvR K F m (L2.start N vs) (ds.map some ++ List.replicate (N.length - ds.length) none) := by
    refine ⟨by unfold L2.start; simp [r.length], fun i d z => ?_⟩
    have hi : i < ds.length := by
      by_cases hi : i < ds.length
      · exact hi
      · rw [List.getElem?_append_right (by simp; omega), List.getElem?_replicate] at z
        split at z <;> cases z
    rw [List.getElem?_append_left (by simpa using hi), List.getElem?_map, Option.map_eq_some_iff] at z
    obtain ⟨d', q1, q2⟩ := z
    simp only [Option.some.injEq] at q2
    subst q2
    obtain ⟨v, e1, r1⟩ := r.get q1
    refine ⟨v, ?_, r1⟩
    unfold L2.start
    rw [List.getElem?_append_left (by simp; rw [r.length]; exact hi)]
    simp [e1]
  have fin' : FinS K P0 (fun cls od _ H => E cls od H) Dn F m (fB (ds.map some ++ List.replicate (N.length - ds.length) none) h) := by
    unfold fnOf at fin
    cases z : fB (ds.map some ++ List.replicate (N.length - ds.length) none) h with
    | nx e1 h1 => rw [z] at fin; exact fun σ F1 m1 H1 x1 S1 E1 => fin .non F1 m1 H1 x1 S1 .non
    | rt d h1 => rw [z] at fin; exact fin
    | exc C p e1 h1 => rw [z] at fin; exact fun od σ F1 m1 H1 x1 S1 pd E1 => fin od F1 m1 H1 x1 S1 pd
    | bk e1 h1 => rw [z] at fin; exact fin.elim
    | ct e1 h1 => rw [z] at fin; exact fin.elim
    | bad => rw [z] at fin; exact fin.elim
  have run := (hb cdv A out s H E (hr.deeper _) hgd).run [] s1 (L2.start N vs) H Dn I0 ⟨P0, F, m, _, h, S0, E0', fin'⟩
  refine wpAny_mono run (fun fl s' hs => ?_) fun e s' hs => hs
  have back : ∀ {σ' : L2.St} {H' : Hp} {v : V} {u : Value}, Inv X [] σ' H' s' → RelV v u → Q v H' → CE out P w H s Q u s' := fun {σ' H' v u} J rv q => ⟨v, H', J.os, J.bare, J.base, J.hok, rv, q⟩
  cases fl with
  | ret u => obtain ⟨v, σ', H', J, rv, q⟩ := hs; exact back J rv q
  | next => obtain ⟨σ', H', J, q⟩ := hs; exact back (v := V.non) (u := Value.none) J rfl q
  | brk => obtain ⟨_, _, _, q⟩ := hs; exact q.elim
  | cont => obtain ⟨_, _, _, q⟩ := hs; exact q.elim
end
section
variable {X : Cx} {W : WX} {CX : CXT} {k : Nat} {f : Addr} {fd : FuncData} {ps : List Str} {g : FN}
theorem de_callG {x : Str} {p pos : Pos} {a : Expr} {es : List Expr} {fa : SA} {dvs : List V} {dus : List Value} (dd : List D) (Fk : FnOkG X.prog X.w X.K X.mg X.base CX k f fd ps (spN X.K ps.length g)) (hr : Room k X.A) (hgd : X.A.guards = some []) (hm : X.mg x = some (.ref f)) (hk : PySem.W.keepIn X.K (.ref f) = true) (hb : Binds X.K fd ps dus) (hd : Vals dvs dus)
    (hdd : ∀ F m, DenL X.K F m dvs dd) (hn : (a :: es).length + dvs.length = ps.length) (hx : ∀ σ, PassesAt CX X σ fun cls od H => W cls od σ H) (ha : DA X W (a :: es) fa) (hl : ∀ e h ds h', fa e h = .ok ds h' → ds.length = (a :: es).length) (hg : Gl X x := by rfl) (hdb : (x == ("__debug__" : Str)) = false := by decide)
    (he : starEach (a :: es) X.env = (false, eval a X.env) :: starEach es X.env := by rfl) (hpl : (backTo pos (starEach es X.env)).any (·.1) = false := by rfl) : DE X W (.Call (.Name x p) (a :: es) [] pos) (sCall (withD dd g) fa) := by
  refine ⟨fun pins s σ H Q I q => wpAny_Call_Name_kw (ld_glob I hg hm ?_ hdb)⟩
  obtain ⟨P, F, m, e, h, S, E, fin⟩ := q
  have key : rdG X.K W (DenL X.K) fa σ H (fun vs H1 => spN X.K ps.length g (vs ++ dvs) H1 Q fun cls od H => W cls od σ H) := by
    refine ⟨P, F, m, e, h, S, E, ?_⟩
    unfold sCall at fin
    cases q : fa e h with
    | bad => rw [q] at fin; exact fin.elim
    | exc C p h1 => rw [q] at fin; exact fin
    | ok ds h1 =>
      rw [q] at fin
      intro vs F1 m1 H1 x1 S1 r1
      exact ⟨by rw [List.length_append, r1.length, hl e h ds h1 q]; exact hn, P, F1, m1, ds ++ dd, h1, S1, r1.append (hdd F1 m1), FinG.weak x1 fin⟩
  refine PySem.W.callWith_K (h₀ := X.base) I.ok.mod.kin hk (thn (ha.run pos pins s σ H _ I key) fun us s1 ⟨vs, H1, I1, r, q⟩ => ⟨I1.kIn, ?_⟩) he hpl
  have r2 : Vals (vs ++ dvs) (us ++ dus) := r.append hd
  have hlen : (us ++ dus).length = ps.length := by rw [← r2.length]; exact q.1
  refine wpAny_call (codeAny_mono (Fk.run X.A X.stack s1 H1 ⟨us, []⟩ (us ++ dus) (vs ++ dvs) Q _ hr hgd I1.env0 (hb s1 us I1.kIn hlen) r2 q) fun res s' hq => ?_)
  match res, hq with
  | .error e, hq => exact hx σ pins H1 s1 e s' I1 hq
  | .ok (.ret u), hq => exact I1.after hq
  | .ok .next, hq => exact False.elim hq
  | .ok .brk, hq => exact False.elim hq
  | .ok .cont, hq => exact False.elim hq
/-! ### len(set(xs)) -/
theorem bootSet : bootBuiltins "set" = some (.type "set") := by decide +kernel
def keysOf : List D → Option (List Key)
  | [] => some []
  | .int i :: r => (keysOf r).map (Sum.inl i :: ·)
  | .str x :: r => (keysOf r).map (Sum.inr x :: ·)
  | _ => none
theorem keysOf_ok {K : PySem.W.Frag} {F : Hp} {m : List Addr} : ∀ {vs : List V} {ds : List D} {ks : List Key}, DenL K F m vs ds → keysOf ds = some ks → vs = ks.map kV
  | _, _, _, .nil, e => by simp only [keysOf, Option.some.injEq] at e; subst e; rfl
  | _, _, _, .cons (.int i) t, e => by
    simp only [keysOf, Option.map_eq_some_iff] at e
    obtain ⟨ks, e1, e2⟩ := e
    subst e2
    rw [keysOf_ok t e1]
    rfl
  | _, _, _, .cons (.str i) t, e => by
    simp only [keysOf, Option.map_eq_some_iff] at e
    obtain ⟨ks, e1, e2⟩ := e
    subst e2
    rw [keysOf_ok t e1]
    rfl
  | _, _, _, .cons (.non) _, e | _, _, _, .cons (.bl _) _, e | _, _, _, .cons (.lst _ _) _, e | _, _, _, .cons (.scr _ _) _, e | _, _, _, .cons (.tup _ _) _, e | _, _, _, .cons (.dct _ _) _, e | _, _, _, .cons (.obj _ _ _) _, e | _, _, _, .cons (.ref _) _, e | _, _, _, .cons (.exc _) _, e => by simp [keysOf] at e
def sLenSet (f : SE) : SE := fun e h => (f e h).bind fun d h1 => match (lsqAt h1 d).bind keysOf with
  | some ks => if ks.length ≤ 4000 then .ok (.int (ddK [] ks).length) h1 else .bad
  | none => .bad
theorem kV_keyIs {k : Key} {u : Value} (r : RelV (kV k) u) : keyIs k u = true := by
  cases k with
  | inl i =>
    obtain ⟨t, rfl⟩ := r
    exact keyIs_int i t
  | inr x =>
    obtain ⟨t, rfl⟩ := r
    exact keyIs_str x t
theorem de_lenset {a : Expr} {fa : SE} {p p2 q pos : Pos} (hc : X.calm = true) (hg : Gl X "len") (hm : X.mg "len" = none) (hg2 : Gl X "set") (hm2 : X.mg "set" = none) (ha : DE X W a fa) (na : starEach [a] X.env = (false, eval a X.env) :: starEach [] X.env := by rfl) :
    DE X W (.Call (.Name "len" p) [.Call (.Name "set" p2) [a] [] q] [] pos) (sLenSet fa) := by
  refine ⟨fun pins s σ H Q I z => PyProof.Rows.Call_ (ld_blt I hg hm PySem.boot_len (PyProof.Rows.callWith_builtin1 (PyProof.Rows.args_cons (PyProof.Rows.Call_ (ld_blt I hg2 hm2 bootSet (PyProof.Rows.callWith_type1 (PyProof.Rows.args_cons ?_ na) na rfl))) rfl) rfl rfl))⟩
  obtain ⟨P, F, m, e, h, S, E, fin⟩ := z
  have key : rdG X.K W (Den X.K) fa σ H (fun x H1 => ∃ (l : Addr) (ks : List Key), x = .ref l ∧ SqL X.K H1 l (ks.map kV) ∧ ks.length ≤ 4000 ∧ Q (.int (ddK [] ks).length) H1) := by
    refine rd_seq S E fin fun F1 m1 h1 H1 x dx x1 S1 E1 r1 fin1 => ?_
    cases q1 : lsqAt h1 dx with
    | none => rw [q1] at fin1; exact fin1.bad_elim
    | some xs =>
      rw [q1] at fin1
      simp only [Option.bind_some] at fin1
      cases q2 : keysOf xs with
      | none => rw [q2] at fin1; exact fin1.bad_elim
      | some ks =>
        rw [q2] at fin1
        dsimp only at fin1
        by_cases hz : ks.length ≤ 4000
        · rw [if_pos hz] at fin1
          obtain ⟨b, vs, rfl, hb, rl⟩ := lsqAt_ok S1 r1 q1
          rw [keysOf_ok rl q2] at hb
          exact ⟨b, ks, rfl, hb, hz, fin1.ok S1 (.int _)⟩
        · rw [if_neg hz] at fin1
          exact fin1.bad_elim
  refine thn (ha.run pins s σ H _ I key) fun v s1 ⟨x, H1, I1, r1, l, ks, ex, hq, hl, q1⟩ => PyProof.Rows.args_nil ?_
  subst ex
  cases r1
  obtain ⟨its, r, pl, hz⟩ := I1.list hq
  have hlen : ks.length = its.toArray.size := by rw [List.size_toArray, ← r.length, List.length_map]
  refine set_of_keys (I1.ok.hd hc) pl.isList hlen (fun i v hv => ?_) (by rw [← hlen]; unfold scanBound; omega) fun h' tk hS hk => PyProof.Rows.args_nil ?_
  · have hi : i < ks.length := by
      rw [hlen]
      exact (Array.getElem?_eq_some_iff.mp hv).1
    refine ⟨ks[i], List.getElem?_eq_getElem hi, ?_⟩
    obtain ⟨u, e1, ru⟩ := r.get (i := i) (x := kV ks[i]) (by simp [hi])
    have hv2 : its[i]? = some v := by simpa using hv
    rw [hv2] at e1
    obtain rfl : v = u := Option.some.inj e1
    exact kV_keyIs ru
  · obtain ⟨o, es, ep, t, ho, hex, hd, _, _, hbd, hf, hn⟩ := hS
    have I2 : Inv X pins σ H1 { s1 with heap := h', toks := tk } := I1.kept fun b o e => hk b o (Heap.lt_size e) e
    refine call_len_set ho hex hd hf (by rw [hn] at hbd ⊢; unfold scanBound at hbd; omega) ⟨.int (ddK [] ks).length, H1, I2.tok _, ⟨_, by rw [hn]⟩, q1⟩
/-! ### the signs of a text -/
def signsD (x : Str) : List D := x.cps.toList.map fun c => D.str ⟨#[c]⟩
def sItStr (f : SE) : SA := fun e h => (f e h).bind fun d h1 => match d with
  | .str x => .ok (signsD x) h1
  | _ => .bad
theorem di_str {tg a : Expr} {f : SE} (ha : DE X W a f) : DI X W tg a (sItStr f) := PI.of (pi_str ha) fun σ H R => by
  rintro ⟨P, F, m, e, h, S, E, fin⟩
  refine rd_seq S E fin fun F1 m1 h1 H1 v d x S1 E1 r fin1 => ?_
  cases r with
  | str z =>
    refine ⟨z, rfl, FinG.ok fin1 S1 ?_⟩
    intro P2 F2 m2 h2 H2 i x2 S2
    have hl : (signsD z).length = z.cps.size := by simp [signsD]
    rw [hl]
    refine ⟨fun hi => ⟨hi, fun y H' yl => ?_⟩, fun hi => hi⟩
    obtain ⟨rfl, c, ec, rfl⟩ := yl
    refine ⟨F2, .refl, S2, .str ⟨#[c]⟩, ?_, .str _⟩
    simp [signsD, ec]
  | _ => exact fin1.bad_elim
/-! ### in -/
/-- one sign in a text -/
def opInS (neg : Bool) : D → D → OH → Res D
  | .str x, .str z, h => (match x.cps.toList with
    | [c] => .ok (.bl (if neg then !decide (c ∈ z.cps.toList) else decide (c ∈ z.cps.toList))) h
    | _ => .bad)
  | _, _, _ => .bad
theorem opInS_h (neg : Bool) : OpH X.K W (opInS neg) (fun x y H Q => ∃ (c : Nat) (z : Str), x = .str ⟨#[c]⟩ ∧ y = .str z ∧ Q (.bl (if neg then !decide (c ∈ z.cps.toList) else decide (c ∈ z.cps.toList))) H) := by
  intro P F m h H σ Q x y dx dy S r1 r2 fin
  unfold opInS at fin
  split at fin
  · rename_i a z
    cases den_str r1
    cases den_str r2
    split at fin
    · rename_i c hc
      have ea : a = ⟨#[c]⟩ := by
        obtain ⟨l⟩ := a
        obtain ⟨l⟩ := l
        simp only at hc
        subst hc
        rfl
      exact ⟨c, z, by rw [ea], rfl, fin.ok S (.bl _)⟩
    · exact fin.bad_elim
  · exact fin.bad_elim
theorem de_inS {a b : Expr} {pos : Pos} {fa fb : SE} (ha : DE X W a fa) (hb : DE X W b fb) (hm : behindInMarks .In b = false := by rfl) : DE X W (.Compare a [.In] [b] pos) (sBin (opInS false) fa fb) := de_cmp op_in_sign (opInS_h false) hm ha hb
/-- a flat value in a list or tuple of such -/
def flatD : D → Option V
  | .non => some .non
  | .int i => some (.int i)
  | .str x => some (.str x)
  | .bl b => some (.bl b)
  | _ => none
def flatsD : List D → Option (List V)
  | [] => some []
  | d :: r => match flatD d, flatsD r with
    | some v, some vs => some (v :: vs)
    | _, _ => none
theorem flatD_ok {K : PySem.W.Frag} {F : Hp} {m : List Addr} {v w : V} {d : D} (r : Den K F m v d) (e : flatD d = some w) : v = w := by
  cases r <;> simp only [flatD, Option.some.injEq, reduceCtorEq] at e <;> exact e
theorem flatsD_ok {K : PySem.W.Frag} {F : Hp} {m : List Addr} : ∀ {vs : List V} {ds : List D} {ws : List V}, DenL K F m vs ds → flatsD ds = some ws → vs = ws
  | _, _, _, .nil, e => by simp only [flatsD, Option.some.injEq] at e; exact e
  | _, d :: ds, _, .cons a t, e => by
    simp only [flatsD] at e
    cases q1 : flatD d with
    | none => rw [q1] at e; simp at e
    | some v =>
      cases q2 : flatsD ds with
      | none => rw [q1, q2] at e; simp at e
      | some vs =>
        rw [q1, q2] at e
        simp only [Option.some.injEq] at e
        rw [flatD_ok a q1, flatsD_ok t q2]
        exact e
def opInL (neg : Bool) : D → D → OH → Res D := fun a b h => match flatD a, (seqAt h b).bind flatsD with
  | some x, some xs => if flatV x && xs.all flatV then .ok (.bl (if neg then !inV x xs else inV x xs)) h else .bad
  | _, _ => .bad
theorem opInL_h (neg : Bool) : OpH X.K W (opInL neg) (rIn X.K neg) := by
  intro P F m h H σ Q x y dx dy S r1 r2 fin
  unfold opInL at fin
  cases q1 : flatD dx with
  | none => rw [q1] at fin; exact fin.bad_elim
  | some a =>
    cases q2 : seqAt h dy with
    | none => rw [q1, q2] at fin; exact fin.bad_elim
    | some xs =>
      rw [q1, q2] at fin
      simp only [Option.bind_some] at fin
      cases q3 : flatsD xs with
      | none => rw [q3] at fin; exact fin.bad_elim
      | some ws =>
        rw [q3] at fin
        dsimp only at fin
        obtain ⟨b, vs, rfl, hb, rl⟩ := seqAt_ok S r2 q2
        by_cases hz : (flatV a && ws.all flatV) = true
        · rw [if_pos hz] at fin
          obtain ⟨z1, z2⟩ := and2 hz
          obtain rfl := flatD_ok r1 q1
          obtain rfl := flatsD_ok rl q3
          exact ⟨b, vs, rfl, hb, z1, z2, fin.ok S (.bl _)⟩
        · rw [if_neg hz] at fin
          exact fin.bad_elim
theorem de_inL {a b : Expr} {pos : Pos} {fa fb : SE} (ha : DE X W a fa) (hb : DE X W b fb) (hm : behindInMarks .In b = false := by rfl) : DE X W (.Compare a [.In] [b] pos) (sBin (opInL false) fa fb) := de_cmp op_in_seq (opInL_h false) hm ha hb
theorem dt_inL {a b : Expr} {pos : Pos} {fa fb : SE} (ha : DE X W a fa) (hb : DE X W b fb) (hm : behindInMarks .In b = false := by rfl) : DT X W (.Compare a [.In] [b] pos) (sTest (sBin (opInL false) fa fb)) := dt_cmp op_in_seq (opInL_h false) hm ha hb
end
end HR
set_option Elab.async false
set_option linter.all false
set_option maxRecDepth 100000
set_option maxHeartbeats 4000000
/-! LayI: iteration over any sequence or text; a def as its callers take it. -/
namespace HR
open PySem L2
open PyProof.Rows (envOfC)
section
variable {X : Cx} {W : WX}
/-- a list, a tuple, a text -/
def itAt : D → Option (List D)
  | .lst xs => some xs
  | .scr xs => some xs
  | .tup xs => some xs
  | .str x => some (signsD x)
  | _ => none
def sIt (f : SE) : SA := fun e h => (f e h).bind fun d h1 => match itAt d with
  | some xs => .ok xs h1
  | none => .bad
theorem di_any {tg a : Expr} {f : SE} (ha : DE X W a f) : DI X W tg a (sIt f) := PI.of (pi_or (di_seq ha) (di_str ha)) fun σ H R => by
  rintro ⟨P, F, m, e, h, S, E, fin⟩
  unfold sIt at fin
  cases q : f e h with
  | bad => rw [q] at fin; exact fin.elim
  | exc C p h1 =>
    rw [q] at fin
    exact .inl ⟨P, F, m, e, h, S, E, by unfold sItS; rw [q]; exact fin⟩
  | ok d h1 =>
    rw [q] at fin
    cases d with
    | str x => exact .inr ⟨P, F, m, e, h, S, E, by unfold sItStr; rw [q]; exact fin⟩
    | lst xs => exact .inl ⟨P, F, m, e, h, S, E, by unfold sItS; rw [q]; exact fin⟩
    | scr xs => exact .inl ⟨P, F, m, e, h, S, E, by unfold sItS; rw [q]; exact fin⟩
    | tup xs => exact .inl ⟨P, F, m, e, h, S, E, by unfold sItS; rw [q]; exact fin⟩
    | _ => exact False.elim fin
end
/-! ### a def as its callers take it -/
structure Def (P : Program) (w : World) (K : PySem.W.Frag) (mg : Str → Option Value) (base : Heap) (CX : CXT) (k : Nat) (f : Addr) (ps : List Str) (dvs : List V) (g : FN) : Prop where
  ex : ∃ fd dus, FnOk P w K mg base CX k f fd ps (spN K ps.length g) ∧ Binds K fd ps dus ∧ Vals dvs dus
  kp : PySem.W.keepIn K (.ref f) = true
structure DefG (P : Program) (w : World) (K : PySem.W.Frag) (mg : Str → Option Value) (base : Heap) (CX : CXT) (k : Nat) (f : Addr) (ps : List Str) (dvs : List V) (g : FN) : Prop where
  ex : ∃ fd dus, FnOkG P w K mg base CX k f fd ps (spN K ps.length g) ∧ Binds K fd ps dus ∧ Vals dvs dus
  kp : PySem.W.keepIn K (.ref f) = true
section
variable {P : Program} {w : World} {K : PySem.W.Frag} {mg : Str → Option Value} {base : Heap} {CX : CXT} {k : Nat} {f : Addr} {ps : List Str} {dvs : List V} {g : FN}
theorem Def.up {j : Nat} (d : Def P w K mg base CX j f ps dvs g) (h : j ≤ k) : Def P w K mg base CX k f ps dvs g := let ⟨fd, dus, a, b, c⟩ := d.ex; ⟨⟨fd, dus, a.mono h, b, c⟩, d.kp⟩
theorem Def.pure (d : Def P w K mg base CX k f ps dvs g) : Def P w K mg base CX k f ps dvs (pureF g) := let ⟨fd, dus, a, b, c⟩ := d.ex; ⟨⟨fd, dus, FnOk.pure a, b, c⟩, d.kp⟩
theorem DefG.up {j : Nat} (d : DefG P w K mg base CX j f ps dvs g) (h : j ≤ k) : DefG P w K mg base CX k f ps dvs g := let ⟨fd, dus, a, b, c⟩ := d.ex; ⟨⟨fd, dus, a.mono h, b, c⟩, d.kp⟩
theorem DefG.pure (d : DefG P w K mg base CX k f ps dvs g) : DefG P w K mg base CX k f ps dvs (pureF g) := let ⟨fd, dus, a, b, c⟩ := d.ex; ⟨⟨fd, dus, a.pure, b, c⟩, d.kp⟩
end
section
variable {X : Cx} {W : WX} {CX : CXT} {k : Nat} {f : Addr} {ps : List Str} {g : FN}
theorem de_callF {x : Str} {p pos : Pos} {a : Expr} {es : List Expr} {fa : SA} {dvs : List V} (dd : List D) (Fk : Def X.prog X.w X.K X.mg X.base CX k f ps dvs g) (hr : Room k X.A) (hm : X.mg x = some (.ref f))
    (hdd : ∀ F m, DenL X.K F m dvs dd) (hx : ∀ σ, PassesAt CX X σ fun cls od H => W cls od σ H) (ha : DA X W (a :: es) fa) (hl : ∀ e h ds h', fa e h = .ok ds h' → ds.length = (a :: es).length) (hn : (a :: es).length + dvs.length = ps.length := by rfl) (hg : Gl X x := by rfl) (hdb : (x == ("__debug__" : Str)) = false := by decide)
    (he : starEach (a :: es) X.env = (false, eval a X.env) :: starEach es X.env := by rfl) (hpl : (backTo pos (starEach es X.env)).any (·.1) = false := by rfl) : DE X W (.Call (.Name x p) (a :: es) [] pos) (sCall (withD dd g) fa) := by
  obtain ⟨fd, dus, F1, hb, hd⟩ := Fk.ex
  exact de_call dd F1 hr hm Fk.kp hb hd hdd hn hx ha hl hg hdb he hpl
theorem de_callGF {x : Str} {p pos : Pos} {a : Expr} {es : List Expr} {fa : SA} {dvs : List V} (dd : List D) (Fk : DefG X.prog X.w X.K X.mg X.base CX k f ps dvs g) (hr : Room k X.A) (hgd : X.A.guards = some []) (hm : X.mg x = some (.ref f))
    (hdd : ∀ F m, DenL X.K F m dvs dd) (hx : ∀ σ, PassesAt CX X σ fun cls od H => W cls od σ H) (ha : DA X W (a :: es) fa) (hl : ∀ e h ds h', fa e h = .ok ds h' → ds.length = (a :: es).length) (hn : (a :: es).length + dvs.length = ps.length := by rfl) (hg : Gl X x := by rfl) (hdb : (x == ("__debug__" : Str)) = false := by decide)
    (he : starEach (a :: es) X.env = (false, eval a X.env) :: starEach es X.env := by rfl) (hpl : (backTo pos (starEach es X.env)).any (·.1) = false := by rfl) : DE X W (.Call (.Name x p) (a :: es) [] pos) (sCall (withD dd g) fa) := by
  obtain ⟨fd, dus, F1, hb, hd⟩ := Fk.ex
  exact de_callG dd F1 hr hgd hm Fk.kp hb hd hdd hn hx ha hl hg hdb he hpl
theorem de_methF {C mt : String} {o a : Expr} {es : List Expr} {apos pos : Pos} {fo : SE} {fa : SA} (pl : Sem Bool) (c : Cls X.K (He.ga X.K (Str.ofString C))) (hm : Meth X.K (He.ga X.K (Str.ofString C)) (Str.ofString mt) f) (Fk : Def X.prog X.w X.K X.mg X.base CX0 k f ps [] g) (hr : Room k X.A) (ho : DE X W o fo) (ha : DA X W (a :: es) fa)
    (hl : ∀ e h ds h', fa e h = .ok ds h' → ds.length = (a :: es).length) (hn : (a :: es).length + 1 = ps.length := by rfl) (hst : starEach (a :: es) X.env = (false, eval a X.env) :: starEach es X.env := by rfl) (hpl : (backTo pos (starEach es X.env)).any (·.1) = false := by rfl)
    (ht : eval (.Call (.Attribute o (Str.ofString mt) apos) (a :: es) [] pos) X.env = (do
      let ov ← eval o X.env
      standAt apos.atName
      let (f, first) ← holding [ov] (getMethod ov (Str.ofString mt) pl)
      callWith pos f first (backTo pos (starEach (a :: es) X.env)) (backToKw pos (keywordEach [] X.env))) := by rfl) :
    DE X W (.Call (.Attribute o (Str.ofString mt) apos) (a :: es) [] pos) (sMeth C mt g fo fa) := by
  obtain ⟨fd, dus, F1, hb, hd⟩ := Fk.ex
  cases hd
  exact de_meth pl c hm F1 hr hb ho ha hn hl hst hpl ht
theorem de_methF0 {C mt : String} {o : Expr} {apos pos : Pos} {fo : SE} (pl : Sem Bool) (c : Cls X.K (He.ga X.K (Str.ofString C))) (hm : Meth X.K (He.ga X.K (Str.ofString C)) (Str.ofString mt) f) (Fk : Def X.prog X.w X.K X.mg X.base CX0 k f ps [] g) (hr : Room k X.A) (ho : DE X W o fo) (hn : 1 = ps.length := by rfl)
    (ht : eval (.Call (.Attribute o (Str.ofString mt) apos) [] [] pos) X.env = (do
      let ov ← eval o X.env
      standAt apos.atName
      let (f, first) ← holding [ov] (getMethod ov (Str.ofString mt) pl)
      callWith pos f first (backTo pos (starEach [] X.env)) (backToKw pos (keywordEach [] X.env))) := by rfl) :
    DE X W (.Call (.Attribute o (Str.ofString mt) apos) [] [] pos) (sMeth C mt g fo sNil) := by
  obtain ⟨fd, dus, F1, hb, hd⟩ := Fk.ex
  cases hd
  exact de_meth0 pl c hm F1 hr hb ho hn ht
end
end HR
set_option Elab.async false
set_option linter.all false
set_option maxRecDepth 20000
set_option maxHeartbeats 1000000
/-! what the plain functions give: the weakest demand -/
namespace HR
open PySem L2
section
variable {X : Cx} {W : WX}
/-! ### a list against [] -/
def rNil (K : PySem.W.Frag) (neg : Bool) : R2 := fun x y H Q => ∃ a b xs, x = .ref a ∧ y = .ref b ∧ SqL K H a xs ∧ SqL K H b [] ∧ Q (.bl (if neg then !xs.isEmpty else xs.isEmpty)) H
theorem op_nilE (hu : X.A.units + 64 < cLine) : OpR X (compareOp .Eq) (fun x y H Q => rNil X.K false x y H Q ∨ rEqD X.K x y H Q) := by
  intro pins s σ H x y v u Q I rx ry h
  rcases h with ⟨a, b, xs, rfl, rfl, ha, hb, q⟩ | h
  · cases (show v = Value.ref a from rx)
    cases (show u = Value.ref b from ry)
    obtain ⟨us, r1, p1, _⟩ := I.list ha
    obtain ⟨ws, r2, p2, _⟩ := I.list hb
    cases r2
    cases r1 with
    | nil => exact SeqAt.RcAt.lists (e := fun _ => true) p1.isList p2.isList rfl (by omega) (fun j h1 _ => absurd h1 (Nat.not_lt_zero j)) _ _ _ _ ⟨.bl true, H, I, rfl, q⟩
    | cons h t => exact SeqAt.RcAt.lists_lengths p1.isList p2.isList (by simp) (by omega) _ _ _ _ ⟨.bl false, H, I, rfl, q⟩
  · exact op_eqD hu pins s σ H x y v u Q I rx ry h
theorem op_nilN (hu : X.A.units + 64 < cLine) : OpR X (compareOp .NotEq) (fun x y H Q => rNil X.K true x y H Q ∨ rNeD X.K x y H Q) := by
  intro pins s σ H x y v u Q I rx ry h
  rcases h with ⟨a, b, xs, rfl, rfl, ha, hb, q⟩ | h
  · cases (show v = Value.ref a from rx)
    cases (show u = Value.ref b from ry)
    obtain ⟨us, r1, p1, _⟩ := I.list ha
    obtain ⟨ws, r2, p2, _⟩ := I.list hb
    cases r2
    cases r1 with
    | nil => exact SeqAt.RcNeAt.lists (e := fun _ => true) p1.isList p2.isList rfl (by omega) (fun j h1 _ => absurd h1 (Nat.not_lt_zero j)) _ _ _ _ ⟨.bl false, H, I, rfl, q⟩
    | cons h t => exact SeqAt.RcNeAt.lists_lengths p1.isList p2.isList (by simp) (by omega) _ _ _ _ ⟨.bl true, H, I, rfl, q⟩
  · exact op_neD hu pins s σ H x y v u Q I rx ry h
/-- == [], any list -/
def opNil (neg : Bool) : D → D → OH → Res D := fun a b h => match lsqAt h a, b with
  | some xs, .lst [] => .ok (.bl (if neg then !xs.isEmpty else xs.isEmpty)) h
  | _, _ => opEq neg a b h
theorem opNil_h (neg : Bool) : OpH X.K W (opNil neg) (fun x y H Q => rNil X.K neg x y H Q ∨ (if neg then rNeD X.K else rEqD X.K) x y H Q) := by
  intro P F m h H σ Q x y dx dy S r1 r2 fin
  have old := fun fin => opEq_h (X := X) (W := W) neg P F m h H σ Q x y dx dy S r1 r2 fin
  unfold opNil at fin
  split at fin
  · rename_i xs e
    obtain ⟨a, vs, rfl, ha, rl⟩ := lsqAt_ok S r1 e
    cases r2 with
    | @lst b ws _ q rb =>
      cases rb
      refine .inl ⟨a, b, vs, rfl, rfl, ha, .inl (.inl (S.sub _ _ q)), ?_⟩
      have e2 : vs.isEmpty = xs.isEmpty := by cases rl <;> rfl
      rw [e2]
      exact fin _ F m H (Ext.refl ..) S (.bl _)
  · exact .inr (old fin)
theorem dt_eqN {a b : Expr} {pos : Pos} {fa fb : SE} (hu : X.A.units + 64 < cLine) (ha : DE X W a fa) (hb : DE X W b fb) : DT X W (.Compare a [.Eq] [b] pos) (sTest (sBin (opNil false) fa fb)) := dt_cmp (op_nilE hu) (opNil_h false) (nomark _) ha hb
theorem dt_neN {a b : Expr} {pos : Pos} {fa fb : SE} (hu : X.A.units + 64 < cLine) (ha : DE X W a fa) (hb : DE X W b fb) : DT X W (.Compare a [.NotEq] [b] pos) (sTest (sBin (opNil true) fa fb)) := dt_cmp (op_nilN hu) (opNil_h true) (nomark _) ha hb
end
def Res.W {α : Type} (r : Res α) (P : α → OH → Prop) : Prop := match r with
  | .ok a h => P a h
  | _ => False
/-- what follows; the loop's next round; behind the loop; the answer -/
def SRes.W (r : SRes) (N C B : Env' → OH → Prop) (R : D → OH → Prop) : Prop := match r with
  | .nx e h => N e h
  | .ct e h => C e h
  | .bk e h => B e h
  | .rt d h => R d h
  | _ => False
abbrev nov : Env' → OH → Prop := fun _ _ => False
section
variable {α β : Type} {P : α → OH → Prop} {N C B : Env' → OH → Prop} {R : D → OH → Prop} {PD : D → OH → Prop} {PL : List D → OH → Prop} {PB : Bool → OH → Prop}
theorem Res.W.out {r : Res α} (h : r.W P) : ∃ a h', r = .ok a h' ∧ P a h' := by
  cases r with
  | ok a h' => exact ⟨a, h', rfl, h⟩
  | exc _ _ _ => exact h.elim
  | bad => exact h.elim
theorem Res.W.of {r : Res α} {a : α} {h' : OH} (e : r = .ok a h') (p : P a h') : r.W P := by rw [e]; exact p
theorem Res.W.mono {r : Res α} {P' : α → OH → Prop} (h : r.W P) (m : ∀ a h', P a h' → P' a h') : r.W P' := by
  obtain ⟨a, h', e, p⟩ := h.out
  exact .of e (m a h' p)
theorem SRes.W.mono {r : SRes} {N' C' B' : Env' → OH → Prop} {R' : D → OH → Prop} (h : r.W N C B R) (m : ∀ e h', N e h' → N' e h') (m1 : ∀ e h', C e h' → C' e h') (m3 : ∀ e h', B e h' → B' e h') (m2 : ∀ d h', R d h' → R' d h') : r.W N' C' B' R' := by
  cases r with
  | nx e h' => exact m e h' h
  | rt d h' => exact m2 d h' h
  | bk e h' => exact m3 e h' h
  | ct e h' => exact m1 e h' h
  | exc _ _ _ _ => exact h.elim
  | bad => exact h.elim
@[simp] theorem W_ok (a : α) (h : OH) : (Res.ok a h).W P = P a h := rfl
@[simp] theorem W_bind (r : Res β) (f : β → OH → Res α) : (r.bind f).W P = r.W fun b h => (f b h).W P := by cases r <;> rfl
@[simp] theorem W_noX (r : Res α) : r.noX.W P = r.W P := by cases r <;> rfl
@[simp] theorem W_toS (r : Res β) (e : Env') (f : β → OH → SRes) : (r.toS e f).W N C B R = r.W fun b h => (f b h).W N C B R := by cases r <;> rfl
@[simp] theorem W_ite (c : Prop) [Decidable c] (a b : Res α) : (if c then a else b).W P = if c then a.W P else b.W P := by split <;> rfl
@[simp] theorem SW_ite (c : Prop) [Decidable c] (a b : SRes) : (if c then a else b).W N C B R = if c then a.W N C B R else b.W N C B R := by split <;> rfl
@[simp] theorem W_bad : (Res.bad : Res α).W P = False := rfl
/-! expressions -/
theorem W_sVar' (i : Nat) (e : Env') (h : OH) : (sVar i e h).W PD = match e[i]? with
  | some (some d) => PD d h
  | _ => False := by unfold sVar; split <;> simp_all
@[simp] theorem W_var0 (d : D) (e : Env') (h : OH) : (sVar 0 (some d :: e) h).W PD = PD d h := rfl
@[simp] theorem W_varS (i : Nat) (d : Option D) (e : Env') (h : OH) : (sVar (i + 1) (d :: e) h).W PD = (sVar i e h).W PD := by rw [W_sVar', W_sVar']; simp
@[simp] theorem W_c (d : D) (e : Env') (h : OH) : (sC d e h).W PD = PD d h := rfl
@[simp] theorem W_sBin (g : D → D → OH → Res D) (a b : SE) (e : Env') (h : OH) : (sBin g a b e h).W PD = (a e h).W fun x h1 => (b e h1).W fun y h2 => (g x y h2).W PD := by simp [sBin]
@[simp] theorem W_sUn (g : D → OH → Res D) (a : SE) (e : Env') (h : OH) : (sUn g a e h).W PD = (a e h).W fun x h1 => (g x h1).W PD := by simp [sUn]
@[simp] theorem W_sCall (g : List D → OH → Res D) (a : SA) (e : Env') (h : OH) : (sCall g a e h).W PD = (a e h).W fun x h1 => (g x h1).W PD := by simp [sCall]
@[simp] theorem W_sNil (e : Env') (h : OH) : (sNil e h).W PL = PL [] h := rfl
@[simp] theorem W_sCons (a : SE) (r : SA) (e : Env') (h : OH) : (sCons a r e h).W PL = (a e h).W fun x h1 => (r e h1).W fun xs h2 => PL (x :: xs) h2 := by simp [sCons]
@[simp] theorem W_sTup (a : SA) (e : Env') (h : OH) : (sTup a e h).W PD = (a e h).W fun xs h1 => if xs.length ≤ 1000000 then PD (.tup xs) h1 else False := by simp [sTup, big]
@[simp] theorem W_sLst (a : SA) (e : Env') (h : OH) : (sLst a e h).W PD = (a e h).W fun xs h1 => if xs.length ≤ 1000000 then PD (.lst xs) h1 else False := by simp [sLst, big]
@[simp] theorem W_sLstO (a : SA) (e : Env') (h : OH) : (sLstO a e h).W PD = (a e h).W fun xs h1 => if xs.length ≤ 1000000 then PD (.ref h1.length) (h1 ++ [.lst xs]) else False := by simp [sLstO, big]
theorem W_sTest' (f : SE) (e : Env') (h : OH) : (sTest f e h).W PB = (f e h).W fun d h1 => match d with
  | .bl b => PB b h1
  | _ => False := by
  unfold sTest; rw [W_bind]; congr; funext d h1; cases d <;> rfl
def isBl (d : D) (P : Bool → Prop) : Prop := match d with
  | .bl b => P b
  | _ => False
@[simp] theorem isBl_bl (b : Bool) (P : Bool → Prop) : isBl (.bl b) P = P b := rfl
@[simp] theorem W_sTest (f : SE) (e : Env') (h : OH) : (sTest f e h).W PB = (f e h).W fun d h1 => isBl d fun b => PB b h1 := by rw [W_sTest']; rfl
@[simp] theorem W_sAnd (a b : ST) (e : Env') (h : OH) : (sAnd a b e h).W PB = (a e h).W fun c h1 => if c then (b e h1).W PB else PB false h1 := by simp [sAnd]
@[simp] theorem W_sOr (a b : ST) (e : Env') (h : OH) : (sOr a b e h).W PB = (a e h).W fun c h1 => if c then PB true h1 else (b e h1).W PB := by simp [sOr]
@[simp] theorem W_sNot (a : ST) (e : Env') (h : OH) : (sNot a e h).W PB = (a e h).W fun c h1 => PB (!c) h1 := by simp [sNot]
@[simp] theorem W_sVal (a : ST) (e : Env') (h : OH) : (sVal a e h).W PD = (a e h).W fun c h1 => PD (.bl c) h1 := by simp [sVal]
@[simp] theorem W_sYes (e : Env') (h : OH) : (sYes e h).W PB = PB true h := rfl
@[simp] theorem W_sIf (c : ST) (a b : SE) (e : Env') (h : OH) : (sIf c a b e h).W PD = (c e h).W fun t h1 => if t then (a e h1).W PD else (b e h1).W PD := by simp [sIf]
@[simp] theorem W_sAndV (a b : SE) (e : Env') (h : OH) : (sAndV a b e h).W PD = (a e h).W fun d h1 => isBl d fun t => if t then (b e h1).W PD else PD (.bl false) h1 := by
  unfold sAndV; rw [W_bind]; congr; funext d h1
  cases d with
  | bl b => cases b <;> rfl
  | _ => rfl
@[simp] theorem W_sOrV (a b : SE) (e : Env') (h : OH) : (sOrV a b e h).W PD = (a e h).W fun d h1 => isBl d fun t => if t then PD (.bl true) h1 else (b e h1).W PD := by
  unfold sOrV; rw [W_bind]; congr; funext d h1
  cases d with
  | bl b => cases b <;> rfl
  | _ => rfl
@[simp] theorem W_sNotV (a : SE) (e : Env') (h : OH) : (sNotV a e h).W PD = (a e h).W fun d h1 => isBl d fun t => PD (.bl (!t)) h1 := by
  unfold sNotV; rw [W_bind]; congr; funext d h1
  cases d <;> rfl
@[simp] theorem W_frzE (f : SE) (e : Env') (h : OH) : (frzE f e h).W PD = (f e h).W fun d h1 => match d with
  | .ref i => (match h1[i]? with
    | some (.lst xs) => PD (.lst xs) (h1.set i .dead)
    | _ => False)
  | _ => False := by
  unfold frzE; rw [W_bind]; congr; funext d h1
  cases d with
  | ref i => dsimp only; split <;> simp_all
  | _ => rfl
/-! operators -/
@[simp] theorem W_opI2 (f : Int → Int → D) (c : Int → Int → Bool) (i j : Int) (h : OH) : (opI2 f c (.int i) (.int j) h).W PD = if c i j then PD (f i j) h else False := by simp [opI2]
@[simp] theorem W_addI (i j : Int) (h : OH) : (opAdd (.int i) (.int j) h).W PD = PD (.int (i + j)) h := rfl
@[simp] theorem W_mulI (i j : Int) (h : OH) : (opMul (.int i) (.int j) h).W PD = if mulOk i j then PD (.int (i * j)) h else False := by simp [opMul]
@[simp] theorem W_negI (i : Int) (h : OH) : (opNeg (.int i) h).W PD = PD (.int (-i)) h := rfl
@[simp] theorem W_absI (i : Int) (h : OH) : (opAbs (.int i) h).W PD = PD (.int (if i < 0 then -i else i)) h := rfl
@[simp] theorem W_divmod (i j : Int) (h : OH) : (opDivmod (.int i) (.int j) h).W PD = if divOk i j then PD (.tup [.int (i / j), .int (i % j)]) h else False := by simp [opDivmod]
@[simp] theorem W_b1 (f : D → OH → Res D) (d : D) (h : OH) : (b1 f [d] h).W PD = (f d h).W PD := rfl
@[simp] theorem W_b2 (f : D → D → OH → Res D) (d d2 : D) (h : OH) : (b2 f [d, d2] h).W PD = (f d d2 h).W PD := rfl
@[simp] theorem W_lenL (xs : List D) (h : OH) : (opLen (.lst xs) h).W PD = PD (.int xs.length) h := rfl
@[simp] theorem W_lenT (xs : List D) (h : OH) : (opLen (.tup xs) h).W PD = PD (.int xs.length) h := rfl
@[simp] theorem W_lenC (xs : List D) (h : OH) : (opLen (.scr xs) h).W PD = PD (.int xs.length) h := rfl
theorem W_lenS (x : Str) (h : OH) : (opLen (.str x) h).W PD = if x.length ≤ big then PD (.int x.length) h else False := by
  show (if x.length ≤ big then Res.ok (D.int x.length) h else Res.bad).W PD = _
  rw [W_ite]; rfl
@[simp] theorem W_withD (dd : List D) (g : FN) (xs : List D) (h : OH) : (withD dd g xs h).W PD = (g (xs ++ dd) h).W PD := rfl
theorem W_fn (n : Nat) (b : SS) (ds : List D) (h : OH) : (fnOf n b ds h).W PD = (b (ds.map some ++ List.replicate (n - ds.length) none) h).W (fun _ h1 => PD .non h1) nov nov PD := by
  unfold fnOf
  cases b (ds.map some ++ List.replicate (n - ds.length) none) h <;> rfl
/-! statements -/
@[simp] theorem SW_nx (e : Env') (h : OH) : (SRes.nx e h).W N C B R = N e h := rfl
@[simp] theorem SW_bad : SRes.bad.W N C B R = False := rfl
@[simp] theorem SW_rt (d : D) (h : OH) : (SRes.rt d h).W N C B R = R d h := rfl
@[simp] theorem SW_next (e : Env') (h : OH) : (sNext e h).W N C B R = N e h := rfl
@[simp] theorem SW_seq (f g : SS) (e : Env') (h : OH) : (sSeq f g e h).W N C B R = (f e h).W (fun e h => (g e h).W N C B R) C B R := by
  unfold sSeq; cases f e h <;> rfl
@[simp] theorem SW_set (i : Nat) (f : SE) (e : Env') (h : OH) : (sSet i f e h).W N C B R = (f e h).W fun d h1 => N (e.set i (some d)) h1 := by unfold sSet; rw [W_toS]; rfl
@[simp] theorem SW_ret (f : SE) (e : Env') (h : OH) : (sRet f e h).W N C B R = (f e h).W R := by unfold sRet; rw [W_toS]; rfl
@[simp] theorem SW_retN (e : Env') (h : OH) : (sRetN e h).W N C B R = R .non h := rfl
@[simp] theorem SW_expr (f : SE) (e : Env') (h : OH) : (sExpr f e h).W N C B R = (f e h).W fun _ h1 => N e h1 := by unfold sExpr; rw [W_toS]; rfl
@[simp] theorem SW_if (c : ST) (a b : SS) (e : Env') (h : OH) : (sIfS c a b e h).W N C B R = (c e h).W fun t h1 => if t then (a e h1).W N C B R else (b e h1).W N C B R := by
  unfold sIfS; rw [W_toS]; simp
@[simp] theorem SW_for (it : SA) (g : TF) (b : SS) (e : Env') (h : OH) : (sFor it g b e h).W N C B R = (it e h).W fun ds h1 => (forL g b ds e h1).W N C B R := by unfold sFor; rw [W_toS]
@[simp] theorem SW_asg (g : TF) (f : SE) (e : Env') (h : OH) : (sAsg g f e h).W N C B R = (f e h).W fun d h1 => match g d e h1 with
  | some e1 => N e1 h1
  | none => False := by
  unfold sAsg; rw [W_toS]; congr; funext d h1; split <;> simp_all
@[simp] theorem SW_brk (e : Env') (h : OH) : (sBreak e h).W N C B R = B e h := rfl
@[simp] theorem SW_cont (e : Env') (h : OH) : (sCont e h).W N C B R = C e h := rfl
@[simp] theorem gN_ev (i : Nat) (d : D) (e : Env') (h : OH) : gN i d e h = some (e.set i (some d)) := rfl
theorem W_forL {g : TF} {b : SS} (I : Nat → Env' → OH → Prop) : ∀ (ds : List D) (e : Env') (h : OH), I 0 e h → (∀ k d, ds[k]? = some d → ∀ e h, I k e h → ∃ e1, g d e h = some e1 ∧ (b e1 h).W (I (k + 1)) (I (k + 1)) N R) → (∀ e h, I ds.length e h → N e h) → (forL g b ds e h).W N C B R
  | [], e, h, i0, _, fin => fin e h i0
  | d :: ds, e, h, i0, st, fin => by
    obtain ⟨e1, q, w⟩ := st 0 d rfl e h i0
    have rest := fun e2 h2 (z : I 1 e2 h2) => W_forL (fun k => I (k + 1)) ds e2 h2 z (fun k d q => st (k + 1) d q) fin
    unfold forL
    rw [q]
    dsimp only
    cases q2 : b e1 h with
    | nx e2 h2 => rw [q2] at w; exact rest e2 h2 w
    | ct e2 h2 => rw [q2] at w; exact rest e2 h2 w
    | bk e2 h2 => rw [q2] at w; exact w
    | rt d h2 => rw [q2] at w; exact w
    | exc _ _ _ _ => rw [q2] at w; exact w.elim
    | bad => rw [q2] at w; exact w.elim
/-! reading the own heap -/
def lkL (o : Option OO) (P : List D → Prop) : Prop := match o with
  | some (.lst xs) => P xs
  | _ => False
@[simp] theorem lkL_lst (xs : List D) (P : List D → Prop) : lkL (some (.lst xs)) P = P xs := rfl
def lkS {α : Type} (o : Option α) (P : α → Prop) : Prop := match o with
  | some x => P x
  | none => False
@[simp] theorem lkS_some {α : Type} (x : α) (P : α → Prop) : lkS (some x) P = P x := rfl
theorem lkS_of {α : Type} {o : Option α} {x : α} {P : α → Prop} (e : o = some x) (p : P x) : lkS o P := by rw [e]; exact p
@[simp] theorem W_ixL (xs : List D) (i : Int) (h : OH) : (opIx (.lst xs) (.int i) h).W PD = lkS (atI xs i) fun d => PD d h := by
  simp only [opIx, seqAt]; split <;> simp_all [lkS]
@[simp] theorem W_ixT (xs : List D) (i : Int) (h : OH) : (opIx (.tup xs) (.int i) h).W PD = lkS (atI xs i) fun d => PD d h := by
  simp only [opIx, seqAt]; split <;> simp_all [lkS]
@[simp] theorem W_ixC (xs : List D) (i : Int) (h : OH) : (opIx (.scr xs) (.int i) h).W PD = lkS (atI xs i) fun d => PD d h := by
  simp only [opIx, seqAt]; split <;> simp_all [lkS]
@[simp] theorem W_ixR (n : Nat) (i : Int) (h : OH) : (opIx (.ref n) (.int i) h).W PD = lkL h[n]? fun xs => lkS (atI xs i) fun d => PD d h := by
  simp only [opIx, seqAt]
  cases h[n]? with
  | none => rfl
  | some o => cases o with
    | lst xs => simp only [lkL_lst]; split <;> simp_all [lkS]
    | _ => rfl
@[simp] theorem W_lenR (n : Nat) (h : OH) : (opLen (.ref n) h).W PD = lkL h[n]? fun xs => PD (.int xs.length) h := by
  simp only [opLen, seqAt]
  cases h[n]? with
  | none => rfl
  | some o => cases o <;> rfl
theorem ixN_z {n : Nat} {j : Int} (h0 : 0 ≤ j) (h : j < n) : ixN n j = some j.toNat := by simp [ixN, h0, h]
theorem atI_z {α : Type} {xs : List α} {j : Int} (h0 : 0 ≤ j) (h : j < xs.length) : atI xs j = xs[j.toNat]? := by simp [atI, ixN_z h0 h]
@[simp] theorem atI_0 {α : Type} (x : α) (xs : List α) : atI (x :: xs) 0 = some x := by rw [atI_z (by omega) (by simp)]; rfl
@[simp] theorem atI_1 {α : Type} (x y : α) (xs : List α) : atI (x :: y :: xs) 1 = some y := by rw [atI_z (by omega) (by simp; omega)]; rfl
@[simp] theorem atI_2 {α : Type} (x y z : α) (xs : List α) : atI (x :: y :: z :: xs) 2 = some z := by rw [atI_z (by omega) (by simp; omega)]; rfl
@[simp] theorem atI_3 {α : Type} (x y z u : α) (xs : List α) : atI (x :: y :: z :: u :: xs) 3 = some u := by rw [atI_z (by omega) (by simp; omega)]; rfl
@[simp] theorem ixN_0 (n : Nat) : ixN (n + 1) 0 = some 0 := ixN_z (by omega) (by omega)
@[simp] theorem ixN_1 (n : Nat) : ixN (n + 1 + 1) 1 = some 1 := ixN_z (by omega) (by omega)
@[simp] theorem ixN_2 (n : Nat) : ixN (n + 1 + 1 + 1) 2 = some 2 := ixN_z (by omega) (by omega)
@[simp] theorem SW_ixS (o i v : SE) (e : Env') (h : OH) : (sIxS o i v e h).W N C B R = (v e h).W fun y h1 => (o e h1).W fun x h2 => (i e h2).W fun k h3 => match x, k with
  | .ref n, .int j => lkL h3[n]? fun xs => lkS (ixN xs.length j) fun q => N e (h3.set n (.lst (xs.set q y)))
  | _, _ => False := by
  unfold sIxS
  simp only [W_toS]
  congr; funext y h1; congr; funext x h2; congr; funext k h3
  cases x <;> cases k <;> first | rfl | skip
  rename_i n j
  dsimp only
  cases h3[n]? with
  | none => rfl
  | some o => cases o with
    | lst xs => simp only [lkL_lst]; cases ixN xs.length j <;> rfl
    | _ => rfl
/-! sizes of numbers -/
def Small (i : Int) : Prop := i.natAbs < 2 ^ 4000
theorem log2_small {n k : Nat} (h : n < 2 ^ k) (hk : 0 < k) : n.log2 < k := by
  rcases Nat.eq_zero_or_pos n with h0 | h0
  · subst h0; simpa using hk
  · exact (Nat.log2_lt (by omega)).mpr h
theorem mulOk_l {i j : Int} (a : i.natAbs < 2 ^ 64) : mulOk i j = true := by simp [mulOk, a]
theorem mulOk_r {i j : Int} (a : j.natAbs < 2 ^ 64) : mulOk i j = true := by simp [mulOk, a]
theorem divOk_small {i j : Int} (a : Small j) (b : 0 < j) : divOk i j = true := by
  have h1 := log2_small a (by decide)
  simp only [divOk, Bool.and_eq_true, decide_eq_true_eq]
  omega
theorem small_of {i : Int} {k : Nat} (h : i.natAbs < 2 ^ k) (hk : k ≤ 4000) : Small i := Nat.lt_of_lt_of_le h (Nat.pow_le_pow_right (by decide) hk)
theorem small_64 {i : Int} (h : i.natAbs < 18446744073709551616) : Small i := small_of (k := 64) h (by decide)
/-! parts -/
def isI (d : D) (P : Int → Prop) : Prop := match d with
  | .int b => P b
  | _ => False
@[simp] theorem isI_int (b : Int) (P : Int → Prop) : isI (.int b) P = P b := rfl
@[simp] theorem W_rng1 (a : SE) (e : Env') (h : OH) : (sRng1 a e h).W PL = (a e h).W fun d h1 => isI d fun j => if rngOk j then PL (rngD 0 j.toNat) h1 else False := by
  unfold sRng1; rw [W_bind]; congr; funext d h1
  cases d <;> first | rfl | simp
@[simp] theorem W_rng2 (a b : SE) (e : Env') (h : OH) : (sRng2 a b e h).W PL = (a e h).W fun d h1 => (b e h1).W fun d2 h2 => isI d fun i => isI d2 fun j => if rngOk i && rngOk j then PL (rngD i (j - i).toNat) h2 else False := by
  unfold sRng2; rw [W_bind]; congr; funext d h1; rw [W_bind]; congr; funext d2 h2
  cases d <;> cases d2 <;> first | rfl | simp
@[simp] theorem W_it (f : SE) (e : Env') (h : OH) : (sIt f e h).W PL = (f e h).W fun d h1 => lkS (itAt d) fun xs => PL xs h1 := by
  unfold sIt; rw [W_bind]; congr; funext d h1
  cases itAt d <;> rfl
@[simp] theorem itAt_lst (xs : List D) : itAt (.lst xs) = some xs := rfl
@[simp] theorem itAt_tup (xs : List D) : itAt (.tup xs) = some xs := rfl
@[simp] theorem itAt_scr (xs : List D) : itAt (.scr xs) = some xs := rfl
@[simp] theorem itAt_str (x : Str) : itAt (.str x) = some (signsD x) := rfl
theorem rngD_at {lo : Int} {n k : Nat} {d : D} (h : (rngD lo n)[k]? = some d) : k < n ∧ d = .int (lo + k) := by
  simp only [rngD, List.getElem?_map, Option.map_eq_some_iff] at h
  obtain ⟨j, e1, e2⟩ := h
  obtain ⟨h1, h2⟩ := List.getElem?_eq_some_iff.mp e1
  rw [List.getElem_range] at h2
  rw [List.length_range] at h1
  subst h2
  exact ⟨h1, e2.symm⟩
@[simp] theorem rngD_len (lo : Int) (n : Nat) : (rngD lo n).length = n := by simp [rngD]
variable {PO : Option Int → OH → Prop}
@[simp] theorem W_noPart (e : Env') (h : OH) : (sNoPart e h).W PO = PO none h := rfl
@[simp] theorem W_part (f : SE) (e : Env') (h : OH) : (sPart f e h).W PO = (f e h).W fun d h1 => isI d fun j => PO (some j) h1 := by
  unfold sPart; rw [W_bind]; congr; funext d h1
  cases d <;> rfl
@[simp] theorem W_sCut (own : Bool) (a : SE) (lo hi : SO) (e : Env') (h : OH) : (sCut own a lo hi e h).W PD = (a e h).W fun x h1 => (lo e h1).W fun l h2 => (hi e h2).W fun u h3 => (opCut own x l u h3).W PD := by simp [sCut]
@[simp] theorem W_cutL (own : Bool) (xs : List D) (lo hi : Option Int) (h : OH) : (opCut own (.lst xs) lo hi h).W PD = if own then PD (.ref h.length) (h ++ [.lst (cutD xs lo hi)]) else PD (.lst (cutD xs lo hi)) h := by
  simp [opCut, lsqAt, seqAt]
@[simp] theorem W_cutC (own : Bool) (xs : List D) (lo hi : Option Int) (h : OH) : (opCut own (.scr xs) lo hi h).W PD = if own then PD (.ref h.length) (h ++ [.lst (cutD xs lo hi)]) else PD (.lst (cutD xs lo hi)) h := by
  simp [opCut, lsqAt, seqAt]
theorem cutD_drop (xs : List D) (k : Int) (hk : 0 ≤ k) : cutD xs (some k) none = xs.drop k.toNat := by
  have e : ¬ k < 0 := by omega
  simp only [cutD, HT.sIx, e, if_false]
  rw [List.take_of_length_le (by simp)]
  rcases Nat.le_total k.toNat xs.length with h | h
  · rw [Nat.min_eq_left h]
  · rw [Nat.min_eq_right h, List.drop_length, List.drop_eq_nil_of_le h]
/-! methods of own lists -/
@[simp] theorem W_sMtO (g : Nat → List D → List D → OH → Res D) (o : SE) (a : SA) (e : Env') (h : OH) : (sMtO g o a e h).W PD = (o e h).W fun x h1 => match x with
  | .ref i => lkL h1[i]? fun _ => (a e h1).W fun ys h2 => lkL h2[i]? fun xs => (g i xs ys h2).W PD
  | _ => False := by
  unfold sMtO
  rw [W_bind]; congr; funext x h1
  cases x with
  | ref i =>
    rcases q : h1[i]? with _ | o
    · simp [isOwn, q, lkL]
    · cases o with
      | lst xs =>
        simp only [isOwn, q, lkL_lst, if_true, W_bind]
        congr; funext ys h2
        rcases q2 : h2[i]? with _ | o
        · rfl
        · cases o <;> rfl
      | _ => simp [isOwn, q, lkL]
  | _ => rfl
@[simp] theorem W_append (i : Nat) (xs : List D) (y : D) (h : OH) : (gAppend i xs [y] h).W PD = if xs.length < 1000000 then PD .non (h.set i (.lst (xs ++ [y]))) else False := by simp [gAppend, big]
theorem W_popAt {i : Nat} {xs : List D} {k : Int} {h : OH} {y : D} (h0 : 0 ≤ k) (hy : xs[k.toNat]? = some y) (hb : k < 2 ^ 63) (p : PD y (h.set i (.lst (xs.eraseIdx k.toNat)))) : (gPopAt i xs [.int k] h).W PD := by
  have hl := (List.getElem?_eq_some_iff.mp hy).1
  have e : seqIndex? k xs.length = some k.toNat := by
    have : ¬ k < 0 := by omega
    have : k < xs.length := by omega
    simp [seqIndex?, *]
  have b : -(2 ^ 63) ≤ k ∧ k < 2 ^ 63 := ⟨by omega, hb⟩
  simp only [gPopAt, if_pos b, e, hy]
  exact p
/-! comprehensions -/
@[simp] theorem W_sLc (own : Bool) (it : SA) (g : TF) (tt : ST) (el : SE) (vs : List Nat) (e : Env') (h : OH) : (sLc own it g tt el vs e h).W PD = (it e h).W fun ds h1 => (lcGo g tt el (wipeD e vs) ds h1 []).W fun acc h2 => if own then PD (.ref h2.length) (h2 ++ [.lst acc]) else PD (.lst acc) h2 := by
  simp [sLc]
theorem W_lcGo {g : TF} {tt : ST} {el : SE} {e : Env'} (I : Nat → List D → OH → Prop) : ∀ (ds : List D) (h : OH) (acc : List D), I 0 acc h → (∀ k d, ds[k]? = some d → ∀ acc h, I k acc h → ∃ e1, g d e h = some e1 ∧ (tt e1 h).W fun b h1 => if b then (el e1 h1).W fun y h2 => acc.length < 1000000 ∧ I (k + 1) (acc ++ [y]) h2 else I (k + 1) acc h1) →
    (∀ acc h, I ds.length acc h → PL acc h) → (lcGo g tt el e ds h acc).W PL
  | [], h, acc, i0, _, fin => fin acc h i0
  | d :: ds, h, acc, i0, st, fin => by
    obtain ⟨e1, q, w⟩ := st 0 d rfl acc h i0
    have rest := fun acc2 h2 (z : I 1 acc2 h2) => W_lcGo (fun k => I (k + 1)) ds h2 acc2 z (fun k d q => st (k + 1) d q) fin
    unfold lcGo
    rw [q]
    dsimp only
    rw [W_bind, W_noX]
    refine w.mono fun b h1 hw => ?_
    cases b with
    | true =>
      simp only [if_true] at hw ⊢
      rw [W_bind, W_noX]
      refine hw.mono fun y h2 hw2 => ?_
      rw [if_pos hw2.1]
      exact rest _ _ hw2.2
    | false => exact rest _ _ hw
/-- nothing is changed on the way -/
theorem W_lcMap {ξ : Type} {g : TF} {tt : ST} {el : SE} {e : Env'} (xs : List ξ) (emb : ξ → D) (p : ξ → Bool) (f : ξ → D) (h : OH) (hb : xs.length ≤ big)
    (st : ∀ x ∈ xs, ∃ e1, g (emb x) e h = some e1 ∧ (tt e1 h).W fun b h1 => b = p x ∧ h1 = h ∧ (p x = true → (el e1 h1).W fun y h2 => y = f x ∧ h2 = h)) (fin : PL ((xs.filter p).map f) h) : (lcGo g tt el e (xs.map emb) h []).W PL := by
  refine W_lcGo (fun k acc h' => h' = h ∧ acc = ((xs.take k).filter p).map f) _ _ _ ⟨rfl, rfl⟩ (fun k d hd acc h' hI => ?_) (fun acc h' hI => ?_)
  · obtain ⟨rfl, rfl⟩ := hI
    rw [List.getElem?_map, Option.map_eq_some_iff] at hd
    obtain ⟨x, hx, rfl⟩ := hd
    have hk := (List.getElem?_eq_some_iff.mp hx).1
    obtain ⟨e1, q, w⟩ := st x (List.mem_of_getElem? hx)
    refine ⟨e1, q, w.mono fun b h1 z => ?_⟩
    obtain ⟨rfl, rfl, z⟩ := z
    have ht : xs.take (k + 1) = xs.take k ++ [x] := by
      rw [List.take_succ, hx]; rfl
    cases hp : p x with
    | true =>
      rw [if_pos rfl]
      refine (z hp).mono fun y h2 z => ?_
      obtain ⟨rfl, rfl⟩ := z
      refine ⟨?_, rfl, ?_⟩
      · have a1 := List.length_filter_le p (xs.take k)
        have a2 : (xs.take k).length ≤ k := List.length_take_le ..
        have hb' : xs.length ≤ 1000000 := hb
        rw [List.length_map]
        omega
      · rw [ht]; simp [hp]
    | false => exact ⟨rfl, by rw [ht]; simp [hp]⟩
  · obtain ⟨rfl, rfl⟩ := hI
    simpa using fin
end
end HR
set_option Elab.async false
set_option linter.all false
set_option maxRecDepth 20000
set_option maxHeartbeats 1000000
/-! more of what the plain functions give -/
namespace HR
open PySem L2
section
variable {α β : Type} {P : α → OH → Prop} {N C B : Env' → OH → Prop} {R : D → OH → Prop} {PD : D → OH → Prop} {PL : List D → OH → Prop} {PB : Bool → OH → Prop}
theorem pure_eq {f : FN} {ds : List D} {x : D} (h : OH) (hp : D.pureL ds = true) (hx : x.pure = true) (w : (f ds []).W fun d _ => d = x) : pureF f ds h = .ok x h := by
  obtain ⟨a, h', e, rfl⟩ := w.out
  simp [pureF, hp, e, hx]
theorem pureL_map {ξ : Type} (f : ξ → D) (hf : ∀ x, (f x).pure = true) : ∀ l : List ξ, D.pureL (l.map f) = true
  | [] => rfl
  | x :: l => by simp [D.pureL, hf x, pureL_map f hf l]
@[simp] theorem pureL_nil : D.pureL [] = true := rfl
@[simp] theorem pureL_cons (x : D) (l : List D) : D.pureL (x :: l) = (x.pure && D.pureL l) := rfl
@[simp] theorem pureF_nil : D.pureF [] = true := rfl
@[simp] theorem pureF_cons (x : String × D) (l : List (String × D)) : D.pureF (x :: l) = (x.2.pure && D.pureF l) := rfl
@[simp] theorem pure_non : D.non.pure = true := rfl
@[simp] theorem pure_int (i : Int) : (D.int i).pure = true := rfl
@[simp] theorem pure_str (i : Str) : (D.str i).pure = true := rfl
@[simp] theorem pure_bl (i : Bool) : (D.bl i).pure = true := rfl
@[simp] theorem pure_lst (l : List D) : (D.lst l).pure = D.pureL l := rfl
@[simp] theorem pure_tup (l : List D) : (D.tup l).pure = D.pureL l := rfl
@[simp] theorem pure_scr (l : List D) : (D.scr l).pure = D.pureL l := rfl
@[simp] theorem pure_obj (C : String) (l : List (String × D)) : (D.obj C l).pure = D.pureF l := rfl
@[simp] theorem pureL_ints (l : List Int) : D.pureL (l.map D.int) = true := pureL_map _ (fun _ => rfl) l
@[simp] theorem pureL_strs (l : List Str) : D.pureL (l.map D.str) = true := pureL_map _ (fun _ => rfl) l
/-! == -/
@[simp] theorem W_eqI (neg : Bool) (i j : Int) (h : OH) : (opEq neg (.int i) (.int j) h).W PD = PD (.bl (if neg then !(i == j) else i == j)) h := by
  simp [opEq, SeqAt.shaped, PyData.canLay0, PyData.depth, PyData.eqv]
theorem W_eqS (neg : Bool) (x y : Str) (h : OH) (hx : PyData.strOk x = true) (hy : PyData.strOk y = true) : (opEq neg (.str x) (.str y) h).W PD = PD (.bl (if neg then !(x == y) else x == y)) h := by
  simp [opEq, SeqAt.shaped, PyData.canLay0, PyData.depth, PyData.eqv, hx, hy]
@[simp] theorem W_nilL (neg : Bool) (xs : List D) (h : OH) : (opNil neg (.lst xs) (.lst []) h).W PD = PD (.bl (if neg then !xs.isEmpty else xs.isEmpty)) h := by simp [opNil, lsqAt, seqAt]
@[simp] theorem W_isNon (neg : Bool) (h : OH) : (opIs neg .non .non h).W PD = PD (.bl (!neg)) h := by simp [opIs]
@[simp] theorem W_isInt (neg : Bool) (i : Int) (h : OH) : (opIs neg (.int i) .non h).W PD = PD (.bl neg) h := by simp [opIs]
@[simp] theorem W_isStr (neg : Bool) (i : Str) (h : OH) : (opIs neg (.str i) .non h).W PD = PD (.bl neg) h := by simp [opIs]
@[simp] theorem W_isLst (neg : Bool) (i : List D) (h : OH) : (opIs neg (.lst i) .non h).W PD = PD (.bl neg) h := by simp [opIs]
@[simp] theorem W_isTup (neg : Bool) (i : List D) (h : OH) : (opIs neg (.tup i) .non h).W PD = PD (.bl neg) h := by simp [opIs]
@[simp] theorem W_sChain (g g' : D → D → OH → Res D) (a b c : SE) (e : Env') (h : OH) : (sChain g g' a b c e h).W PD = (a e h).W fun x h1 => (b e h1).W fun y h2 => (g x y h2).W fun z h3 => isBl z fun t => if t then (c e h3).W fun u h4 => (g' y u h4).W PD else PD (.bl false) h3 := by
  unfold sChain
  rw [W_bind]; congr; funext x h1; rw [W_bind]; congr; funext y h2; rw [W_bind]; congr; funext z h3
  cases z with
  | bl t => cases t <;> simp
  | _ => rfl
@[simp] theorem W_sIsi (ts : List String) (f : SE) (e : Env') (h : OH) : (sIsi ts f e h).W PD = (f e h).W fun d h1 => lkS (tyAt h1 d) fun t => PD (.bl (ts.any fun T => isiB t T)) h1 := by
  unfold sIsi; rw [W_bind]; congr; funext d h1
  cases tyAt h1 d <;> rfl
@[simp] theorem ty_non (h : OH) : tyAt h .non = some "NoneType" := rfl
@[simp] theorem ty_bl (h : OH) (b : Bool) : tyAt h (.bl b) = some "bool" := rfl
@[simp] theorem ty_int (h : OH) (i : Int) : tyAt h (.int i) = some "int" := rfl
@[simp] theorem ty_str (h : OH) (x : Str) : tyAt h (.str x) = some "str" := rfl
@[simp] theorem ty_lst (h : OH) (xs : List D) : tyAt h (.lst xs) = some "list" := rfl
@[simp] theorem ty_scr (h : OH) (xs : List D) : tyAt h (.scr xs) = some "list" := rfl
@[simp] theorem ty_tup (h : OH) (xs : List D) : tyAt h (.tup xs) = some "tuple" := rfl
@[simp] theorem isi_ss : isiB "str" "str" = true := by decide
@[simp] theorem isi_ii : isiB "int" "int" = true := by decide
@[simp] theorem isi_bi : isiB "bool" "int" = true := by decide
@[simp] theorem isi_ib : isiB "int" "bool" = false := by decide
@[simp] theorem isi_ll : isiB "list" "list" = true := by decide
@[simp] theorem isi_lt : isiB "list" "tuple" = false := by decide
@[simp] theorem isi_tl : isiB "tuple" "list" = false := by decide
@[simp] theorem isi_tt : isiB "tuple" "tuple" = true := by decide
@[simp] theorem isi_si : isiB "str" "int" = false := by decide
@[simp] theorem isi_is : isiB "int" "str" = false := by decide
@[simp] theorem isi_sl : isiB "str" "list" = false := by decide
@[simp] theorem isi_st : isiB "str" "tuple" = false := by decide
@[simp] theorem isi_il : isiB "int" "list" = false := by decide
@[simp] theorem isi_it : isiB "int" "tuple" = false := by decide
@[simp] theorem W_inS (neg : Bool) (c : Nat) (z : Str) (h : OH) : (opInS neg (.str ⟨#[c]⟩) (.str z) h).W PD = PD (.bl (if neg then !decide (c ∈ z.cps.toList) else decide (c ∈ z.cps.toList))) h := by simp [opInS]
/-! all, any, sum, tuple, list -/
@[simp] theorem W_allL (xs : List D) (h : OH) : (opAll (.lst xs) h).W PD = lkS (bsOf xs) fun bs => PD (.bl (bs.all id)) h := by
  simp only [opAll, lsqAt, seqAt, Option.bind_some]; split <;> simp_all [lkS]
@[simp] theorem W_anyL (xs : List D) (h : OH) : (opAny (.lst xs) h).W PD = lkS (bsOf xs) fun bs => PD (.bl (bs.any id)) h := by
  simp only [opAny, lsqAt, seqAt, Option.bind_some]; split <;> simp_all [lkS]
@[simp] theorem W_sumL (xs : List D) (h : OH) : (opSum (.lst xs) h).W PD = lkS (intsOf xs) fun ns => PD (.int ns.sum) h := by
  simp only [opSum, lsqAt, seqAt, Option.bind_some]; split <;> simp_all [lkS]
@[simp] theorem bs_nil : bsOf [] = some [] := rfl
@[simp] theorem bs_cons (b : Bool) (l : List D) : bsOf (.bl b :: l) = (bsOf l).map (b :: ·) := rfl
theorem bs_mapF {ξ : Type} (f : ξ → Bool) : ∀ l : List ξ, bsOf (l.map fun x => .bl (f x)) = some (l.map f)
  | [] => rfl
  | x :: l => by simp [bs_mapF f l]
@[simp] theorem W_tupT (xs : List D) (h : OH) : (opTuple (.tup xs) h).W PD = PD (.tup xs) h := rfl
@[simp] theorem W_tupL (xs : List D) (h : OH) : (opTuple (.lst xs) h).W PD = PD (.tup xs) h := rfl
/-! comprehensions over what is written -/
@[simp] theorem W_lc_nil (g : TF) (tt : ST) (el : SE) (e : Env') (h : OH) (acc : List D) : (lcGo g tt el e [] h acc).W PL = PL acc h := rfl
@[simp] theorem W_lc_cons (g : TF) (tt : ST) (el : SE) (e : Env') (d : D) (ds : List D) (h : OH) (acc : List D) : (lcGo g tt el e (d :: ds) h acc).W PL = lkS (g d e h) fun e1 => (tt e1 h).W fun b h1 => if b then (el e1 h1).W fun y h2 => if acc.length < 1000000 then (lcGo g tt el e ds h2 (acc ++ [y])).W PL else False else (lcGo g tt el e ds h1 acc).W PL := by
  rw [lcGo]
  cases g d e h with
  | none => rfl
  | some e1 =>
    simp only [lkS_some, W_bind, W_noX]
    congr; funext b h1
    cases b <;> simp [big]
theorem W_lcMap1 {ξ : Type} {g : TF} {tt : ST} {el : SE} {e : Env'} (xs : List ξ) (emb : ξ → D) (f : ξ → D) (h : OH) (hb : xs.length ≤ big)
    (st : ∀ x ∈ xs, ∃ e1, g (emb x) e h = some e1 ∧ (tt e1 h).W fun b h1 => b = true ∧ h1 = h ∧ (el e1 h1).W fun y h2 => y = f x ∧ h2 = h) (fin : PL (xs.map f) h) : (lcGo g tt el e (xs.map emb) h []).W PL :=
  W_lcMap xs emb (fun _ => true) f h hb (fun x hx => by
    obtain ⟨e1, q, w⟩ := st x hx
    exact ⟨e1, q, w.mono fun b h1 z => ⟨z.1, z.2.1, fun _ => z.2.2⟩⟩) (by rw [List.filter_eq_self.mpr (fun _ _ => rfl)]; exact fin)
/-! objects -/
@[simp] theorem W_fld (f : String) (d : D) (h : OH) : (opFld f d h).W PD = lkS (insAt h d) fun q => lkS (q.2.lookup f) fun x => PD x h := by
  unfold opFld
  cases insAt h d with
  | none => rfl
  | some q => simp only [lkS_some]; cases q.2.lookup f <;> rfl
@[simp] theorem ins_obj (C : String) (fs : List (String × D)) (h : OH) : insAt h (.obj C fs) = some (C, fs) := rfl
theorem ins_ref {i : Nat} {h : OH} {C : String} {fs : List (String × D)} (e : h[i]? = some (.ins C fs)) : insAt h (.ref i) = some (C, fs) := by simp [insAt, e]
@[simp] theorem ins_ref0 (C : String) (fs : List (String × D)) (h : OH) : insAt (.ins C fs :: h) (.ref 0) = some (C, fs) := rfl
def lkI (o : Option OO) (P : String → List (String × D) → Prop) : Prop := match o with
  | some (.ins C fs) => P C fs
  | _ => False
@[simp] theorem lkI_ins (C : String) (fs : List (String × D)) (P : String → List (String × D) → Prop) : lkI (some (.ins C fs)) P = P C fs := rfl
def isR (d : D) (P : Nat → Prop) : Prop := match d with
  | .ref i => P i
  | _ => False
@[simp] theorem isR_ref (i : Nat) (P : Nat → Prop) : isR (.ref i) P = P i := rfl
@[simp] theorem SW_fldS (K f : String) (o v : SE) (e : Env') (h : OH) : (sFldS K f o v e h).W N C B R = (v e h).W fun y h1 => (o e h1).W fun x h2 => isR x fun i => lkI h2[i]? fun K' fs => if K' = K ∧ fs.length < 900 then N e (h2.set i (.ins K (putS f y fs))) else False := by
  unfold sFldS
  simp only [W_toS]
  congr; funext y h1; congr; funext x h2
  cases x <;> first | rfl | skip
  rename_i i
  simp only [isR_ref]
  rcases h2[i]? with _ | o
  · rfl
  · cases o <;> first | rfl | simp
@[simp] theorem putS_nil (f : String) (d : D) : putS f d [] = [(f, d)] := rfl
@[simp] theorem putS_cons (f : String) (d : D) (q : String × D) (r : List (String × D)) : putS f d (q :: r) = if q.1 = f then (q.1, d) :: r else q :: putS f d r := by
  obtain ⟨g, x⟩ := q; rfl
/-- no field hides the method -/
def hasNo (fs : List (String × D)) (mt : String) : Prop := fs.lookup mt = none
@[simp] theorem W_sMeth (K mt : String) (g : FN) (o : SE) (a : SA) (e : Env') (h : OH) : (sMeth K mt g o a e h).W PD = (o e h).W fun x h1 => lkS (insAt h1 x) fun q => q.1 = K ∧ hasNo q.2 mt ∧ (a e h1).W fun ys h2 => (g (x :: ys) h2).W PD := by
  unfold sMeth
  rw [W_bind]; congr; funext x h1
  cases insAt h1 x with
  | none => rfl
  | some q =>
    simp only [lkS_some]
    by_cases hz : q.1 = K ∧ q.2.lookup mt = none
    · have h1 : q.1 = K := hz.1
      have h2 : hasNo q.2 mt := hz.2
      rw [if_pos hz]
      simp [h1, h2]
    · rw [if_neg hz]
      exact propext ⟨fun z => z.elim, fun z => absurd ⟨z.1, z.2.1⟩ hz⟩
end
/-! keys -/
theorem ddK_nodup : ∀ (ks acc : List Key), ks.Nodup → (∀ x ∈ ks, x ∉ acc) → ddK acc ks = acc ++ ks
  | [], acc, _, _ => by simp [ddK]
  | x :: r, acc, nd, hn => by
    have n1 : inK acc x = false := by
      simp only [inK, List.any_eq_false, decide_eq_true_eq]
      intro y hy e
      exact hn x List.mem_cons_self (e ▸ hy)
    have nd' := List.nodup_cons.mp nd
    rw [ddK, n1, ddK_nodup r _ nd'.2]
    · simp
    · intro y hy hm
      simp only [Bool.false_eq_true, if_false, List.mem_append, List.mem_singleton] at hm
      rcases hm with hm | hm
      · exact hn y (List.mem_cons_of_mem _ hy) hm
      · subst hm; exact nd'.1 hy
theorem keys_strs : ∀ l : List Str, keysOf (l.map D.str) = some (l.map Sum.inr)
  | [] => rfl
  | x :: l => by simp [keysOf, keys_strs l]
end HR
set_option Elab.async false
set_option linter.all false
set_option maxRecDepth 20000
set_option maxHeartbeats 1000000
/-! range with the step -1, enumerate, zip -/
namespace HR
open PySem L2 RZ
section
variable {X : Cx} {W : WX}
def rngS (lo c : Int) (n : Nat) : List D := (List.range n).map fun (k : Nat) => D.int (lo + k * c)
@[simp] theorem rngS_len (lo c : Int) (n : Nat) : (rngS lo c n).length = n := by simp [rngS]
/-- range(a, b, -1) -/
def sRngN (a : SA) : SA := fun e h => (a e h).bind fun ds h1 => match ds with
  | [.int i, .int j, .int k] => if rngOk i && (rngOk j && decide (k = -1)) then .ok (rngS i (-1) (i - j).toNat) h1 else .bad
  | _ => .bad
/-! enumerate(list), zip(a, b) -/
def enumD (xs : List D) : List D := xs.mapIdx fun i x => .tup [.int (i : Nat), x]
theorem walks_enum {K : PySem.W.Frag} {F : Hp} {m : List Addr} {a : Addr} {vs : List V} {xs : List D} (q : SqL K F a vs) (r : DenL K F m vs xs) : Walks K F m (Ite K a) (enumD xs) := by
  intro P F2 m2 h H i x S
  have q2 : SqL K H a vs := S.sub.seq (x.s.seq q)
  have hl : (enumD xs).length = xs.length := by simp [enumD]
  rw [hl]
  refine ⟨fun hi => ?_, fun hi => ⟨vs, q2, by rw [r.length]; exact hi⟩⟩
  have hv : i < vs.length := by rw [r.length]; exact hi
  refine ⟨⟨vs, vs[i], q2, List.getElem?_eq_getElem hv⟩, fun y H' yl => ?_⟩
  obtain ⟨T, z, rfl, hT, rfl, yl⟩ := yl
  obtain ⟨d, e1, r1⟩ := r.getV (yl vs q2)
  have x2 := S.extF (o := .tup [.int (i : Nat), z]) hT
  exact ⟨_, x2, S.frozen hT, .tup [.int (i : Nat), d], by simp [enumD, e1], .tup upd_same (.cons (.int _) (.cons (r1.mono (x.trans x2)) .nil))⟩
def sEnum (f : SA) : SA := fun e h => (f e h).bind fun ds h1 => match ds with
  | [d] => (match frzAt d with
    | some xs => .ok (enumD xs) h1
    | none => .bad)
  | _ => .bad
theorem di_enum {elts : List Expr} {kk : Nat} {tpos : Pos} {a : Expr} {f : SE} {p pos : Pos} (hg : Gl X "enumerate") (hm : X.mg "enumerate" = none) (ha : DE X W a f) (he : starEach [a] X.env = (false, eval a X.env) :: starEach [] X.env := by rfl) (hs : starEach [a] X.env = [(false, eval a X.env)] := by rfl) :
    DI X W (.Tuple elts kk tpos) (.Call (.Name "enumerate" p) [a] [] pos) (sEnum (sCons f sNil)) :=
  PI.of (pi_enum hg hm (da_cons ha da_nil he) hs) fun σ H R => by
    rintro ⟨P, F, m, e, h, S, E, fin⟩
    refine ⟨P, F, m, e, h, S, E, ?_⟩
    unfold sEnum at fin
    cases q : (sCons f sNil) e h with
    | bad => rw [q] at fin; exact fin.elim
    | exc C p h1 => rw [q] at fin; exact fin
    | ok ds h1 =>
      rw [q] at fin
      simp only [Res.bind_ok] at fin
      intro vs F1 m1 H1 x S1 r
      match ds, fin, r with
      | [d], fin, r =>
        obtain ⟨v, rfl, r1⟩ := denL1 r
        dsimp only at fin
        cases q3 : frzAt d with
        | none => rw [q3] at fin; exact fin.elim
        | some xs =>
          rw [q3] at fin
          obtain ⟨b, ws, rfl, hb, rl⟩ := den_sq r1 q3
          exact ⟨b, ws, rfl, S1.sub.seq hb, FinG.okX fin x S1 (walks_enum hb rl)⟩
def zipD (xs ys : List D) : List D := List.zipWith (fun x y => D.tup [x, y]) xs ys
def zipAt : D → D → Option (List D)
  | .tup xs, .tup ys => some (zipD xs ys)
  | a, b => match frzAt a, frzAt b with
    | some xs, some ys => some (zipD xs ys)
    | _, _ => none
def sZip (f : SA) : SA := fun e h => (f e h).bind fun ds h1 => match ds with
  | [d, d2] => (match zipAt d d2 with
    | some xs => .ok xs h1
    | none => .bad)
  | _ => .bad
end
section
variable {PL : List D → OH → Prop}
theorem W_rngN (a : SA) (e : Env') (h : OH) : (sRngN a e h).W PL = (a e h).W fun ds h1 => match ds with
  | [.int i, .int j, .int k] => if rngOk i && (rngOk j && decide (k = -1)) then PL (rngS i (-1) (i - j).toNat) h1 else False
  | _ => False := by
  unfold sRngN; rw [W_bind]; congr; funext ds h1
  split
  · split <;> rfl
  · rfl
@[simp] theorem W_rngN3 (f g k : SE) (e : Env') (h : OH) : (sRngN (sCons f (sCons g (sCons k sNil))) e h).W PL = (f e h).W fun a h1 => (g e h1).W fun b h2 => (k e h2).W fun c h3 => isI a fun i => isI b fun j => isI c fun l => if rngOk i && (rngOk j && decide (l = -1)) then PL (rngS i (-1) (i - j).toNat) h3 else False := by
  rw [W_rngN]; simp only [W_sCons, W_sNil]
  congr; funext a h1; congr; funext b h2; congr; funext c h3
  cases a <;> cases b <;> cases c <;> rfl
@[simp] theorem W_enum (f : SE) (e : Env') (h : OH) : (sEnum (sCons f sNil) e h).W PL = (f e h).W fun d h1 => lkS (frzAt d) fun xs => PL (enumD xs) h1 := by
  unfold sEnum; rw [W_bind]; simp only [W_sCons, W_sNil]; congr; funext d h1
  cases frzAt d <;> rfl
@[simp] theorem W_zip (f g : SE) (e : Env') (h : OH) : (sZip (sCons f (sCons g sNil)) e h).W PL = (f e h).W fun d h1 => (g e h1).W fun d2 h2 => lkS (zipAt d d2) fun xs => PL xs h2 := by
  unfold sZip; rw [W_bind]; simp only [W_sCons, W_sNil]; congr; funext d h1; congr; funext d2 h2
  cases zipAt d d2 <;> rfl
@[simp] theorem frz_lst (xs : List D) : frzAt (.lst xs) = some xs := rfl
@[simp] theorem frz_scr (xs : List D) : frzAt (.scr xs) = some xs := rfl
@[simp] theorem zipAt_ll (xs ys : List D) : zipAt (.lst xs) (.lst ys) = some (zipD xs ys) := rfl
@[simp] theorem zipAt_tt (xs ys : List D) : zipAt (.tup xs) (.tup ys) = some (zipD xs ys) := rfl
end
/-! ### while -/
def fuel : Nat := 1000000
def sWhile (c : ST) (b : SS) : SS := fun e h => whileF c b fuel e h
section
variable {X : Cx} {W : WX}
theorem ds_whileA {c : Expr} {body : List Stmt} {fc : ST} {fb : SS} {pos : Pos} (hp : PassesOwn (model X.prog X.w) X.A X.env X.xe) (hc : DT X W c fc) (hb : DSs X W body fb) : DS X W (.While c body [] pos) (sWhile fc fb) := ds_while hp (fun _ _ => fuel) hc hb
end
section
variable {N C B : Env' → OH → Prop} {R : D → OH → Prop}
theorem W_whileF {c : ST} {b : SS} {I : Env' → OH → Prop} (μ : Env' → OH → Nat) (st : ∀ e h, I e h → (c e h).W fun t h1 => if t then (b e h1).W (fun e2 h2 => I e2 h2 ∧ μ e2 h2 < μ e h) (fun e2 h2 => I e2 h2 ∧ μ e2 h2 < μ e h) N R else N e h1) :
    ∀ (n : Nat) (e : Env') (h : OH), I e h → μ e h < n → (whileF c b n e h).W N C B R
  | 0, _, _, _, hf => absurd hf (Nat.not_lt_zero _)
  | n + 1, e, h, i0, hf => by
    have w := st e h i0
    have rest := fun e2 h2 (z : I e2 h2 ∧ μ e2 h2 < μ e h) => W_whileF μ st n e2 h2 z.1 (by have := z.2; omega)
    obtain ⟨t, h1, q, w⟩ := w.out
    unfold whileF
    rw [q]
    simp only [Res.toS_ok]
    cases t with
    | false => exact w
    | true =>
      rw [if_pos rfl] at w
      rw [if_pos rfl]
      cases q2 : b e h1 with
      | nx e2 h2 => rw [q2] at w; exact rest e2 h2 w
      | ct e2 h2 => rw [q2] at w; exact rest e2 h2 w
      | bk e2 h2 => rw [q2] at w; exact w
      | rt d h2 => rw [q2] at w; exact w
      | exc _ _ _ _ => rw [q2] at w; exact w.elim
      | bad => rw [q2] at w; exact w.elim
theorem W_while {c : ST} {b : SS} {I : Env' → OH → Prop} (μ : Env' → OH → Nat) {e : Env'} {h : OH} (h0 : I e h) (hf : μ e h < 1000000) (st : ∀ e h, I e h → (c e h).W fun t h1 => if t then (b e h1).W (fun e2 h2 => I e2 h2 ∧ μ e2 h2 < μ e h) (fun e2 h2 => I e2 h2 ∧ μ e2 h2 < μ e h) N R else N e h1) : (sWhile c b e h).W N C B R :=
  W_whileF μ st fuel e h h0 hf
end
end HR
set_option Elab.async false
set_option linter.all false
set_option maxRecDepth 100000
set_option maxHeartbeats 2000000
/-! repr; a law's end where the def is called with no guards -/
namespace HR
open PySem L2 RZ PySem.Spec PyProof.Rows
section
variable {X : Cx} {W : WX}
def isRf : D → Bool
  | .lst _ | .tup _ | .scr _ | .ref _ => true
  | _ => false
theorem isRf_ref {K : PySem.W.Frag} {F : Hp} {m : List Addr} {v : V} {d : D} (r : Den K F m v d) (q : isRf d = true) : ∃ a, v = .ref a := by
  cases r <;> first | exact ⟨_, rfl⟩ | cases q
end
/-! ### the law's end: the caller has no guards -/
/-- the script alone is tracked, and not even that where it is the module's own -/
def scrH (K : PySem.W.Frag) (a : Addr) (o : Obj) (xs : List V) : Hp := fun b => if b = a ∧ K.lookup a = none then some (.frz o (.lst xs)) else none
section
variable {K : PySem.W.Frag} {a b : Addr} {o : Obj} {xs : List V}
theorem scrH_some {u : HO} (e : scrH K a o xs b = some u) : b = a ∧ K.lookup a = none ∧ u = .frz o (.lst xs) := by
  unfold scrH at e
  by_cases c : b = a ∧ K.lookup a = none
  · rw [if_pos c] at e
    exact ⟨c.1, c.2, (Option.some.inj e).symm⟩
  · rw [if_neg c] at e
    cases e
theorem scrH_only : Only (scrH K a o xs) := fun b => by
  cases e : scrH K a o xs b with
  | none => exact .inl rfl
  | some u => obtain ⟨_, _, rfl⟩ := scrH_some e; exact .inr ⟨_, _, rfl⟩
end
section
variable {P : Program} {w : World} {K : PySem.W.Frag} {mg : Str → Option Value} {k : Nat} {f a : Addr} {fd : FuncData} {x : Str} {sp : Sp} {st : Shared} {vs : List Value} {ns : List Int}
theorem end_run (hgd : callerA.guards = some []) (kin : K.In st.heap) (gl : st.heap.Ns mainGlobals mg) (bl : ∃ mb, st.heap.Ns builtinsNs mb ∧ ∀ y : Str, y ≠ "__name__" → mb y = bootBuiltins y) (nl : st.heap.NoLimit) (gn : st.gens = #[])
    (oa : st.heap.get? a = some { cls := .type "list", data := .seq vs.toArray }) (whl : IntsAre vs ns) (len : ns.length ≤ sizeLine) (room : Room k callerA)
    (F : ∀ bs : Heap, K.In bs → bs.Ns mainGlobals mg → FnOkG P w K mg bs CX0 k f fd [x] sp) (bind : ∀ (s : Shared) (u : Value), BindsTo s fd ⟨[u], []⟩ [(x, u)])
    (prom : ∀ H : Hp, Only H → SqL K H a (ns.map V.int) → sp [.ref a] H (fun v _ => v = .bl true) fun _ _ _ => False) :
    codeAny (model P w) callerA (.call (.ref f) ⟨[.ref a], []⟩) (fun r t => r = .ok (.ret (.bool true)) ∧ OldK st.heap t.heap ∧ t.os = st.os ∧ AllBare t.gens) st := by
  have rel := vals_ints whl
  obtain ⟨H, hH⟩ : ∃ H : Hp, H = scrH K a { cls := .type "list", data := .seq vs.toArray } (ns.map V.int) := ⟨_, rfl⟩
  have some_ : ∀ {b : Addr} {u : HO}, H b = some u → b = a ∧ K.lookup a = none ∧ u = .frz { cls := .type "list", data := .seq vs.toArray } (.lst (ns.map V.int)) := fun e => scrH_some (hH ▸ e)
  have only : Only H := hH ▸ scrH_only
  -- what is no list stays in sight, and what the module's frag tells
  have sight : ∀ {b : Addr} {u : Obj}, st.heap.get? b = some u → (b = a → K.lookup a ≠ none) → (hidT st.heap H).get? b = some u := fun {b u} e n => hidT_get e (by
    cases q : H b with
    | none => rfl
    | some z => obtain ⟨z1, z2, _⟩ := some_ q; exact absurd z2 (n z1))
  have dicts : ∀ {b : Addr} {m : Str → Option Value}, st.heap.Ns b m → (hidT st.heap H).Ns b m := fun {b m} ⟨u, es, ep, e, d, rest⟩ => ⟨u, es, ep, sight e (fun z => by
    subst z
    rw [oa] at e
    cases e
    exact nomatch (show Data.seq vs.toArray _ = Data.dict es ep from d)), d, rest⟩
  have kin' : K.In (hidT st.heap H) := fun b u e => sight (kin b u e) (fun z => by subst z; rw [e]; exact fun q => nomatch q)
  have seq : SqL K H a (ns.map V.int) := by
    cases q : K.lookup a with
    | some u =>
      have e := kin a u q
      rw [oa] at e
      cases e
      exact .inr ⟨_, vs.toArray, _, q, rfl, rfl, rfl, by rw [List.size_toArray, whl.length]; exact len, by simpa using rel⟩
    | none => exact .inl (.inr ⟨{ cls := .type "list", data := .seq vs.toArray }, by rw [hH]; exact if_pos ⟨rfl, q⟩⟩)
  have hok : HOk P w H st.heap := fun b u e => by
    obtain ⟨rfl, _, rfl⟩ := some_ e
    exact ⟨oa, by rw [List.length_map]; exact len, vs, _, rel, oa⟩
  have env : Env0 P w K mg (hidT st.heap H) callerA [] st H :=
    ⟨rfl, ⟨kin', dicts gl, bl.imp fun mb q => ⟨dicts q.1, q.2⟩, nl.imp fun mc q => ⟨dicts q.1, q.2⟩⟩, fun b u e => of_hidT e, Nat.le_of_eq (hidT_size _ _), trivial, fun b m => absurd (show b ∈ ([] : List Addr) from m) (by simp), hok, .of_eq gn⟩
  refine codeAny_mono ((F _ kin' (dicts gl)).run callerA [] st H ⟨[.ref a], []⟩ [.ref a] [.ref a] _ _ room hgd env (bind st (.ref a)) (.cons rfl .nil) (prom H only seq)) fun r t q => ?_
  match r, q with
  | .ok (.ret u), q =>
    obtain ⟨v, H2, os, bare, un, hok2, rv, (rfl : v = V.bl true)⟩ := q
    obtain rfl : u = Value.bool true := rv
    refine ⟨rfl, OldK.of_keep (fun b u e => ?_), os, bare⟩
    have none_ : ¬ b ∈ ([] : List Addr) := by simp
    cases q : H b with
    | none => exact un.keep b u e q none_ none_
    | some z =>
      obtain ⟨rfl, _, rfl⟩ := some_ q
      have two := (hok2 _ _ (un.frzs _ _ _ q)).1
      have one := (hok _ _ q).1
      rw [e] at one
      cases one
      exact two
end
theorem walk_ofG {l : PySem.W.OpenLaw} {n k : Nat} {q : Program} {loose : List Str} {XP : (Str → Option Value) → Heap → Prop} {YP : World → Heap → Prop} {d : DefRec} {CX : CXT} {x : Str} (mst : l.most = some n) (mle : n ≤ sizeLine) (dfl : d.params.defaults = []) (room : Room k callerA)
    (F : ∀ (w : World) (mg : Str → Option Value) (f : Addr) (h : Heap), YP w h → h.Ns mainGlobals mg → mg d.name = some (.ref f) → ∃ (K : PySem.W.Frag) (fd : FuncData) (sp : Sp), K.In h ∧ (∀ (s : Shared) (u : Value), BindsTo s fd ⟨[u], []⟩ [(x, u)]) ∧ (∀ (H : Hp) (a : Addr) (ns : List Int), ns.length ≤ n → Only H → SqL K H a (ns.map V.int) → sp [.ref a] H (fun v _ => v = .bl true) fun _ _ _ => False) ∧ ∀ bs : Heap, K.In bs → bs.Ns mainGlobals mg → FnOkG l.prog w K mg bs CX0 k f fd [x] sp)
    (_ : ∀ (H : Hp) (s : Shared) (e : Value) (s' : Shared), CX0 [] H s (fun _ _ _ => False) e s' → False) : PySem.W.WalkO q loose XP YP l.row.toRowW d [] (fun f vs => PySem.call f vs) := by
  refine Att.attach_call mst dfl fun w s0 st mg mb f o pm cd doc a vs ns G Y ho hd hcd name obj whl len gn => ?_
  obtain ⟨K, fd, sp, kin, bind, prom, fok⟩ := F w mg f _ Y G.T.g name
  exact end_run rfl kin G.T.g ⟨mb, G.T.b, G.T.builtins⟩ G.T.nolimit gn obj whl (Nat.le_trans len mle) room fok bind fun H oH sH => prom H a ns len oH sH
end HR
set_option Elab.async false
set_option linter.all false
set_option maxRecDepth 20000
set_option maxHeartbeats 1000000
/-! recursion: no call at all -/
set_option Elab.async false
set_option linter.all false
set_option maxRecDepth 20000
set_option maxHeartbeats 1000000
/-! lending: own lists are read as frozen trees for a call that changes nothing -/
namespace HR
open PySem L2 RZ
mutual
def snapG (get : Nat → Option (List D)) : D → Option D
  | .non => some .non
  | .bl b => some (.bl b)
  | .int i => some (.int i)
  | .str x => some (.str x)
  | .lst xs => (snapGL get xs).map .lst
  | .scr xs => (snapGL get xs).map .scr
  | .tup xs => (snapGL get xs).map .tup
  | .ref i => (get i).map .lst
  | .dct _ => none
  | .obj _ _ => none
  | .exc _ => none
  | .excf _ _ _ => none
def snapGL (get : Nat → Option (List D)) : List D → Option (List D)
  | [] => some []
  | x :: xs => match snapG get x, snapGL get xs with
    | some d, some ds => some (d :: ds)
    | _, _ => none
end
def snapGet (h : OH) : Nat → Nat → Option (List D)
  | 0, _ => none
  | n + 1, i => match h[i]? with
    | some (.lst xs) => snapGL (snapGet h n) xs
    | _ => none
def deadL : OO → OO
  | .lst _ => .dead
  | o => o
section
variable {K : PySem.W.Frag} {P : Pins} {F : Hp} {m : List Addr} {h : OH} {H : Hp}
def Lent (F : Hp) (m : List Addr) (h : OH) (b : Addr) : Prop := F b = none ∧ ∃ (i : Nat) (xs : List D), m[i]? = some b ∧ h[i]? = some (OO.lst xs)
open Classical in
noncomputable def lentF (F : Hp) (m : List Addr) (h : OH) (H : Hp) : Hp := fun b => if Lent F m h b then H b else F b
theorem lentF_same : Same F (lentF F m h H) := fun b u e => by
  unfold lentF
  rw [if_neg fun z => by have := z.1; rw [this] at e; cases e]
  exact e
theorem lentF_sub (S : Sim K P F m h H) : Same (lentF F m h H) H := fun b u e => by
  unfold lentF at e
  split at e
  · exact e
  · exact S.sub b u e
theorem lent_uniq (S : Sim K P F m h H) {i j : Nat} {a : Addr} (e1 : m[i]? = some a) (e2 : m[j]? = some a) : i = j := by
  obtain ⟨h1, q1⟩ := List.getElem?_eq_some_iff.mp e1
  obtain ⟨h2, q2⟩ := List.getElem?_eq_some_iff.mp e2
  exact (List.getElem_inj S.nd).mp (q1.trans q2.symm)
theorem lentF_lst (S : Sim K P F m h H) {i : Nat} {a : Addr} {xs : List D} (e1 : m[i]? = some a) (e2 : h[i]? = some (.lst xs)) : ∃ vs, lentF F m h H a = some (.lst vs) ∧ H a = some (.lst vs) ∧ DenL K F m vs xs := by
  obtain ⟨vs, h1, h2, h3⟩ := S.at_ i a _ e1 e2
  refine ⟨vs, ?_, h1, h2⟩
  unfold lentF
  rw [if_pos ⟨h3, i, xs, e1, e2⟩]
  exact h1
theorem lentF_none {a : Addr} (e : F a = none) (n : ¬ Lent F m h a) : lentF F m h H a = none := by
  unfold lentF
  rw [if_neg n]
  exact e
/-- the own lists lent -/
theorem Sim.lend (S : Sim K P F m h H) : Sim K P (lentF F m h H) m (h.map deadL) H where
  sub := lentF_sub S
  len := by rw [List.length_map]; exact S.len
  nd := S.nd
  live := S.live
  at_ := fun i a o e1 e2 => by
    rw [List.getElem?_map, Option.map_eq_some_iff] at e2
    obtain ⟨u, q1, rfl⟩ := e2
    have x : Ext F m (lentF F m h H) m := ⟨lentF_same, List.prefix_rfl⟩
    have nl : (∀ xs, u ≠ .lst xs) → ¬ Lent F m h a := fun n z => by
      obtain ⟨_, j, xs, z1, z2⟩ := z
      have := lent_uniq S e1 z1
      subst this
      rw [q1] at z2
      exact n xs (Option.some.inj z2)
    have old := S.at_ i a u e1 q1
    cases u with
    | lst xs => trivial
    | ins C fs =>
      obtain ⟨dx, fv, h1, h2, h3, h4⟩ := old
      exact ⟨dx, fv, h1, h2, h3.mono x, lentF_none h4 (nl fun _ => nofun)⟩
    | dct kvs =>
      obtain ⟨ks, h1, h2, h3⟩ := old
      exact ⟨ks, h1, h2.mono x, lentF_none h3 (nl fun _ => nofun)⟩
    | dead => trivial
  pin := fun p hp => by
    obtain ⟨h1, h2, h3⟩ := S.pin p hp
    exact ⟨h1, lentF_none h2 (fun z => by
      obtain ⟨_, j, xs, z1, _⟩ := z
      exact h3 (List.mem_of_getElem? z1)), h3⟩
  pnd := S.pnd
open Classical in
/-- .. and given back -/
noncomputable def backF (F F1 : Hp) (m : List Addr) : Hp := fun b => if b ∈ m ∧ F b = none then none else F1 b
theorem backF_same (s : Same F F1) : Same F (backF F F1 m) := fun b u e => by
  unfold backF
  rw [if_neg fun z => by rw [z.2] at e; cases e]
  exact s b u e
theorem Sim.giveBack {F1 : Hp} {m1 : List Addr} {h1 : OH} {H1 : Hp} (S : Sim K P F m h H) (x : Same (lentF F m h H) F1) (S1 : Sim K (hidP (lentF F m h H) m H ++ P) F1 m1 h1 H1) : Sim K P (backF F F1 m) m h H1 := by
  have none_ : ∀ {a : Addr}, a ∈ m → F a = none → backF F F1 m a = none := fun ha z => if_pos ⟨ha, z⟩
  have stay : ∀ {a : Addr}, a ∈ m → ∀ o, H a = some o → H1 a = some o := fun {a} ha o e => by
    cases q : lentF F m h H a with
    | some u =>
      have := lentF_sub S a u q
      rw [e] at this
      cases this
      exact S1.sub _ _ (x _ _ q)
    | none => exact (S1.pin (a, o) (List.mem_append_left _ (mem_hidP.mpr ⟨ha, q, e⟩))).1
  have xs : Ext F m (backF F F1 m) m := ⟨backF_same (lentF_same.trans x), List.prefix_rfl⟩
  refine ⟨fun b u e => ?_, S.len, S.nd, fun a ha => ?_, fun i a o e1 e2 => ?_, fun p hp => ?_, S.pnd⟩
  · unfold backF at e
    split at e
    · cases e
    · exact S1.sub b u e
  · obtain ⟨o, e⟩ := S.live a ha
    exact ⟨o, stay ha o e⟩
  · have ha := List.mem_of_getElem? e1
    have old := S.at_ i a o e1 e2
    cases o with
    | lst ys =>
      obtain ⟨vs, h1, h2, h3⟩ := old
      exact ⟨vs, stay ha _ h1, h2.mono xs, none_ ha h3⟩
    | ins C fs =>
      obtain ⟨dx, fv, h1, h2, h3, h4⟩ := old
      exact ⟨dx, fv, stay ha _ h1, h2, h3.mono xs, none_ ha h4⟩
    | dct kvs =>
      obtain ⟨ks, h1, h2, h3⟩ := old
      exact ⟨ks, stay ha _ h1, h2.mono xs, none_ ha h3⟩
    | dead => trivial
  · obtain ⟨h1, h2, _⟩ := S1.pin p (List.mem_append_right _ hp)
    refine ⟨h1, ?_, (S.pin p hp).2.2⟩
    unfold backF
    split
    · rfl
    · exact h2
theorem snap_den {m1 : List Addr} {F1 : Hp} (x : Same F F1) {get : Nat → Option (List D)} (hg : ∀ i a ds, m[i]? = some a → get i = some ds → ∃ vs, F1 a = some (.lst vs) ∧ DenL K F1 m1 vs ds) {v : V} {d : D} (r : Den K F m v d) : ∀ d', snapG get d = some d' → Den K F1 m1 v d' :=
  Den.rec (motive_1 := fun v d _ => ∀ d', snapG get d = some d' → Den K F1 m1 v d') (motive_2 := fun vs ds _ => ∀ ds', snapGL get ds = some ds' → DenL K F1 m1 vs ds') (motive_3 := fun _ _ _ => True) (motive_4 := fun _ _ _ => True)
    (fun d' e => by simp only [snapG, Option.some.injEq] at e; subst e; exact .non) (fun b d' e => by simp only [snapG, Option.some.injEq] at e; subst e; exact .bl b)
    (fun i d' e => by simp only [snapG, Option.some.injEq] at e; subst e; exact .int i) (fun y d' e => by simp only [snapG, Option.some.injEq] at e; subst e; exact .str y)
    (fun q _ ih d' e => by
      simp only [snapG, Option.map_eq_some_iff] at e
      obtain ⟨ps, e1, rfl⟩ := e
      exact .lst (x _ _ q) (ih ps e1))
    (fun q _ ih d' e => by
      simp only [snapG, Option.map_eq_some_iff] at e
      obtain ⟨ps, e1, rfl⟩ := e
      exact .scr (x.seq q) (ih ps e1))
    (fun q _ ih d' e => by
      simp only [snapG, Option.map_eq_some_iff] at e
      obtain ⟨ps, e1, rfl⟩ := e
      exact .tup (x _ _ q) (ih ps e1))
    (fun _ _ _ d' e => by simp only [snapG] at e; cases e) (fun _ _ _ _ d' e => by simp only [snapG] at e; cases e)
    (fun {a i} q d' e => by
      simp only [snapG, Option.map_eq_some_iff] at e
      obtain ⟨ps, e1, rfl⟩ := e
      obtain ⟨vs, k1, k2⟩ := hg i a ps q e1
      exact .lst k1 k2)
    (fun _ d' e => by simp only [snapG] at e; cases e) (fun _ _ _ _ d' e => by simp only [snapG] at e; cases e)
    (fun ds' e => by simp only [snapGL, Option.some.injEq] at e; subst e; exact .nil)
    (fun {v d vs ds} _ _ ih1 ih2 ds' e => by
      simp only [snapGL] at e
      cases e1 : snapG get d with
      | none => rw [e1] at e; simp at e
      | some p =>
        cases e2 : snapGL get ds with
        | none => rw [e1, e2] at e; simp at e
        | some qs =>
          rw [e1, e2] at e
          simp only [Option.some.injEq] at e
          subst e
          exact .cons (ih1 p e1) (ih2 qs e2))
    trivial (fun _ _ _ _ => trivial) trivial (fun _ _ _ _ => trivial) r
theorem snapL_den {m1 : List Addr} {F1 : Hp} (x : Same F F1) {get : Nat → Option (List D)} (hg : ∀ i a ds, m[i]? = some a → get i = some ds → ∃ vs, F1 a = some (.lst vs) ∧ DenL K F1 m1 vs ds) : ∀ {vs : List V} {ds ds' : List D}, DenL K F m vs ds → snapGL get ds = some ds' → DenL K F1 m1 vs ds'
  | _, _, _, .nil, e => by simp only [snapGL, Option.some.injEq] at e; subst e; exact .nil
  | _, d :: ds, _, .cons a b, e => by
    simp only [snapGL] at e
    cases e1 : snapG get d with
    | none => rw [e1] at e; simp at e
    | some p =>
      cases e2 : snapGL get ds with
      | none => rw [e1, e2] at e; simp at e
      | some qs =>
        rw [e1, e2] at e
        simp only [Option.some.injEq] at e
        subst e
        exact .cons (snap_den x hg a p e1) (snapL_den x hg b e2)
theorem snapGet_ok (S : Sim K P F m h H) : ∀ (n i : Nat) (a : Addr) (ds : List D), m[i]? = some a → snapGet h n i = some ds → ∃ vs, lentF F m h H a = some (.lst vs) ∧ DenL K (lentF F m h H) [] vs ds
  | 0, _, _, _, _, e => by simp [snapGet] at e
  | n + 1, i, a, ds, e1, e => by
    simp only [snapGet] at e
    cases q : h[i]? with
    | none => rw [q] at e; cases e
    | some o =>
      rw [q] at e
      cases o with
      | lst xs =>
        obtain ⟨vs, k1, _, k2⟩ := lentF_lst S e1 q
        exact ⟨vs, k1, snapL_den lentF_same (fun j b es q1 q2 => snapGet_ok S n j b es q1 q2) k2 e⟩
      | _ => cases e
def flatS : D → Bool
  | .non | .bl _ | .int _ | .str _ => true
  | _ => false
/-- no address, or a tuple of such -/
def flatT : D → Bool
  | .non | .bl _ | .int _ | .str _ => true
  | .tup xs => xs.all flatS
  | _ => false
theorem flat1 {F1 F2 : Hp} {m1 m2 : List Addr} {v : V} {d : D} (r : Den K F1 m1 v d) (q : flatS d = true) : Den K F2 m2 v d := by
  cases r <;> first | exact .non | exact .bl _ | exact .int _ | exact .str _ | cases q
theorem flatL {F1 F2 : Hp} {m1 m2 : List Addr} : ∀ {vs : List V} {ds : List D}, DenL K F1 m1 vs ds → ds.all flatS = true → DenL K F2 m2 vs ds
  | _, _, .nil, _ => .nil
  | _, _, .cons a b, e => by
    rw [List.all_cons, Bool.and_eq_true] at e
    exact .cons (flat1 a e.1) (flatL b e.2)
theorem flat_back {F1 : Hp} {m1 : List Addr} (S : Sim K P F m h H) (x : Same (lentF F m h H) F1) (hp : ∀ a o, a ∈ m → lentF F m h H a = none → H a = some o → F1 a = none) {v : V} {d : D} (r : Den K F1 m1 v d) (q : flatT d = true) : Den K (backF F F1 m) m v d := by
  cases r with
  | tup e t =>
    rename_i a vs ds
    refine .tup ?_ (flatL t q)
    unfold backF
    rw [if_neg fun z => ?_]
    · exact e
    · obtain ⟨z1, z2⟩ := z
      cases k : lentF F m h H a with
      | none =>
        obtain ⟨o, ho⟩ := S.live a z1
        have := hp a o z1 k ho
        rw [e] at this
        cases this
      | some u =>
        have k2 := x _ _ k
        rw [e] at k2
        cases k2
        unfold lentF at k
        split at k
        · rename_i ln
          obtain ⟨_, i, xs, q1, q2⟩ := ln
          obtain ⟨vs, w1, _, _⟩ := S.at_ i a _ q1 q2
          rw [k] at w1
          cases w1
        · rw [z2] at k; cases k
  | non => exact .non
  | bl b => exact .bl b
  | int i => exact .int i
  | str y => exact .str y
  | _ => cases q
end
/-- a def that reads own lists as frozen trees, its answer flat -/
def lendF (g : FN) : FN := fun ds h => match snapGL (snapGet h 5) ds with
  | some ds' => (match g ds' [] with
    | .ok d _ => if flatT d then .ok d h else .bad
    | .exc C none _ => .exc C none h
    | _ => .bad)
  | none => .bad
theorem lend_sp {K : PySem.W.Frag} {np : Nat} {g : FN} {vs : List V} {H : Hp} {Q : VK} {E : XK} (q : spN K np (lendF g) vs H Q E) : spN K np g vs H Q E := by
  obtain ⟨hl, P, F, m, ds, h, S, r, fin⟩ := q
  unfold lendF at fin
  cases e1 : snapGL (snapGet h 5) ds with
  | none => rw [e1] at fin; exact fin.elim
  | some ds' =>
    rw [e1] at fin
    dsimp only at fin
    have r' := snapL_den lentF_same (fun j b es q1 q2 => snapGet_ok S 5 j b es q1 q2) r e1
    have S' := S.lend.hide
    refine ⟨hl, _, _, [], ds', [], S', r', ?_⟩
    have pins : ∀ {F1 : Hp} {m1 : List Addr} {h1 : OH} {H1 : Hp}, Sim K (hidP (lentF F m h H) m H ++ P) F1 m1 h1 H1 → ∀ a o, a ∈ m → lentF F m h H a = none → H a = some o → F1 a = none := fun S1 a o ha n e => (S1.pin (a, o) (List.mem_append_left _ (mem_hidP.mpr ⟨ha, n, e⟩))).2.1
    cases e2 : g ds' [] with
    | bad => rw [e2] at fin; exact fin.elim
    | ok d h2 =>
      rw [e2] at fin
      dsimp only at fin
      by_cases hf : flatT d = true
      · rw [if_pos hf] at fin
        intro v F1 m1 H1 x S1 rv
        have S2 := S.giveBack x.s S1
        exact fin v _ m H1 ⟨backF_same (lentF_same.trans x.s), List.prefix_rfl⟩ S2 (flat_back S x.s (pins S1) rv hf)
      · rw [if_neg hf] at fin
        exact fin.elim
    | exc C p h2 =>
      rw [e2] at fin
      cases p with
      | none =>
        dsimp only at fin
        intro od F1 m1 H1 x S1 pd
        have S2 := S.giveBack x.s S1
        exact fin od _ m H1 ⟨backF_same (lentF_same.trans x.s), List.prefix_rfl⟩ S2 pd
      | some q => exact fin.elim
theorem FnOk.lend {P : Program} {w : World} {K : PySem.W.Frag} {mg : Str → Option Value} {base : Heap} {CX : CXT} {k : Nat} {f : Addr} {fd : FuncData} {ps : List Str} {g : FN} (F : FnOk P w K mg base CX k f fd ps (spN K ps.length g)) : FnOk P w K mg base CX k f fd ps (spN K ps.length (lendF g)) := L2.FnOk.imp F fun _ _ _ _ h => lend_sp h
theorem Def.lend {P : Program} {w : World} {K : PySem.W.Frag} {mg : Str → Option Value} {base : Heap} {CX : CXT} {k : Nat} {f : Addr} {ps : List Str} {dvs : List V} {g : FN} (d : Def P w K mg base CX k f ps dvs g) : Def P w K mg base CX k f ps dvs (lendF g) := let ⟨fd, dus, a, b, c⟩ := d.ex; ⟨⟨fd, dus, FnOk.lend a, b, c⟩, d.kp⟩
end HR
set_option Elab.async false
set_option linter.all false
set_option maxRecDepth 100000
set_option maxHeartbeats 2000000
/-! exceptions: raise, a try whose except clause keeps what it caught, isinstance of what was kept -/
namespace HR
open PySem L2 PySem.Spec PyProof.Rows
/-! ### a caught exception becomes an object of ours -/
/-- the same, with or without a dict -/
def HexZ (cls : Value) (d : Option Addr) (a : Addr) : HO := .ext fun hp => ∃ (ob : Obj) (ws : Array Value), hp.get? a = some ob ∧ Zc cls d ob ∧ ob.data = .fields ws
theorem hexZ_ok {P : Program} {w : World} {H : Hp} {hp : Heap} {a : Addr} {cls : Value} {d : Option Addr} {ob : Obj} {ws : Array Value} (e : hp.get? a = some ob) (z : Zc cls d ob) (dt : ob.data = .fields ws) : ObjOk P w H hp a (HexZ cls d a) :=
  ⟨⟨ob, ws, e, z, dt⟩, ⟨ob, e⟩, fun _ _ ⟨ob1, ws1, e1, z1, d1⟩ stay => ⟨ob1, ws1, stay ob1 e1, z1, d1⟩⟩
section
variable {X : Cx} {pn : List (Addr × Obj)} {σ : L2.St} {H : Hp} {s : Shared} {a : Addr}
theorem inv_track {φ : Heap → Prop} (I : Inv X pn σ H s) (na : H a = none) (n0 : X.s_0.heap.get? a = none) (np : ∀ p ∈ X.pn ++ pn, p.1 ≠ a) (nl : a ≠ X.env.locals) (nc : ∀ x c, X.env.cells.lookup x = some c → c ≠ a)
    (new : ObjOk X.prog X.w (upd H a (.ext φ)) s.heap a (.ext φ)) : Inv X pn σ (upd H a (.ext φ)) s := by
  have other : ∀ {b : Addr} {o : HO}, H b = some o → upd H a (.ext φ) b = some o := fun {b o} q => (upd_ne (ne_of_none q na)).trans q
  have old : ∀ {b : Addr} {o : Obj}, X.s_0.heap.get? b = some o → b ≠ a := fun {b o} q z => by rw [z, n0] at q; cases q
  refine { ok := I.ok, os := I.os, bare := I.bare, base := ?_, loc := I.loc, cell := I.cell, free := ?_, freeC := ?_, pin := ?_, hok := ?_, len := I.len }
  · exact { keep := I.base.keep, slot := I.base.slot, there := I.base.there,
            free := fun b o q n hx => (upd_ne (old q)).trans (I.base.free b o q n hx)
            tups := fun b xs q => other (I.base.tups b xs q), frzs := fun b o u q => other (I.base.frzs b o u q)
            tbls := fun b ps q => (I.base.tbls b ps q).imp fun _ e => other e }
  · exact (upd_ne (Ne.symm nl)).trans I.free
  · exact fun x c e => (upd_ne (nc x c e)).trans (I.freeC x c e)
  · intro p q
    obtain ⟨e1, e2, e3⟩ := I.pin p q
    exact ⟨e1, (upd_ne (np p q)).trans e2, e3⟩
  · intro b o e
    by_cases hb : b = a
    · cases hb
      rw [upd_same] at e
      cases e
      exact new
    · rw [upd_ne hb] at e
      exact ObjOk.stay (I.hok b o e) (fun _ _ _ q => q) (fun _ q => other q) fun _ _ q => other q
end
/-! ### as plain functions -/
/-- raise C('..') -/
def sRaise (C : String) : SS := fun e h => .exc C none e h
section
variable {X : Cx} {W : WX}
theorem ds_raise {C : String} {m : Str} {k : Nat} {p p2 p3 pos : Pos} (tk : Takes X W) (hcm : X.calm = true) (q : PySem.W.excIn X.K (He.ga X.K (Str.ofString C)) He.veBase "ValueError.__new__" = true) (kC : PySem.W.keepIn X.K (.ref (He.ga X.K (Str.ofString C))) = true)
    (sC : PySem.W.subIn X.K (.ref (He.ga X.K (Str.ofString C))) (.type "BaseException") = some true) (tC : PySem.W.typeIn X.K (.ref (He.ga X.K (Str.ofString C))) = some (.type "type")) (gC : X.mg (Str.ofString C) = some (.ref (He.ga X.K (Str.ofString C)))) (hg : Gl X (Str.ofString C))
    (hdb : (Str.ofString C == ("__debug__" : Str)) = false := by decide) : DS X W (.Raise (some (.Call (.Name (Str.ofString C) p) [.Constant (.str m) k p2] [] p3)) none pos) (sRaise C) :=
  PS.of (ps_raise hcm tk (pmk_own PySem.F.excBase_ValueError q gC kC (raises_own sC tC) hg hdb)) fun Dn σ H => by
    rintro ⟨P, F, m, e, h, S, E, fin⟩
    exact fin none σ F m H .refl S rfl E
end
/-! ### isinstance of a kept exception -/
/-- what the class at D must say -/
def excCB (K : PySem.W.Frag) (D : Addr) : Bool :=
  decide (PySem.W.findIn K (.ref D) "__getattribute__" = some (some (.builtin "BaseException.__getattribute__"))) && (decide (PySem.W.findIn K (.ref D) "__getattr__" = some none) && (decide (PySem.W.subIn K (.ref D) (.type "BaseException") = some true) && (PySem.W.hasDictIn K D &&
  (decide (PySem.W.findIn K (.ref D) "__class__" = some (some (.builtin "object.__class__"))) && (decide (PySem.W.specialIn K (.builtin "object.__class__") "__get__" = some (some (.builtin "getset_descriptor.__get__"))) && (decide (PySem.W.takesIn K (.builtin "object.__class__") = some true) &&
  decide (PySem.W.mroIn K D (.type "object") = some true)))))))
theorem excCB_ok {K : PySem.W.Frag} {D : Addr} (h : excCB K D = true) : ExcC K D := by
  unfold excCB at h
  simp only [Bool.and_eq_true, decide_eq_true_eq] at h
  obtain ⟨h1, h2, h3, h4, h5, h6, h7, h8⟩ := h
  exact ⟨h1, h2, h3, h4, h5, h6, h7, h8⟩
/-- is the class C below the class c, as names -/
def excB (C c : String) : Bool := C == c || (c == "HushError" || c == "ValueError")
/-! ### what is asked of a class with its own __init__ -/
def oexK (K : PySem.W.Frag) (C : Addr) : Bool := match K.lookup C with
  | some ⟨.type "type", _, .cls cd, sl⟩ => (match cd.mro, sl.toList with
    | .ref C2 :: bm, [_, _, _, _, some (.builtin n), _] => decide (C2 = C) && (decide (n = "ValueError.__new__") && (!cd.hasDel && (cd.hasDict && PySem.HandSPX.refsVE bm)))
    | _, _ => false)
  | _ => false
theorem oexK_ok {K : PySem.W.Frag} {C : Addr} (h : oexK K C = true) : ∃ nm q N bs bm sn sub ab col dd k0 k1 k2 k3 k5, K.lookup C = some (excClassObj nm q C N bs bm true sn sub ab col dd k0 k1 k2 k3 k5 "ValueError.__new__") ∧ PySem.HandSPX.refsVE bm = true := by
  unfold oexK at h
  split at h
  · rename_i dd cd sl e
    split at h
    · rename_i C2 bm k0 k1 k2 k3 n k5 e1 e2
      simp only [Bool.and_eq_true, decide_eq_true_eq, Bool.not_eq_true'] at h
      obtain ⟨rfl, rfl, h3, h4, h5⟩ := h
      obtain ⟨nm, bs, mro, ns, qn, hd, sn, sub, ab, col, del⟩ := cd
      dsimp only at e1 h3 h4
      subst e1 h3 h4
      obtain ⟨l⟩ := sl
      dsimp only at e2
      subst e2
      exact ⟨nm, qn, ns, bs, bm, sn, sub, ab, col, dd, k0, k1, k2, k3, k5, e, h5⟩
    · cases h
  · cases h
/-- the facts of one class C with the field f -/
def oexF (K : PySem.W.Frag) (C f : String) : Bool :=
  oexK K (He.ga K (Str.ofString C)) && (decide (PySem.W.findIn K (.ref (He.ga K (Str.ofString C))) "__setattr__" = some (some (.builtin "object.__setattr__"))) && (decide (PySem.W.subIn K (.ref (He.ga K (Str.ofString C))) (.type "BaseException") = some true) &&
  (decide (PySem.W.typeIn K (.ref (He.ga K (Str.ofString C))) = some (.type "type")) && (PySem.W.keepIn K (.ref (He.ga K (Str.ofString C))) && (decide (PySem.W.findIn K (.ref (He.ga K (Str.ofString C))) "__init__" = some (some (.ref (He.ma K (He.ga K (Str.ofString C)) "__init__")))) &&
  (decide (PySem.W.typeIn K (.ref (He.ma K (He.ga K (Str.ofString C)) "__init__")) = some (.type "function")) && (decide (PySem.W.findIn K (.ref (He.ga K (Str.ofString C))) (Str.ofString f) = some none) &&
  (PySem.W.readsIn K (He.ga K (Str.ofString "HushError")) (.type "type") && (decide (PySem.W.specialIn K (.ref (He.ga K (Str.ofString "HushError"))) "__getattribute__" = some (some (.builtin "type.__getattribute__"))) &&
  (match PySem.W.findCls K (.ref (He.ga K (Str.ofString "HushError"))) (.type "type") "__init__" with
    | some (.val v) => decide (v = .builtin "ValueError.__init__")
    | _ => false))))))))))
structure OexF (K : PySem.W.Frag) (C f : String) : Prop where
  oc : OexC K (He.ga K (Str.ofString C))
  iC : PySem.W.findIn K (.ref (He.ga K (Str.ofString C))) "__init__" = some (some (.ref (He.ma K (He.ga K (Str.ofString C)) "__init__")))
  tI : PySem.W.typeIn K (.ref (He.ma K (He.ga K (Str.ofString C)) "__init__")) = some (.type "function")
  no : PySem.W.findIn K (.ref (He.ga K (Str.ofString C))) (Str.ofString f) = some none
  rB : PySem.W.readsIn K (He.ga K (Str.ofString "HushError")) (.type "type") = true
  sB : PySem.W.specialIn K (.ref (He.ga K (Str.ofString "HushError"))) "__getattribute__" = some (some (.builtin "type.__getattribute__"))
  vB : PySem.W.findCls K (.ref (He.ga K (Str.ofString "HushError"))) (.type "type") "__init__" = some (.val (.builtin "ValueError.__init__"))
theorem oexF_ok {K : PySem.W.Frag} {C f : String} (h : oexF K C f = true) : OexF K C f := by
  unfold oexF at h
  simp only [Bool.and_eq_true, decide_eq_true_eq] at h
  obtain ⟨h1, h2, h3, h4, h5, h6, h7, h8, h9, h10, h11⟩ := h
  refine ⟨⟨oexK_ok h1, h2, h3, h4, h5⟩, h6, h7, h8, h9, h10, ?_⟩
  split at h11
  · rename_i v e
    cases of_decide_eq_true h11
    exact e
  · cases h11
/-- the field of a class with its own __init__ -/
def fieldOf (C : String) : Option String := if C = "TooMany" then some "count" else if C = "Inconsistent" then some "tick" else if C = "InvalidText" then some "line" else none
/-- facts of the classes xs (caught) and ys (asked for) -/
def excFacts (K : PySem.W.Frag) (xs ys : List String) : Bool :=
  xs.all fun C => excCB K (He.ga K (Str.ofString C)) && (decide (PySem.W.exmOne K (.ref (He.ga K (Str.ofString C))) (.ref (He.ga K (Str.ofString "HushError"))) = some true) &&
    (decide (PySem.W.kitOne K (.ref (He.ga K (Str.ofString C))) (.type "ValueError") = some true) && ((ys.all fun c => decide (PySem.W.kitOne K (.ref (He.ga K (Str.ofString C))) (.ref (He.ga K (Str.ofString c))) = some (excB C c))) && (match fieldOf C with
    | some f => oexF K C f
    | none => true))))
structure XF (K : PySem.W.Frag) (xs ys : List String) : Prop where
  cls : ∀ C ∈ xs, ExcC K (He.ga K (Str.ofString C))
  exm : ∀ C ∈ xs, PySem.W.exmOne K (.ref (He.ga K (Str.ofString C))) (.ref (He.ga K (Str.ofString "HushError"))) = some true
  kitV : ∀ C ∈ xs, PySem.W.kitOne K (.ref (He.ga K (Str.ofString C))) (.type "ValueError") = some true
  kit : ∀ C ∈ xs, ∀ c ∈ ys, PySem.W.kitOne K (.ref (He.ga K (Str.ofString C))) (.ref (He.ga K (Str.ofString c))) = some (excB C c)
  oex : ∀ C ∈ xs, ∀ f, fieldOf C = some f → OexF K C f
theorem excFacts_ok {K : PySem.W.Frag} {xs ys : List String} (h : excFacts K xs ys = true) : XF K xs ys := by
  unfold excFacts at h
  rw [List.all_eq_true] at h
  have g : ∀ C ∈ xs, _ := fun C hC => h C hC
  simp only [Bool.and_eq_true, decide_eq_true_eq, List.all_eq_true] at g
  exact ⟨fun C hC => excCB_ok (g C hC).1, fun C hC => (g C hC).2.1, fun C hC => (g C hC).2.2.1, fun C hC => (g C hC).2.2.2.1, fun C hC f e => oexF_ok (by have z := (g C hC).2.2.2.2; rw [e] at z; exact z)⟩
/-! ### a def that lets nothing out -/
def noXF (g : FN) : FN := fun ds h => (g ds h).noX
@[simp] theorem noX_ok {α : Type} (a : α) (h : OH) : (Res.ok a h).noX = .ok a h := rfl
@[simp] theorem noXF_at (g : FN) (ds : List D) (h : OH) : noXF g ds h = (g ds h).noX := rfl
theorem noX_sp {K : PySem.W.Frag} {np : Nat} {g : FN} {vs : List V} {H : Hp} {Q : VK} {E : XK} (q : spN K np (noXF g) vs H Q E) : spN K np g vs H Q E0 := by
  obtain ⟨hl, P, F, m, ds, h, S, r, fin⟩ := q
  refine ⟨hl, P, F, m, ds, h, S, r, ?_⟩
  unfold noXF at fin
  cases e : g ds h with
  | ok d h1 => rw [e] at fin; exact fin
  | exc C p h1 => rw [e] at fin; exact fin.elim
  | bad => rw [e] at fin; exact fin.elim
section
variable {P : Program} {w : World} {K : PySem.W.Frag} {mg : Str → Option Value} {base : Heap} {k : Nat} {f : Addr} {fd : FuncData} {ps : List Str} {g : FN} {dvs : List V}
theorem FnOk.shut (Fk : FnOk P w K mg base (L2.CX P w) k f fd ps (spN K ps.length g)) : FnOk P w K mg base CX0 k f fd ps (spN K ps.length (noXF g)) where
  len := fun vs H Q E q => q.1
  run := fun A out s H args us vs Q E hr e0 hb r q => codeAny_mono (Fk.run A out s H args us vs Q E0 hr e0 hb r (noX_sp q)) fun res s1 hq => by
    cases res with
    | error e =>
      obtain ⟨_, _, _, _, _, _, _, _, _, _, _, _, z⟩ := hq
      exact z.elim
    | ok fl => cases fl <;> exact hq
theorem Def.shut (d : Def P w K mg base (L2.CX P w) k f ps dvs g) : Def P w K mg base CX0 k f ps dvs (noXF g) := let ⟨fd, dus, a, b, c⟩ := d.ex; ⟨⟨fd, dus, FnOk.shut a, b, c⟩, d.kp⟩
end
/-! ### {} -/
def sDct0 : SE := fun _ h => .ok (.dct []) h
/-! ### a + b, to be an own list -/
def opAddO : D → D → OH → Res D := fun a b h => match lstAt h a, lstAt h b with
  | some xs, some ys => if xs.length + ys.length ≤ big then .ok (.ref h.length) (h ++ [.lst (xs ++ ys)]) else .bad
  | _, _ => .bad
theorem opAddO_h {X : Cx} {W : WX} : OpH X.K W opAddO rCat := by
  intro P F m h H σ Q x y dx dy S r1 r2 fin
  unfold opAddO at fin
  cases e1 : lstAt h dx with
  | none => rw [e1] at fin; exact fin.bad_elim
  | some xs =>
    cases e2 : lstAt h dy with
    | none => rw [e1, e2] at fin; exact fin.bad_elim
    | some ys =>
      rw [e1, e2] at fin
      dsimp only at fin
      obtain ⟨l, vs, rfl, hl, rl⟩ := lstAt_ok S r1 e1
      obtain ⟨l2, ws, rfl, hl2, rl2⟩ := lstAt_ok S r2 e2
      by_cases hz : xs.length + ys.length ≤ big
      · rw [if_pos hz] at fin
        exact ⟨l, l2, vs, ws, rfl, rfl, hl, hl2, by rw [rl.length, rl2.length]; exact big_line hz, fun p hp => fin.ownL S (rl.append rl2) hp⟩
      · rw [if_neg hz] at fin
        exact fin.bad_elim
theorem de_addO {X : Cx} {W : WX} {a b : Expr} {pos : Pos} {fa fb : SE} (ha : DE X W a fa) (hb : DE X W b fb) : DE X W (.BinOp a .Add b pos) (sBin opAddO fa fb) := de_op op_cat opAddO_h ha hb
end HR
set_option Elab.async false
set_option linter.all false
set_option maxRecDepth 100000
set_option maxHeartbeats 2000000
/-! repr of values in which an empty dict may stand; the head's facts for laws with exceptions -/
namespace HR
open PySem L2 RZ PySem.Spec PyProof.Rows
/-! ### facts of the head -/
def modOk (K : PySem.W.Frag) : Bool := match K.lookup sysModules with
  | some o => decide (o.cls = .type "dict")
  | none => false
def obsX (fa : List He.Fa) (fn : List He.DefD) (xs ys : List String) (K : PySem.W.Frag) : He.AlD × Bool := (He.obsD fa fn K, excFacts K xs ys && modOk K)
def SaysX (fa : List He.Fa) (fn : List He.DefD) (xs ys : List String) (K : PySem.W.Frag) : Prop := obsX fa fn xs ys K = (He.valD fn, true)
section
variable {fa : List He.Fa} {fn : List He.DefD} {xs ys : List String} {K : PySem.W.Frag}
theorem SaysX.d (c : SaysX fa fn xs ys K) : He.SaysD fa fn K := congrArg (fun z : He.AlD × Bool => z.1) c
theorem SaysX.fact (c : SaysX fa fn xs ys K) (i : Nat) {f : He.Fa} (h : fa[i]? = some f := by rfl) : f.ok K = true := c.d.fact i h
theorem SaysX.def_ (c : SaysX fa fn xs ys K) (i : Nat) {d : He.DefD} (h : fn[i]? = some d := by rfl) : ∃ fd, FunD K d.name d.qual d.params d.body d.scope (d.dvs K) (d.kws K) (He.fAd K d.at_) fd := c.d.def_ i h
theorem SaysX.both (c : SaysX fa fn xs ys K) : (excFacts K xs ys && modOk K) = true := congrArg (fun z : He.AlD × Bool => z.2) c
theorem SaysX.xf (c : SaysX fa fn xs ys K) : XF K xs ys := excFacts_ok (and2 c.both).1
theorem SaysX.sm (c : SaysX fa fn xs ys K) : modOk K = true := (and2 c.both).2
end
/-! ### what is read of a value, as data -/
mutual
inductive Rv (K : PySem.W.Frag) (H : Hp) : V → PyData → Prop
  | non : Rv K H .non .none
  | bl (b : Bool) : Rv K H (.bl b) (.bool b)
  | int (i : Int) : Rv K H (.int i) (.int i)
  | str (x : Str) : Rv K H (.str x) (.str x)
  | lst {a : Addr} {vs : List V} {ps : List PyData} (q : SqL K H a vs) (r : RvL K H vs ps) : Rv K H (.ref a) (.list ps)
  | tup {a : Addr} {vs : List V} {ps : List PyData} (q : SqT K H a vs) (r : RvL K H vs ps) : Rv K H (.ref a) (.tuple ps)
  | dct {a : Addr} (q : H a = some (.dK [])) : Rv K H (.ref a) (.dict [])
inductive RvL (K : PySem.W.Frag) (H : Hp) : List V → List PyData → Prop
  | nil : RvL K H [] []
  | cons {v : V} {p : PyData} {vs : List V} {ps : List PyData} (a : Rv K H v p) (b : RvL K H vs ps) : RvL K H (v :: vs) (p :: ps)
end
section
variable {X : Cx} {pn : List (Addr × Obj)} {σ : L2.St} {H : Hp} {s : Shared}
theorem sm_base (I : Inv X pn σ H s) (hm : modOk X.K = true) : ∃ o, X.K.lookup sysModules = some o ∧ o.cls = .type "dict" ∧ X.base.get? sysModules = some o := by
  unfold modOk at hm
  cases q : X.K.lookup sysModules with
  | none => rw [q] at hm; cases hm
  | some o =>
    rw [q] at hm
    exact ⟨o, rfl, of_decide_eq_true hm, I.ok.mod.kin _ _ q⟩
theorem sm_free (I : Inv X pn σ H s) (hm : modOk X.K = true) : H sysModules = none := by
  obtain ⟨o, _, _, q⟩ := sm_base I hm
  exact (I.bs _ _ q).2
theorem sm_sqL (I : Inv X pn σ H s) (hm : modOk X.K = true) {a : Addr} {vs : List V} (q : SqL X.K H a vs) : sysModules ≠ a := fun z => by
  subst z
  have f := sm_free I hm
  rcases q with (q | ⟨o, q⟩) | ⟨o, its, n, q, c, _⟩
  · rw [f] at q; cases q
  · rw [f] at q; cases q
  · obtain ⟨o2, q2, c2, _⟩ := sm_base I hm
    rw [q] at q2
    cases q2
    rw [c] at c2
    exact absurd c2 (by decide)
mutual
theorem rv_reads (I : Inv X pn σ H s) (hm : modOk X.K = true) : ∀ (p : PyData) (v : V) (u : Value), Rv X.K H v p → RelV v u → ∃ as, Reads s.heap u p as ∧ sysModules ∉ as
  | .none, _, _, .non, r => by cases r; exact ⟨[], .none, List.not_mem_nil⟩
  | .bool b, _, _, .bl _, r => by cases r; exact ⟨[], .bool b, List.not_mem_nil⟩
  | .int i, _, _, .int _, r => by obtain ⟨t, rfl⟩ := r; exact ⟨[], .int i t, List.not_mem_nil⟩
  | .str x, _, _, .str _, r => by obtain ⟨t, rfl⟩ := r; exact ⟨[], .str x t, List.not_mem_nil⟩
  | .list ps, _, _, .lst q rv, r => by
    cases r
    obtain ⟨its, ra, ⟨o, n, e1, e2, _, e3⟩, _⟩ := I.list q
    obtain ⟨as, r1, r2⟩ := rvL_reads I hm ps _ its rv ra
    exact ⟨_, .list e1 e2 e3 r1, fun z => (List.mem_cons.mp z).elim (sm_sqL I hm q) r2⟩
  | .tuple ps, _, _, .tup q rv, r => by
    cases r
    obtain ⟨its, ra, ⟨o, e1, e2, n, e3⟩, _⟩ := I.tuple q
    obtain ⟨as, r1, r2⟩ := rvL_reads I hm ps _ its rv ra
    exact ⟨_, .tuple e1 e2 e3 r1, r2⟩
  | .dict _, _, _, .dct q, r => by
    cases r
    rename_i ad
    obtain ⟨_, ns, vs, kv, o, es, ep, e1, e2, e3, _, e4, _⟩ := (show ObjOk X.prog X.w H s.heap ad (.dK []) from I.hok _ _ q)
    cases kv
    have en : es.toList = [] := by
      generalize es.toList = l at e4
      cases e4
      rfl
    refine ⟨_, .dict (as := []) (bs := []) (kvs := []) e1 e2.1 e3 ?_ ?_, fun z => ?_⟩
    · rw [en]; exact .nil
    · rw [en]; exact .nil
    · simp only [List.append_nil, List.mem_singleton] at z
      subst z
      exact absurd ns (by decide)
theorem rvL_reads (I : Inv X pn σ H s) (hm : modOk X.K = true) : ∀ (ps : List PyData) (vs : List V) (us : List Value), RvL X.K H vs ps → Vals vs us → ∃ as, ReadsAll s.heap us ps as ∧ sysModules ∉ as
  | [], _, _, .nil, r => by cases r; exact ⟨[], .nil, List.not_mem_nil⟩
  | p :: ps, _, _, .cons a b, .cons r1 r2 => by
    obtain ⟨as, q1, q2⟩ := rv_reads I hm p _ _ a r1
    obtain ⟨bs, q3, q4⟩ := rvL_reads I hm ps _ _ b r2
    exact ⟨_, .cons q1 q3, fun z => (List.mem_append.mp z).elim q2 q4⟩
end
end
mutual
def pyR (get : Nat → Option (List PyData)) : D → Option PyData
  | .non => some .none
  | .bl b => some (.bool b)
  | .int i => some (.int i)
  | .str x => some (.str x)
  | .lst xs => (pyRL get xs).map .list
  | .scr xs => (pyRL get xs).map .list
  | .tup xs => (pyRL get xs).map .tuple
  | .ref i => (get i).map .list
  | .dct [] => some (.dict [])
  | .dct (_ :: _) => none
  | .obj _ _ => none
  | .exc _ => none
  | .excf _ _ _ => none
def pyRL (get : Nat → Option (List PyData)) : List D → Option (List PyData)
  | [] => some []
  | x :: xs => match pyR get x, pyRL get xs with
    | some d, some ds => some (d :: ds)
    | _, _ => none
end
def pyRGet (h : OH) : Nat → Nat → Option (List PyData)
  | 0, _ => none
  | n + 1, i => match h[i]? with
    | some (.lst xs) => pyRL (pyRGet h n) xs
    | _ => none
def pyRAt (h : OH) (d : D) : Option PyData := pyR (pyRGet h 5) d
section
variable {K : PySem.W.Frag} {P : Pins} {F : Hp} {m : List Addr} {h : OH} {H : Hp}
theorem rv_of (S : Sim K P F m h H) {get : Nat → Option (List PyData)} (hg : ∀ i a ps, m[i]? = some a → get i = some ps → ∃ vs, H a = some (.lst vs) ∧ RvL K H vs ps) {v : V} {d : D} (r : Den K F m v d) : ∀ p, pyR get d = some p → Rv K H v p :=
  Den.rec (motive_1 := fun v d _ => ∀ p, pyR get d = some p → Rv K H v p) (motive_2 := fun vs ds _ => ∀ ps, pyRL get ds = some ps → RvL K H vs ps) (motive_3 := fun _ _ _ => True) (motive_4 := fun _ _ _ => True)
    (fun p e => by simp only [pyR, Option.some.injEq] at e; subst e; exact .non) (fun b p e => by simp only [pyR, Option.some.injEq] at e; subst e; exact .bl b)
    (fun i p e => by simp only [pyR, Option.some.injEq] at e; subst e; exact .int i) (fun x p e => by simp only [pyR, Option.some.injEq] at e; subst e; exact .str x)
    (fun q _ ih p e => by
      simp only [pyR, Option.map_eq_some_iff] at e
      obtain ⟨ps, e1, rfl⟩ := e
      exact .lst (.inl (.inl (S.sub _ _ q))) (ih ps e1))
    (fun q _ ih p e => by
      simp only [pyR, Option.map_eq_some_iff] at e
      obtain ⟨ps, e1, rfl⟩ := e
      exact .lst (S.sub.seq q) (ih ps e1))
    (fun q _ ih p e => by
      simp only [pyR, Option.map_eq_some_iff] at e
      obtain ⟨ps, e1, rfl⟩ := e
      exact .tup (.inl (.inl (S.sub _ _ q))) (ih ps e1))
    (fun {a kvs ks} q r _ p e => by
      cases ks with
      | nil =>
        simp only [pyR, Option.some.injEq] at e
        subst e
        cases r
        exact .dct (S.sub _ _ q)
      | cons _ _ => simp only [pyR] at e; cases e) (fun _ _ _ _ p e => by simp only [pyR] at e; cases e)
    (fun {a i} q p e => by
      simp only [pyR, Option.map_eq_some_iff] at e
      obtain ⟨ps, e1, rfl⟩ := e
      obtain ⟨vs, k1, k2⟩ := hg i a ps q e1
      exact .lst (.inl (.inl k1)) k2)
    (fun _ p e => by simp only [pyR] at e; cases e) (fun _ _ _ _ p e => by simp only [pyR] at e; cases e)
    (fun ps e => by simp only [pyRL, Option.some.injEq] at e; subst e; exact .nil)
    (fun {v d vs ds} _ _ ih1 ih2 ps e => by
      simp only [pyRL] at e
      cases e1 : pyR get d with
      | none => rw [e1] at e; simp at e
      | some p =>
        cases e2 : pyRL get ds with
        | none => rw [e1, e2] at e; simp at e
        | some qs =>
          rw [e1, e2] at e
          simp only [Option.some.injEq] at e
          subst e
          exact .cons (ih1 p e1) (ih2 qs e2))
    trivial (fun _ _ _ _ => trivial) trivial (fun _ _ _ _ => trivial) r
theorem rvL_of (S : Sim K P F m h H) {get : Nat → Option (List PyData)} (hg : ∀ i a ps, m[i]? = some a → get i = some ps → ∃ vs, H a = some (.lst vs) ∧ RvL K H vs ps) : ∀ {vs : List V} {ds : List D}, DenL K F m vs ds → ∀ ps, pyRL get ds = some ps → RvL K H vs ps
  | _, _, .nil, ps, e => by simp only [pyRL, Option.some.injEq] at e; subst e; exact .nil
  | _, d :: ds, .cons a b, ps, e => by
    simp only [pyRL] at e
    cases e1 : pyR get d with
    | none => rw [e1] at e; simp at e
    | some p =>
      cases e2 : pyRL get ds with
      | none => rw [e1, e2] at e; simp at e
      | some qs =>
        rw [e1, e2] at e
        simp only [Option.some.injEq] at e
        subst e
        exact .cons (rv_of S hg a p e1) (rvL_of S hg b qs e2)
theorem pyRGet_ok (S : Sim K P F m h H) : ∀ (n i : Nat) (a : Addr) (ps : List PyData), m[i]? = some a → pyRGet h n i = some ps → ∃ vs, H a = some (.lst vs) ∧ RvL K H vs ps
  | 0, _, _, _, _, e => by simp [pyRGet] at e
  | n + 1, i, a, ps, e1, e => by
    simp only [pyRGet] at e
    cases q : h[i]? with
    | none => rw [q] at e; cases e
    | some o =>
      rw [q] at e
      cases o with
      | lst xs =>
        obtain ⟨vs, k1, k2, _⟩ := S.at_ i a _ e1 q
        exact ⟨vs, k1, rvL_of S (fun j b es q1 q2 => pyRGet_ok S n j b es q1 q2) k2 _ e⟩
      | _ => cases e
end
/-! ### repr -/
def reprOkX (p : PyData) : Bool := p.showable && (decide (p.depth ≤ 60) && decide (p.shown.length ≤ big))
def opReprX : D → OH → Res D := fun d h => if isRf d then (match pyRAt h d with
  | some p => if reprOkX p then .ok (.str p.shown) h else .bad
  | none => .bad) else .bad
section
variable {X : Cx} {W : WX}
def rReprX (K : PySem.W.Frag) : List V → Hp → VK → Prop := fun vs H Q => ∃ a p, vs = [.ref a] ∧ Rv K H (.ref a) p ∧ reprOkX p = true ∧ Q (.str p.shown) H
theorem call_reprX (hm : modOk X.K = true) (hu : X.A.units + 64 < cLine) (hgd : X.A.guards = some []) : CallR X (.builtin "repr") (rReprX X.K) := by
  intro pn s σ H vs us Q I r h
  obtain ⟨a, p, rfl, rv, ok, q⟩ := h
  obtain ⟨u, rfl, rx⟩ := vals1 r
  cases (show u = Value.ref a from rx)
  obtain ⟨as, rd, ns⟩ := rv_reads I hm p _ _ rv rx
  obtain ⟨o1, o2⟩ := and2 ok
  obtain ⟨o3, o4⟩ := and2 o2
  have o3 := of_decide_eq_true o3
  have o4 := of_decide_eq_true o4
  have hz : sizeLine = 16777216 := sizeLine_eq
  exact repr_of_reads' rd o1 (fun _ => ns) hgd (by omega) (fun _ _ e => e) (fun h' u tk hk => ⟨.str _, H, I.kept (t' := tk) hk, ⟨_, rfl⟩, q⟩) (by simp only [big] at o4; omega)
theorem bReprX_h : ClH X.K W (b1 opReprX) (rReprX X.K) := by
  intro P F m h H σ Q vs ds S r fin
  obtain ⟨v, d, rfl, r1, fin⟩ := b1_inv r fin
  unfold opReprX at fin
  by_cases hr : isRf d = true
  · rw [if_pos hr] at fin
    obtain ⟨a, rfl⟩ := isRf_ref r1 hr
    cases e : pyRAt h d with
    | none => rw [e] at fin; exact fin.bad_elim
    | some p =>
      rw [e] at fin
      dsimp only at fin
      by_cases hk : reprOkX p = true
      · rw [if_pos hk] at fin
        exact ⟨a, p, rfl, rv_of S (fun i b ps q1 q2 => pyRGet_ok S 5 i b ps q1 q2) r1 p e, hk, fin.ok S (.str _)⟩
      · rw [if_neg hk] at fin
        exact fin.bad_elim
  · rw [if_neg hr] at fin
    exact fin.bad_elim
theorem de_reprX {p pos : Pos} {a : Expr} {fa : SE} (hm : modOk X.K = true) (hu : X.A.units + 64 < cLine) (hgd : X.A.guards = some []) (hx : Gl X "repr") (hmg : X.mg "repr" = none) (ha : DE X W a fa) (he : starEach [a] X.env = (false, eval a X.env) :: starEach [] X.env := by rfl) : DE X W (.Call (.Name "repr" p) [a] [] pos) (sCall (b1 opReprX) (sCons fa sNil)) :=
  de_blt (call_reprX hm hu hgd) bReprX_h hx hmg boot_repr (da_cons ha da_nil he) (he := he)
end
/-! ### texts of any signs compared -/
def opEqT (neg : Bool) : D → D → OH → Res D := fun a b h => match a, b with
  | .str x, .str y => .ok (.bl (if neg then !(x == y) else x == y)) h
  | _, _ => opEq neg a b h
section
variable {X : Cx} {W : WX}
abbrev rEqT (K : PySem.W.Frag) (neg : Bool) : R2 := fun x y H Q => (if neg then rNe else rEq) x y H Q ∨ (if neg then rNeD K else rEqD K) x y H Q
theorem opEqT_h (neg : Bool) : OpH X.K W (opEqT neg) (rEqT X.K neg) := by
  intro P F m h H σ Q x y dx dy S r1 r2 fin
  have old := fun fin => opEq_h (X := X) (W := W) neg P F m h H σ Q x y dx dy S r1 r2 fin
  unfold opEqT at fin
  split at fin
  · rename_i a b
    cases den_str r1
    cases den_str r2
    refine .inl ?_
    cases neg with
    | true => exact ⟨rfl, by rw [dec_str]; exact fin _ F m H (Ext.refl ..) S (.bl _)⟩
    | false => exact ⟨rfl, by rw [dec_str]; exact fin _ F m H (Ext.refl ..) S (.bl _)⟩
  · exact .inr (old fin)
theorem op_eqTN (hu : X.A.units + 64 < cLine) : OpR X (compareOp .NotEq) (rEqT X.K true) := op_ne.or (op_neD hu)
theorem dt_neT {a b : Expr} {pos : Pos} {fa fb : SE} (hu : X.A.units + 64 < cLine) (ha : DE X W a fa) (hb : DE X W b fb) : DT X W (.Compare a [.NotEq] [b] pos) (sTest (sBin (opEqT true) fa fb)) := dt_cmp (op_eqTN hu) (opEqT_h true) (nomark _) ha hb
variable {PD : D → OH → Prop}
@[simp] theorem W_eqT (neg : Bool) (x y : Str) (h : OH) : (opEqT neg (.str x) (.str y) h).W PD = PD (.bl (if neg then !(x == y) else x == y)) h := rfl
end
end HR
set_option Elab.async false
set_option linter.all false
set_option maxRecDepth 100000
set_option maxHeartbeats 2000000
/-! texts: join, split -/
namespace HR
open PySem L2
def strsOf : List D → Option (List Str)
  | [] => some []
  | .str x :: r => (strsOf r).map (x :: ·)
  | _ => none
@[simp] theorem strsOf_map : ∀ ys : List Str, strsOf (ys.map D.str) = some ys
  | [] => rfl
  | y :: ys => by simp [strsOf, strsOf_map ys]
/-- o.f(a), o a text -/
def sM1 (g : Str → D → OH → Res D) (o a : SE) : SE := fun e h => (o e h).bind fun x h1 => match x with
  | .str s => (a e h1).bind fun d h2 => g s d h2
  | _ => .bad
end HR
set_option Elab.async false
set_option linter.all false
set_option maxRecDepth 100000
set_option maxHeartbeats 2000000
/-! instances that change: C(..) as an own object, o.f += e -/
namespace HR
open PySem L2
section
variable {X : Cx} {W : WX} {k : Nat} {f : Addr} {fd : FuncData} {ps : List Str} {g : FN}
theorem de_makeO {C : String} {p pos : Pos} {a : Expr} {es : List Expr} {fa : SA} (M : Mk X.K (He.ga X.K (Str.ofString C)) f) (c : Cls X.K (He.ga X.K (Str.ofString C))) (Fk : Def X.prog X.w X.K X.mg X.base CX0 k f ps [] g) (hr : Room (k + 1) X.A) (hm : X.mg (Str.ofString C) = some (.ref (He.ga X.K (Str.ofString C))))
    (ha : DA X W (a :: es) fa) (hl : ∀ e h ds h', fa e h = .ok ds h' → ds.length = (a :: es).length) (hn : (a :: es).length + 1 = ps.length := by rfl) (hg : Gl X (Str.ofString C) := by rfl) (hdb : (Str.ofString C == ("__debug__" : Str)) = false := by decide)
    (he : starEach (a :: es) X.env = (false, eval a X.env) :: starEach es X.env := by rfl) (hpl : (backTo pos (starEach es X.env)).any (·.1) = false := by rfl) : DE X W (.Call (.Name (Str.ofString C) p) (a :: es) [] pos) (sMake C g fa) := by
  obtain ⟨fd, dus, F1, hb, hd⟩ := Fk.ex
  cases hd
  refine PE.of (pe_make M F1 hr hg hm hb .nil (pass0 (X := X)) ha hdb he hpl) fun σ H Q => ?_
  rintro ⟨P, F, m, e, h, S, E, fin⟩
  refine ⟨P, F, m, e, h, S, E, ?_⟩
  unfold sMake at fin
  cases q : fa e h with
  | bad => rw [q] at fin; exact fin.elim
  | exc C p h1 => rw [q] at fin; exact fin
  | ok ys h1 =>
    rw [q] at fin
    simp only [Res.bind_ok] at fin
    intro vs F1 m1 H1 x1 S1 r1 x dx hx hdx ne
    have Sn := ins_new S1 c hx hdx ne
    have x2 : Ext F1 m1 F1 (m1 ++ [x]) := ⟨Same.refl _, List.prefix_append _ _⟩
    refine ⟨by rw [List.append_nil, List.length_cons, r1.length, hl e h ys h1 q]; exact hn, P, F1, m1 ++ [x], .ref h1.length :: ys, h1 ++ [.ins C []], Sn, by rw [List.append_nil]; exact .cons (.ref (by rw [← S1.len]; simp)) (r1.mono x2), ?_⟩
    cases q2 : g (.ref h1.length :: ys) (h1 ++ [.ins C []]) with
    | bad => rw [q2] at fin; exact fin.elim
    | exc C p h2 => rw [q2] at fin; exact fin.elim
    | ok d h2 =>
      rw [q2] at fin
      cases d with
      | non =>
        intro v F2 m2 H2 x3 S2 rv
        cases rv
        exact ⟨rfl, FinG.okX fin ((x1.trans x2).trans x3) S2 (.ref (pre_get x3.p (by rw [← S1.len]; simp)))⟩
      | _ => exact fin.elim
/-- o.f += e, ints -/
def sFldA (C f : String) (o v : SE) : SS := fun e h => (o e h).toS e fun x h1 => match x with
  | .ref n => (match h1[n]? with
    | some (.ins C1 fs) => if C1 = C then (match fs.lookup f with
      | some (.int i) => (v e h1).toS e fun y h2 => (match y, h2[n]? with
        | .int j, some (.ins C2 fs2) => if C2 = C ∧ fs2.length < 900 then .nx e (h2.set n (.ins C (putS f (.int (i + j)) fs2))) else .bad
        | _, _ => .bad)
      | _ => .bad) else .bad
    | _ => .bad)
  | _ => .bad
theorem ds_fldA {o a : Expr} {C f : String} {fo fa : SE} {pos tpos : Pos} (hn : NoAttr X.K (He.ga X.K (Str.ofString C)) (Str.ofString f)) (ho : DE X W o fo) (ha : DE X W a fa) : DS X W (.AugAssign (.Attribute o (Str.ofString f) tpos) .Add a pos) (sFldA C f fo fa) := PS.of (ps_fldaug ho ha in_add) fun Dn σ H => by
  rintro ⟨P, F, m, e, h, S, E, fin⟩
  refine st_seq S E fin fun F1 m1 h1 H1 x dx x1 S1 E1 rx fin1 => ?_
  cases rx with
  | @ref b n e1 =>
    obtain ⟨ob, k1, k2⟩ := S1.own e1
    dsimp only at fin1
    rw [k1] at fin1
    cases ob with
    | ins C1 fs =>
      dsimp only at fin1
      by_cases hC : C1 = C
      · subst hC
        rw [if_pos rfl] at fin1
        cases ql : fs.lookup f with
        | none => rw [ql] at fin1; exact fin1.elim
        | some d0 =>
          rw [ql] at fin1
          cases d0 with
          | int i =>
            dsimp only at fin1
            obtain ⟨dx2, fv, k3, k4, k5, k6⟩ := k2
            obtain ⟨v0, lv, rv⟩ := k5.look ql
            cases den_int rv
            refine ⟨b, _, dx2, fv, _, rfl, k3, k4.1, hn, lv, st_seq S1 E1 fin1 fun F2 m2 h2 H2 y dy x2 S2 E2 ry fin2 => ?_⟩
            cases dy with
            | int j =>
              cases den_int ry
              have e2 : m2[n]? = some b := pre_get x2.p e1
              obtain ⟨ob2, l1, l2⟩ := S2.own e2
              rw [l1] at fin2
              cases ob2 with
              | ins C2 fs2 =>
                dsimp only at fin2
                by_cases hz : C2 = C1 ∧ fs2.length < 900
                · rw [if_pos hz] at fin2
                  obtain ⟨rfl, hl⟩ := hz
                  obtain ⟨dx3, fv2, l3, l4, l5, l6⟩ := l2
                  have rd : DenF X.K F2 m2 (putF (Str.ofString f) (V.int (i + j)) fv2) (putS f (.int (i + j)) fs2) := putF_den (.int _) l5
                  refine ⟨i, j, rfl, rfl, dx3, fv2, l3, by rw [l5.length]; omega, fin2 σ F2 m2 _ .refl (S2.write e2 l1 l6 ⟨dx3, _, upd_same, ⟨l4.1, fun q hq => ?_⟩, rd, l6⟩) E2⟩
                  rcases putS_keys hq with h | ⟨p, hp, e3⟩
                  · rw [h]; exact hn
                  · rw [← e3]; exact l4.2 p hp
                · rw [if_neg hz] at fin2
                  exact fin2.elim
              | _ => exact fin2.elim
            | _ => exact fin2.elim
          | _ => exact fin1.elim
      · rw [if_neg hC] at fin1
        exact fin1.elim
    | _ => exact fin1.elim
  | _ => exact fin1.elim
end
end HR
set_option Elab.async false
set_option linter.all false
set_option maxRecDepth 100000
set_option maxHeartbeats 2000000
/-! exceptions as values: C('..'), C(e) where C keeps e in one field, raise C(e), x.f -/
namespace HR
open PySem L2 PySem.Spec PyProof.Rows
/-! ### the __init__ -/
/-- HushError.__init__(self, '..'); self.f = x -/
def spInit (K : PySem.W.Frag) (C f : String) : Sp := fun vs H Q _ => ∃ (a : Addr) (v : V), vs = [.ref a, v] ∧ H a = some (exo a (He.ga K (Str.ofString C)) none) ∧
  ∀ dx, H dx = none → dx ≠ a → Q .non (upd (upd H dx (exd dx [(Str.ofString f, v)])) a (exo a (He.ga K (Str.ofString C)) (some dx)))
section
variable {X : Cx}
theorem pe_hinit {C f : String} {p1 p2 pos : Pos} {a : Expr} {es : List Expr} {ta : TA} {pl : Sem Bool} (T : OexF X.K C f) (hg : Gl X "HushError") (hm : X.mg "HushError" = some (.ref (He.ga X.K (Str.ofString "HushError")))) (ha : PA X (a :: es) ta)
    (hc : eval (.Call (.Attribute (.Name "HushError" p1) "__init__" p2) (a :: es) [] pos) X.env = (do
      let ov ← eval (.Name "HushError" p1) X.env
      standAt p2.atName
      let (g, first) ← holding [ov] (getMethod ov "__init__" pl)
      callWith pos g first (backTo pos (starEach (a :: es) X.env)) (backToKw pos (keywordEach [] X.env))) := by rfl)
    (he : starEach (a :: es) X.env = (false, eval a X.env) :: starEach es X.env := by rfl) (hpl : (backTo pos (starEach es X.env)).any (·.1) = false := by rfl) :
    PE X (.Call (.Attribute (.Name "HushError" p1) "__init__" p2) (a :: es) [] pos) (tVeI X.K ta) := by
  constructor
  intro pn s σ H Q I h
  refine PySem.W.methodCall_KW (ld_glob I hg hm ?_ (by decide)) hc
  refine PySem.W.method_cls I.kIn T.sB (PySem.W.cls_value I.kIn T.rB T.vB (by decide +kernel) ?_)
  show wpAny _ _ (callWith pos (Value.builtin "ValueError.__init__") [] (backTo pos (starEach (a :: es) X.env)) []) _ _ _
  refine PyProof.Rows.callWith_method1 (thn (ha.run pos pn _ σ H _ (I.tok _) h) ?_) he hpl
  rintro us s1 ⟨vs, H1, J, r, x, D, ws, rfl, hl, TD, ex, q⟩
  cases r with
  | cons r1 r2 =>
    cases (show _ = Value.ref x from r1)
    refine oinit_ok TD J ex ?_ fun s2 J2 => ⟨.non, H1, J2, rfl, q⟩
    rw [sizeLine_eq, ← Paired.length r2]
    exact Nat.le_trans hl (by decide)
end
section
variable {P : Program} {w : World} {K : PySem.W.Frag} {mg : Str → Option Value} {base : Heap} {k : Nat}
/-- the body of such an __init__ -/
def tIni (K : PySem.W.Frag) (f m : Str) : TS := fun Dn σ H => tVeI K (tCons (tVar 0) (tCons (tC (.str m)) tNil)) σ H fun _ H1 => tOst K f (tVar 0) (tVar 1) Dn σ H1
theorem init_ok {x qual : Str} {params : Arguments} {body : List Stmt} {scope : Scope} {dvs : List V} {kws : List (Str × V)} {fI : Addr} {fd : FuncData} {C f : String} {m : Str} {y s0 : Str}
    (Fu : FunD K x qual params body scope dvs kws fI fd) (S : FnScope [s0, y] [s0, y] scope) (T : OexF K C f)
    (hb : ∀ (cdv : Value) (A : Around) (outer : List Env) (s : Shared) (H : Hp) (E : XK), PSs (cxOf CX0 P w K mg base [s0, y] qual scope fI cdv A outer s H E) body (tIni K (Str.ofString f) m)) :
    FnOk P w K mg base CX0 (k + 1) fI fd [s0, y] (spInit K C f) := by
  refine Fu.ok S ?_ ?_
  · rintro vs H Q E ⟨a, v, rfl, _⟩
    rfl
  · rintro cdv A outer s H vs Q E hr ⟨a, v, rfl, e, q⟩
    refine ⟨_, hb cdv A outer s H E, ?_⟩
    refine ⟨.ref a, rfl, a, He.ga K (Str.ofString C), [.str m], rfl, by show 1 ≤ 1000; omega, T.oc, e, ?_⟩
    refine ⟨v, rfl, .ref a, rfl, a, He.ga K (Str.ofString C), rfl, T.oc, T.no, .inl ⟨e, fun dx n ne => ?_⟩⟩
    exact q dx n ne
end
section
variable {X : Cx}
theorem pss_ini {C f : String} {s0 y m : Str} {j : Nat} {p1 p2 p3 p4 p5 p6 p7 p8 p9 p10 : Pos} {pl : Sem Bool} (T : OexF X.K C f) (hN : X.N = [s0, y]) (hv0 : Vis X.env.scope s0) (hv1 : Vis X.env.scope y) (hg : Gl X "HushError") (hm : X.mg "HushError" = some (.ref (He.ga X.K (Str.ofString "HushError"))))
    (d0 : (s0 == ("__debug__" : Str)) = false) (c0 : (s0 == ("__classdict__" : Str)) = false) (d1 : (y == ("__debug__" : Str)) = false) (c1 : (y == ("__classdict__" : Str)) = false)
    (hc : eval (.Call (.Attribute (.Name "HushError" p1) "__init__" p2) [.Name s0 p3, .Constant (.str m) j p4] [] p5) X.env = (do
      let ov ← eval (.Name "HushError" p1) X.env
      standAt p2.atName
      let (g, first) ← holding [ov] (getMethod ov "__init__" pl)
      callWith p5 g first (backTo p5 (starEach [.Name s0 p3, .Constant (.str m) j p4] X.env)) (backToKw p5 (keywordEach [] X.env))) := by rfl)
    (hs1 : swapsWith (.Call (.Attribute (.Name "HushError" p1) "__init__" p2) [.Name s0 p3, .Constant (.str m) j p4] [] p5) none p6.line X.env = pure false := by rfl)
    (hs2 : swapsWith (.Name y p9) (some (.Attribute (.Name s0 p7) (Str.ofString f) p8)) p10.line X.env = pure false := by rfl) :
    PSs X [.Expr (.Call (.Attribute (.Name "HushError" p1) "__init__" p2) [.Name s0 p3, .Constant (.str m) j p4] [] p5) p6, .Assign [.Attribute (.Name s0 p7) (Str.ofString f) p8] (.Name y p9) p10] (tIni X.K (Str.ofString f) m) :=
  PSs.of (pss_cons (ps_expr (pe_hinit T hg hm (pa_cons (pe_var (by rw [hN]; rfl) hv0 d0 c0) (pa_cons pe_str pa_nil (by rfl)) (by rfl)) hc) hs1) (pss_one (ps_ost (pe_var (by rw [hN]; rfl) hv0 d0 c0) (pe_var (by rw [hN]; rfl) hv1 d1 c1) hs2))) fun Dn σ H q => q
end
/-! ### made, as a value; raised -/
def sRaiseF (C f : String) (fe : SE) : SS := fun e h => (fe e h).toS e fun d h1 => .exc C (some (f, d)) e h1
/-- x.f of an exception -/
def sXfl (xs : List String) (f : String) (o : SE) : SE := fun e h => (o e h).bind fun d h1 => match d with
  | .excf C f1 d1 => if C ∈ xs ∧ f1 = f ∧ fieldOf C = some f then .ok d1 h1 else .bad
  | _ => .bad
structure DefI (P : Program) (w : World) (K : PySem.W.Frag) (mg : Str → Option Value) (base : Heap) (k : Nat) (C f : String) : Prop where
  ex : ∃ fd s0 y, FnOk P w K mg base CX0 k (He.ma K (He.ga K (Str.ofString C)) "__init__") fd [s0, y] (spInit K C f) ∧ Binds K fd [s0, y] []
  T : OexF K C f
section
variable {X : Cx} {W : WX} {k : Nat} {C f : String} {p pos : Pos} {a : Expr} {fa : SE}
theorem pmk_f (D : DefI X.prog X.w X.K X.mg X.base k C f) (hr : Room (k + 1) X.A) (hm : X.mg (Str.ofString C) = some (.ref (He.ga X.K (Str.ofString C)))) (hg : Gl X (Str.ofString C)) (ha : DE X W a fa) (hdb : (Str.ofString C == ("__debug__" : Str)) = false := by decide)
    (he : starEach [a] X.env = (false, eval a X.env) :: starEach [] X.env := by rfl) (hpl : (backTo pos (starEach [] X.env)).any (·.1) = false := by rfl) :
    PMk X (.Call (.Name (Str.ofString C) p) [a] [] pos) (fun σ H Q => rdG X.K W (Den X.K) fa σ H fun v H1 => ∀ dx, H1 dx = none → Q (.ref (He.ga X.K (Str.ofString C))) (some dx) (upd H1 dx (.xd [(Str.ofString f, v)]))) := by
  obtain ⟨fd, s0, y, F1, hb⟩ := D.ex
  intro pn s σ H Q I q
  refine pmk_oex D.T.oc D.T.iC D.T.tI F1 hr hb .nil (pass0 (X := X)) hg hm (pa_cons ha pa_nil he) hdb he hpl pn s σ H Q I ?_
  have fin : ∀ v H1, (∀ dx, H1 dx = none → Q (.ref (He.ga X.K (Str.ofString C))) (some dx) (upd H1 dx (.xd [(Str.ofString f, v)]))) → [v].length ≤ 1000 ∧ ∀ x, H1 x = none → spInit X.K C f (.ref x :: ([v] ++ [])) (upd H1 x (exo x (He.ga X.K (Str.ofString C)) none))
      (fun r H2 => r = .non ∧ ∃ (d : Addr) (fs : List (Str × V)), H2 x = some (exo x (He.ga X.K (Str.ofString C)) (some d)) ∧ H2 d = some (exd d fs) ∧ H1 d = none ∧ Q (.ref (He.ga X.K (Str.ofString C))) (some d) (upd (del H2 x) d (.xd fs))) (fun _ _ _ => False) := by
    intro v H1 z
    refine ⟨by show 1 ≤ 1000; omega, fun x nx => ⟨x, v, rfl, upd_same, fun dx nd ne => ⟨rfl, dx, [(Str.ofString f, v)], upd_same, ?_, ?_, ?_⟩⟩⟩
    · rw [upd_ne ne, upd_same]
    · rw [upd_ne ne] at nd
      exact nd
    · have nd1 : H1 dx = none := by rw [upd_ne ne] at nd; exact nd
      have eq : upd (del (upd (upd (upd H1 x (exo x (He.ga X.K (Str.ofString C)) none)) dx (exd dx [(Str.ofString f, v)])) x (exo x (He.ga X.K (Str.ofString C)) (some dx))) x) dx (.xd [(Str.ofString f, v)]) = upd H1 dx (.xd [(Str.ofString f, v)]) := by
        funext b
        by_cases hb : b = dx
        · rw [hb, upd_same, upd_same]
        · rw [upd_ne hb, upd_ne hb]
          by_cases hx : b = x
          · rw [hx, del_same, nx]
          · rw [del_ne hx, upd_ne hx, upd_ne hb, upd_ne hx]
      rw [eq]
      exact z dx nd1
  obtain ⟨P, F, m, e, h, S, E, q⟩ := q
  refine ⟨P, F, m, e, h, S, E, ?_⟩
  cases g : fa e h with
  | bad => rw [g] at q; exact q.elim
  | exc C p h1 => rw [g] at q; exact q
  | ok d h1 => rw [g] at q; exact fun v F1 m1 H1 x1 S1 r1 => fin v H1 (q v F1 m1 H1 x1 S1 r1)
theorem ds_raiseF (tk : Takes X W) (hcm : X.calm = true) (D : DefI X.prog X.w X.K X.mg X.base k C f) (hr : Room (k + 1) X.A) (hm : X.mg (Str.ofString C) = some (.ref (He.ga X.K (Str.ofString C)))) (hg : Gl X (Str.ofString C)) (ha : DE X W a fa) (hdb : (Str.ofString C == ("__debug__" : Str)) = false := by decide)
    (he : starEach [a] X.env = (false, eval a X.env) :: starEach [] X.env := by rfl) (hpl : (backTo p (starEach [] X.env)).any (·.1) = false := by rfl) {p3 : Pos} :
    DS X W (.Raise (some (.Call (.Name (Str.ofString C) pos) [a] [] p)) none p3) (sRaiseF C f fa) := PS.of (ps_raise hcm tk (pmk_f D hr hm hg ha hdb he hpl)) fun Dn σ H => by
  rintro ⟨P, F, m, e, h, S, E, fin⟩
  refine st_seq S E fin fun F1 m1 h1 H1 v d x1 S1 E1 r1 fin1 => ?_
  intro dx n
  have x2 := S1.extF (o := .xd [(Str.ofString f, v)]) n
  exact fin1 (some dx) σ _ m1 _ x2 (S1.frozen n) ⟨dx, v, rfl, upd_same, r1.mono x2⟩ (E1.mono x2)
end
/-! ### a field of an exception -/
section
variable {X : Cx} {W : WX} {o : Expr} {pos : Pos}
theorem pe_xfl {n : Str} {to : TE} (ho : PE X o to) (hb : attributeBase o n X.env (eval o X.env) = eval o X.env) : PE X (.Attribute o n pos) (fun σ H Q => to σ H fun x H1 => ∃ (a C dx : Addr) (fs : List (Str × V)) (v : V),
    x = .ref a ∧ H1 a = some (HexP (.ref C) dx a) ∧ H1 dx = some (.xd fs) ∧ fs.lookup n = some v ∧ ExcC X.K C ∧ PySem.W.findIn X.K (.ref C) n = some none ∧ Q v H1) := by
  constructor
  intro pn s σ H Q I q
  refine attr_of hb (thn (ho.run pn s σ H _ I q) ?_)
  rintro u s1 ⟨x, H1, J, r, a, C, dx, fs, v, rfl, ea, ed, lk, ex, no, fin⟩
  cases (show u = Value.ref a from r)
  obtain ⟨⟨⟨oc, od, dt, sl⟩, ws, e1, ⟨e2, e3⟩, e4⟩, _⟩ := J.hok a _ ea
  dsimp only at e2 e3 e4
  subst e2 e3 e4
  obtain ⟨mA, hns, hr⟩ := (show ObjOk X.prog X.w H1 s1.heap dx (.xd fs) from J.hok dx _ ed)
  obtain ⟨o2, ho2, hl⟩ := lookIn_ns hns
  obtain ⟨u2, hu, ru⟩ := RelO.some_of (v := v) (o := mA n) (by rw [← lk]; exact hr n)
  have T : PySem.W.InstAt s1.heap a ⟨.ref C, some dx, .fields ws, sl⟩ C (some o2) := ⟨e1, rfl, rfl, ho2⟩
  exact HandSPX.exc_get J.kIn T ex.hg ex.hk ex.hs (PySem.W.findObj_own ex.hd no rfl (by rw [hl, hu])) (handed_of ru) ⟨v, H1, J.tok _, ru, fin⟩
theorem de_xfl {xs ys : List String} {f : String} {fo : SE} (T : XF X.K xs ys) (ho : DE X W o fo) (hb : attributeBase o (Str.ofString f) X.env (eval o X.env) = eval o X.env := by rfl) : DE X W (.Attribute o (Str.ofString f) pos) (sXfl xs f fo) := PE.of (pe_xfl ho hb) fun σ H Q => by
  rintro ⟨P, F, m, e, h, S, E, fin⟩
  refine rd_seq S E fin fun F1 m1 h1 H1 v d x1 S1 E1 r1 fin1 => ?_
  cases r1 with
  | excf q q2 rv =>
    rename_i a dx C f1 v1 d1
    dsimp only at fin1
    by_cases hC : C ∈ xs ∧ f1 = f ∧ fieldOf C = some f
    · rw [if_pos hC] at fin1
      obtain ⟨h1, rfl, h3⟩ := hC
      exact ⟨a, _, dx, _, v1, rfl, S1.sub _ _ q, S1.sub _ _ q2, by simp [List.lookup], T.cls C h1, (T.oex C h1 _ h3).no, fin1.ok S1 rv⟩
    · rw [if_neg hC] at fin1
      exact fin1.bad_elim
  | _ => exact fin1.bad_elim
end
end HR
set_option Elab.async false
set_option linter.all false
set_option maxRecDepth 20000
set_option maxHeartbeats 1000000
/-! walks over an own list, which keeps its length meanwhile -/
namespace HR
open PySem L2 RZ
section
variable {X : Cx} {W : WX}
/-- the place of an own list -/
def sRefL (f : SE) : Env' → OH → Res Nat := fun e h => (f e h).bind fun d h1 => match d with
  | .ref i => (match h1[i]? with
    | some (.lst _) => .ok i h1
    | _ => .bad)
  | _ => .bad
/-- j rounds are left of n -/
def forO (g : TF) (b : SS) (i n : Nat) : Nat → SS
  | 0 => fun e h => match h[i]? with
    | some (.lst ys) => if ys.length = n then .nx e h else .bad
    | _ => .bad
  | j + 1 => fun e h => match h[i]? with
    | some (.lst ys) => if ys.length = n then (match ys[n - (j + 1)]? with
      | some d => (match g d e h with
        | none => .bad
        | some e1 => (match b e1 h with
          | .nx e2 h2 => forO g b i n j e2 h2
          | .ct e2 h2 => forO g b i n j e2 h2
          | .bk e2 h2 => .nx e2 h2
          | r => r))
      | none => .bad) else .bad
    | _ => .bad
def sForO (f : SE) (g : TF) (b : SS) : SS := fun e h => (sRefL f e h).toS e fun i h1 => match h1[i]? with
  | some (.lst xs) => forO g b i xs.length xs.length e h1
  | _ => .bad
/-! comprehensions -/
theorem wipe_idem (σ : St) (vs : List Nat) : L2.wipe (L2.wipe σ vs) vs = L2.wipe σ vs := by
  have key : ∀ (us : List Nat) (τ : St), (∀ u ∈ us, ∀ z, τ[u]? = some z → z = none) → L2.wipe τ us = τ := by
    intro us
    induction us with
    | nil => intro τ _; rfl
    | cons u us ih =>
      intro τ hz
      show (L2.wipe τ us).set u none = τ
      rw [ih τ fun w hw => hz w (List.mem_cons_of_mem _ hw)]
      apply List.ext_getElem?
      intro j
      by_cases hj : u = j
      · subst hj
        rw [List.getElem?_set]
        simp only [if_true]
        by_cases hu : u < τ.length
        · rw [if_pos hu, List.getElem?_eq_getElem hu, hz u List.mem_cons_self τ[u] (List.getElem?_eq_getElem hu)]
        · rw [if_neg hu, List.getElem?_eq_none (Nat.le_of_not_lt hu)]
      · rw [List.getElem?_set_ne hj]
  refine key vs _ fun u hu z hz => ?_
  have cl : ∀ (us : List Nat) (τ : St), u ∈ us → (L2.wipe τ us)[u]? = some z → z = none := by
    intro us
    induction us with
    | nil => intro τ h; simp at h
    | cons w us ih =>
      intro τ h hz
      have hz : ((L2.wipe τ us).set w none)[u]? = some z := hz
      by_cases hw : w = u
      · subst hw
        rw [List.getElem?_set] at hz
        simp only [if_true] at hz
        split at hz
        · simpa using hz.symm
        · cases hz
      · rw [List.getElem?_set_ne hw] at hz
        rcases List.mem_cons.mp h with h | h
        · exact absurd h.symm hw
        · exact ih τ h hz
  exact cl vs σ hu hz
end
section
variable {α β : Type} {N C B : Env' → OH → Prop} {R : D → OH → Prop} {PD : D → OH → Prop} {PL : List D → OH → Prop} {PN : Nat → OH → Prop}
def lkO (o : Option OO) (P : List D → Prop) : Prop := match o with
  | some (.lst xs) => P xs
  | _ => False
@[simp] theorem lkO_lst (xs : List D) (P : List D → Prop) : lkO (some (.lst xs)) P = P xs := rfl
@[simp] theorem W_refL (f : SE) (e : Env') (h : OH) : (sRefL f e h).W PN = (f e h).W fun d h1 => isR d fun i => lkO h1[i]? fun _ => PN i h1 := by
  unfold sRefL; rw [W_bind]; congr; funext d h1
  cases d <;> first | rfl | skip
  rename_i i
  simp only [isR_ref]
  rcases h1[i]? with _ | o
  · rfl
  · cases o <;> rfl
@[simp] theorem SW_forO (f : SE) (g : TF) (b : SS) (e : Env') (h : OH) : (sForO f g b e h).W N C B R = (f e h).W fun d h1 => isR d fun i => lkO h1[i]? fun xs => (forO g b i xs.length xs.length e h1).W N C B R := by
  unfold sForO
  rw [W_toS, W_refL]
  congr; funext d h1; congr; funext i
  rcases h1[i]? with _ | o
  · rfl
  · cases o <;> rfl
end
end HR
set_option Elab.async false
set_option linter.all false
set_option maxRecDepth 20000
set_option maxHeartbeats 1000000
/-! a call without arguments -/
set_option Elab.async false
set_option linter.all false
set_option maxRecDepth 20000
set_option maxHeartbeats 1000000
/-! a block, statement by statement: what follows is out of sight meanwhile -/
namespace HR
open PySem L2 RZ
section
variable {N C B : Env' → OH → Prop} {R : D → OH → Prop}
theorem SW_seqK {f g : SS} {e : Env'} {h : OH} (q : ∀ K : Env' → OH → Prop, (∀ e h, (g e h).W N C B R → K e h) → (f e h).W K C B R) : (sSeq f g e h).W N C B R := by
  rw [SW_seq]
  exact q _ fun _ _ z => z
end
end HR
set_option Elab.async false
set_option linter.all false
set_option maxRecDepth 20000
set_option maxHeartbeats 1000000
/-! range(a, b) of numbers of any size -/
namespace HR
open PySem L2 RZ PySem.Spec PyProof.Rows
section
variable {X : Cx} {tg : Expr} {W : WX}
def sRng2W (a b : SE) : SA := fun e h => (a e h).bind fun d h1 => (b e h1).bind fun d2 h2 => match d, d2 with
  | .int i, .int j => .ok (rngD i (j - i).toNat) h2
  | _, _ => .bad
end
section
variable {PL : List D → OH → Prop}
@[simp] theorem W_rng2W (f g : SE) (e : Env') (h : OH) : (sRng2W f g e h).W PL = (f e h).W fun a h1 => (g e h1).W fun b h2 => isI a fun i => isI b fun j => PL (rngD i (j - i).toNat) h2 := by
  unfold sRng2W; rw [W_bind]; congr; funext a h1; rw [W_bind]; congr; funext b h2
  cases a <;> cases b <;> rfl
end
end HR
set_option Elab.async false
set_option linter.all false
set_option maxRecDepth 20000
set_option maxHeartbeats 1000000
/-! x is True, x is not False, of bools -/
namespace HR
open PySem L2 RZ PySem.Spec PyProof.Rows
section
variable {X : Cx} {W : WX}
def opIsB (neg : Bool) : D → D → OH → Res D
  | .bl a, .bl b, h => .ok (.bl (if neg then !decide (a = b) else decide (a = b))) h
  | _, _, _ => .bad
end
@[simp] theorem W_isB (neg a b : Bool) (h : OH) {PD : D → OH → Prop} : (opIsB neg (.bl a) (.bl b) h).W PD = PD (.bl (if neg then !decide (a = b) else decide (a = b))) h := rfl
end HR
set_option Elab.async false
set_option linter.all false
set_option maxRecDepth 20000
set_option maxHeartbeats 1000000
/-! repr of any value -/
namespace HR
open PySem L2 RZ PySem.Spec PyProof.Rows
/-- repr of lists and tuples, numbers, texts, None, booleans -/
def opReprZ : D → OH → Res D := fun d h => match pyRAt h d with
  | some p => if reprOkX p then .ok (.str p.shown) h else .bad
  | none => .bad
section
variable {X : Cx} {W : WX}
def rReprZ (K : PySem.W.Frag) : List V → Hp → VK → Prop := fun vs H Q => ∃ v p, vs = [v] ∧ Rv K H v p ∧ reprOkX p = true ∧ Q (.str p.shown) H
theorem call_reprZ (hm : modOk X.K = true) (hu : X.A.units + 64 < cLine) (hgd : X.A.guards = some []) : CallR X (.builtin "repr") (rReprZ X.K) := by
  intro pn s σ H vs us Q I r h
  obtain ⟨v, p, rfl, rv, ok, q⟩ := h
  obtain ⟨o1, o2⟩ := and2 ok
  obtain ⟨o3, o4⟩ := and2 o2
  have o4 := of_decide_eq_true o4
  have hz : sizeLine = 16777216 := sizeLine_eq
  cases v with
  | ref a => exact call_reprX hm hu hgd pn s σ H _ _ Q I r ⟨a, p, rfl, rv, ok, q⟩
  | int i =>
    obtain ⟨u, rfl, rx⟩ := vals1 r
    obtain ⟨t, rfl⟩ := rx
    cases rv
    exact PySem.P.repr_of_int (by simpa [PyData.showable] using o1) ⟨.str _, H, I.tok _, ⟨_, rfl⟩, q⟩
  | str x =>
    obtain ⟨u, rfl, rx⟩ := vals1 r
    obtain ⟨t, rfl⟩ := rx
    cases rv
    exact PySem.P.repr_of_str ⟨.str _, H, I.tok _, ⟨_, rfl⟩, q⟩ (by simp only [big, PyData.shown] at o4; omega)
  | bl b =>
    obtain ⟨u, rfl, rx⟩ := vals1 r
    cases (show u = Value.bool b from rx)
    cases rv
    exact PySem.P.repr_of_bool ⟨.str _, H, I.tok _, ⟨_, rfl⟩, q⟩
  | non =>
    obtain ⟨u, rfl, rx⟩ := vals1 r
    cases (show u = Value.none from rx)
    cases rv
    exact PySem.P.repr_of_none ⟨.str _, H, I.tok _, ⟨_, rfl⟩, q⟩
  | _ => cases rv
theorem bReprZ_h : ClH X.K W (b1 opReprZ) (rReprZ X.K) := by
  intro P F m h H σ Q vs ds S r fin
  obtain ⟨v, d, rfl, r1, fin⟩ := b1_inv r fin
  unfold opReprZ at fin
  cases e : pyRAt h d with
  | none => rw [e] at fin; exact fin.bad_elim
  | some p =>
    rw [e] at fin
    dsimp only at fin
    by_cases hk : reprOkX p = true
    · rw [if_pos hk] at fin
      exact ⟨v, p, rfl, rv_of S (fun i b ps q1 q2 => pyRGet_ok S 5 i b ps q1 q2) r1 p e, hk, fin.ok S (.str _)⟩
    · rw [if_neg hk] at fin
      exact fin.bad_elim
theorem de_reprZ {p pos : Pos} {a : Expr} {fa : SE} (hm : modOk X.K = true) (hu : X.A.units + 64 < cLine) (hgd : X.A.guards = some []) (hx : Gl X "repr") (hmg : X.mg "repr" = none) (ha : DE X W a fa) (he : starEach [a] X.env = (false, eval a X.env) :: starEach [] X.env := by rfl) : DE X W (.Call (.Name "repr" p) [a] [] pos) (sCall (b1 opReprZ) (sCons fa sNil)) :=
  de_blt (call_reprZ hm hu hgd) bReprZ_h hx hmg boot_repr (da_cons ha da_nil he) (he := he)
end
end HR
set_option Elab.async false
set_option linter.all false
set_option maxRecDepth 20000
set_option maxHeartbeats 1000000
/-! clear and insert of own lists -/
namespace HR
open PySem L2 RZ PySem.Spec PyProof.Rows
section
variable {X : Cx} {W : WX}
def gClear (i : Nat) (xs ys : List D) (h : OH) : Res D := match ys with
  | [] => .ok .non (h.set i (.lst []))
  | _ => .bad
def gInsert (i : Nat) (xs ys : List D) (h : OH) : Res D := match ys with
  | [.int k, y] => if xs.length < big ∧ 0 ≤ k ∧ k < 2 ^ 63 then .ok .non (h.set i (.lst (xs.take k.toNat ++ [y] ++ xs.drop k.toNat))) else .bad
  | _ => .bad
end
section
variable {PD : D → OH → Prop}
@[simp] theorem W_clear (i : Nat) (xs : List D) (h : OH) : (gClear i xs [] h).W PD = PD .non (h.set i (.lst [])) := rfl
@[simp] theorem W_insert (i : Nat) (xs : List D) (k : Int) (y : D) (h : OH) : (gInsert i xs [.int k, y] h).W PD = if xs.length < 1000000 ∧ 0 ≤ k ∧ k < 9223372036854775808 then PD .non (h.set i (.lst (xs.take k.toNat ++ [y] ++ xs.drop k.toNat))) else False := by
  simp [gInsert, big]
end
end HR
set_option Elab.async false
set_option linter.all false
set_option maxRecDepth 100000
set_option maxHeartbeats 4000000
/-! sorted(set(xs)), xs a list of ints, fewer than 64 -/
set_option Elab.async false
set_option linter.all false
set_option maxRecDepth 20000
set_option maxHeartbeats 1000000
/-! sorted(set(xs)), xs a list of ints, fewer than 64 -/
namespace HR
open PySem L2 RZ PySem.Spec PyProof.Rows
def insU (x : Int) : List Int → List Int
  | [] => [x]
  | y :: r => if x < y then x :: y :: r else if x = y then y :: r else y :: insU x r
def sortU (l : List Int) : List Int := l.foldr insU []
section
variable {X : Cx} {W : WX}
def sSortSet (f : SE) : SE := fun e h => (f e h).bind fun d h1 => match (lsqAt h1 d).bind intsOf with
  | some ns => if ns.length < 64 then .ok (.lst ((sortU ns).map .int)) h1 else .bad
  | none => .bad
end
section
variable {PD : D → OH → Prop}
@[simp] theorem W_sSortSet (f : SE) (e : Env') (h : OH) : (sSortSet f e h).W PD = (f e h).W fun d h1 => match (lsqAt h1 d).bind intsOf with
  | some ns => if ns.length < 64 then PD (.lst ((sortU ns).map .int)) h1 else False
  | none => False := by
  unfold sSortSet; rw [W_bind]; congr; funext d h1
  cases (lsqAt h1 d).bind intsOf with
  | none => rfl
  | some ns => dsimp only; split <;> rfl
end
end HR
set_option Elab.async false
set_option linter.all false
set_option maxRecDepth 20000
set_option maxHeartbeats 1000000
/-! min(xs, default=None), xs a list of ints -/
set_option Elab.async false
set_option linter.all false
set_option maxRecDepth 20000
set_option maxHeartbeats 1000000
/-! a comprehension over a list, own or frozen -/
set_option Elab.async false
set_option linter.all false
set_option maxRecDepth 100000
set_option maxHeartbeats 1000000
/-! zip of a list and a tuple -/
namespace HR
open PySem L2 RZ PySem.Spec PyProof.Rows
open PySem.Sem (wp)
/-! the call zip(l1, l2) -/
/-! the loop over it -/
section
variable {X : Cx} {W : WX}
theorem PI_or {tg e : Expr} {t1 t2 : TI} (a : PI X tg e t1) (b : PI X tg e t2) : PI X tg e (fun σ H R => t1 σ H R ∨ t2 σ H R) := ⟨fun pins s σ H R I h => h.elim (a.run pins s σ H R I) (b.run pins s σ H R I)⟩
/-- zip of lists, of tuples, or of a list and a tuple -/
def sZipX (f : SA) : SA := fun e h => match f e h with
  | .ok [.lst xs, .tup ys] h1 => .ok (zipD xs ys) h1
  | _ => sZip f e h
end
section
variable {PL : List D → OH → Prop}
def zipAtX : D → D → Option (List D)
  | .lst xs, .tup ys => some (zipD xs ys)
  | a, b => zipAt a b
theorem W_zipXa (f : SA) (e : Env') (h : OH) : (sZipX f e h).W PL = (f e h).W fun ds h1 => match ds with
  | [d, d2] => lkS (zipAtX d d2) fun xs => PL xs h1
  | _ => False := by
  unfold sZipX
  split
  · rename_i xs ys h1 q
    rw [q]
    rfl
  · rename_i no
    unfold sZip
    rw [W_bind]
    cases q : f e h with
    | bad => rfl
    | exc C p h1 => rfl
    | ok ds h1 =>
      simp only [W_ok]
      match ds, q with
      | [], _ => rfl
      | [_], _ => rfl
      | _ :: _ :: _ :: _, _ => rfl
      | [d, d2], q =>
        have e2 : zipAtX d d2 = zipAt d d2 := by
          unfold zipAtX
          split
          · exact absurd q (no _ _ _)
          · rfl
        simp only [e2]
        cases zipAt d d2 <;> rfl
@[simp] theorem W_zipX (f g : SE) (e : Env') (h : OH) : (sZipX (sCons f (sCons g sNil)) e h).W PL = (f e h).W fun d h1 => (g e h1).W fun d2 h2 => lkS (zipAtX d d2) fun xs => PL xs h2 := by
  rw [W_zipXa]; simp only [W_sCons, W_sNil]
@[simp] theorem zipAtX_lt (xs ys : List D) : zipAtX (.lst xs) (.tup ys) = some (zipD xs ys) := rfl
@[simp] theorem zipAtX_ll (xs ys : List D) : zipAtX (.lst xs) (.lst ys) = some (zipD xs ys) := rfl
end
end HR
set_option Elab.async false
set_option linter.all false
set_option maxRecDepth 20000
/-! a <= b < c -/
set_option Elab.async false
set_option linter.all false
set_option maxRecDepth 20000
set_option maxHeartbeats 1000000
/-! dict(pairs), the keys apart; d[k] -/
namespace HR
open PySem L2 RZ
def getK (ks : List (Key × D)) (k : Key) : Option D := (ks.find? fun kv => decide (kv.1 = k)).map (·.2)
def keyD : D → Option Key
  | .int i => some (.inl i)
  | .str x => some (.inr x)
  | _ => none
def opIxK : D → D → OH → Res D := fun a b h => match a, keyD b with
  | .dct ks, some k => (match getK ks k with
    | some d => .ok d h
    | none => .bad)
  | _, _ => .bad
def pairK : D → Option (Key × D)
  | .tup [a, d] => (keyD a).map fun k => (k, d)
  | _ => none
def pairsK : List D → Option (List (Key × D))
  | [] => some []
  | x :: xs => match pairK x, pairsK xs with
    | some k, some ks => some (k :: ks)
    | _, _ => none
def opDictP : D → OH → Res D := fun d h => match (lsqAt h d).bind pairsK with
  | some ks => if (ks.map (·.1)).Nodup then .ok (.dct ks) h else .bad
  | none => .bad
section
variable {K : PySem.W.Frag} {F : Hp} {m : List Addr}
theorem keyD_den {v : V} {d : D} {k : Key} (r : Den K F m v d) (e : keyD d = some k) : v = kV k := by
  cases r <;> simp only [keyD, Option.some.injEq, reduceCtorEq] at e <;> subst e <;> rfl
theorem denK_get : ∀ {kvs : List (Key × V)} {ks : List (Key × D)} (r : DenK K F m kvs ks) {k : Key} {d : D}, getK ks k = some d → ∃ v, valV kvs k = some v ∧ Den K F m v d
  | _, _, .nil, k, d, e => by simp [getK] at e
  | _, _, .cons (k := k0) (v := v0) (ds := ds0) h t, k, d, e => by
    by_cases c : k0 = k
    · subst c
      simp [getK] at e
      subst e
      exact ⟨_, valV_pos rfl, h⟩
    · have e2 : getK ds0 k = some d := by simpa [getK, c] using e
      obtain ⟨v, h1, h2⟩ := denK_get t e2
      exact ⟨v, by rw [valV_neg c]; exact h1, h2⟩
theorem pairs_den {H : Hp} (sub : ∀ a o, F a = some o → H a = some o) : ∀ {vs : List V} {xs : List D} (r : DenL K F m vs xs) {ks : List (Key × D)}, pairsK xs = some ks → ∃ (ps : List Addr) (kvs : List (Key × V)), vs = ps.map V.ref ∧ Paired (fun p kv => SqT K H p [kV kv.1, kv.2]) ps kvs ∧ DenK K F m kvs ks
  | _, _, .nil, ks, e => by
    simp [pairsK] at e
    subst e
    exact ⟨[], [], rfl, .nil, .nil⟩
  | _, _, .cons (d := x) h t, ks, e => by
    unfold pairsK at e
    cases e1 : pairK x with
    | none => rw [e1] at e; simp at e
    | some kd =>
      cases e2 : pairsK _ with
      | none => rw [e1, e2] at e; simp at e
      | some ks2 =>
        rw [e1, e2] at e
        simp only [Option.some.injEq] at e
        subst e
        obtain ⟨ps, kvs, q1, q2, q3⟩ := pairs_den sub t e2
        unfold pairK at e1
        split at e1
        · rename_i a d
          rw [Option.map_eq_some_iff] at e1
          obtain ⟨k, ek, rfl⟩ := e1
          cases h with
          | @tup p ws _ fe fr =>
            obtain ⟨v1, v2, rfl, r1, r2⟩ := denL2 fr
            have := keyD_den r1 ek
            subst this
            exact ⟨p :: ps, (k, v2) :: kvs, by rw [q1]; rfl, .cons (.inl (.inl (sub _ _ fe))) q2, .cons r2 q3⟩
        · cases e1
theorem DenK.keys : ∀ {kvs : List (Key × V)} {ks : List (Key × D)} (r : DenK K F m kvs ks), kvs.map (·.1) = ks.map (·.1)
  | _, _, .nil => rfl
  | _, _, .cons h t => by simp [t.keys]
theorem merge_apart : ∀ (more acc : List (Key × V)), (more.map (·.1)).Nodup → (∀ kv ∈ more, kv.1 ∉ acc.map (·.1)) → mergeK acc more = acc ++ more
  | [], acc, _, _ => by simp [mergeK]
  | kv :: more, acc, nd, ne => by
    simp only [List.map_cons, List.nodup_cons] at nd
    have h0 := ne kv List.mem_cons_self
    have an : (acc.any fun x => decide (x.1 = kv.1)) = false := by
      rw [List.any_eq_false]
      intro x hx
      simp only [decide_eq_true_eq]
      intro e
      exact h0 (by rw [← e]; exact List.mem_map_of_mem hx)
    have p : putK acc kv.1 kv.2 = acc ++ [kv] := by
      unfold putK
      rw [an]
      rfl
    have ih := merge_apart more (acc ++ [kv]) nd.2 fun x hx => by
      have := ne x (List.mem_cons_of_mem _ hx)
      simp only [List.map_append, List.map_cons, List.map_nil, List.mem_append, List.mem_singleton, not_or]
      exact ⟨this, fun e => nd.1 (by rw [← e]; exact List.mem_map_of_mem hx)⟩
    unfold mergeK at ih ⊢
    rw [List.foldl_cons, p, ih]
    simp
end
section
variable {X : Cx} {W : WX}
def rDGet : R2 := fun x y H Q => ∃ a v, x = .ref a ∧ DGet H a y (some v) ∧ Q v H
theorem opIxK_h : OpH X.K W opIxK rDGet := by
  intro P F m h H σ Q x y dx dy S r1 r2 fin
  unfold opIxK at fin
  split at fin
  · rename_i ks k ek
    cases r1 with
    | @dct a kvs _ q r =>
      have := keyD_den r2 ek
      subst this
      cases e : getK ks k with
      | none => rw [e] at fin; exact fin.bad_elim
      | some d =>
        rw [e] at fin
        obtain ⟨v, h1, h2⟩ := denK_get r e
        refine ⟨a, v, rfl, ?_, fin.ok S h2⟩
        rw [← h1]
        exact DGet.k (S.sub _ _ q)
  · exact fin.bad_elim
theorem de_ixK {a b : Expr} {pos : Pos} {fa fb : SE} (hu : X.A.units + 64 < cLine) (ha : DE X W a fa) (hb : DE X W b fb) (hs : NoSl b := by exact fun _ _ => rfl) : DE X W (.Subscript a b pos) (sBin opIxK fa fb) :=
  PE.of (pe_dget (by omega) ha hb hs) fun _ _ _ q => rd_op opIxK_h q
theorem bDictP_h : ClH X.K W (b1 opDictP) (fun xs H Q => ∃ (a : Addr) (ps : List Addr) (kvs : List (Key × V)), xs = [.ref a] ∧ SqL X.K H a (ps.map V.ref) ∧ Paired (fun p kv => SqT X.K H p [kV kv.1, kv.2]) ps kvs ∧ ∀ p, H p = none → Q (.ref p) (upd H p (.dK (mergeK [] kvs)))) := by
  intro P F m h H σ Q vs ds S r fin
  obtain ⟨v, d, rfl, r1, fin⟩ := b1_inv r fin
  unfold opDictP at fin
  cases e : lsqAt h d with
  | none => rw [e] at fin; exact fin.bad_elim
  | some xs =>
    rw [e] at fin
    simp only [Option.bind_some] at fin
    obtain ⟨a, ws, rfl, ha, rl⟩ := lsqAt_ok S r1 e
    cases e2 : pairsK xs with
    | none => rw [e2] at fin; exact fin.bad_elim
    | some ks =>
      rw [e2] at fin
      dsimp only at fin
      by_cases nd : (ks.map (·.1)).Nodup
      · rw [if_pos nd] at fin
        obtain ⟨ps, kvs, rfl, q2, q3⟩ := pairs_den (H := H) S.sub rl e2
        refine ⟨a, ps, kvs, rfl, ha, q2, fun p hp => ?_⟩
        have em : mergeK [] kvs = kvs := merge_apart kvs [] (by rw [q3.keys]; exact nd) (by simp)
        rw [em]
        have x := S.extF (o := .dK kvs) hp
        exact fin.okX x (S.frozen hp) (.dct upd_same (q3.mono x))
      · rw [if_neg nd] at fin
        exact fin.bad_elim
theorem de_dictP {p pos : Pos} {a : Expr} {fa : SE} (hc : X.calm = true) (hx : Gl X "dict") (hm : X.mg "dict" = none) (ha : DE X W a fa) (he : starEach [a] X.env = (false, eval a X.env) :: starEach [] X.env := by rfl) : DE X W (.Call (.Name "dict" p) [a] [] pos) (sCall (b1 opDictP) (sCons fa sNil)) :=
  de_bty (call_dictP hc) bDictP_h hx hm (by decide +kernel) (da_cons ha da_nil he) (he := he)
end
section
variable {PD : D → OH → Prop}
theorem W_ixK {ks : List (Key × D)} {b d : D} {k : Key} {h : OH} (e : keyD b = some k) (g : getK ks k = some d) : (opIxK (.dct ks) b h).W PD = PD d h := by
  unfold opIxK
  rw [e]
  simp [g]
theorem W_dictP {d : D} {ks : List (Key × D)} {h : OH} (e : (lsqAt h d).bind pairsK = some ks) (nd : (ks.map (·.1)).Nodup) : (opDictP d h).W PD = PD (.dct ks) h := by
  unfold opDictP
  rw [e]
  simp [nd]
end
end HR
set_option Elab.async false
set_option linter.all false
set_option maxRecDepth 20000
/-! xs[lo:hi:step] of a list -/
namespace HR
open PySem PySem.Spec PyProof.Rows L2 RZ
def stepIx (n : Nat) (lo hi st : Option Int) : List Nat := sliceRange (sliceBounds lo hi st n).1 (sliceBounds lo hi st n).2.1 (sliceBounds lo hi st n).2.2
def pickA {α : Type} (xs : List α) (ix : List Nat) : List α := ix.filterMap (xs[·]?)
def stepD (xs : List D) (lo hi st : Option Int) : List D := pickA xs (stepIx xs.length lo hi st)
def opCutS (own : Bool) (a : D) (lo hi st : Option Int) (h : OH) : Res D := if st = some 0 then .bad else match lsqAt h a with
  | some xs => if own then .ok (.ref h.length) (h ++ [.lst (stepD xs lo hi st)]) else .ok (.lst (stepD xs lo hi st)) h
  | none => .bad
section
variable {PD : D → OH → Prop}
@[simp] theorem W_cutSL (own : Bool) (xs : List D) (lo hi : Option Int) (k : Int) (h : OH) : (opCutS own (.lst xs) lo hi (some k) h).W PD = if k = 0 then False else if own then PD (.ref h.length) (h ++ [.lst (stepD xs lo hi (some k))]) else PD (.lst (stepD xs lo hi (some k))) h := by
  unfold opCutS
  by_cases k0 : k = 0
  · simp [k0]
  · simp [k0, lsqAt, seqAt]
end
end HR
set_option Elab.async false
set_option linter.all false
set_option maxRecDepth 20000
/-! str(i), int(text), xs.index(x), x in xs for deep values -/
namespace HR
open PySem L2 RZ
/-- the first place of a flat value -/
def idxV (x : V) : List V → Option Nat
  | [] => none
  | y :: ys => if eqV y x then some 0 else (idxV x ys).map (· + 1)
theorem idxV_ok {x : V} : ∀ {ys : List V} {j : Nat}, idxV x ys = some j → ∃ z, ys[j]? = some z ∧ eqV z x = true ∧ ∀ (m : Nat) z', m < j → ys[m]? = some z' → eqV z' x = false
  | [], j, h => by cases h
  | y :: ys, j, h => by
    unfold idxV at h
    by_cases e : eqV y x = true
    · rw [if_pos e] at h
      cases h
      exact ⟨y, rfl, e, fun m z' hm => by omega⟩
    · rw [if_neg e, Option.map_eq_some_iff] at h
      obtain ⟨k, hk, rfl⟩ := h
      obtain ⟨z, h1, h2, h3⟩ := idxV_ok hk
      refine ⟨z, by simpa using h1, h2, fun m z' hm hz => ?_⟩
      cases m with
      | zero =>
        simp at hz
        subst hz
        simpa using e
      | succ m => exact h3 m z' (by omega) (by simpa using hz)
def opIdx : D → D → OH → Res D := fun a b h => match (lsqAt h a).bind flatsD, flatD b with
  | some xs, some x => if flatV x && xs.all flatV then (match idxV x xs with
    | some j => .ok (.int (j : Nat)) h
    | none => .bad) else .bad
  | _, _ => .bad
def sIdx (o : SE) (a : SA) : SE := fun e h => (o e h).bind fun x h1 => if (lsqAt h1 x).isSome then (a e h1).bind fun ys h2 => (match ys with
  | [y] => opIdx x y h2
  | _ => .bad) else .bad
section
variable {X : Cx} {W : WX}
theorem de_index {o a : Expr} {fo fa : SE} {apos cpos : Pos} (ho : DE X W o fo) (ha : DE X W a fa) (hbase : attributeBase o "index" X.env (eval o X.env) = eval o X.env := by rfl)
    (hfew : ((backTo cpos (starEach [a] X.env)).all (fun x => !x.1) && (backToKw cpos (keywordEach [] X.env)).all (fun x => x.1.isSome) && decide (([a] : List Expr).length + ([] : List Keyword).length + (if ([] : List Keyword).isEmpty then 0 else 1) < 30)) = true := by rfl)
    (hline : (apos.endLine == cpos.line) = true := by rfl) (hs : starEach [a] X.env = (false, eval a X.env) :: starEach [] X.env := by rfl) (hplain : (backTo cpos (starEach [] X.env)).any (·.1) = false := by rfl) : DE X W (.Call (.Attribute o "index" apos) [a] [] cpos) (sIdx fo (sCons fa sNil)) :=
  PE.of (pe_bm PySem.F.plainAttrs_list PySem.F.slot_list_index PySem.F.type_list_index mt_index ho (da_cons ha da_nil hs) hbase hfew hline hs hplain) fun σ H Q => by
    rintro ⟨P, F, m, e, h, S, E, fin⟩
    refine rd_seq S E fin fun F1 m1 h1 H1 x dx x1 S1 E1 r1 fin1 => ?_
    by_cases hi : (lsqAt h1 dx).isSome = true
    · rw [if_pos hi] at fin1
      obtain ⟨xs, q⟩ := Option.isSome_iff_exists.mp hi
      obtain ⟨c, vs, rfl, hc, rc⟩ := lsqAt_ok S1 r1 q
      refine ⟨.inl ⟨rfl, vs, hc⟩, rd_seq S1 E1 fin1 fun F2 m2 h2 H2 ws ys x2 S2 E2 r2 fin2 => ?_⟩
      have r3 := r1.mono x2
      cases r2 with
      | nil => exact fin2.bad_elim
      | cons ra rr =>
        cases rr with
        | cons _ _ => exact fin2.bad_elim
        | nil =>
          dsimp only at fin2
          unfold opIdx at fin2
          cases q1 : lsqAt h2 dx with
          | none => rw [q1] at fin2; exact fin2.bad_elim
          | some ys =>
            rw [q1, Option.bind_some] at fin2
            cases q2 : flatsD ys with
            | none => rw [q2] at fin2; exact fin2.bad_elim
            | some zs =>
              rw [q2] at fin2
              rename_i vy dy
              cases q3 : flatD dy with
              | none => rw [q3] at fin2; exact fin2.bad_elim
              | some y =>
                rw [q3] at fin2
                dsimp only at fin2
                obtain ⟨c2, us, ec, hc2, rl⟩ := lsqAt_ok S2 r3 q1
                cases ec
                by_cases hz : (flatV y && zs.all flatV) = true
                · rw [if_pos hz] at fin2
                  obtain ⟨z1, z2⟩ := and2 hz
                  obtain rfl := flatD_ok ra q3
                  obtain rfl := flatsD_ok rl q2
                  cases q4 : idxV vy us with
                  | none => rw [q4] at fin2; exact fin2.bad_elim
                  | some j =>
                    rw [q4] at fin2
                    obtain ⟨z, j1, j2, j3⟩ := idxV_ok q4
                    exact ⟨c, us, vy, j, z, rfl, rfl, hc2, z1, z2, j1, j2, j3, fin2.ok S2 (.int _)⟩
                · rw [if_neg hz] at fin2
                  exact fin2.bad_elim
    · rw [if_neg hi] at fin1
      exact fin1.bad_elim
end
end HR
set_option Elab.async false
set_option linter.all false
set_option maxRecDepth 20000
set_option maxHeartbeats 1000000
/-! own dicts whose keys are ints and texts: a comprehension, d[k] = v, d[k] -/
namespace HR
open PySem L2 RZ
def putD (ks : List (Key × D)) (k : Key) (d : D) : List (Key × D) := if (ks.any fun kv => decide (kv.1 = k)) = true then ks.map (fun kv => if kv.1 = k then (kv.1, d) else kv) else ks ++ [(k, d)]
def dctAt (h : OH) : D → Option (List (Key × D))
  | .dct ks => some ks
  | .ref i => (match h[i]? with
    | some (.dct ks) => some ks
    | _ => none)
  | _ => none
def opIxD : D → D → OH → Res D := fun a b h => match dctAt h a, keyD b with
  | some ks, some k => (match getK ks k with
    | some d => .ok d h
    | none => .bad)
  | _, _ => .bad
def sIxK (o i v : SE) : SS := fun e h => (v e h).toS e fun y h1 => (o e h1).toS e fun x h2 => (i e h2).toS e fun k h3 => match x, keyD k with
  | .ref n, some q => (match h3[n]? with
    | some (.dct ks) => if ks.length < big then .nx e (h3.set n (.dct (putD ks q y))) else .bad
    | _ => .bad)
  | _, _ => .bad
def dcGo (g : TF) (tt : ST) (kx vx : SE) (e : Env') : List D → OH → List (Key × D) → Res (List (Key × D))
  | [], h, acc => .ok acc h
  | d :: ds, h, acc => match g d e h with
    | none => .bad
    | some e1 => (tt e1 h).noX.bind fun b h1 => if b then (kx e1 h1).noX.bind fun y h2 => (vx e1 h2).noX.bind fun z h3 => (match keyD y with
        | some k => if acc.length < big then dcGo g tt kx vx e ds h3 (putD acc k z) else .bad
        | none => .bad) else dcGo g tt kx vx e ds h1 acc
def sDcO (it : SA) (g : TF) (tt : ST) (kx vx : SE) (vs : List Nat) : SE := fun e h => (it e h).bind fun ds h1 => (dcGo g tt kx vx (wipeD e vs) ds h1 []).bind fun acc h2 => .ok (.ref h2.length) (h2 ++ [.dct acc])
def sDctO : SE := fun _ h => .ok (.ref h.length) (h ++ [.dct []])
section
variable {K : PySem.W.Frag} {P : Pins} {F : Hp} {m : List Addr} {h : OH} {H : Hp}
theorem denK_any {k : Key} : ∀ {kvs : List (Key × V)} {ks : List (Key × D)}, DenK K F m kvs ks → (kvs.any fun kv => decide (kv.1 = k)) = (ks.any fun kv => decide (kv.1 = k))
  | _, _, .nil => rfl
  | _, _, .cons h t => by rw [List.any_cons, List.any_cons, denK_any t]
theorem denK_map {k : Key} {v : V} {d : D} (r : Den K F m v d) : ∀ {kvs : List (Key × V)} {ks : List (Key × D)}, DenK K F m kvs ks → DenK K F m (kvs.map fun kv => if kv.1 = k then (kv.1, v) else kv) (ks.map fun kv => if kv.1 = k then (kv.1, d) else kv)
  | _, _, .nil => .nil
  | _, _, .cons (k := k0) h t => by
    simp only [List.map_cons]
    by_cases c : k0 = k
    · rw [if_pos c, if_pos c]
      exact .cons r (denK_map r t)
    · rw [if_neg c, if_neg c]
      exact .cons h (denK_map r t)
theorem denK_end {k : Key} {v : V} {d : D} (r : Den K F m v d) : ∀ {kvs : List (Key × V)} {ks : List (Key × D)}, DenK K F m kvs ks → DenK K F m (kvs ++ [(k, v)]) (ks ++ [(k, d)])
  | _, _, .nil => .cons r .nil
  | _, _, .cons h t => .cons h (denK_end r t)
theorem denK_put {k : Key} {v : V} {d : D} (r : Den K F m v d) {kvs : List (Key × V)} {ks : List (Key × D)} (q : DenK K F m kvs ks) : DenK K F m (putK kvs k v) (putD ks k d) := by
  unfold putK putD
  rw [denK_any q]
  split
  · exact denK_map r q
  · exact denK_end r q
theorem DenK.length {kvs : List (Key × V)} {ks : List (Key × D)} (r : DenK K F m kvs ks) : kvs.length = ks.length := by
  have := congrArg List.length r.keys
  simpa using this
theorem dctAt_ok (S : Sim K P F m h H) {v : V} {d : D} {ks : List (Key × D)} (r : Den K F m v d) (e : dctAt h d = some ks) : ∃ a kvs, v = .ref a ∧ H a = some (.dK kvs) ∧ DenK K F m kvs ks := by
  cases r with
  | dct q r => cases e; exact ⟨_, _, rfl, S.sub _ _ q, r⟩
  | @ref a i q =>
    obtain ⟨ob, k1, k2⟩ := S.own q
    simp only [dctAt, k1] at e
    cases ob with
    | dct ks2 =>
      cases e
      obtain ⟨kvs, h1, h2, _⟩ := k2
      exact ⟨a, kvs, rfl, h1, h2⟩
    | _ => cases e
  | _ => cases e
/-- a hidden object becomes an own one -/
theorem Sim.hidOwnG {p : Addr} {ho : HO} {o : OO} (S : Sim K ((p, ho) :: P) F m h H) (ok : H p = some ho → F p = none → OOk K F (m ++ [p]) H p o) : Sim K P F (m ++ [p]) (h ++ [o]) H := by
  obtain ⟨h1, h2, h3⟩ := S.pin (p, ho) List.mem_cons_self
  have pn := S.pnd
  rw [List.map_cons, List.nodup_cons] at pn
  refine ⟨S.sub, by simp [S.len], ?_, fun a ha => ?_, fun i a u e1 e2 => ?_, fun q hq => ?_, pn.2⟩
  · refine List.nodup_append.mpr ⟨S.nd, by simp, fun a ha b hb z => ?_⟩
    rw [List.mem_singleton.mp hb] at z
    exact h3 (z ▸ ha)
  · rcases List.mem_append.mp ha with ha | ha
    · exact S.live a ha
    · rw [List.mem_singleton.mp ha]
      exact ⟨_, h1⟩
  · by_cases hi : i < m.length
    · rw [List.getElem?_append_left hi] at e1
      rw [List.getElem?_append_left (by rw [← S.len]; exact hi)] at e2
      exact (S.at_ i a u e1 e2).mono ext_new rfl id
    · have lt := (List.getElem?_eq_some_iff.mp e1).1
      have hi2 : i = m.length := by rw [List.length_append, List.length_singleton] at lt; omega
      subst hi2
      rw [S.len] at e2
      simp at e1 e2
      subst e1 e2
      exact ok h1 h2
  · obtain ⟨q1, q2, q3⟩ := S.pin q (List.mem_cons_of_mem _ hq)
    refine ⟨q1, q2, fun z => ?_⟩
    rcases List.mem_append.mp z with z | z
    · exact q3 z
    · exact pn.1 (List.mem_map.mpr ⟨q, hq, List.mem_singleton.mp z⟩)
end
section
variable {X : Cx} {W : WX}
theorem opIxD_h : OpH X.K W opIxD rDGet := by
  intro P F m h H σ Q x y dx dy S r1 r2 fin
  unfold opIxD at fin
  cases e1 : dctAt h dx with
  | none => rw [e1] at fin; exact fin.bad_elim
  | some ks =>
    cases e2 : keyD dy with
    | none => rw [e1, e2] at fin; exact fin.bad_elim
    | some k =>
      rw [e1, e2] at fin
      dsimp only at fin
      cases e : getK ks k with
      | none => rw [e] at fin; exact fin.bad_elim
      | some d =>
        rw [e] at fin
        obtain ⟨a, kvs, rfl, ha, rk⟩ := dctAt_ok S r1 e1
        have := keyD_den r2 e2
        subst this
        obtain ⟨v, h1, h2⟩ := denK_get rk e
        refine ⟨a, v, rfl, ?_, fin.ok S h2⟩
        rw [← h1]
        exact DGet.k ha
theorem de_ixD {a b : Expr} {pos : Pos} {fa fb : SE} (hu : X.A.units + 64 < cLine) (ha : DE X W a fa) (hb : DE X W b fb) (hs : NoSl b := by exact fun _ _ => rfl) : DE X W (.Subscript a b pos) (sBin opIxD fa fb) :=
  PE.of (pe_dget (by omega) ha hb hs) fun _ _ _ q => rd_op opIxD_h q
theorem ds_ixK {o i a : Expr} {fo fi fa : SE} {pos pos' : Pos} (hu : X.A.units + 64 < cLine) (ho : DE X W o fo) (hi : DE X W i fi) (ha : DE X W a fa) (hs : swapsWith a (some (.Subscript o i pos')) pos.line X.env = pure false := by rfl) :
    DS X W (.Assign [.Subscript o i pos'] a pos) (sIxK fo fi fa) := PS.of (ps_dput (by omega) ho hi ha hs) fun Dn σ H => by
  rintro ⟨P, F, m, e, h, S, E, fin⟩
  refine st_seq S E fin fun F1 m1 h1 H1 y dy x1 S1 E1 ry fin1 => ?_
  refine st_seq S1 E1 fin1 fun F2 m2 h2 H2 x dx x2 S2 E2 rx fin2 => ?_
  refine st_seq S2 E2 fin2 fun F3 m3 h3 H3 z dz x3 S3 E3 rz fin3 => ?_
  cases rx with
  | @ref b n e1 =>
    cases ek : keyD dz with
    | none => simp only [ek] at fin3; exact fin3.elim
    | some q =>
      have e2 := pre_get x3.p e1
      obtain ⟨ob, k1, k2⟩ := S3.own e2
      simp only [ek, k1] at fin3
      cases ob with
      | dct ks =>
        dsimp only at fin3
        obtain ⟨kvs, k3, k4, k5⟩ := k2
        by_cases hl : ks.length < big
        · rw [if_pos hl] at fin3
          have := keyD_den rz ek
          subst this
          exact ⟨b, _, rfl, DPut.k k3 (by rw [k4.length]; exact big_lt hl), fin3 σ F3 m3 _ .refl (S3.write e2 k1 k5 ⟨_, upd_same, denK_put (ry.mono (x2.trans x3)) k4, k5⟩) E3⟩
        · rw [if_neg hl] at fin3
          exact fin3.elim
      | _ => exact fin3.elim
  | _ => exact fin3.elim
theorem dc_rd {it : SA} {g : TF} {tt : ST} {kx vx : SE} {vs : List Nat} {σ : St} {H : Hp} {Q : VK} (q : rdG X.K W (Den X.K) (sDcO it g tt kx vx vs) σ H Q) :
    tDc (rdG X.K W (relI X.K) it) (rdTG X.K vs g) (rdG X.K W0 relB tt) (rdG X.K W0 (Den X.K) kx) (rdG X.K W0 (Den X.K) vx) vs σ H Q := by
  obtain ⟨P0, F0, m0, e0, h0, S0, E0, fin0⟩ := q
  refine rd_seq S0 E0 fin0 fun F1 m1 h1 H1 J ds x1 S1 E1 wk fin1 => ?_
  intro D0 hD
  let go := dcGo g tt kx vx (wipeD e0 vs)
  let fl : List (Key × D) → OH → Res D := fun acc h2 => .ok (.ref h2.length) (h2 ++ [.dct acc])
  let Wd : Nat → Nat → Hp → Prop := fun i n H => ∃ F m h acc ws, Sim X.K ((D0, .dK ws) :: P0) F m h H ∧ Ext F1 m1 F m ∧ DenK X.K F m ws acc ∧ n = (ds.drop i).length ∧ FinG X.K P0 W σ (Den X.K) Q F m ((go (ds.drop i) h acc).bind fl)
  refine ⟨Wd, ⟨ds.length, F1, m1, h1, [], [], S1.hid hD, .refl, .nil, by simp, by simpa using fin1⟩, ?_⟩
  rintro i n H ⟨F, m, h, acc, ws, S, x, ra, rfl, fin⟩
  obtain ⟨w1, w2⟩ := wk _ F m h H i x S
  by_cases hi : i < ds.length
  · obtain ⟨go1, yl⟩ := w1 hi
    have dr : ds.drop i = ds[i] :: ds.drop (i + 1) := List.drop_eq_getElem_cons hi
    rw [dr] at fin
    refine .inr ⟨go1, fun H' => Wd (i + 1) (ds.drop (i + 1)).length H', fun H' q => ⟨_, by rw [dr]; exact Nat.lt_succ_self _, q⟩, fun y H' hy => ?_⟩
    obtain ⟨F2, x2, S2, d, e1, r⟩ := yl y H' hy
    have ed : d = ds[i] := by
      rw [List.getElem?_eq_getElem hi] at e1
      exact (Option.some.inj e1).symm
    subst ed
    simp only [go, dcGo] at fin
    have E2 : EnvR X.K F2 m (L2.wipe σ vs) (wipeD e0 vs) := ((E1.mono (x.trans x2))).wipe vs
    cases q : g ds[i] (wipeD e0 vs) h with
    | none => rw [q] at fin; exact fin.elim
    | some e2 =>
      rw [q] at fin
      dsimp only at fin
      refine ⟨_, F2, m, wipeD e0 vs, h, _, S2, E2, r, e2, q, fun σ' E' wi => ⟨by rw [wi, wipe_idem], _, F2, m, e2, h, S2, E', ?_⟩⟩
      cases qt : tt e2 h with
      | bad => rw [qt] at fin; exact fin.elim
      | exc C p h3 => rw [qt] at fin; exact fin.elim
      | ok b h3 =>
        rw [qt] at fin
        simp only [Res.noX, Res.bind_ok] at fin
        intro b' F3 m3 H3 x3 S3 rb
        have rb : b' = b := rb
        subst rb
        cases b' with
        | false =>
          simp only [Bool.false_eq_true, if_false] at fin ⊢
          exact ⟨F3, m3, h3, acc, ws, S3, x.trans (x2.trans x3), ra.mono (x2.trans x3), rfl, FinG.weak (x2.trans x3) fin⟩
        | true =>
          simp only [if_true] at fin ⊢
          refine ⟨_, F3, m3, e2, h3, S3, E'.mono x3, ?_⟩
          cases qe : kx e2 h3 with
          | bad => rw [qe] at fin; exact fin.elim
          | exc C p h4 => rw [qe] at fin; exact fin.elim
          | ok y h4 =>
            rw [qe] at fin
            simp only [Res.noX, Res.bind_ok] at fin
            intro v F4 m4 H4 x4 S4 rv
            refine ⟨_, F4, m4, e2, h4, S4, (E'.mono x3).mono x4, ?_⟩
            cases qv : vx e2 h4 with
            | bad => rw [qv] at fin; exact fin.elim
            | exc C p h5 => rw [qv] at fin; exact fin.elim
            | ok z h5 =>
              rw [qv] at fin
              simp only [Res.noX, Res.bind_ok] at fin
              intro v2 F5 m5 H5 x5 S5 rv2
              have xx := x2.trans (x3.trans (x4.trans x5))
              cases ek : keyD y with
              | none => rw [ek] at fin; exact fin.elim
              | some k =>
                rw [ek] at fin
                dsimp only at fin
                by_cases hz : acc.length < big
                · rw [if_pos hz] at fin
                  refine ⟨ws, k, keyD_den rv ek, (S5.pin _ List.mem_cons_self).1, by rw [ra.length]; exact big_lt hz, F5, m5, h5, putD acc k z, putK ws k v2, S5.hidSet, x.trans xx, denK_put rv2 (ra.mono xx), rfl, FinG.weak xx fin⟩
                · rw [if_neg hz] at fin
                  exact fin.elim
  · have hi2 : ds.length ≤ i := Nat.le_of_not_lt hi
    rw [List.drop_eq_nil_of_le hi2] at fin
    refine .inl ⟨w2 hi2, ?_⟩
    simp only [go, dcGo, Res.bind_ok, fl] at fin
    exact FinG.okX fin ext_new (S.hidOwnG fun e1 e2 => ⟨ws, e1, ra.mono ext_new, e2⟩) (.ref (by rw [← S.len]; simp))
theorem de_dcO {kx vx tg iter : Expr} {ifs : List Expr} {scope : Scope} (ow : List (Str × Nat)) {pos : Pos} {it : SA} {g : TF} {tt : ST} {ke ve : SE} (hc : X.calm = true) (hN : X.N.Nodup) (hi : DI X W tg iter it) (ok : BlkOk X.N X.env.scope scope ow)
    (hg : ∀ (s : Shared) (H : Hp) (C : Addr) (cl : List (Str × Addr)) (fp : List Addr), DG (X.blk s H scope (compEnvC scope cl C X.env) fp) (ow.map (·.2)) tg g) (ht : ∀ (s : Shared) (H : Hp) (C : Addr) (cl : List (Str × Addr)) (fp : List Addr), DTs (X.blk s H scope (compEnvC scope cl C X.env) fp) W0 ifs tt)
    (hk : ∀ (s : Shared) (H : Hp) (C : Addr) (cl : List (Str × Addr)) (fp : List Addr), DE (X.blk s H scope (compEnvC scope cl C X.env) fp) W0 kx ke)
    (hv : ∀ (s : Shared) (H : Hp) (C : Addr) (cl : List (Str × Addr)) (fp : List Addr), DE (X.blk s H scope (compEnvC scope cl C X.env) fp) W0 vx ve) (hs : ∀ x, foldedSetIterable iter X.env x = pure x := by intro _; rfl) :
    DE X W (.DictComp kx vx [⟨tg, iter, ifs, 0⟩] scope pos) (sDcO it g tt ke ve (ow.map (·.2))) := PE.of (pe_dc hc hN hi ok hg ht hk hv hs) fun σ H Q => dc_rd
end
section
variable {PD : D → OH → Prop} {N C B : Env' → OH → Prop} {R : D → OH → Prop}
def lkD (o : Option OO) (P : List (Key × D) → Prop) : Prop := match o with
  | some (.dct ks) => P ks
  | _ => False
@[simp] theorem lkD_dct (ks : List (Key × D)) (P : List (Key × D) → Prop) : lkD (some (.dct ks)) P = P ks := rfl
@[simp] theorem SW_ixK (o i v : SE) (e : Env') (h : OH) : (sIxK o i v e h).W N C B R = (v e h).W fun y h1 => (o e h1).W fun x h2 => (i e h2).W fun k h3 => isR x fun n => lkS (keyD k) fun q => lkD h3[n]? fun ks => if ks.length < big then N e (h3.set n (.dct (putD ks q y))) else False := by
  unfold sIxK
  simp only [W_toS]
  congr; funext y h1; congr; funext x h2; congr; funext k h3
  cases x with
  | ref n =>
    simp only [isR_ref]
    cases keyD k with
    | none => rfl
    | some q =>
      simp only [lkS_some]
      cases h3[n]? with
      | none => rfl
      | some ob => cases ob <;> first | rfl | (simp only [lkD_dct]; split <;> rfl)
  | _ => rfl
theorem W_ixD {a b : D} {h : OH} {ks : List (Key × D)} {k : Key} {d : D} (e1 : dctAt h a = some ks) (e2 : keyD b = some k) (g : getK ks k = some d) : (opIxD a b h).W PD = PD d h := by
  unfold opIxD
  rw [e1, e2]
  simp [g]
@[simp] theorem dctAt_dct (h : OH) (ks : List (Key × D)) : dctAt h (.dct ks) = some ks := rfl
theorem dctAt_ref {h : OH} {i : Nat} {ks : List (Key × D)} (e : h[i]? = some (.dct ks)) : dctAt h (.ref i) = some ks := by
  simp [dctAt, e]
@[simp] theorem keyD_int (i : Int) : keyD (.int i) = some (.inl i) := rfl
@[simp] theorem keyD_str (x : Str) : keyD (.str x) = some (.inr x) := rfl
@[simp] theorem W_dctO (e : Env') (h : OH) : (sDctO e h).W PD = PD (.ref h.length) (h ++ [.dct []]) := rfl
@[simp] theorem W_dcO (it : SA) (g : TF) (tt : ST) (kx vx : SE) (vs : List Nat) (e : Env') (h : OH) : (sDcO it g tt kx vx vs e h).W PD = (it e h).W fun ds h1 => (dcGo g tt kx vx (wipeD e vs) ds h1 []).W fun acc h2 => PD (.ref h2.length) (h2 ++ [.dct acc]) := by
  unfold sDcO
  simp only [W_bind, W_ok]
end
end HR
set_option Elab.async false
set_option linter.all false
set_option maxRecDepth 20000
set_option maxHeartbeats 1000000
/-! == of instances whose class has no __eq__ of its own; an except suite of any form -/
namespace HR
open PySem L2 RZ PySem.Spec PyProof.Rows
/-! ### x == y, x an instance, y of the same class or None -/
structure EqC (K : PySem.W.Frag) (C : Addr) : Prop where
  mro : PySem.W.mroIn K C (.type "object") = some true
  fnd : PySem.W.findIn K (.ref C) "__eq__" = some (some (.builtin "object.__eq__"))
def eqcOk (K : PySem.W.Frag) (es : List String) : Bool := es.all fun C => decide (PySem.W.mroIn K (He.ga K (Str.ofString C)) (.type "object") = some true) && decide (PySem.W.findIn K (.ref (He.ga K (Str.ofString C))) "__eq__" = some (some (.builtin "object.__eq__")))
theorem eqcOk_at {K : PySem.W.Frag} {es : List String} (h : eqcOk K es = true) {C : String} (hC : C ∈ es) : EqC K (He.ga K (Str.ofString C)) := by
  unfold eqcOk at h
  rw [List.all_eq_true] at h
  have := h C hC
  simp only [Bool.and_eq_true, decide_eq_true_eq] at this
  exact ⟨this.1, this.2⟩
section
variable {M : Model} {prog : Program} {w : World} {A : Around} {E : Value → Shared → Prop} {s : Shared} {K : PySem.W.Frag} {x y C : Addr} {ox oy : Obj} {od od' : Option Obj}
theorem oeq_same {Q : Value → Shared → Prop} (X : K.In s.heap) (I : PySem.W.InstAt s.heap x ox C od) (c : EqC K C) (q : Q (.bool true) s) : wpAny (model prog w) A (call (.builtin "object.__eq__") [.ref x, .ref x]) Q E s :=
  wpAny_call (codeAny_call_builtin F.cmp_object.eq.plain F.cmpEntry_eq (PySem.W.check_slot F.cmpKind_eq F.cmpSplit_eq (I.type.andThen (PySem.W.looks_mroIn X c.mro)) (F.cmpArgs_eq _ _) (objEq_entry_same q)))
theorem oeq_other {Q : Value → Shared → Prop} (X : K.In s.heap) (I : PySem.W.InstAt s.heap x ox C od) (J : PySem.W.InstAt s.heap y oy C od') (c : EqC K C) (ne : x ≠ y) (q : Q .notImplemented s) : wpAny (model prog w) A (call (.builtin "object.__eq__") [.ref x, .ref y]) Q E s :=
  wpAny_call (codeAny_call_builtin F.cmp_object.eq.plain F.cmpEntry_eq (PySem.W.check_slot F.cmpKind_eq F.cmpSplit_eq (I.type.andThen (PySem.W.looks_mroIn X c.mro)) (F.cmpArgs_eq _ _) (objEq_entry_other ne I.1 J.1 (by rw [I.cls]; exact fun z => nomatch z) q)))
theorem ieq_same {Q : Value → Shared → Prop} (hu : A.units < cLine) (X : K.In s.heap) (I : PySem.W.InstAt s.heap x ox C od) (c : EqC K C) (q : Q (.bool true) s) : wpAny (model prog w) A (compareOp .Eq (.ref x) (.ref x)) Q E s := by
  show wpAny _ _ (richCompare .Eq (.ref x) (.ref x)) Q E s
  simp only [richCompare, PySem.cmpInfo_Eq, oneThing_ref]
  refine wpAny_holding (wpAny_bind (wpAny_cRoomFor hu ?_))
  refine wpAny_bind (I.type.here (wpAny_bind (I.type.here ?_)))
  rw [if_neg (by simp)]
  refine wpAny_bind (wpAny_pure ?_)
  simp only [Bool.false_eq_true, if_false]
  refine wpAny_bind (m := tryCompare (.ref x) _ (.ref x)) ?_
  unfold tryCompare
  exact wpAny_bind (HN.ifBound_objEq X I c.fnd (oeq_same X I c (wpAny_pure (wpAny_pure q))))
theorem try_other (X : K.In s.heap) (I : PySem.W.InstAt s.heap x ox C od) (J : PySem.W.InstAt s.heap y oy C od') (c : EqC K C) (ne : x ≠ y) : wpAny (model prog w) A (tryCompare (.ref x) "__eq__" (.ref y)) (fun r s' => r = none ∧ s' = s) E s := by
  unfold tryCompare
  exact wpAny_bind (HN.ifBound_objEq X I c.fnd (oeq_other X I J c ne (wpAny_pure ⟨rfl, rfl⟩)))
theorem ieq_other {Q : Value → Shared → Prop} (hu : A.units < cLine) (X : K.In s.heap) (I : PySem.W.InstAt s.heap x ox C od) (J : PySem.W.InstAt s.heap y oy C od') (c : EqC K C) (ne : x ≠ y) (q : Q (.bool false) s) : wpAny (model prog w) A (compareOp .Eq (.ref x) (.ref y)) Q E s := by
  show wpAny _ _ (richCompare .Eq (.ref x) (.ref y)) Q E s
  simp only [richCompare, PySem.cmpInfo_Eq, oneThing_ref]
  refine wpAny_holding (wpAny_bind (wpAny_cRoomFor hu ?_))
  refine wpAny_bind (I.type.here (wpAny_bind (J.type.here ?_)))
  rw [if_neg (by simp)]
  refine wpAny_bind (wpAny_pure ?_)
  simp only [Bool.false_eq_true, if_false, Bool.not_false, if_true]
  refine wpAny_bind (m := tryCompare (.ref x) _ (.ref y)) (wpAny_mono (try_other X I J c ne) (fun r s1 z => ?_) fun _ _ e => e)
  obtain ⟨z1, z2⟩ := z
  subst z1
  subst z2
  refine wpAny_bind (m := tryCompare (.ref y) _ (.ref x)) (wpAny_mono (try_other X J I c ne.symm) (fun r s2 z => ?_) fun _ _ e => e)
  obtain ⟨z1, z2⟩ := z
  subst z1
  subst z2
  exact wpAny_bind (wpAny_rule (wpAny_bind (wpAny_isSame_ref_other ne I.1 J.1 (by rw [I.cls]; exact fun z => nomatch z) (wpAny_pure q))))
end
def rEqI (K : PySem.W.Frag) : R2 := fun x y H Q => ∃ (a C dx : Addr) (fs : List (Str × V)), x = .ref a ∧ H a = some (.ins C dx fs) ∧ EqC K C ∧
  ((y = .non ∧ Q (.bl false) H) ∨ ∃ (b dy : Addr) (gs : List (Str × V)), y = .ref b ∧ H b = some (.ins C dy gs) ∧ Q (.bl (decide (a = b))) H)
def opEqI (es : List String) : D → D → OH → Res D := fun a b h => match a with
  | .ref i => (match h[i]? with
    | some (.ins C _) => if C ∈ es then (match b with
      | .non => .ok (.bl false) h
      | .ref j => (match h[j]? with
        | some (.ins C' _) => if C' = C then .ok (.bl (decide (i = j))) h else .bad
        | _ => .bad)
      | _ => .bad) else .bad
    | _ => .bad)
  | _ => .bad
section
variable {X : Cx} {W : WX}
theorem op_eqI (hu : X.A.units + 64 < cLine) : OpR X (compareOp .Eq) (rEqI X.K) := by
  intro pins s σ H x y v u Q I rx ry h
  obtain ⟨a, C, dx, fs, rfl, ha, c, h⟩ := h
  cases rx
  obtain ⟨mA, O, _⟩ := ins_get I.hok ha
  obtain ⟨od, J, _⟩ := O.look
  rcases h with ⟨rfl, q⟩ | ⟨b, dy, gs, rfl, hb, q⟩
  · cases ry
    show wpAny _ _ (richCompare .Eq (.ref a) .none) _ _ _
    exact HN.rc_none (by omega) I.kIn J c.mro c.fnd X.prog X.w _ _ ⟨.bl false, H, I, rfl, q⟩
  · cases ry
    by_cases e : a = b
    · subst e
      exact ieq_same (by omega) I.kIn J c ⟨.bl true, H, I, rfl, by simpa using q⟩
    · obtain ⟨mB, O2, _⟩ := ins_get I.hok hb
      obtain ⟨od2, J2, _⟩ := O2.look
      exact ieq_other (by omega) I.kIn J J2 c e ⟨.bl false, H, I, rfl, by simpa [e] using q⟩
theorem opEqI_h {es : List String} (T : eqcOk X.K es = true) : OpH X.K W (opEqI es) (rEqI X.K) := by
  intro P F m h H σ Q x y dx dy S r1 r2 fin
  unfold opEqI at fin
  cases r1 with
  | @ref a i e1 =>
    obtain ⟨ob, k1, k2⟩ := S.own e1
    dsimp only at fin
    rw [k1] at fin
    cases ob with
    | ins C fs =>
      dsimp only at fin
      obtain ⟨dx, fv, h1, h2, h3, h4⟩ := k2
      by_cases hC : C ∈ es
      · rw [if_pos hC] at fin
        refine ⟨a, _, dx, fv, rfl, h1, eqcOk_at T hC, ?_⟩
        cases r2 with
        | non => exact .inl ⟨rfl, fin.ok S (.bl _)⟩
        | @ref b j e2 =>
          obtain ⟨ob2, k3, k4⟩ := S.own e2
          dsimp only at fin
          rw [k3] at fin
          cases ob2 with
          | ins C' gs =>
            dsimp only at fin
            by_cases hc : C' = C
            · rw [if_pos hc] at fin
              subst hc
              obtain ⟨dy, gv, g1, g2, g3, g4⟩ := k4
              have same : decide (a = b) = decide (i = j) := by
                by_cases q : i = j
                · subst q
                  rw [e1] at e2
                  cases e2
                  simp
                · have : a ≠ b := fun z => q (nodup_at S.nd (z ▸ e1) e2)
                  simp [q, this]
              exact .inr ⟨b, dy, gv, rfl, g1, by rw [same]; exact fin.ok S (.bl _)⟩
            · rw [if_neg hc] at fin
              exact fin.bad_elim
          | _ => exact fin.bad_elim
        | _ => exact fin.bad_elim
      · rw [if_neg hC] at fin
        exact fin.bad_elim
    | _ => exact fin.bad_elim
  | _ => exact fin.bad_elim
theorem dt_eqI {es : List String} {a b : Expr} {pos : Pos} {fa fb : SE} (hu : X.A.units + 64 < cLine) (T : eqcOk X.K es = true) (ha : DE X W a fa) (hb : DE X W b fb) : DT X W (.Compare a [.Eq] [b] pos) (sTest (sBin (opEqI es) fa fb)) := dt_cmp (op_eqI hu) (opEqI_h T) (nomark _) ha hb
end
section
variable {PD : D → OH → Prop} {es : List String} {h : OH} {i j : Nat} {C : String} {fs gs : List (String × D)}
theorem W_eqI_non (e : h[i]? = some (.ins C fs)) (hC : C ∈ es) : (opEqI es (.ref i) .non h).W PD = PD (.bl false) h := by
  unfold opEqI
  simp [e, hC]
theorem W_eqI_ref (e : h[i]? = some (.ins C fs)) (hC : C ∈ es) (e2 : h[j]? = some (.ins C gs)) : (opEqI es (.ref i) (.ref j) h).W PD = PD (.bl (decide (i = j))) h := by
  unfold opEqI
  simp [e, hC, e2]
end
/-! ### facts of the head -/
def SaysE (fa : List He.Fa) (fn : List He.DefD) (xs ys es : List String) (K : PySem.W.Frag) : Prop := SaysX fa fn xs ys K ∧ eqcOk K es = true
def obsE (fa : List He.Fa) (fn : List He.DefD) (xs ys es : List String) (K : PySem.W.Frag) : (He.AlD × Bool) × Bool := (obsX fa fn xs ys K, eqcOk K es)
def obsEG (n : Nat) (fa : List He.Fa) (fn : List He.DefD) (xs ys es : List String) (g : Addr → Option Obj) : (He.AlD × Bool) × Bool := obsE fa fn xs ys es (He.frG g (sysModules :: PySem.cStatics :: He.asD g n))
def hookE (n : Nat) (fa : List He.Fa) (fn : List He.DefD) (xs ys es : List String) : PySem.W.Hook where
  α := (He.AlD × Bool) × Bool
  obs := fun st => obsEG n fa fn xs ys es st.heap.get?
  val := fun _ => ((He.valD fn, true), true)
  says := fun _ hp => ∃ K : PySem.W.Frag, K.In hp ∧ SaysE fa fn xs ys es K
  of := fun _ _ q => ⟨_, He.frG_in, congrArg Prod.fst q, congrArg Prod.snd q⟩
  keeps := fun _ _ _ ⟨K, i, q⟩ st => ⟨K, PySem.W.Frag.In.keeps i st, q⟩
theorem obsEG_eq {n : Nat} {fa : List He.Fa} {fn : List He.DefD} {xs ys es : List String} {g : Addr → Option Obj} {st : Shared} (q : ∀ a, g a = st.heap.get? a) : obsEG n fa fn xs ys es g = (hookE n fa fn xs ys es).obs st := by
  cases (funext q : g = st.heap.get?)
  rfl
section
variable {fa : List He.Fa} {fn : List He.DefD} {xs ys es : List String} {K : PySem.W.Frag}
theorem SaysE.fact (c : SaysE fa fn xs ys es K) (i : Nat) {f : He.Fa} (h : fa[i]? = some f := by rfl) : f.ok K = true := c.1.fact i h
theorem SaysE.def_ (c : SaysE fa fn xs ys es K) (i : Nat) {d : He.DefD} (h : fn[i]? = some d := by rfl) : ∃ fd, FunD K d.name d.qual d.params d.body d.scope (d.dvs K) (d.kws K) (He.fAd K d.at_) fd := c.1.def_ i h
theorem SaysE.xf (c : SaysE fa fn xs ys es K) : XF K xs ys := c.1.xf
theorem SaysE.sm (c : SaysE fa fn xs ys es K) : modOk K = true := c.1.sm
theorem SaysE.eq (c : SaysE fa fn xs ys es K) : eqcOk K es = true := c.2
end
/-! ### try: .. except X as n: a suite that reads n -/
def endS (i : Nat) (Dn : Ends) : Ends := { nx := fun σ H => Dn.nx (σ.set i none) H, rt := Dn.rt, bk := fun σ H => Dn.bk (σ.set i none) H, ct := fun σ H => Dn.ct (σ.set i none) H }
def wSuite (K : PySem.W.Frag) (c : Value) (i : Nat) (ts : TS) (Dn : Ends) : WX := fun cls d σ H =>
  PySem.W.exmOne K cls c = some true ∧ ∀ a, H a = none → ts (endS i Dn) (σ.set i (some (.ref a))) (upd H a (HexZ cls d a))
theorem inv_unpin {X : Cx} {a : Addr} {q : Addr × Obj} {l : List (Addr × Obj)} {σ : L2.St} {H : Hp} {s : Shared} (okX : X.Ok) (I : Inv (X.suite a (q :: l)) [] σ H s) : Inv (X.suite a l) [] σ H s :=
  ⟨okX.suite _ _, I.os, I.bare, I.base, I.loc, I.cell, I.free, I.freeC, fun p hp => I.pin p (by
    rw [List.append_nil] at hp ⊢
    exact List.mem_cons_of_mem _ hp), I.hok, I.len⟩
theorem inv_leaveS {X : Cx} {a : Addr} {pn0 pn' : List (Addr × Obj)} {σ : L2.St} {H : Hp} {s : Shared} (okX : X.Ok) (I : Inv (X.suite a (X.pn ++ pn0)) pn' σ H s) : Inv X pn0 σ H s :=
  ⟨okX, I.os, I.bare, I.base, I.loc, I.cell, I.free, I.freeC, fun p hp => I.pin p (List.mem_append_left _ hp), I.hok, I.len⟩
section
variable {X : Cx} {x n : Str} {c : Value} {i : Nat} {body suite : List Stmt} {st0 : Stmt} {np hpos pos : Pos} {tb : WX → TS} {ts : TS}
theorem ps_try_suite (hs : X.stack = X.env :: X.outer) (hf : X.env.frame = some X.env.locals) (hex : X.ex = []) (hN : X.N.Nodup) (hi : X.N[i]? = some n) (hln : X.env.kindOf n = some .local) (hc : Names X x c)
    (hb : ∀ (W : WX) (pn : List (Addr × Obj)) (xe : Value → Shared → Prop), Takes (X.tr pn xe) W → PassesOwn (model X.prog X.w) X.A X.env xe → PSs (X.tr pn xe) body (tb W))
    (hsu : ∀ (a : Addr) (pn : List (Addr × Obj)), PSs (X.suite a pn) (st0 :: suite) ts) :
    PS X (.Try body [.ExceptHandler (some (.Name x np)) (some n) (st0 :: suite) hpos] [] [] pos) (fun Dn σ H => tb (wSuite X.K c i ts Dn) Dn σ H) := by
  refine ⟨fun pn0 st σ0 H0 Dn Iv rd => wpAny_Try_except ?_⟩
  have okX := Iv.ok
  have frX : X.A.frames = some (X.env :: X.outer) := okX.frames.trans (congrArg some hs)
  have caught : ∀ (u : Value) (s1 : Shared) (xe : Value → Shared → Prop), XE (X.tr (X.pn ++ pn0) xe) (wSuite X.K c i ts Dn) u s1 →
      wpAny (model X.prog X.w) X.A (noteFrame u X.env) (fun _ s2 => wpAny (model X.prog X.w) X.A (setFlight u none) (fun _ s3 =>
        wpAny (model X.prog X.w) X.A (handleBy u X.env [.ExceptHandler (some (.Name x np)) (some n) (st0 :: suite) hpos]) (SP X pn0 Dn) X.xe s3) X.xe s2) X.xe s1 := by
    intro u s1 xe ⟨a, B, sI, pn1, σ1, H1, cls, d, eu, J0, inB, grew, sky, na, osE, bareE, hit, fin⟩
    cases eu
    have J : Inv X pn0 σ1 H1 sI := J0.ofTry okX
    have sky1 : Sky B (X.env :: X.outer) a (Zc cls d) X.env.locals s1.heap := (show X.stack = _ from hs) ▸ sky
    refine Sky.land Zc.steady frX hf sky1 fun g1 fly1 more1 => ?_
    have J1 := J.landed inB fly1.1 (grew.trans more1) osE bareE (s' := { s1 with heap := g1 })
    obtain ⟨ob1, ws1, at1, zc1, dt1⟩ := fly1.there
    have noFr : a ∉ frs (X.env :: X.outer) := fun z => by
      obtain ⟨_, o1, q1, q2⟩ := fly1.2.2.1.mem z
      rw [at1] at q1
      cases q1
      exact q2 _ dt1
    have notL : a ≠ X.env.locals := fun z => noFr (List.mem_filterMap.mpr ⟨X.env, List.mem_cons_self, by rw [hf, z]⟩)
    have notF : a ∉ X.fs := fun z => noFr (by
      obtain ⟨e1, q1, q2⟩ := List.mem_filterMap.mp z
      exact List.mem_filterMap.mpr ⟨e1, List.mem_cons_of_mem _ q1, q2⟩)
    have newI : sI.heap.get? a = none := by
      cases q : sI.heap.get? a with
      | none => rfl
      | some o1 =>
        have q1 := inB a o1 q (by rw [show (X.tr (X.pn ++ pn0) xe).stack = X.env :: X.outer from hs]; exact noFr)
        rw [fly1.2.1] at q1
        cases q1
    have new0 : X.s_0.heap.get? a = none := by
      cases q : X.s_0.heap.get? a with
      | none => rfl
      | some o1 =>
        obtain ⟨o2, q1⟩ := J.base.there a o1 q (by rw [hex]; exact List.not_mem_nil)
        rw [newI] at q1
        cases q1
    have newP : ∀ p ∈ X.pn ++ pn0, p.1 ≠ a := fun p hp z => by
      have q1 := (J.pin p hp).1
      rw [z, newI] at q1
      cases q1
    have S1 := J1.suite at1 dt1 na notL notF
    refine wpAny_handleBy_cons (codeAny_handlers_test ?_) (fun z => nomatch z)
    have ty1 : PySem.W.Looks (model X.prog X.w) g1 (typeOf (.ref a)) cls := fun _ _ _ _ k q => wpAny_typeOf_ref (k _ _ at1) (by rw [zc1.1]; exact q)
    have hit1 := PySem.W.exm_one (M := model X.prog X.w) J1.kIn ty1 hit
    have named : ∀ {Q E : Value → Shared → Prop}, Q c { s1 with heap := g1 } → wpAny (model X.prog X.w) (X.A.mark (some (.ref a))) (eval (.Name x np) X.env) Q E { s1 with heap := g1 } := by
      intro Q E q
      obtain ⟨k1, k2, k3 | ⟨k3, k4, k5⟩⟩ := hc
      · exact ld_glob S1 k1 k3 q k2
      · exact ld_blt S1 k1 k3 k4 q k5 k2
    refine named (hit1.here (codeAny_handlers_suite_as ?_))
    refine HandSPX.lands_againZ fly1 fun g2 fly2 more2 => ?_
    have J2 := J.landed inB fly2.1 ((grew.trans more1).trans more2) osE bareE (s' := { s1 with heap := g2 })
    obtain ⟨ob2, ws2, at2, zc2, dt2⟩ := fly2.there
    have S2 := J2.suite at2 dt2 na notL notF
    refine store_ok (X := X.suite a ((a, ob2) :: (X.pn ++ pn0))) (v := .ref a) S2 hN hi (.inl hln) rfl (fun s2 S3 => ?_) (.inr hln)
    obtain ⟨e1, e2, _, _, e5⟩ := S3.pin (a, ob2) (by rw [List.append_nil]; exact List.mem_cons_self)
    have S4 : Inv (X.suite a (X.pn ++ pn0)) [] _ H1 s2 := inv_unpin okX S3
    have T := inv_track (X := X.suite a (X.pn ++ pn0)) S4 e2 new0 (by rw [List.append_nil]; exact newP) notL (fun y cl z1 z2 => by
        obtain ⟨v, o1, q1, q2⟩ := S3.cell y cl z1
        rw [z2] at q1
        rw [show s2.heap.get? a = some ob2 from e1] at q1
        cases q1
        exact e5 v q2) (hexZ_ok (cls := cls) (d := d) e1 zc2 dt2)
    refine wpAny_mono ((hsu a (X.pn ++ pn0)).run [] s2 _ _ (endS i Dn) T (fin a na)) (fun fl s3 done => ?_) fun _ _ z => z.elim
    have end_ : ∀ {σ6 : L2.St} {H6 : Hp} {Q : Shared → Prop}, Inv (X.suite a (X.pn ++ pn0)) [] σ6 H6 s3 → (∀ s7, Inv X pn0 (σ6.set i none) H6 s7 → Q s7) →
          wpAny (model X.prog X.w) X.A (do bindName X.env n .none; unbindBehindTheSuite X.env n hpos) (fun _ s7 => Q s7) X.xe s3 := fun {σ6 H6 Q} S6 hq => gone_ok (inv_leaveS okX S6) hN hi hln hq
    cases fl with
    | next =>
      obtain ⟨σ3, H3, S6, q⟩ := done
      exact end_ S6 fun s7 J7 => ⟨_, _, J7, q⟩
    | brk =>
      obtain ⟨σ3, H3, S6, q⟩ := done
      exact end_ S6 fun s7 J7 => ⟨_, _, J7, q⟩
    | cont =>
      obtain ⟨σ3, H3, S6, q⟩ := done
      exact end_ S6 fun s7 J7 => ⟨_, _, J7, q⟩
    | ret v =>
      obtain ⟨v3, σ3, H3, S6, r3, q⟩ := done
      exact end_ S6 fun s7 J7 => ⟨_, _, _, J7, r3, q⟩
  refine wpAny_mono ((hb (wSuite X.K c i ts Dn) (X.pn ++ pn0) _ (fun u s1 w => caught u s1 _ w) PassesOwn.looking).run [] st σ0 H0 Dn (Iv.toTry _) rd) (fun fl s1 done => ?_) fun _ _ z => z
  cases fl with
  | next => obtain ⟨σ1, H1, J, q⟩ := done; exact wpAny_execs_nil ⟨σ1, H1, J.ofTry okX, q⟩
  | brk => obtain ⟨σ1, H1, J, q⟩ := done; exact ⟨σ1, H1, J.ofTry okX, q⟩
  | cont => obtain ⟨σ1, H1, J, q⟩ := done; exact ⟨σ1, H1, J.ofTry okX, q⟩
  | ret v => obtain ⟨v1, σ1, H1, J, r, q⟩ := done; exact ⟨v1, σ1, H1, J.ofTry okX, r, q⟩
end
def suiteEnd (i : Nat) : SRes → SRes
  | .nx e h => .nx (e.set i none) h
  | .bk e h => .bk (e.set i none) h
  | .ct e h => .ct (e.set i none) h
  | .rt d h => .rt d h
  | .exc _ _ _ _ => .bad
  | .bad => .bad
/-- try: b, except B as n: s; xs: the classes that are caught (no other comes) -/
def sTryS (xs : List String) (i : Nat) (b s : SS) : SS := fun e h => match b e h with
  | .exc C none e1 h1 => if C ∈ xs then suiteEnd i (s (e1.set i (some (.exc C))) h1) else .bad
  | .exc C (some q) e1 h1 => if C ∈ xs then suiteEnd i (s (e1.set i (some (.excf C q.1 q.2))) h1) else .bad
  | r => r
section
variable {X : Cx} {W : WX}
theorem finS_end {P : Pins} {Dn : Ends} {F : Hp} {m : List Addr} {i : Nat} {r : SRes} (h : FinS X.K P W Dn F m (suiteEnd i r)) : FinS X.K P W0 (endS i Dn) F m r := by
  cases r with
  | nx e h1 => exact fun σ F' m' H' x S E => h _ F' m' H' x S (E.clr i)
  | bk e h1 => exact fun σ F' m' H' x S E => h _ F' m' H' x S (E.clr i)
  | ct e h1 => exact fun σ F' m' H' x S E => h _ F' m' H' x S (E.clr i)
  | rt d h1 => exact fun v F' m' H' x S r => h v F' m' H' x S r
  | exc C p e h1 => exact h.elim
  | bad => exact h
theorem ds_tryS {B : String} {x n : Str} {xs : List String} (i : Nat) {body suite : List Stmt} {st0 : Stmt} {np hpos pos : Pos} {fb fs : SS} (hs : X.stack = X.env :: X.outer) (hf : X.env.frame = some X.env.locals) (hex : X.ex = []) (hN : X.N.Nodup) (hi : X.N[i]? = some n) (hln : X.env.kindOf n = some .local)
    (hx : x = Str.ofString B) (hc : Names X x (.ref (He.ga X.K (Str.ofString B)))) (hm : ∀ C ∈ xs, PySem.W.exmOne X.K (.ref (He.ga X.K (Str.ofString C))) (.ref (He.ga X.K (Str.ofString B))) = some true)
    (hb : ∀ (W : WX) (pn : List (Addr × Obj)) (xe : Value → Shared → Prop), Takes (X.tr pn xe) W → PassesOwn (model X.prog X.w) X.A X.env xe → DSs (X.tr pn xe) W body fb)
    (hsu : ∀ (a : Addr) (pn : List (Addr × Obj)), DSs (X.suite a pn) W0 (st0 :: suite) fs) :
    DS X W (.Try body [.ExceptHandler (some (.Name x np)) (some n) (st0 :: suite) hpos] [] [] pos) (sTryS xs i fb fs) :=
  PS.of (ps_try_suite (tb := fun W => rdS X.K W fb) (ts := rdS X.K W0 fs) hs hf hex hN hi hln hc hb hsu) fun Dn σ H => by
    rintro ⟨P, F, m, e, h, S, E, fin⟩
    refine ⟨P, F, m, e, h, S, E, ?_⟩
    unfold sTryS at fin
    cases q : fb e h with
    | nx e1 h1 => rw [q] at fin; exact fin
    | bk e1 h1 => rw [q] at fin; exact fin
    | ct e1 h1 => rw [q] at fin; exact fin
    | rt d h1 => rw [q] at fin; exact fin
    | bad => rw [q] at fin; exact fin.elim
    | exc C p e1 h1 =>
      rw [q] at fin
      cases p with
      | some z =>
        dsimp only at fin
        by_cases hC : C ∈ xs
        · rw [if_pos hC] at fin
          rintro od σ1 F1 m1 H1 x1 S1 ⟨dx, v, rfl, e2, rv⟩ E1
          refine ⟨hm C hC, fun a na => ?_⟩
          have y : Ext F1 m1 (upd F1 a (HexZ (.ref (He.ga X.K (Str.ofString C))) (some dx) a)) m1 := S1.extF na
          have r : Den X.K (upd F1 a (HexZ (.ref (He.ga X.K (Str.ofString C))) (some dx) a)) m1 (.ref a) (.excf C z.1 z.2) := .excf upd_same (y.s _ _ e2) (rv.mono y)
          exact ⟨P, _, m1, _, h1, S1.frozen na, (E1.mono y).set i r, FinS.weak (x1.trans y) (finS_end fin)⟩
        · rw [if_neg hC] at fin
          exact fin.elim
      | none =>
        dsimp only at fin
        by_cases hC : C ∈ xs
        · rw [if_pos hC] at fin
          intro od σ1 F1 m1 H1 x1 S1 pd E1
          cases pd
          refine ⟨hm C hC, fun a na => ?_⟩
          have y : Ext F1 m1 (upd F1 a (HexZ (.ref (He.ga X.K (Str.ofString C))) none a)) m1 := S1.extF na
          have r : Den X.K (upd F1 a (HexZ (.ref (He.ga X.K (Str.ofString C))) none a)) m1 (.ref a) (.exc C) := .exc upd_same
          exact ⟨P, _, m1, _, h1, S1.frozen na, (E1.mono y).set i r, FinS.weak (x1.trans y) (finS_end fin)⟩
        · rw [if_neg hC] at fin
          exact fin.elim
end
theorem exm_ok {K : PySem.W.Frag} {x y : Str} {b : Bool} (h : (He.Fa.exm x y b).ok K = true) : PySem.W.exmOne K (.ref (He.ga K x)) (.ref (He.ga K y)) = some b := of_decide_eq_true h
end HR
set_option Elab.async false
set_option linter.all false
set_option maxRecDepth 20000
set_option maxHeartbeats 1000000
/-! extend of own lists -/
namespace HR
open PySem L2 RZ PySem.Spec PyProof.Rows
section
variable {X : Cx} {W : WX}
def gExtend (i : Nat) (xs ys : List D) (h : OH) : Res D := match ys with
  | [d] => (match lstAt h d with
    | some zs => if xs.length + zs.length ≤ big then .ok .non (h.set i (.lst (xs ++ zs))) else .bad
    | none => .bad)
  | _ => .bad
theorem de_extend {o a : Expr} {fo fa : SE} {apos cpos : Pos} (ho : DE X W o fo) (ha : DE X W a fa) (hbase : attributeBase o "extend" X.env (eval o X.env) = eval o X.env := by rfl)
    (hfew : ((backTo cpos (starEach [a] X.env)).all (fun x => !x.1) && (backToKw cpos (keywordEach [] X.env)).all (fun x => x.1.isSome) && decide (([a] : List Expr).length + ([] : List Keyword).length + (if ([] : List Keyword).isEmpty then 0 else 1) < 30)) = true := by rfl)
    (hline : (apos.endLine == cpos.line) = true := by rfl) (hs : starEach [a] X.env = (false, eval a X.env) :: starEach [] X.env := by rfl) (hplain : (backTo cpos (starEach [] X.env)).any (·.1) = false := by rfl) : DE X W (.Call (.Attribute o "extend" apos) [a] [] cpos) (sMtO gExtend fo (sCons fa sNil)) :=
  PE.of (pe_bm PySem.F.plainAttrs_list PySem.F.slot_list_extend PySem.F.type_list_extend mt_extend ho (da_cons ha da_nil hs) hbase hfew hline hs hplain) fun σ H Q => rd_mt (r := rExtend) fun P F m h H i a vs ws xs ys S e1 e2 ha rl nf rw fin => by
    unfold gExtend at fin
    split at fin
    · rename_i d
      obtain ⟨w, rfl, ry⟩ := denL1 rw
      cases q : lstAt h d with
      | none => rw [q] at fin; exact fin.bad_elim
      | some zs =>
        rw [q] at fin
        dsimp only at fin
        obtain ⟨b, us, rfl, hb, rz⟩ := lstAt_ok S ry q
        by_cases hz : xs.length + zs.length ≤ big
        · rw [if_pos hz] at fin
          exact ⟨a, b, vs, us, rfl, rfl, ha, hb, by rw [rl.length, rz.length]; exact big_line hz, fin.ok (S.write e1 e2 nf ⟨_, upd_same, rl.append rz, nf⟩) .non⟩
        · rw [if_neg hz] at fin
          exact fin.bad_elim
    · exact fin.bad_elim
end
section
variable {PD : D → OH → Prop}
@[simp] theorem W_extend (i : Nat) (xs : List D) (y : D) (h : OH) : (gExtend i xs [y] h).W PD = lkS (lstAt h y) fun zs => if xs.length + zs.length ≤ 1000000 then PD .non (h.set i (.lst (xs ++ zs))) else False := by
  unfold gExtend
  dsimp only
  rcases lstAt h y with _ | zs
  · rfl
  · simp only [lkS_some, big]
    split <;> rfl
end
end HR
set_option Elab.async false
set_option linter.all false
set_option maxRecDepth 20000
set_option maxHeartbeats 1000000
/-! own dicts with text keys: a display, update, two items set at once; remove of texts -/
namespace HR
open PySem L2 RZ PySem.Spec PyProof.Rows
/-! ### a display -/
def sPrs : List (Str × SE) → Env' → OH → Res (List (Key × D))
  | [], _, h => .ok [] h
  | kf :: r, e, h => (kf.2 e h).bind fun d h1 => (sPrs r e h1).bind fun ps h2 => .ok ((.inr kf.1, d) :: ps) h2
def sDispO (fs : List (Str × SE)) : SE := fun e h => (sPrs fs e h).bind fun ps h1 => if (ps.map (·.1)).Nodup ∧ ps.length ≤ 15 then .ok (.ref h1.length) (h1 ++ [.dct ps]) else .bad
abbrev relK (K : PySem.W.Frag) : Rel (List (Key × V)) (List (Key × D)) := fun F m vs ds => DenK K F m vs ds
section
variable {K : PySem.W.Frag} {P : Pins} {F : Hp} {m : List Addr} {h : OH} {H : Hp}
theorem Sim.unpin {q : Addr × HO} (S : Sim K (q :: P) F m h H) : Sim K P F m h H := by
  have pn := S.pnd
  rw [List.map_cons, List.nodup_cons] at pn
  exact ⟨S.sub, S.len, S.nd, S.live, S.at_, fun r hr => S.pin r (List.mem_cons_of_mem _ hr), pn.2⟩
theorem putK_new {kvs : List (Key × V)} {k : Key} {v : V} (n : k ∉ kvs.map (·.1)) : putK kvs k v = kvs ++ [(k, v)] := by
  unfold putK
  rw [if_neg]
  intro z
  obtain ⟨x, hx, e⟩ := List.any_eq_true.mp z
  exact n (List.mem_map.mpr ⟨x, hx, by simpa using e⟩)
theorem mergeK_new : ∀ (more kvs : List (Key × V)), ((kvs ++ more).map (·.1)).Nodup → mergeK kvs more = kvs ++ more
  | [], kvs, _ => by simp [mergeK]
  | p :: r, kvs, n => by
    have hp : p.1 ∉ kvs.map (·.1) := fun z => by
      rw [List.map_append, List.map_cons] at n
      exact (List.nodup_append.mp n).2.2 _ z _ List.mem_cons_self rfl
    show mergeK (putK kvs p.1 p.2) r = _
    rw [putK_new hp, mergeK_new r (kvs ++ [(p.1, p.2)]) (by simpa using n)]
    simp
end
section
variable {X : Cx} {W : WX}
def DPs (X : Cx) (W : WX) (pos : Pos) (keys : List (Option Expr)) (values : List Expr) (fs : List (Str × SE)) : Prop :=
  ∃ trs, PPs X pos keys values trs ∧ ∀ (σ : L2.St) (H : Hp) (R : List (V × V) → Hp → Prop), rdG X.K W (relK X.K) (sPrs fs) σ H (fun kvs H' => R (kvs.map fun kv => (kV kv.1, kv.2)) H') → tPairs trs σ H R
theorem dps_nil {pos : Pos} : DPs X W pos [] [] [] := ⟨[], pps_nil, fun σ H R => by
  rintro ⟨P, F, m, e, h, S, E, fin⟩
  exact fin.ok S .nil⟩
theorem dps_cons {pos p : Pos} {x : Str} {j : Nat} {v : Expr} {f : SE} {ks : List (Option Expr)} {vs : List Expr} {fr : List (Str × SE)} (hv : DE X W v f) (hr : DPs X W pos ks vs fr) : DPs X W pos (some (.Constant (.str x) j p) :: ks) (v :: vs) ((x, f) :: fr) := by
  obtain ⟨trs, pp, rd⟩ := hr
  refine ⟨(rdG X.K W (Den X.K) (sC (.str x)), rdG X.K W (Den X.K) f) :: trs, pps_cons de_str hv pp, fun σ H R => ?_⟩
  rintro ⟨P, F, m, e, h, S, E, fin⟩
  show rdG X.K W (Den X.K) (sC (.str x)) σ H fun x0 H1 => rdG X.K W (Den X.K) f σ H1 fun y H2 => tPairs trs σ H2 fun ps H3 => R ((x0, y) :: ps) H3
  refine ⟨P, F, m, e, h, S, E, ?_⟩
  intro v0 F1 m1 H1 x1 S1 r1
  have r1 := den_str r1
  subst r1
  refine rd_seq S1 (E.mono x1) (FinG.weak x1 fin) fun F2 m2 h2 H2 y dy x2 S2 E2 ry fin2 => ?_
  refine rd σ H2 _ ?_
  exact rd_seq S2 E2 fin2 fun F3 m3 h3 H3 kvs ks x3 S3 E3 rk fin3 => fin3.ok S3 (.cons (ry.mono x3) rk)
theorem de_dispO {pos : Pos} {keys : List (Option Expr)} {values : List Expr} {fs : List (Str × SE)} (hp : DPs X W pos keys values fs) (hall : keys.all (·.isSome) = true := by rfl) (hl : keys.length = values.length := by rfl) (h0 : keys ≠ [] := by exact fun h => nomatch h)
    (h15 : keys.length ≤ 15 := by decide) : DE X W (.Dict keys values pos) (sDispO fs) := by
  obtain ⟨trs, pp, rd⟩ := hp
  refine PE.of (pe_disp pp hall hl h0 h15) fun σ H Q => ?_
  rintro ⟨P, F, m, e, h, S, E, fin⟩
  intro p hp
  refine rd _ _ _ ⟨(p, .dK []) :: P, F, m, e, h, S.hid hp, E, ?_⟩
  unfold sDispO at fin
  cases q : sPrs fs e h with
  | bad => rw [q] at fin; exact fin.elim
  | exc C pl h1 =>
    rw [q] at fin
    exact fun od F1 m1 H1 x S1 pd => fin od F1 m1 H1 x S1.unpin pd
  | ok ps h1 =>
    rw [q] at fin
    simp only [Res.bind_ok] at fin
    intro kvs F1 m1 H1 x S1 rk
    by_cases c : (ps.map (·.1)).Nodup ∧ ps.length ≤ 15
    · rw [if_pos c] at fin
      have hk : kvs.map (·.1) = ps.map (·.1) := rk.keys
      have len : kvs.length ≤ 15 := by rw [rk.length]; exact c.2
      refine ⟨(S1.pin _ List.mem_cons_self).1, kvs, rfl, len, ?_⟩
      rw [mergeK_new kvs [] (by simpa [hk] using c.1)]
      have S2 := S1.hidSet (o' := .dK kvs)
      exact FinG.okX fin (x.trans ext_new) (S2.hidOwnG fun e1 e2 => ⟨kvs, e1, rk.mono ext_new, e2⟩) (.ref (by rw [← S1.len]; simp))
    · rw [if_neg c] at fin
      exact fin.elim
/-! ### update -/
def mergeD (ks more : List (Key × D)) : List (Key × D) := more.foldl (fun acc kd => putD acc kd.1 kd.2) ks
def isOwnD (h : OH) : D → Bool
  | .ref i => (match h[i]? with
    | some (.dct _) => true
    | _ => false)
  | _ => false
def sUpd (fo : SE) (fa : SA) : SE := fun e h => (fo e h).bind fun x h1 => if isOwnD h1 x then (fa e h1).bind fun ys h2 => (match x, ys with
  | .ref i, [.ref j] => if i ≠ j then (match h2[i]?, h2[j]? with
    | some (.dct ks), some (.dct more) => if ks.length + more.length ≤ big then .ok .non (h2.set i (.dct (mergeD ks more))) else .bad
    | _, _ => .bad) else .bad
  | _, _ => .bad) else .bad
theorem denK_merge {K : PySem.W.Frag} {F : Hp} {m : List Addr} : ∀ {more : List (Key × V)} {mo : List (Key × D)} {kvs : List (Key × V)} {ks : List (Key × D)}, DenK K F m more mo → DenK K F m kvs ks → DenK K F m (mergeK kvs more) (mergeD ks mo)
  | _, _, _, _, .nil, r => r
  | (k, v) :: vs, (_, d) :: ds, kvs, ks, .cons h t, r => by
    show DenK K F m (mergeK (putK kvs k v) vs) (mergeD (putD ks k d) ds)
    exact denK_merge t (denK_put h r)
def rUpd : V → List V → Hp → VK → Prop := fun x xs H Q => ∃ (a b : Addr) (kvs more : List (Key × V)), x = .ref a ∧ xs = [.ref b] ∧ a ≠ b ∧ H a = some (.dK kvs) ∧ H b = some (.dK more) ∧ kvs.length + more.length ≤ big ∧ Q .non (upd H a (.dK (mergeK kvs more)))
theorem mt_upd : MtM X "dict.update" rUpd := by
  intro pins s σ H x xs v us Q I rx rxs h
  obtain ⟨a, b, kvs, more, rfl, rfl, ne, ha, hb, hl, q⟩ := h
  cases rx
  obtain ⟨u, rfl, ru⟩ := rxs.one
  cases ru
  obtain ⟨z1, hd1, vs, rk1, dd1⟩ := dk_of I.hok ha
  obtain ⟨z2, hd2, ws, rk2, dd2⟩ := dk_of I.hok hb
  have l1 : vs.length = kvs.length := (Paired.length rk1).symm
  have l2 : ws.length = more.length := (Paired.length rk2).symm
  refine call_meetsIn PySem.F.slot_dict_update dd1.typeIs PySem.F.entry_dict_update (PySem.F.args_dict_update_2 _ _) (meets_dict_update (mixKind X.prog X.w) a b ne hd2) ⟨vs, ws, dd1, dd2, by rw [l1, l2]; exact big_line hl, fun h' d1 d2 hs => ?_⟩
  have he : ∃ q, h'.get? a = some q := let ⟨q, _, _, hq, _⟩ := d1; ⟨q, hq⟩
  have hz : (mergeK kvs more).length ≤ sizeLine := Nat.le_trans (length_mergeK more kvs) (big_line hl)
  exact ⟨.non, _, d_write (t' := s.toks) I (by rw [ha]; exact True.intro) hs he (dk_new hz hd1 (KV.merge rk2 rk1) d1), rfl, q⟩
theorem de_upd {o a : Expr} {fo fa : SE} {apos cpos : Pos} (ho : DE X W o fo) (ha : DE X W a fa) (hbase : attributeBase o "update" X.env (eval o X.env) = eval o X.env := by rfl)
    (hfew : ((backTo cpos (starEach [a] X.env)).all (fun x => !x.1) && (backToKw cpos (keywordEach [] X.env)).all (fun x => x.1.isSome) && decide (([a] : List Expr).length + ([] : List Keyword).length + (if ([] : List Keyword).isEmpty then 0 else 1) < 30)) = true := by rfl)
    (hline : (apos.endLine == cpos.line) = true := by rfl) (hs : starEach [a] X.env = (false, eval a X.env) :: starEach [] X.env := by rfl) (hplain : (backTo cpos (starEach [] X.env)).any (·.1) = false := by rfl) : DE X W (.Call (.Attribute o "update" apos) [a] [] cpos) (sUpd fo (sCons fa sNil)) :=
  PE.of (pe_bm PySem.F.plainAttrs_dict PySem.F.slot_dict_update PySem.F.type_dict_update mt_upd ho (da_cons ha da_nil hs) hbase hfew hline hs hplain) fun σ H Q => by
    rintro ⟨P, F, m, e, h, S, E, fin⟩
    refine rd_seq S E fin fun F1 m1 h1 H1 x dx x1 S1 E1 r1 fin1 => ?_
    by_cases c : isOwnD h1 dx = true
    · rw [if_pos c] at fin1
      cases r1 with
      | @ref a i e1 =>
        have ty : tyV X.K "dict" (.ref a) H1 := by
          obtain ⟨o, k1, k2⟩ := S1.own e1
          simp only [isOwnD, k1] at c
          cases o with
          | dct xs =>
            obtain ⟨vs, k3, _⟩ := k2
            exact .inr (.inr (.inl ⟨rfl, .inl ⟨vs, k3⟩⟩))
          | _ => cases c
        refine ⟨ty, ?_⟩
        refine rd_seq S1 E1 fin1 fun F2 m2 h2 H2 ws ys x2 S2 E2 r2 fin2 => ?_
        have e2 := pre_get x2.p e1
        match ys, r2, fin2 with
        | [.ref j], r2, fin2 =>
          obtain ⟨w, rfl, ry⟩ := denL1 r2
          cases ry with
          | @ref b _ e3 =>
            dsimp only at fin2
            by_cases ne : i ≠ j
            · rw [if_pos ne] at fin2
              obtain ⟨o1, k1, k2⟩ := S2.own e2
              obtain ⟨o2, k3, k4⟩ := S2.own e3
              rw [k1, k3] at fin2
              cases o1 with
              | dct ks =>
                cases o2 with
                | dct more =>
                  dsimp only at fin2
                  obtain ⟨kvs, d1, d2, d3⟩ := k2
                  obtain ⟨mvs, d4, d5, d6⟩ := k4
                  by_cases hz : ks.length + more.length ≤ big
                  · rw [if_pos hz] at fin2
                    have nab : a ≠ b := fun z => by
                      subst z
                      have hi := (List.getElem?_eq_some_iff.mp e2).1
                      exact ne ((List.getElem?_inj hi S2.nd).mp (e2.trans e3.symm))
                    exact ⟨a, b, kvs, mvs, rfl, rfl, nab, d1, d4, by rw [d2.length, d5.length]; exact hz, fin2.ok (S2.write e2 k1 d3 ⟨_, upd_same, denK_merge d5 d2, d3⟩) .non⟩
                  · rw [if_neg hz] at fin2
                    exact fin2.bad_elim
                | _ => exact fin2.bad_elim
              | _ => exact fin2.bad_elim
            · rw [if_neg ne] at fin2
              exact fin2.bad_elim
      | _ => cases c
    · rw [if_neg c] at fin1
      exact fin1.bad_elim
/-! ### two items set at once -/
def putC (o i : SE) (y : D) (k : SS) : SS := fun e h => (o e h).toS e fun x h2 => (i e h2).toS e fun kk h3 => match x, keyD kk with
  | .ref n, some q => (match h3[n]? with
    | some (.dct ks) => if ks.length < big then k e (h3.set n (.dct (putD ks q y))) else .bad
    | _ => .bad)
  | _, _ => .bad
def sSub2 (o1 i1 o2 i2 v : SE) : SS := fun e h => (v e h).toS e fun y h1 => match y with
  | .tup [y1, y2] => putC o1 i1 y1 (putC o2 i2 y2 fun e h => .nx e h) e h1
  | _ => .bad
theorem put_rd {fo fi : SE} {Dn : Ends} {P : Pins} {F : Hp} {m : List Addr} {h : OH} {σ : L2.St} {H : Hp} {e : Env'} {v : V} {y : D} {k : SS} {R : L2.St → Hp → Prop} (S : Sim X.K P F m h H) (E : EnvR X.K F m σ e) (ry : Den X.K F m v y) (fin : FinS X.K P W Dn F m (putC fo fi y k e h))
    (next : ∀ F' m' h' H', Ext F m F' m' → Sim X.K P F' m' h' H' → EnvR X.K F' m' σ e → FinS X.K P W Dn F' m' (k e h') → R σ H') : gSub (rdG X.K W (Den X.K) fo) (rdG X.K W (Den X.K) fi) rSetD v σ H R := by
  refine st_seq S E fin fun F2 m2 h2 H2 x dx x2 S2 E2 rx fin2 => ?_
  refine st_seq S2 E2 fin2 fun F3 m3 h3 H3 z dz x3 S3 E3 rz fin3 => ?_
  cases rx with
  | @ref b n e1 =>
    cases ek : keyD dz with
    | none => simp only [ek] at fin3; exact fin3.elim
    | some q =>
      have e2 := pre_get x3.p e1
      obtain ⟨ob, k1, k2⟩ := S3.own e2
      simp only [ek, k1] at fin3
      cases ob with
      | dct ks =>
        dsimp only at fin3
        obtain ⟨kvs, k3, k4, k5⟩ := k2
        by_cases hl : ks.length < big
        · rw [if_pos hl] at fin3
          have := keyD_den rz ek
          subst this
          exact ⟨b, _, rfl, DPut.k k3 (by rw [k4.length]; exact big_lt hl), next F3 m3 (h3.set n (.dct (putD ks q y))) _ (x2.trans x3) (S3.write e2 k1 k5 ⟨_, upd_same, denK_put (ry.mono (x2.trans x3)) k4, k5⟩) E3 fin3⟩
        · rw [if_neg hl] at fin3
          exact fin3.elim
      | _ => exact fin3.elim
  | _ => exact fin3.elim
theorem ds_sub2 {o1 i1 o2 i2 a : Expr} {f1 g1 f2 g2 fa : SE} {p1 p2 pt pos : Pos} {kt : Nat} (hu : X.A.units + 64 < cLine) (hc : X.calm = true) (h1 : DE X W o1 f1) (k1 : DE X W i1 g1) (h2 : DE X W o2 f2) (k2 : DE X W i2 g2) (ha : DE X W a fa)
    (n1 : PG X (.Subscript o1 i1 p1) (gSub (rdG X.K W (Den X.K) f1) (rdG X.K W (Den X.K) g1) rSetD)) (n2 : PG X (.Subscript o2 i2 p2) (gSub (rdG X.K W (Den X.K) f2) (rdG X.K W (Den X.K) g2) rSetD))
    (hs : swapsWithSole [.Tuple [.Subscript o1 i1 p1, .Subscript o2 i2 p2] kt pt] a pos.line X.env = pure false := by rfl)
    (hw : swappedStores [.Tuple [.Subscript o1 i1 p1, .Subscript o2 i2 p2] kt pt] a X.env = pure none := by rfl)
    (hg : PG X (.Tuple [.Subscript o1 i1 p1, .Subscript o2 i2 p2] kt pt) (gTup X.K 2 (gCons (gSub (rdG X.K W (Den X.K) f1) (rdG X.K W (Den X.K) g1) rSetD) (gCons (gSub (rdG X.K W (Den X.K) f2) (rdG X.K W (Den X.K) g2) rSetD) gNil))))
    (h0 : (assignEach [.Tuple [.Subscript o1 i1 p1, .Subscript o2 i2 p2] kt pt] X.env).map (·.2) = [assign (.Tuple [.Subscript o1 i1 p1, .Subscript o2 i2 p2] kt pt) X.env] := by rfl) :
    DS X W (.Assign [.Tuple [.Subscript o1 i1 p1, .Subscript o2 i2 p2] kt pt] a pos) (sSub2 f1 g1 f2 g2 fa) := PS.of (ps_asg ha hg hs hw h0) fun Dn σ H => by
  rintro ⟨P, F, m, e, h, S, E, fin⟩
  refine st_seq S E fin fun F1 m1 h1 H1 v d x S1 E1 r fin1 => ?_
  cases r with
  | @tup b ws ds q r =>
    match ds, r, fin1 with
    | [y1, y2], r, fin1 =>
      obtain ⟨v1, v2, rfl, r1, r2⟩ := denL2 r
      refine ⟨b, [v1, v2], rfl, .inl (.inl (S1.sub _ _ q)), rfl, v1, [v2], rfl, ?_⟩
      refine put_rd S1 E1 r1 fin1 fun F2 m2 h2 H2 x2 S2 E2 fin2 => ?_
      refine ⟨v2, [], rfl, ?_⟩
      refine put_rd S2 E2 (r2.mono x2) fin2 fun F3 m3 h3 H3 x3 S3 E3 fin3 => ?_
      exact ⟨rfl, fin3 σ F3 m3 H3 .refl S3 E3⟩
    | [], _, fin1 => exact fin1.elim
    | [_], _, fin1 => exact fin1.elim
    | _ :: _ :: _ :: _, _, fin1 => exact fin1.elim
  | _ => exact fin1.elim
/-! ### remove of texts -/
def txtsD : List D → Option (List Str)
  | [] => some []
  | .str x :: r => (txtsD r).map (x :: ·)
  | _ :: _ => none
def gRem (i : Nat) (xs ys : List D) (h : OH) : Res D := match txtsD xs, ys with
  | some zs, [.str x] => if x ∈ zs then .ok .non (h.set i (.lst ((zs.erase x).map D.str))) else .bad
  | _, _ => .bad
theorem txtsD_den {K : PySem.W.Frag} {F : Hp} {m : List Addr} : ∀ {vs : List V} {ds : List D} {zs : List Str}, DenL K F m vs ds → txtsD ds = some zs → vs = zs.map V.str ∧ ds = zs.map D.str
  | _, _, _, .nil, e => by cases e; exact ⟨rfl, rfl⟩
  | _, d :: _, zs, .cons h t, e => by
    cases d with
    | str x =>
      simp only [txtsD, Option.map_eq_some_iff] at e
      obtain ⟨zs', e1, rfl⟩ := e
      obtain ⟨a, b⟩ := txtsD_den t e1
      have := den_str h
      subst this
      exact ⟨by rw [a]; rfl, by rw [b]; rfl⟩
    | _ => cases e
theorem den_texts {K : PySem.W.Frag} {F : Hp} {m : List Addr} : ∀ zs : List Str, DenL K F m (zs.map V.str) (zs.map D.str)
  | [] => .nil
  | z :: zs => .cons (.str z) (den_texts zs)
theorem str_first : ∀ {ns : List Str} {k : Str}, k ∈ ns → ∃ j, ∃ (hj : j < ns.length), ns[j]? = some k ∧ (∀ i, i < j → ns[i]? ≠ some k) ∧ ns.eraseIdx j = ns.erase k
  | [], k, h => absurd h (by simp)
  | a :: r, k, h => by
    by_cases e : a = k
    · refine ⟨0, Nat.succ_pos _, by rw [e]; rfl, fun i hi => absurd hi (Nat.not_lt_zero _), ?_⟩
      rw [e, List.erase_cons_head]; rfl
    · have hr : k ∈ r := by
        rcases List.mem_cons.mp h with z | z
        · exact absurd z.symm e
        · exact z
      obtain ⟨j, h1, h2, h3, h4⟩ := str_first hr
      refine ⟨j + 1, Nat.succ_lt_succ h1, h2, fun i hi => ?_, ?_⟩
      · cases i with
        | zero =>
          intro z
          exact e (Option.some.inj z)
        | succ i => exact h3 i (Nat.lt_of_succ_lt_succ hi)
      · rw [List.erase_cons_tail (by simpa using e), ← h4]; rfl
def eqsV (k : Str) (v : Value) : Bool := match v with
  | .str y _ => y.cps.toList == k.cps.toList
  | _ => false
theorem eqsV_gives {k : Str} {t : Tok} {ns : List Str} {us : List Value} (r : Vals (ns.map V.str) us) : ∀ y ∈ us, MeetsSeq.EqGives y (.str k t) (eqsV k y) := by
  intro y hy
  obtain ⟨j, hj⟩ := List.getElem?_of_mem hy
  have hl : us.length = ns.length := by
    have := r.length
    simpa using this.symm
  have hjl : j < ns.length := by
    have := (List.getElem?_eq_some_iff.mp hj).1
    omega
  obtain ⟨u, hu, t', ru⟩ := r.get (i := j) (x := .str ns[j]) (by simp [hjl])
  rw [hj] at hu
  cases hu
  subst ru
  exact SeqRoads2.EqGives.str _ _ _ _
def rRemS : V → List V → Hp → VK → Prop := fun x xs H Q => ∃ (l : Addr) (ns : List Str) (k : Str), x = .ref l ∧ xs = [.str k] ∧ H l = some (.lst (ns.map V.str)) ∧ k ∈ ns ∧ Q .non (upd H l (.lst ((ns.erase k).map V.str)))
theorem mapErase (f : Str → V) : ∀ (ns : List Str) (j : Nat), (ns.map f).eraseIdx j = (ns.eraseIdx j).map f
  | [], _ => rfl
  | _ :: _, 0 => rfl
  | n :: r, j + 1 => by
    show f n :: (r.map f).eraseIdx j = f n :: (r.eraseIdx j).map f
    rw [mapErase f r j]
theorem mt_remS : MtM X "list.remove" rRemS := by
  intro pins s σ H x xs v us Q I rx rxs h
  obtain ⟨l, ns, k, rfl, rfl, hH, hk, q⟩ := h
  obtain ⟨j, hjn, hj, hno, he⟩ := str_first hk
  cases rx
  obtain ⟨u, rfl, ru⟩ := rxs.one
  obtain ⟨t, rfl⟩ := ru
  obtain ⟨z, its, n, r, hl, e⟩ := I.lstM hH
  rw [List.length_map] at hl z
  have hjl : j < its.toArray.size := by rw [List.size_toArray]; omega
  have at' : ∀ (m : Nat) (hm : m < its.toArray.size), ∃ t', its.toArray[m] = Value.str (ns[m]'(by rw [List.size_toArray] at hm; omega)) t' := fun m hm => by
    have hm' : m < ns.length := by rw [List.size_toArray] at hm; omega
    obtain ⟨w, hw, t', hw'⟩ := r.get (i := m) (x := .str ns[m]) (by simp [hm'])
    refine ⟨t', ?_⟩
    have e := (List.getElem?_eq_some_iff.mp hw).2
    rw [← hw', ← e]
    simp
  refine call_meets PySem.F.slot_list_remove ⟨_, e, rfl⟩ PySem.F.entry_list_remove (PySem.F.args_list_remove_2 _ _)
    (MeetsSeq.list_remove l its.toArray n (.str k t) (eqsV k) (fun y hy => eqsV_gives r y (by simpa using hy)) j hjl ?_ ?_ (by rw [List.size_toArray]; omega)) ⟨e, ?_⟩
  · obtain ⟨tj, hjt⟩ := at' j hjl
    rw [hjt]
    have : ns[j] = k := by
      rw [List.getElem?_eq_getElem hjn] at hj
      exact Option.some.inj hj
    simp [eqsV, this]
  · intro m hm hmj
    obtain ⟨tm, hmt⟩ := at' m hm
    rw [hmt]
    have hmn : m < ns.length := by rw [List.size_toArray] at hm; omega
    have ne : ns[m] ≠ k := fun z => hno m hmj (by rw [List.getElem?_eq_getElem hmn, z])
    show (ns[m].cps.toList == k.cps.toList) = false
    rw [SeqAt.str_beq]
    exact beq_eq_false_iff_ne.mpr ne
  · have rr := r.eraseIdx j
    rw [mapErase, he] at rr
    refine ⟨.non, _, I.lset (its' := its.eraseIdx j) (t' := s.toks) hH e ?_ rr ?_, rfl, q⟩
    · show its.toArray.eraseIdxIfInBounds j = (its.eraseIdx j).toArray
      rw [List.eraseIdxIfInBounds_toArray]
    · have z2 := List.length_erase_le (a := k) (l := ns)
      rw [List.length_map]
      omega
theorem de_remS {o a : Expr} {fo fa : SE} {apos cpos : Pos} (ho : DE X W o fo) (ha : DE X W a fa) (hbase : attributeBase o "remove" X.env (eval o X.env) = eval o X.env := by rfl)
    (hfew : ((backTo cpos (starEach [a] X.env)).all (fun x => !x.1) && (backToKw cpos (keywordEach [] X.env)).all (fun x => x.1.isSome) && decide (([a] : List Expr).length + ([] : List Keyword).length + (if ([] : List Keyword).isEmpty then 0 else 1) < 30)) = true := by rfl)
    (hline : (apos.endLine == cpos.line) = true := by rfl) (hs : starEach [a] X.env = (false, eval a X.env) :: starEach [] X.env := by rfl) (hplain : (backTo cpos (starEach [] X.env)).any (·.1) = false := by rfl) : DE X W (.Call (.Attribute o "remove" apos) [a] [] cpos) (sMtO gRem fo (sCons fa sNil)) :=
  PE.of (pe_bm PySem.F.plainAttrs_list PySem.F.slot_list_remove PySem.F.type_list_remove mt_remS ho (da_cons ha da_nil hs) hbase hfew hline hs hplain) fun σ H Q => rd_mt (r := rRemS) fun P F m h H i a vs ws xs ys S e1 e2 ha rl nf rw fin => by
    unfold gRem at fin
    split at fin
    · rename_i zs x q
      obtain ⟨w, rfl, ry⟩ := denL1 rw
      have ry := den_str ry
      subst ry
      obtain ⟨rfl, rfl⟩ := txtsD_den rl q
      by_cases hz : x ∈ zs
      · rw [if_pos hz] at fin
        exact ⟨a, zs, x, rfl, rfl, ha, hz, fin.ok (S.write e1 e2 nf ⟨_, upd_same, den_texts _, nf⟩) .non⟩
      · rw [if_neg hz] at fin
        exact fin.bad_elim
    · exact fin.bad_elim
end
section
variable {PD : D → OH → Prop} {N C B : Env' → OH → Prop} {R : D → OH → Prop}
theorem txtsD_map : ∀ zs : List Str, txtsD (zs.map D.str) = some zs
  | [] => rfl
  | z :: zs => by simp [txtsD, txtsD_map zs]
theorem W_rem {i : Nat} {zs : List Str} {x : Str} {h : OH} (hx : x ∈ zs) : (gRem i (zs.map D.str) [.str x] h).W PD = PD .non (h.set i (.lst ((zs.erase x).map D.str))) := by
  simp [gRem, txtsD_map, hx]
@[simp] theorem W_dispO (fs : List (Str × SE)) (e : Env') (h : OH) : (sDispO fs e h).W PD = (sPrs fs e h).W fun ps h1 => if (ps.map (·.1)).Nodup ∧ ps.length ≤ 15 then PD (.ref h1.length) (h1 ++ [.dct ps]) else False := by
  unfold sDispO
  simp only [W_bind]
  congr; funext ps h1
  split <;> rfl
@[simp] theorem W_prs0 (e : Env') (h : OH) {Q : List (Key × D) → OH → Prop} : (sPrs [] e h).W Q = Q [] h := rfl
@[simp] theorem W_prs (x : Str) (f : SE) (r : List (Str × SE)) (e : Env') (h : OH) {Q : List (Key × D) → OH → Prop} : (sPrs ((x, f) :: r) e h).W Q = (f e h).W fun d h1 => (sPrs r e h1).W fun ps h2 => Q ((.inr x, d) :: ps) h2 := by
  simp only [sPrs, W_bind, W_ok]
@[simp] theorem W_upd (fo : SE) (fa : SA) (e : Env') (h : OH) : (sUpd fo fa e h).W PD = (fo e h).W fun x h1 => if isOwnD h1 x = true then (fa e h1).W fun ys h2 => (match x, ys with
  | .ref i, [.ref j] => if i ≠ j then lkD h2[i]? fun ks => lkD h2[j]? fun more => if ks.length + more.length ≤ 1000000 then PD .non (h2.set i (.dct (mergeD ks more))) else False else False
  | _, _ => False) else False := by
  unfold sUpd
  simp only [W_bind]
  congr; funext x h1
  split
  · simp only [W_bind]
    congr; funext ys h2
    split
    · split
      · rename_i i j _ _
        cases h2[i]? with
        | none => rfl
        | some o1 =>
          cases o1 with
          | dct ks =>
            cases h2[j]? with
            | none => rfl
            | some o2 =>
              cases o2 with
              | dct more =>
                simp only [lkD_dct, big]
                split <;> rfl
              | _ => rfl
          | _ => rfl
      · rfl
    · rfl
  · rfl
@[simp] theorem SW_putC (o i : SE) (y : D) (k : SS) (e : Env') (h : OH) : (putC o i y k e h).W N C B R = (o e h).W fun x h2 => (i e h2).W fun kk h3 => isR x fun n => lkS (keyD kk) fun q => lkD h3[n]? fun ks => if ks.length < 1000000 then (k e (h3.set n (.dct (putD ks q y)))).W N C B R else False := by
  unfold putC
  simp only [W_toS]
  congr; funext x h2; congr; funext kk h3
  cases x with
  | ref n =>
    simp only [isR_ref]
    cases keyD kk with
    | none => rfl
    | some q =>
      simp only [lkS_some]
      cases h3[n]? with
      | none => rfl
      | some ob => cases ob <;> first | rfl | (simp only [lkD_dct, big]; split <;> rfl)
  | _ => rfl
@[simp] theorem SW_sub2 (o1 i1 o2 i2 v : SE) (e : Env') (h : OH) : (sSub2 o1 i1 o2 i2 v e h).W N C B R = (v e h).W fun y h1 => match y with
  | .tup [y1, y2] => (putC o1 i1 y1 (putC o2 i2 y2 fun e h => .nx e h) e h1).W N C B R
  | _ => False := by
  unfold sSub2
  simp only [W_toS]
  congr; funext y h1
  split <;> rfl
end
end HR
set_option Elab.async false
set_option linter.all false
set_option maxRecDepth 20000
set_option maxHeartbeats 1000000
/-! lending, with an answer of new own lists: the answer is read as a frozen tree -/
set_option Elab.async false
set_option linter.all false
set_option maxRecDepth 100000
set_option maxHeartbeats 1000000
/-! enumerate of a tuple -/
namespace HR
open PySem L2 RZ PySem.Spec PyProof.Rows
open PySem.Sem (wp)
theorem em_new (l : Addr) (items : Array Value) :
    Meets (Builtin.«enumerate.__new__» ⟨[.type "enumerate", .ref l], []⟩) (fun _ R s => s.heap.IsTuple l items ∧
      R (.ok (.ret (.ref (s.heap.push { cls := .type "tuple_iterator", data := .fields #[.ref l, .int 0 0] }).objs.size)))
        { s with heap := (s.heap.push { cls := .type "tuple_iterator", data := .fields #[.ref l, .int 0 0] }).push { cls := .type "enumerate", data := .fields #[.none, .bool false, .ref s.heap.objs.size, rawInt 0, .none, .none] } }) :=
  .of_wp fun prog w A R s h => by
    obtain ⟨hp, g, d, tk, os⟩ := s; obtain ⟨hl, h⟩ := h
    have hsub := sub_enumerate
    have hL : Heap.IsTuple (Shared.heap ⟨hp, g, d, tk, os⟩) l items := hl
    wp_walk using wpAny_pyIter_tuple hL
    refine wpAny_stack_any fun st => wpAny_pure ?_
    split
    · rename_i c _ _ _ _ _
      cases (c == Value.type "enumerate")
      · wp_walk using wpAny_pyIter_tuple hL
        exact ⟨_, rfl, h⟩
      · wp_walk using wpAny_pyIter_tuple hL
        exact ⟨_, rfl, h⟩
    · wp_walk using wpAny_pyIter_tuple hL
      exact ⟨_, rfl, h⟩
section
variable {prog : Program} {w : World} {A : Around} {E : Value → Shared → Prop} {s : Shared}
theorem em_call {l : Addr} {items : Array Value} {Q : Value → Shared → Prop} (hL : s.heap.IsTuple l items)
    (h : ∀ h', IsEnum h' (s.heap.objs.size + 1) s.heap.objs.size 0 .none → h'.IsTupleIter s.heap.objs.size l 0 → h'.objs.size = s.heap.objs.size + 2 →
      (∀ b o, s.heap.get? b = some o → h'.get? b = some o) → Q (.ref (s.heap.objs.size + 1)) { s with heap := h' }) :
    wpAny (model prog w) A (call (.type "enumerate") [.ref l]) Q E s := by
  refine callType_new F.called_enumerate (by decide) (F.typeCall_enumerate_1 _) (F.newCall_enumerate_1 _) (fun obj => F.args_object_init_2 obj _) F.entry_enumerate_new
    (em_new l items) ⟨hL, ?_⟩
  have hz : (s.heap.push { cls := .type "tuple_iterator", data := .fields #[.ref l, .int 0 0] }).objs.size = s.heap.objs.size + 1 := Heap.size_push ..
  show _ ∧ _
  rw [hz]
  have he : IsEnum ((s.heap.push { cls := .type "tuple_iterator", data := .fields #[.ref l, .int 0 0] }).push
      { cls := .type "enumerate", data := .fields #[.none, .bool false, .ref s.heap.objs.size, rawInt 0, .none, .none] }) (s.heap.objs.size + 1) s.heap.objs.size 0 .none := by
    have := Heap.get?_push_size (s.heap.push { cls := .type "tuple_iterator", data := .fields #[.ref l, .int 0 0] })
      (o := { cls := .type "enumerate", data := .fields #[.none, .bool false, .ref s.heap.objs.size, rawInt 0, .none, .none] }) rfl
    rw [hz] at this; exact this
  refine ⟨⟨_, he, rfl⟩, h _ he ⟨_, Heap.get?_push_of_some _ (Heap.get?_push_size _ rfl), rfl, rfl⟩ (by rw [Heap.size_push, hz]) fun b o x => Heap.get?_push_of_some _ (Heap.get?_push_of_some _ x)⟩
end
def Iem (K : PySem.W.Frag) (a : Addr) : It where
  go := fun i H => ∃ (xs : List V) (x : V), SqT K H a xs ∧ xs[i]? = some x
  yld := fun i H v H' => ∃ T x, v = .ref T ∧ H T = none ∧ H' = upd H T (.tup [.int (i : Nat), x]) ∧ ∀ xs, SqT K H a xs → xs[i]? = some x
  stop := fun i H => ∃ xs : List V, SqT K H a xs ∧ xs.length ≤ i
theorem em_turn {P : Program} {w : World} {K : PySem.W.Frag} {elts : List Expr} {kk : Nat} {tpos : Pos} (a e it : Addr) :
    Turn P w K (.Tuple elts kk tpos) (Iem K a) [e, it] e (fun i h => (∃ old, IsEnum h e it ((i : Nat) : Int) old) ∧ h.IsTupleIter it a i ∧ e ≠ it ∧ a ≠ it ∧ a ≠ e) where
  mem := by simp
  obj := fun i h st b hb => by
    obtain ⟨⟨old, he⟩, ⟨o, ho, hc, hd⟩, _⟩ := st
    have e' : b = e ∨ b = it := by simpa using hb
    rcases e' with z | z
    · rw [z]; exact ⟨_, he, fun v q => nomatch q⟩
    · rw [z]; exact ⟨o, ho, fun v q => by rw [hd] at q; cases q⟩
  keep := fun i h h' st k => let ⟨⟨old, he⟩, hi, hne⟩ := st; ⟨⟨old, k e (by simp) _ he⟩, hi.at fun o q => k it (by simp) o q, hne⟩
  item := by
    intro X hP hw hK hc i pins s σ H E I hf st hg
    subst hP hw hK
    obtain ⟨⟨old, he⟩, hit, hne, hai, hae⟩ := st
    obtain ⟨xs, x, hq, hx⟩ := hg
    obtain ⟨its, rv, p, hz⟩ := I.tuple hq
    obtain ⟨u, hu, ru⟩ := rv.get hx
    have hel : e < s.heap.objs.size := Heap.lt_size he
    have hil : it < s.heap.objs.size := by obtain ⟨_, q, _⟩ := hit; exact Heap.lt_size q
    have lt : i < its.toArray.size := by
      have := (List.getElem?_eq_some_iff.mp hu).1
      simpa using this
    have efp : e ∉ [it, a] := by
      simp only [List.mem_cons, List.not_mem_nil, or_false, not_or]
      exact ⟨hne, fun z => hae z.symm⟩
    refine wpAny_pyNext_enum_itemD (Draws.tuple (A := X.A.in1) (I.ok.hd hc) it a hai its.toArray) he ⟨hit, p⟩ lt hne efp fun y h' tk hy ho hit' hT hsz hk => ?_
    have hy' : y = u := by
      have hy : its.toArray[i]? = some y := hy
      have hu' : its.toArray[i]? = some u := by simpa using hu
      rw [hu'] at hy
      exact (Option.some.inj hy).symm
    subst hy'
    refine ⟨_, rfl, wpAny_letOwnedTupleGo_enum (s := { s with heap := h', toks := tk + 1 }) ho fun h'' he' sb => ?_⟩
    have hT2 : h''.get? s.heap.objs.size = some { cls := .type "tuple", data := .seq #[.int i tk, y] } := (sb.2 _ (Nat.ne_of_gt hel)).trans hT
    have new : ObjOk X.prog X.w (upd H s.heap.objs.size (.tup [.int (i : Nat), x])) h'' s.heap.objs.size (.tup [.int (i : Nat), x]) :=
      ⟨by show 2 ≤ sizeLine; decide, [.int i tk, y], .cons ⟨_, rfl⟩ (.cons ru .nil), ⟨_, hT2, rfl, _, rfl⟩⟩
    have I1 : Inv X pins σ (upd H s.heap.objs.size (.tup [.int (i : Nat), x])) { s with heap := h'', toks := tk + 1 } :=
      I.turnedNew (ch := [e, it]) (fun b ob hb q => (sb.2 b (fun z => hb (by simp [z]))).trans (hk b ob (fun z => hb (by simp [z])) (fun z => hb (by simp [z])) q)) hf (Nat.le_refl _) new
    refine ⟨.ref s.heap.objs.size, _, I1, rfl, ⟨_, x, rfl, I.hok.fresh (Nat.le_refl _), rfl, fun ys hy => by rw [I.tuple_inj hy hq]; exact hx⟩, ⟨⟨y, ?_⟩, hit'.1.at fun o q => (sb.2 it (Ne.symm hne)).trans q, hne, hai, hae⟩, fun b hb => ?_⟩
    · have e1 : ((i + 1 : Nat) : Int) = (i : Int) + 1 := by omega
      rw [e1]; exact he'
    · have hb' : b < s.heap.objs.size := by
        have e' : b = e ∨ b = it := by simpa using hb
        rcases e' with z | z
        · rw [z]; exact hel
        · rw [z]; exact hil
      rw [upd_ne (Nat.ne_of_lt hb')]
      exact (hf b hb).1
  done := by
    intro X hP hw hK hc i pins s σ H E I hf st hg
    subst hP hw hK
    obtain ⟨⟨old, he⟩, hit, hne, hai, hae⟩ := st
    obtain ⟨xs, hq, hx⟩ := hg
    obtain ⟨its, rv, p, hz⟩ := I.tuple hq
    obtain ⟨f0, f1, f2, f3, f4, f5⟩ := hf it (by simp)
    have hl := rv.length
    have hT : s.TypeIs (.ref e) "enumerate" := ⟨_, he, rfl⟩
    unfold pyNext
    refine wpAny_bind (wpAny_attempt (wpAny_callSpecial?_slot (name := Str.ofString "__next__") hT F.slot_enumerate_next
      (wpAny_call_entry F.slot_enumerate_next hT F.entry_enumerate_next ?_ (F.args_enumerate_next_1 _))))
    show wpAny _ _ (field (.ref e) 2 >>= _) _ _ _
    refine wpAny_bind (wpAny_field he rfl (x := .ref it) rfl ?_)
    refine wpAny_bind (nextOf_tuple_end (I.ok.hd hc) hit p (by simp; omega) fun h' x he' hx' => ?_)
    obtain ⟨o, ho, hc'⟩ := hx'
    refine wpAny_bind (wpAny_isInstance (T := "StopIteration") (b := true) ⟨o, ho, hc'⟩ isSubtype_stop ?_)
    exact wpAny_pure ⟨rfl, I.turned (t' := s.toks) (fun b o hb q => he' b o hb q) f0 f1 f3 f4 f5⟩
  self := fun A i s Q E st h => let ⟨⟨_, he⟩, _⟩ := st; wpAny_pyIter_enum he h
def iEnumT (K : PySem.W.Frag) (ta : TA) : TI := fun σ H R => ta σ H fun vs H1 => ∃ a xs, vs = [.ref a] ∧ SqT K H1 a xs ∧ R (Iem K a) H1
theorem pi_enumT {X : Cx} {e : Expr} {ta : TA} {p pos tpos : Pos} {elts : List Expr} {kk : Nat} (hg : Gl X "enumerate") (hm : X.mg "enumerate" = none) (ha : PA X [e] ta) (hs : starEach [e] X.env = [(false, eval e X.env)] := by rfl) :
    PI X (.Tuple elts kk tpos) (.Call (.Name "enumerate" p) [e] [] pos) (iEnumT X.K ta) := by
  refine ⟨fun pins s σ H R I h => ?_⟩
  refine Call_ (ld_blt I hg hm boot_enumerate (PyProof.Rows.callWith_type1 (thn (ha.run pos pins s σ H _ I h) fun us s1 ⟨vs, H1, I1, r1, q1⟩ => ?_) hs rfl))
  obtain ⟨a, xs, ex, hq, q⟩ := q1
  subst ex
  cases r1 with
  | cons r rr =>
    cases rr
    cases r
    obtain ⟨its, rv, p', hz⟩ := I1.tuple hq
    obtain ⟨o2, ho2, _⟩ := id p'
    have al := Heap.lt_size ho2
    refine em_call p' fun h' he hit hsz hk => wpAny_pyIter_enum he ?_
    have I2 : Inv X pins σ H1 { s1 with heap := h' } := I1.kept (t' := s1.toks) hk
    refine ⟨s1.heap.objs.size + 1, [s1.heap.objs.size + 1, s1.heap.objs.size], _, _, H1, rfl, I2, em_turn a (s1.heap.objs.size + 1) s1.heap.objs.size, ⟨⟨.none, he⟩, hit, Nat.succ_ne_self _, Nat.ne_of_lt al, Nat.ne_of_lt (Nat.lt_succ_of_lt al)⟩, fun b hb => ?_, q⟩
    have e' : b = s1.heap.objs.size + 1 ∨ b = s1.heap.objs.size := by simpa using hb
    have hle : s1.heap.objs.size ≤ b := by
      rcases e' with z | z
      · rw [z]; exact Nat.le_add_right _ _
      · rw [z]; exact Nat.le_refl _
    exact I1.fpOk hle (I1.hok.fresh hle)
theorem walks_enumT {K : PySem.W.Frag} {F : Hp} {m : List Addr} {a : Addr} {vs : List V} {xs : List D} (q : SqT K F a vs) (r : DenL K F m vs xs) : Walks K F m (Iem K a) (enumD xs) := by
  intro P F2 m2 h H i x S
  have q2 : SqT K H a vs := Same.sqT S.sub (Same.sqT x.s q)
  have n1 := r.length
  have nl : (enumD xs).length = xs.length := by simp [enumD]
  rw [nl]
  refine ⟨fun hi => ?_, fun hi => ⟨vs, q2, by omega⟩⟩
  have hv : i < vs.length := by rw [r.length]; exact hi
  refine ⟨⟨vs, vs[i], q2, List.getElem?_eq_getElem hv⟩, fun y H' yl => ?_⟩
  obtain ⟨T, z, rfl, hT, rfl, yl⟩ := yl
  obtain ⟨d, e1, r1⟩ := r.getV (yl vs q2)
  have x2 := S.extF (o := .tup [.int (i : Nat), z]) hT
  exact ⟨_, x2, S.frozen hT, .tup [.int (i : Nat), d], by simp [enumD, e1], .tup upd_same (.cons (.int _) (.cons (r1.mono (x.trans x2)) .nil))⟩
/-- enumerate of a list or a tuple -/
def sEnumX (f : SA) : SA := fun e h => match f e h with
  | .ok [.tup xs] h1 => .ok (enumD xs) h1
  | _ => sEnum f e h
section
variable {X : Cx} {W : WX}
theorem di_enumX {elts : List Expr} {kk : Nat} {tpos : Pos} {a : Expr} {f : SE} {p pos : Pos} (hg : Gl X "enumerate") (hm : X.mg "enumerate" = none) (ha : DE X W a f) (he : starEach [a] X.env = (false, eval a X.env) :: starEach [] X.env := by rfl) (hs : starEach [a] X.env = [(false, eval a X.env)] := by rfl) :
    DI X W (.Tuple elts kk tpos) (.Call (.Name "enumerate" p) [a] [] pos) (sEnumX (sCons f sNil)) :=
  PI.of (PI_or (pi_enumT hg hm (da_cons ha da_nil he) hs) (di_enum hg hm ha he hs)) fun σ H R => by
    rintro ⟨P, F, m, e, h, S, E, fin⟩
    unfold sEnumX at fin
    split at fin
    · rename_i xs h1 q
      refine .inl ⟨P, F, m, e, h, S, E, ?_⟩
      rw [q]
      intro vs F1 m1 H1 x S1 r
      obtain ⟨v, rfl, r1⟩ := denL1 r
      cases r1 with
      | @tup a2 _ _ e2 t2 =>
        have w := walks_enumT (K := X.K) (.inl (.inl e2)) t2
        exact ⟨a2, _, rfl, Same.sqT S1.sub (.inl (.inl e2)), FinG.okX fin x S1 w⟩
    · exact .inr ⟨P, F, m, e, h, S, E, fin⟩
end
section
variable {PL : List D → OH → Prop}
def enumAtX : D → Option (List D)
  | .tup xs => some (enumD xs)
  | d => (frzAt d).map enumD
@[simp] theorem W_enumX (f : SE) (e : Env') (h : OH) : (sEnumX (sCons f sNil) e h).W PL = (f e h).W fun d h1 => lkS (enumAtX d) fun xs => PL xs h1 := by
  unfold sEnumX
  split
  · rename_i xs h1 q
    cases qf : f e h with
    | bad => simp [sCons, qf] at q
    | exc C p h2 => simp [sCons, qf] at q
    | ok d h2 =>
      simp [sCons, qf, sNil] at q
      obtain ⟨rfl, rfl⟩ := q
      rfl
  · rename_i no
    rw [W_enum]
    cases qf : f e h with
    | bad => rfl
    | exc C p h2 => rfl
    | ok d h2 =>
      simp only [W_ok]
      have e2 : enumAtX d = (frzAt d).map enumD := by
        unfold enumAtX
        split
        · rename_i xs
          exact absurd (by simp [sCons, qf, sNil] : sCons f sNil e h = .ok [.tup xs] h2) (no xs h2)
        · rfl
      rw [e2]
      cases frzAt d <;> rfl
@[simp] theorem enumAtX_t (xs : List D) : enumAtX (.tup xs) = some (enumD xs) := rfl
@[simp] theorem enumAtX_l (xs : List D) : enumAtX (.lst xs) = some (enumD xs) := rfl
end
end HR
set_option Elab.async false
set_option linter.all false
set_option maxRecDepth 20000
set_option maxHeartbeats 1000000
/-! a def that reads no own objects and answers new ones: run on an empty heap -/
namespace HR
open PySem L2 RZ
mutual
def shD (n : Nat) : D → D
  | .non => .non
  | .bl b => .bl b
  | .int i => .int i
  | .str x => .str x
  | .lst xs => .lst (shL n xs)
  | .tup xs => .tup (shL n xs)
  | .dct ks => .dct (shK n ks)
  | .obj C fs => .obj C (shF n fs)
  | .ref i => .ref (n + i)
  | .scr xs => .scr (shL n xs)
  | .exc C => .exc C
  | .excf C f d => .excf C f (shD n d)
def shL (n : Nat) : List D → List D
  | [] => []
  | d :: ds => shD n d :: shL n ds
def shK (n : Nat) : List (Key × D) → List (Key × D)
  | [] => []
  | (k, d) :: ks => (k, shD n d) :: shK n ks
def shF (n : Nat) : List (String × D) → List (String × D)
  | [] => []
  | (f, d) :: fs => (f, shD n d) :: shF n fs
end
def shO (n : Nat) : OO → OO
  | .lst xs => .lst (shL n xs)
  | .ins C fs => .ins C (shF n fs)
  | .dct ks => .dct (shK n ks)
  | .dead => .dead
def aliveO : OO → Bool
  | .dead => false
  | _ => true
section
variable {K : PySem.W.Frag} {F : Hp} {m m1 : List Addr}
theorem shF_names (n : Nat) : ∀ (fs : List (String × D)) (P : String → Prop), (∀ q ∈ fs, P q.1) → ∀ q ∈ shF n fs, P q.1
  | [], _, _, q, hq => by simp [shF] at hq
  | (f, d) :: fs, P, h, q, hq => by
    simp only [shF, List.mem_cons] at hq
    rcases hq with rfl | hq
    · exact h (f, d) List.mem_cons_self
    · exact shF_names n fs P (fun q hq => h q (List.mem_cons_of_mem _ hq)) q hq
theorem ObT.sh {C : String} {fs : List (String × D)} (n : Nat) (t : ObT K C fs) : ObT K C (shF n fs) := ⟨t.1, shF_names n fs (fun x => NoAttr K (He.ga K (Str.ofString C)) (Str.ofString x)) t.2⟩
theorem Den.sh {v : V} {d : D} (r : Den K F m1 v d) : Den K F (m ++ m1) v (shD m.length d) :=
  Den.rec (motive_1 := fun v d _ => Den K F (m ++ m1) v (shD m.length d)) (motive_2 := fun vs ds _ => DenL K F (m ++ m1) vs (shL m.length ds)) (motive_3 := fun vs ds _ => DenK K F (m ++ m1) vs (shK m.length ds)) (motive_4 := fun vs ds _ => DenF K F (m ++ m1) vs (shF m.length ds))
    .non .bl .int .str (fun q _ r => .lst q r) (fun q _ r => .scr q r) (fun q _ r => .tup q r) (fun q _ r => .dct q r) (fun q t _ r => .obj q (t.sh _) r)
    (fun {a i} q => .ref (by rw [List.getElem?_append_right (Nat.le_add_right _ _), Nat.add_sub_cancel_left]; exact q)) (fun q => .exc q) (fun q q2 _ r => .excf q q2 r)
    .nil (fun _ _ a b => .cons a b) .nil (fun _ _ a b => .cons a b) .nil (fun _ _ a b => .cons a b) r
theorem DenL.sh : ∀ {vs : List V} {ds : List D}, DenL K F m1 vs ds → DenL K F (m ++ m1) vs (shL m.length ds)
  | _, _, .nil => .nil
  | _, _, .cons a b => .cons a.sh b.sh
theorem DenK.sh : ∀ {vs : List (Key × V)} {ds : List (Key × D)}, DenK K F m1 vs ds → DenK K F (m ++ m1) vs (shK m.length ds)
  | _, _, .nil => .nil
  | _, _, .cons a b => .cons a.sh b.sh
theorem DenF.sh : ∀ {vs : List (Str × V)} {ds : List (String × D)}, DenF K F m1 vs ds → DenF K F (m ++ m1) vs (shF m.length ds)
  | _, _, .nil => .nil
  | _, _, .cons a b => .cons a.sh b.sh
theorem OOk.sh {H : Hp} {a : Addr} {o : OO} (ok : OOk K F m1 H a o) : OOk K F (m ++ m1) H a (shO m.length o) := by
  cases o with
  | lst xs =>
    obtain ⟨vs, h1, h2, h3⟩ := ok
    exact ⟨vs, h1, h2.sh, h3⟩
  | ins C fs =>
    obtain ⟨dx, fv, h1, h2, h3, h4⟩ := ok
    exact ⟨dx, fv, h1, h2.sh _, h3.sh, h4⟩
  | dct ks =>
    obtain ⟨kv, h1, h2, h3⟩ := ok
    exact ⟨kv, h1, h2.sh, h3⟩
  | dead => trivial
theorem OOk.none_ {H : Hp} {a : Addr} {o : OO} (ok : OOk K F m1 H a o) (al : aliveO o = true) : F a = none := by
  cases o with
  | lst xs => obtain ⟨vs, h1, h2, h3⟩ := ok; exact h3
  | ins C fs => obtain ⟨dx, fv, h1, h2, h3, h4⟩ := ok; exact h4
  | dct ks => obtain ⟨kv, h1, h2, h3⟩ := ok; exact h3
  | dead => cases al
end
section
variable {K : PySem.W.Frag} {P : Pins} {F : Hp} {m : List Addr} {h : OH} {H : Hp}
theorem Sim.join {F' : Hp} {m1 : List Addr} {h1 : OH} {H' : Hp} (S : Sim K P F m h H) (s : Same F F') (S' : Sim K (hidP F m H ++ P) F' m1 h1 H') (al : h1.all aliveO = true) : Sim K P F' (m ++ m1) (h ++ h1.map (shO h.length)) H' := by
  have U := S.unhide s S'
  have dis : ∀ a, a ∈ m → a ∉ m1 := fun a ha hb => by
    cases e : F a with
    | none =>
      obtain ⟨o, q⟩ := S.live a ha
      exact (S'.pin (a, o) (List.mem_append_left _ (mem_hidP.mpr ⟨ha, e, q⟩))).2.2 hb
    | some o =>
      obtain ⟨i, hi, ei⟩ := List.mem_iff_getElem.mp hb
      have e1 : m1[i]? = some a := by rw [List.getElem?_eq_getElem hi, ei]
      have hi2 : i < h1.length := by rw [← S'.len]; exact hi
      have e2 : h1[i]? = some h1[i] := List.getElem?_eq_getElem hi2
      have z := (S'.at_ i a _ e1 e2).none_ (List.all_eq_true.mp al _ (List.getElem_mem hi2))
      rw [s a o e] at z
      cases z
  refine ⟨S'.sub, by simp [S.len, S'.len], List.nodup_append.mpr ⟨S.nd, S'.nd, fun a ha b hb z => dis a ha (z ▸ hb)⟩, fun a ha => ?_, fun i a o e1 e2 => ?_, fun p hp => ?_, S.pnd⟩
  · rcases List.mem_append.mp ha with ha | ha
    · exact U.live a ha
    · exact S'.live a ha
  · by_cases hi : i < m.length
    · rw [List.getElem?_append_left hi] at e1
      rw [List.getElem?_append_left (by rw [← S.len]; exact hi)] at e2
      exact (U.at_ i a o e1 e2).mono ⟨fun _ _ q => q, List.prefix_append _ _⟩ rfl id
    · have hi : m.length ≤ i := Nat.le_of_not_lt hi
      rw [List.getElem?_append_right hi] at e1
      rw [List.getElem?_append_right (by rw [← S.len]; exact hi), List.getElem?_map, Option.map_eq_some_iff] at e2
      obtain ⟨o1, q1, rfl⟩ := e2
      rw [← S.len] at q1 ⊢
      exact (S'.at_ _ a o1 e1 q1).sh
  · obtain ⟨h1, h2, h3⟩ := S'.pin p (List.mem_append_right _ hp)
    refine ⟨h1, h2, fun z => ?_⟩
    rcases List.mem_append.mp z with z | z
    · exact (S.pin p hp).2.2 z
    · exact h3 z
def freshF (f : FN) : FN := fun ds h => if D.pureL ds then (match f ds [] with
  | .ok d h1 => if h1.all aliveO then .ok (shD h.length d) (h ++ h1.map (shO h.length)) else .bad
  | .exc C none _ => .exc C none h
  | .exc C (some q) _ => if q.2.pure then .exc C (some q) h else .bad
  | .bad => .bad) else .bad
theorem fresh_sp {np : Nat} {f : FN} {vs : List V} {Q : VK} {E : XK} (q : spN K np (freshF f) vs H Q E) : spN K np f vs H Q E := by
  obtain ⟨hl, P, F, m, ds, h, S, r, fin⟩ := q
  unfold freshF at fin
  by_cases hp : D.pureL ds = true
  · rw [if_pos hp] at fin
    refine ⟨hl, _, F, [], ds, [], S.hide, r.pureM hp, ?_⟩
    cases q : f ds [] with
    | ok d h' =>
      rw [q] at fin
      dsimp only at fin
      by_cases hd : h'.all aliveO = true
      · rw [if_pos hd] at fin
        intro v F' m' H' x S' rv
        have rv' := rv.sh (m := m)
        rw [S.len] at rv'
        exact fin v F' (m ++ m') H' ⟨x.s, List.prefix_append _ _⟩ (S.join x.s S' hd) rv'
      · rw [if_neg hd] at fin
        exact fin.elim
    | exc C p h' =>
      rw [q] at fin
      cases p with
      | none =>
        intro od F' m' H' x S' pd
        exact fin od F' m H' ⟨x.s, List.prefix_rfl⟩ (S.unhide x.s S') pd
      | some z =>
        dsimp only at fin
        by_cases hd : z.2.pure = true
        · rw [if_pos hd] at fin
          intro od F' m' H' x S' pd
          obtain ⟨a, v, e1, e2, e3⟩ := pd
          exact fin od F' m H' ⟨x.s, List.prefix_rfl⟩ (S.unhide x.s S') ⟨a, v, e1, e2, e3.pureM hd⟩
        · rw [if_neg hd] at fin
          exact fin.elim
    | bad => rw [q] at fin; exact fin
  · rw [if_neg hp] at fin
    exact fin.elim
end
theorem FnOk.fresh {P : Program} {w : World} {K : PySem.W.Frag} {mg : Str → Option Value} {base : Heap} {CX : CXT} {k : Nat} {f : Addr} {fd : FuncData} {ps : List Str} {g : FN} (F : FnOk P w K mg base CX k f fd ps (spN K ps.length g)) : FnOk P w K mg base CX k f fd ps (spN K ps.length (freshF g)) := L2.FnOk.imp F fun _ _ _ _ h => fresh_sp h
theorem Def.fresh {P : Program} {w : World} {K : PySem.W.Frag} {mg : Str → Option Value} {base : Heap} {CX : CXT} {k : Nat} {f : Addr} {ps : List Str} {dvs : List V} {g : FN} (d : Def P w K mg base CX k f ps dvs g) : Def P w K mg base CX k f ps dvs (freshF g) := let ⟨fd, dus, a, b, c⟩ := d.ex; ⟨⟨fd, dus, FnOk.fresh a, b, c⟩, d.kp⟩
end HR
set_option Elab.async false
set_option linter.all false
/-! the plain functions -/
namespace HR
open PySem L2
namespace Sh
/-- is_integer -/
def is_integer_b : SS := (sSeq (sIfS (sOr (sNot (sTest (sIsi ["int"] (sVar 0)))) (sTest (sIsi ["bool"] (sVar 0)))) (sRet (sC (.bl false))) sNext) (sRet (sAndV (sBin opGe (sVar 0) (sVar 1)) (sOrV (sBin (opIs false) (sVar 2) (sC .non)) (sBin opLe (sVar 0) (sVar 2))))))
def is_integer : FN := fnOf 3 is_integer_b
/-- is_sequence -/
def is_sequence_b : SS := (sRet (sIsi ["list", "tuple"] (sVar 0)))
def is_sequence : FN := fnOf 1 is_sequence_b
/-- is_name -/
def is_name_b : SS := (sRet (sAndV (sIsi ["str"] (sVar 0)) (sAndV (sChain opLe opLe (sC (.int 1)) (sCall bLen (sCons (sVar 0) sNil)) (sC (.int (8)))) (sCall (b1 opAll) (sCons (sLc false (sIt (sVar 0)) (gN 1) sYes (sBin (opInS false) (sVar 1) (sC (.str "abcdefghijklmnopqrstuvwxyz"))) [1]) sNil)))))
def is_name : FN := fnOf 2 is_name_b
/-- _law_draw -/
def l_draw_b : SS := (sSeq (sIfS (sTest (sBin opGt (sBin opIx (sVar 0) (sC (.int 0))) (sC (.int 0)))) (sSeq (sSet 2 (sBin opMod (sBin opIx (sVar 0) (sC (.int 0))) (sVar 1))) (sSeq (sIxS (sVar 0) (sC (.int 0)) (sBin opDiv (sBin opIx (sVar 0) (sC (.int 0))) (sVar 1))) (sRet (sVar 2)))) sNext) (sSeq (sIxS (sVar 0) (sC (.int 2)) (sBin opAdd (sBin opIx (sVar 0) (sC (.int 2))) (sC (.int 1)))) (sSeq (sSet 3 (sBin opMod (sBin opMul (sBin opIx (sVar 0) (sC (.int 1))) (sBin opIx (sVar 0) (sC (.int 1)))) (sC (.int 2305843009213693951)))) (sSeq (sIxS (sVar 0) (sC (.int 1)) (sBin opMod (sBin opAdd (sBin opAdd (sVar 3) (sBin opMul (sBin opMul (sC (.int 7919)) (sBin opIx (sVar 0) (sC (.int 2)))) (sBin opIx (sVar 0) (sC (.int 1))))) (sC (.int 104729))) (sC (.int 2305843009213693951)))) (sRet (sBin opMod (sBin opDiv (sBin opIx (sVar 0) (sC (.int 1))) (sC (.int 65537))) (sVar 1)))))))
def l_draw : FN := fnOf 4 l_draw_b
/-- _law_dressed -/
def l_dressed_b (rec_ : FN) : SS := (sSeq (sIfS (sNot (sTest (sIsi ["list", "tuple"] (sVar 1)))) (sRet (sVar 1)) sNext) (sSeq (sSet 2 (sLc false (sIt (sVar 1)) (gN 3) sYes (sCall (withD [] rec_) (sCons (sVar 0) (sCons (sVar 3) sNil))) [3])) (sRet (sIf (sTest (sBin (opEq false) (sCall (withD [] Sh.l_draw) (sCons (sVar 0) (sCons (sC (.int 2)) sNil))) (sC (.int 0)))) (sVar 2) (sCall (b1 opTuple) (sCons (sVar 2) sNil))))))
def l_dressed_n : Nat → FN
  | 0 => fun _ _ => .bad
  | j + 1 => fnOf 4 (l_dressed_b (l_dressed_n j))
/-- _law_draw -/
def l_draw_1_b : SS := (sSeq (sIfS (sTest (sBin (opNil true) (sBin opIx (sVar 0) (sC (.int 0))) (sLst sNil))) (sSeq (sSet 2 (sBin opIx (sBin opIx (sVar 0) (sC (.int 0))) (sC (.int 0)))) (sSeq (sIxS (sVar 0) (sC (.int 0)) (sBin opAdd (sBin opMul (sLst (sCons (sBin opDiv (sVar 2) (sVar 1)) sNil)) (sCall (b1 opInt) (sCons (sBin opGe (sVar 2) (sVar 1)) sNil))) (sCut false (sBin opIx (sVar 0) (sC (.int 0))) (sPart (sC (.int 1))) sNoPart))) (sRet (sBin opMod (sVar 2) (sVar 1))))) sNext) (sSeq (sIxS (sVar 0) (sC (.int 2)) (sBin opAdd (sBin opIx (sVar 0) (sC (.int 2))) (sC (.int 1)))) (sSeq (sSet 3 (sBin opIx (sBin opIx (sVar 0) (sC (.int 1))) (sBin opMod (sBin opIx (sVar 0) (sC (.int 2))) (sCall bLen (sCons (sBin opIx (sVar 0) (sC (.int 1))) sNil))))) (sSeq (sSet 4 (sBin opAdd (sBin opAdd (sBin opMul (sBin opIx (sVar 0) (sC (.int 3))) (sBin opIx (sVar 0) (sC (.int 3)))) (sBin opMul (sBin opAdd (sVar 3) (sC (.int 5))) (sC (.int 92821)))) (sBin opMul (sBin opIx (sVar 0) (sC (.int 2))) (sC (.int 1000039))))) (sSeq (sIxS (sVar 0) (sC (.int 3)) (sBin opMod (sVar 4) (sBin opSub (sBin opMul (sBin opPow (sC (.int 2)) (sC (.int 64))) (sBin opPow (sC (.int 2)) (sC (.int 63)))) (sC (.int 1))))) (sRet (sBin opMod (sBin opDiv (sBin opIx (sVar 0) (sC (.int 3))) (sBin opPow (sC (.int 2)) (sC (.int 41)))) (sVar 1))))))))
def l_draw_1 : FN := fnOf 5 l_draw_1_b
/-- _law_dressed -/
def l_dressed_1_b (rec_ : FN) : SS := (sSeq (sIfS (sNot (sTest (sIsi ["list", "tuple"] (sVar 1)))) (sRet (sVar 1)) sNext) (sSeq (sSet 2 (sLc false (sIt (sVar 1)) (gN 3) sYes (sCall (withD [] rec_) (sCons (sVar 0) (sCons (sVar 3) sNil))) [3])) (sRet (sIf (sTest (sBin (opEq false) (sCall (withD [] Sh.l_draw_1) (sCons (sVar 0) (sCons (sC (.int 2)) sNil))) (sC (.int 0)))) (sVar 2) (sCall (b1 opTuple) (sCons (sVar 2) sNil))))))
def l_dressed_1_n : Nat → FN
  | 0 => fun _ _ => .bad
  | j + 1 => fnOf 4 (l_dressed_1_b (l_dressed_1_n j))
/-- is_member -/
def is_member_b : SS := (sRet (sAndV (sCall (withD [] (pureF Sh.is_sequence)) (sCons (sVar 0) sNil)) (sAndV (sBin (opEq false) (sCall bLen (sCons (sVar 0) sNil)) (sC (.int 2))) (sAndV (sCall (withD [] (pureF Sh.is_name)) (sCons (sBin opIx (sVar 0) (sC (.int 0))) sNil)) (sCall (withD [] (pureF Sh.is_integer)) (sCons (sBin opIx (sVar 0) (sC (.int 1))) (sCons (sC (.int 1)) (sCons (sC (.int (10))) sNil))))))))
def is_member : FN := fnOf 1 is_member_b
/-- check_members -/
def check_members_b : SS := (sSeq (sIfS (sOr (sNot (sTest (sCall (withD [] (pureF Sh.is_sequence)) (sCons (sVar 0) sNil)))) (sOr (sTest (sBin opGt (sCall bLen (sCons (sVar 0) sNil)) (sC (.int (10))))) (sNot (sTest (sCall (b1 opAll) (sCons (sLc false (sIt (sVar 0)) (gN 1) sYes (sCall (withD [] (pureF Sh.is_member)) (sCons (sVar 1) sNil)) [1]) sNil)))))) (sRaise "InvalidMembers") sNext) (sIfS (sTest (sBin opLt (sLenSet (sLc false (sIt (sVar 0)) (gN 1) sYes (sBin opIx (sVar 1) (sC (.int 0))) [1])) (sCall bLen (sCons (sVar 0) sNil)))) (sRaise "InvalidMembers") sNext))
def check_members : FN := fnOf 2 check_members_b
/-- is_item -/
def is_item_b : SS := (sRet (sOrV (sBin (opIs false) (sVar 0) (sC .non)) (sAndV (sIsi ["str"] (sVar 0)) (sBin (opInL false) (sVar 0) (sVar 1)))))
def is_item : FN := fnOf 2 is_item_b
/-- check_record -/
def check_record_b : SS := (sSeq (sIfS (sOr (sNot (sTest (sCall (withD [] (pureF Sh.is_sequence)) (sCons (sVar 0) sNil)))) (sTest (sBin opGt (sCall bLen (sCons (sVar 0) sNil)) (sC (.int (400)))))) (sRaise "InvalidRecord") sNext) (sIfS (sNot (sTest (sCall (b1 opAll) (sCons (sLc false (sIt (sVar 0)) (gN 2) sYes (sCall (withD [] (pureF Sh.is_item)) (sCons (sVar 2) (sCons (sVar 1) sNil))) [2]) sNil)))) (sRaise "InvalidRecord") sNext))
def check_record : FN := fnOf 3 check_record_b
/-- Observed.__init__ -/
def Observed_init_b : SS := (sSeq (sFldS "Observed" "position" (sVar 0) (sVar 1)) (sSeq (sFldS "Observed" "name" (sVar 0) (sVar 2)) (sSeq (sFldS "Observed" "rank" (sVar 0) (sVar 3)) (sSeq (sFldS "Observed" "found_talks" (sVar 0) (sLstO sNil)) (sSeq (sFldS "Observed" "quiet_ticks" (sVar 0) (sC (.int 0))) (sFldS "Observed" "is_open" (sVar 0) (sC (.bl false))))))))
def Observed_init : FN := fnOf 4 Observed_init_b
/-- Observed.pass_tick -/
def Observed_pass_tick_b : SS := (sSeq (sIfS (sOr (sTest (sBin (opIs false) (sVar 1) (sC .non))) (sTest (sBin opGt (sUn (opFld "rank") (sVar 1)) (sUn (opFld "rank") (sVar 0))))) (sFldA "Observed" "quiet_ticks" (sVar 0) (sC (.int 1))) sNext) (sIfS (sOr (sTest (sBin (opIs false) (sVar 1) (sC .non))) (sTest (sBin opGe (sUn (opFld "rank") (sVar 1)) (sUn (opFld "rank") (sVar 0))))) (sFldS "Observed" "is_open" (sVar 0) (sC (.bl false))) sNext))
def Observed_pass_tick : FN := fnOf 2 Observed_pass_tick_b
/-- Observed.speak_on -/
def Observed_speak_on_b : SS := (sSeq (sIfS (sTest (sUn (opFld "is_open") (sVar 0))) (sSeq (sAsg (gT 2 (gCs (gN 1) (gCs (gN 2) gNl))) (sBin opIx (sUn (opFld "found_talks") (sVar 0)) (sUn opNeg (sC (.int 1))))) (sIxS (sUn (opFld "found_talks") (sVar 0)) (sUn opNeg (sC (.int 1))) (sTup (sCons (sVar 1) (sCons (sBin opAdd (sVar 2) (sC (.int 1))) sNil))))) (sExpr (sMtO gAppend (sUn (opFld "found_talks") (sVar 0)) (sCons (sTup (sCons (sUn (opFld "quiet_ticks") (sVar 0)) (sCons (sC (.int 1)) sNil))) sNil)))) (sSeq (sFldS "Observed" "quiet_ticks" (sVar 0) (sC (.int 0))) (sFldS "Observed" "is_open" (sVar 0) (sC (.bl true)))))
def Observed_speak_on : FN := fnOf 3 Observed_speak_on_b
/-- Reading.read_tick -/
def Reading_read_tick_b : SS := (sSeq (sFor (sIt (sUn (opFld "observed") (sVar 0))) (gN 2) (sIfS (sTest (sBin (opEqI ["Observed"]) (sVar 2) (sVar 1))) (sExpr (sMeth "Observed" "speak_on" Sh.Observed_speak_on (sVar 2) sNil)) (sExpr (sMeth "Observed" "pass_tick" Sh.Observed_pass_tick (sVar 2) (sCons (sVar 1) sNil))))) (sSeq (sFor (sRng2 (sC (.int 1)) (sBin opAdd (sC (.int (10))) (sC (.int 1)))) (gN 3) (sIfS (sOr (sTest (sBin (opIs false) (sVar 1) (sC .non))) (sTest (sBin opGt (sUn (opFld "rank") (sVar 1)) (sVar 3)))) (sIxK (sUn (opFld "last_position") (sVar 0)) (sVar 3) (sUn opNeg (sC (.int 1)))) sNext)) (sIfS (sTest (sBin (opIs true) (sVar 1) (sC .non))) (sIxK (sUn (opFld "last_position") (sVar 0)) (sUn (opFld "rank") (sVar 1)) (sCall bMax (sCons (sBin opIxD (sUn (opFld "last_position") (sVar 0)) (sUn (opFld "rank") (sVar 1))) (sCons (sUn (opFld "position") (sVar 1)) sNil)))) sNext)))
def Reading_read_tick : FN := fnOf 4 Reading_read_tick_b
/-- Reading.kind_of_fault -/
def Reading_kind_of_fault_b : SS := (sSeq (sIfS (sTest (sUn (opFld "is_open") (sVar 1))) (sRet (sC .non)) sNext) (sSeq (sIfS (sTest (sBin (opEq false) (sUn (opFld "quiet_ticks") (sVar 1)) (sC (.int 0)))) (sRet (sC (.str "silence"))) sNext) (sRet (sIf (sTest (sBin opGt (sBin opIxD (sUn (opFld "last_position") (sVar 0)) (sUn (opFld "rank") (sVar 1))) (sUn (opFld "position") (sVar 1)))) (sC (.str "order")) (sC .non)))))
def Reading_kind_of_fault : FN := fnOf 2 Reading_kind_of_fault_b
/-- Reading.__init__ -/
def Reading_init_b : SS := (sSeq (sFldS "Reading" "observed" (sVar 0) (sLc false (sEnumX (sCons (sVar 1) sNil)) (gT 2 (gCs (gN 3) (gCs (gN 4) gNl))) sYes (sMake "Observed" Sh.Observed_init (sCons (sVar 3) (sCons (sBin opIx (sVar 4) (sC (.int 0))) (sCons (sBin opIx (sVar 4) (sC (.int 1))) sNil)))) [3, 4])) (sSeq (sFldS "Reading" "last_position" (sVar 0) (sDcO (sRng2 (sC (.int 1)) (sBin opAdd (sC (.int (10))) (sC (.int 1)))) (gN 5) sYes (sVar 5) (sUn opNeg (sC (.int 1))) [5])) (sSeq (sFldS "Reading" "fault" (sVar 0) (sC .non)) (sFor (sEnumX (sCons (sVar 2) sNil)) (gT 2 (gCs (gN 6) (gCs (gN 7) gNl))) (sSeq (sSet 8 (sIf (sTest (sBin (opIs false) (sVar 7) (sC .non))) (sC .non) (sBin opIx (sLc false (sIt (sUn (opFld "observed") (sVar 0))) (gN 4) (sTest (sBin (opEq false) (sUn (opFld "name") (sVar 4)) (sVar 7))) (sVar 4) [4]) (sC (.int 0))))) (sSeq (sSet 9 (sIf (sTest (sBin (opIs false) (sVar 8) (sC .non))) (sC .non) (sMeth "Reading" "kind_of_fault" Sh.Reading_kind_of_fault (sVar 0) (sCons (sVar 8) sNil)))) (sSeq (sIfS (sTest (sBin (opIs true) (sVar 9) (sC .non))) (sSeq (sFldS "Reading" "fault" (sVar 0) (sTup (sCons (sVar 6) (sCons (sVar 9) sNil)))) sBreak) sNext) (sExpr (sMeth "Reading" "read_tick" Sh.Reading_read_tick (sVar 0) (sCons (sVar 8) sNil))))))))))
def Reading_init : FN := fnOf 10 Reading_init_b
/-- checked_reading -/
def checked_reading_b : SS := (sSeq (sExpr (sCall (withD [] (pureF Sh.check_members)) (sCons (sVar 0) sNil))) (sSeq (sExpr (sCall (withD [] (pureF Sh.check_record)) (sCons (sVar 1) (sCons (sLc false (sIt (sVar 0)) (gN 2) sYes (sBin opIx (sVar 2) (sC (.int 0))) [2]) sNil)))) (sRet (sMake "Reading" Sh.Reading_init (sCons (sVar 0) (sCons (sVar 1) sNil))))))
def checked_reading : FN := fnOf 3 checked_reading_b
/-- fault_of -/
def fault_of_b : SS := (sRet (sUn (opFld "fault") (sCall (withD [] Sh.checked_reading) (sCons (sVar 0) (sCons (sVar 1) sNil)))))
def fault_of : FN := fnOf 2 fault_of_b
/-- _law_bag -/
def l_bag_b : SS := (sSeq (sSet 1 (sC (.int 1))) (sSeq (sFor (sIt (sVar 0)) (gN 2) (sSet 1 (sBin opMod (sBin opAdd (sBin opAdd (sBin opMul (sVar 1) (sC (.int 1000003))) (sBin opMod (sVar 2) (sC (.int 2305843009213693951)))) (sC (.int 1))) (sC (.int 2305843009213693951))))) (sRet (sLstO (sCons (sCall (b1 (opList false)) (sCons (sVar 0) sNil)) (sCons (sC (.int 0)) (sCons (sC (.int 0)) (sCons (sC (.int 0)) (sCons (sVar 1) sNil)))))))))
def l_bag : FN := fnOf 3 l_bag_b
/-- _law_stir -/
def l_stir_b : SS := (sSeq (sSet 2 (sBin opMod (sBin opAdd (sBin opAdd (sBin opMul (sVar 0) (sC (.int 998244353))) (sBin opMul (sVar 1) (sC (.int 1000000007)))) (sC (.int 5))) (sC (.int 2305843009213693951)))) (sSeq (sSet 3 (sBin opMod (sBin opMul (sVar 2) (sVar 2)) (sC (.int 2305843009213693951)))) (sRet (sBin opDiv (sBin opMod (sBin opAdd (sBin opAdd (sBin opMul (sVar 3) (sC (.int 2860486313))) (sBin opMul (sBin opMul (sVar 1) (sVar 1)) (sC (.int 48271)))) (sBin opDiv (sVar 2) (sC (.int 3)))) (sC (.int 2305843009213693921))) (sC (.int 1024))))))
def l_stir : FN := fnOf 4 l_stir_b
/-- _law_draw -/
def l_draw_2_b : SS := (sSeq (sIfS (sTest (sBin (opEq false) (sVar 1) (sC (.int 1)))) (sRet (sC (.int 0))) sNext) (sSeq (sIxS (sVar 0) (sC (.int 3)) (sBin opAdd (sBin opIx (sVar 0) (sC (.int 3))) (sC (.int 1)))) (sSeq (sIfS (sAnd (sTest (sBin opLt (sBin opIx (sVar 0) (sC (.int 2))) (sC (.int 2)))) (sTest (sBin (opEq false) (sBin opIx (sVar 0) (sC (.int 1))) (sCall bLen (sCons (sBin opIx (sVar 0) (sC (.int 0))) sNil))))) (sRet (sBin opMod (sCall (withD [] (pureF Sh.l_stir)) (sCons (sBin opIx (sVar 0) (sC (.int 4))) (sCons (sBin opIx (sVar 0) (sC (.int 3))) sNil))) (sVar 1))) sNext) (sSeq (sIfS (sTest (sBin opLt (sBin opIx (sVar 0) (sC (.int 2))) (sC (.int 2)))) (sSeq (sSet 2 (sBin opIx (sBin opIx (sVar 0) (sC (.int 0))) (sBin opIx (sVar 0) (sC (.int 1))))) (sSeq (sIxS (sVar 0) (sC (.int 1)) (sBin opAdd (sBin opIx (sVar 0) (sC (.int 1))) (sC (.int 1)))) (sSeq (sIfS (sTest (sBin opLt (sVar 2) (sBin opPow (sC (.int 10)) (sC (.int 18))))) (sRet (sBin opMod (sCall (withD [] (pureF Sh.l_stir)) (sCons (sBin opMod (sVar 2) (sC (.int 2305843009213693951))) (sCons (sBin opIx (sVar 0) (sC (.int 3))) sNil))) (sVar 1))) sNext) (sIxS (sVar 0) (sC (.int 2)) (sBin opSub (sVar 2) (sBin opPow (sC (.int 10)) (sC (.int 18)))))))) sNext) (sSeq (sSet 3 (sBin opMod (sBin opIx (sVar 0) (sC (.int 2))) (sVar 1))) (sSeq (sIxS (sVar 0) (sC (.int 2)) (sBin opDiv (sBin opIx (sVar 0) (sC (.int 2))) (sVar 1))) (sRet (sVar 3))))))))
def l_draw_2 : FN := fnOf 4 l_draw_2_b
/-- _law_talks -/
def l_talks_2_b : SS := (sSeq (sSet 4 (sBin opAdd (sVar 1) (sCall (withD [] Sh.l_draw_2) (sCons (sVar 0) (sCons (sVar 2) sNil))))) (sRet (sLc false (sRng1 (sVar 4)) (gN 5) sYes (sTup (sCons (sBin opAdd (sC (.int 1)) (sCall (withD [] Sh.l_draw_2) (sCons (sVar 0) (sCons (sVar 3) sNil)))) (sCons (sBin opAdd (sC (.int 1)) (sCall (withD [] Sh.l_draw_2) (sCons (sVar 0) (sCons (sVar 3) sNil)))) sNil))) [5])))
def l_talks_2 : FN := fnOf 6 l_talks_2_b
/-- _law_hall -/
def l_hall_2_b : SS := (sSeq (sSet 3 (sLstO (sCons (sC (.str "a")) (sCons (sC (.str "b")) (sCons (sC (.str "abcdefgh")) (sCons (sC (.str "zz")) (sCons (sC (.str "m")) (sCons (sC (.str "ba")) (sCons (sC (.str "q")) (sCons (sC (.str "xyz")) (sCons (sC (.str "cc")) (sCons (sC (.str "p")) sNil)))))))))))) (sSeq (sSet 4 (sBin opIx (sLst (sCons (sC (.int 1)) (sCons (sC (.int 2)) (sCons (sC (.int 4)) (sCons (sC (.int 10)) sNil))))) (sCall (withD [] Sh.l_draw_2) (sCons (sVar 0) (sCons (sC (.int 4)) sNil))))) (sSeq (sSet 5 (sLstO sNil)) (sSeq (sFor (sRng1 (sCall (withD [] Sh.l_draw_2) (sCons (sVar 0) (sCons (sBin opAdd (sVar 1) (sC (.int 1))) sNil)))) (gN 6) (sSeq (sSet 7 (sMtO gPopAt (sVar 3) (sCons (sCall (withD [] Sh.l_draw_2) (sCons (sVar 0) (sCons (sCall bLen (sCons (sVar 3) sNil)) sNil))) sNil))) (sSeq (sSet 8 (sCall (withD [] Sh.l_talks_2) (sCons (sVar 0) (sCons (sC (.int 0)) (sCons (sBin opIx (sLst (sCons (sC (.int 1)) (sCons (sC (.int 1)) (sCons (sC (.int 3)) (sCons (sC (.int 9)) sNil))))) (sCall (withD [] Sh.l_draw_2) (sCons (sVar 0) (sCons (sC (.int 4)) sNil)))) (sCons (sVar 2) sNil)))))) (sSeq (sSet 9 (sCall (withD [] Sh.l_talks_2) (sCons (sVar 0) (sCons (sC (.int 1)) (sCons (sBin opIx (sLst (sCons (sC (.int 1)) (sCons (sC (.int 3)) (sCons (sC (.int 8)) sNil)))) (sCall (withD [] Sh.l_draw_2) (sCons (sVar 0) (sCons (sC (.int 3)) sNil)))) (sCons (sVar 2) sNil)))))) (sExpr (sMtO gAppend (sVar 5) (sCons (sTup (sCons (sVar 7) (sCons (sBin opAdd (sC (.int 1)) (sCall (withD [] Sh.l_draw_2) (sCons (sVar 0) (sCons (sVar 4) sNil)))) (sCons (sVar 8) (sCons (sVar 9) sNil))))) sNil))))))) (sRet (frzE (sVar 5)))))))
def l_hall_2 : FN := fnOf 10 l_hall_2_b
/-- _law_seat -/
def l_seat_b : SS := (sSeq (sSet 1 (sDispO [("name", (sBin opIx (sVar 0) (sC (.int 0)))), ("rank", (sBin opIx (sVar 0) (sC (.int 1)))), ("prefix", (sCall (b1 (opList false)) (sCons (sBin opIx (sVar 0) (sC (.int 2))) sNil))), ("cycle", (sCall (b1 (opList false)) (sCons (sBin opIx (sVar 0) (sC (.int 3))) sNil)))])) (sSeq (sExpr (sUpd (sVar 1) (sCons (sDispO [("index", (sC (.int 0))), ("waited", (sC (.int 0))), ("begun", (sC (.int 0))), ("ready", (sC (.bl false))), ("total", (sC (.int 0)))]) sNil))) (sRet (sVar 1))))
def l_seat : FN := fnOf 2 l_seat_b
/-- _law_model -/
def l_model_b : SS := (sSeq (sSet 1 (sCall (b1 opDictP) (sCons (sLc false (sRng2 (sC (.int 1)) (sC (.int 11))) (gN 2) sYes (sTup (sCons (sVar 2) (sCons (sLstO sNil) sNil))) [2]) sNil))) (sRet (sDispO [("tick", (sC (.int 0))), ("silent", (sC (.int 0))), ("all", (sLc false (sIt (sVar 0)) (gN 3) sYes (sCall (withD [] Sh.l_seat) (sCons (sVar 3) sNil)) [3])), ("queues", (sVar 1))])))
def l_model : FN := fnOf 4 l_model_b
/-- _law_talk -/
def l_talk_b : SS := (sSeq (sSet 1 (sBin opSub (sBin opIxD (sVar 0) (sC (.str "index"))) (sCall bLen (sCons (sBin opIxD (sVar 0) (sC (.str "prefix"))) sNil)))) (sRet (sIf (sTest (sBin opLt (sVar 1) (sC (.int 0)))) (sBin opIx (sBin opIxD (sVar 0) (sC (.str "prefix"))) (sBin opIxD (sVar 0) (sC (.str "index")))) (sBin opIx (sBin opIxD (sVar 0) (sC (.str "cycle"))) (sBin opMod (sVar 1) (sCall bLen (sCons (sBin opIxD (sVar 0) (sC (.str "cycle"))) sNil)))))))
def l_talk : FN := fnOf 2 l_talk_b
/-- _law_find -/
def l_find_b : SS := (sRet (sBin opIx (sLc false (sIt (sBin opIxD (sVar 0) (sC (.str "all")))) (gN 2) (sTest (sBin (opEq false) (sBin opIxD (sVar 2) (sC (.str "name"))) (sVar 1))) (sVar 2) [2]) (sC (.int 0))))
def l_find : FN := fnOf 3 l_find_b
/-- _law_first -/
def l_first_b : SS := (sSeq (sSet 1 (sLc false (sRng2 (sC (.int 1)) (sC (.int 11))) (gN 2) (sTest (sBin (opNil true) (sBin opIxD (sBin opIxD (sVar 0) (sC (.str "queues"))) (sVar 2)) (sLst sNil))) (sBin opIx (sBin opIxD (sBin opIxD (sVar 0) (sC (.str "queues"))) (sVar 2)) (sC (.int 0))) [2])) (sRet (sIf (sTest (sBin (opNil true) (sVar 1) (sLst sNil))) (sCall (withD [] Sh.l_find) (sCons (sVar 0) (sCons (sBin opIx (sVar 1) (sC (.int 0))) sNil))) (sC .non))))
def l_first : FN := fnOf 3 l_first_b
/-- _law_pass -/
def l_pass_b : SS := (sSeq (sSet 1 (sCall (withD [] Sh.l_first) (sCons (sVar 0) sNil))) (sSeq (sFor (sIt (sBin opIxD (sVar 0) (sC (.str "all")))) (gN 2) (sIfS (sAnd (sNot (sTest (sBin opIxD (sVar 2) (sC (.str "ready"))))) (sOr (sTest (sBin (opIs false) (sVar 1) (sC .non))) (sTest (sBin opGt (sBin opIxD (sVar 1) (sC (.str "rank"))) (sBin opIxD (sVar 2) (sC (.str "rank"))))))) (sSeq (sIxK (sVar 2) (sC (.str "waited")) (sBin opAdd (sBin opIxD (sVar 2) (sC (.str "waited"))) (sC (.int 1)))) (sSeq (sIxK (sVar 2) (sC (.str "ready")) (sBin (opEq false) (sBin opIxD (sVar 2) (sC (.str "waited"))) (sBin opIx (sCall (withD [] Sh.l_talk) (sCons (sVar 2) sNil)) (sC (.int 0))))) (sExpr (sMtO gExtend (sBin opIxD (sBin opIxD (sVar 0) (sC (.str "queues"))) (sBin opIxD (sVar 2) (sC (.str "rank")))) (sCons (sBin opMul (sLst (sCons (sBin opIxD (sVar 2) (sC (.str "name"))) sNil)) (sCall (b1 opInt) (sCons (sBin opIxD (sVar 2) (sC (.str "ready"))) sNil))) sNil))))) sNext)) (sSeq (sIxK (sVar 0) (sC (.str "tick")) (sBin opAdd (sBin opIxD (sVar 0) (sC (.str "tick"))) (sC (.int 1)))) (sSeq (sIxK (sVar 0) (sC (.str "silent")) (sBin opAdd (sBin opIxD (sVar 0) (sC (.str "silent"))) (sCall (b1 opInt) (sCons (sBin (opIs false) (sVar 1) (sC .non)) sNil)))) (sIfS (sTest (sBin (opIs true) (sVar 1) (sC .non))) (sSeq (sSub2 (sVar 1) (sC (.str "begun")) (sVar 1) (sC (.str "total")) (sTup (sCons (sBin opAdd (sBin opIxD (sVar 1) (sC (.str "begun"))) (sC (.int 1))) (sCons (sBin opAdd (sBin opIxD (sVar 1) (sC (.str "total"))) (sC (.int 1))) sNil)))) (sIfS (sTest (sBin (opEq false) (sBin opIxD (sVar 1) (sC (.str "begun"))) (sBin opIx (sCall (withD [] Sh.l_talk) (sCons (sVar 1) sNil)) (sC (.int 1))))) (sSeq (sExpr (sMtO gRem (sBin opIxD (sBin opIxD (sVar 0) (sC (.str "queues"))) (sBin opIxD (sVar 1) (sC (.str "rank")))) (sCons (sBin opIxD (sVar 1) (sC (.str "name"))) sNil))) (sExpr (sUpd (sVar 1) (sCons (sDispO [("index", (sBin opAdd (sBin opIxD (sVar 1) (sC (.str "index"))) (sC (.int 1)))), ("waited", (sC (.int 0))), ("begun", (sC (.int 0))), ("ready", (sC (.bl false)))]) sNil)))) sNext)) sNext)))))
def l_pass : FN := fnOf 3 l_pass_b
/-- _law_heard -/
def l_heard_b : SS := (sSeq (sSet 2 (sCall (withD [] Sh.l_model) (sCons (sVar 0) sNil))) (sSeq (sSet 3 (sLstO sNil)) (sSeq (sFor (sRng1 (sVar 1)) (gN 4) (sSeq (sSet 5 (sCall (withD [] Sh.l_first) (sCons (sVar 2) sNil))) (sSeq (sExpr (sMtO gAppend (sVar 3) (sCons (sIf (sTest (sBin (opIs false) (sVar 5) (sC .non))) (sC .non) (sBin opIxD (sVar 5) (sC (.str "name")))) sNil))) (sExpr (sCall (withD [] Sh.l_pass) (sCons (sVar 2) sNil)))))) (sRet (sVar 3)))))
def l_heard : FN := fnOf 6 l_heard_b
/-- _law_quiet -/
def l_quiet_b : SS := (sRet (sLc false (sRng2 (sVar 3) (sVar 4)) (gN 5) (sOr (sTest (sBin (opIs false) (sBin opIx (sVar 1) (sVar 5)) (sC .non))) (sTest (sBin opGt (sBin opIxK (sVar 0) (sBin opIx (sVar 1) (sVar 5))) (sVar 2)))) (sVar 5) [5]))
def l_quiet : FN := fnOf 6 l_quiet_b
/-- _law_last -/
def l_last_b : SS := (sSeq (sSet 3 (sLc false (sRng1 (sVar 2)) (gN 4) (sTest (sBin (opEq false) (sBin opIx (sVar 0) (sVar 4)) (sVar 1))) (sVar 4) [4])) (sRet (sIf (sTest (sBin (opNil true) (sVar 3) (sLst sNil))) (sBin opIx (sVar 3) (sUn opNeg (sC (.int 1)))) (sUn opNeg (sC (.int 1))))))
def l_last : FN := fnOf 5 l_last_b
/-- _law_goes_on -/
def l_goes_on_b : SS := (sSeq (sSet 4 (sCall (withD [] (pureF Sh.l_last)) (sCons (sVar 1) (sCons (sVar 2) (sCons (sVar 3) sNil))))) (sSeq (sFor (sRng2 (sBin opAdd (sVar 4) (sC (.int 1))) (sVar 3)) (gN 5) (sIfS (sOr (sTest (sBin (opIs false) (sBin opIx (sVar 1) (sVar 5)) (sC .non))) (sTest (sBin opGe (sBin opIxK (sVar 0) (sBin opIx (sVar 1) (sVar 5))) (sBin opIxK (sVar 0) (sVar 2))))) (sRet (sC (.bl false))) sNext)) (sRet (sBin opGe (sVar 4) (sC (.int 0))))))
def l_goes_on : FN := fnOf 6 l_goes_on_b
/-- _law_either -/
def l_either_b : SS := (sRet (sBin opIx (sLst (sCons (sCall (b1 (opList false)) (sCons (sVar 1) sNil)) (sCons (sCall (b1 opTuple) (sCons (sVar 1) sNil)) sNil))) (sCall (withD [] Sh.l_draw_2) (sCons (sVar 0) (sCons (sC (.int 2)) sNil)))))
def l_either : FN := fnOf 2 l_either_b
/-- schedules_of -/
def schedules_of_1_b : SS := (sSeq (sSet 2 (sCall (withD [] Sh.checked_reading) (sCons (sVar 0) (sCons (sVar 1) sNil)))) (sSeq (sIfS (sTest (sBin (opIs true) (sUn (opFld "fault") (sVar 2)) (sC .non))) (sRaiseF "Inconsistent" "tick" (sBin opIx (sUn (opFld "fault") (sVar 2)) (sC (.int 0)))) sNext) (sRet (sLc false (sIt (sUn (opFld "observed") (sVar 2))) (gN 3) sYes (sTup (sCons (sCall (b1 (opList false)) (sCons (sUn (opFld "found_talks") (sVar 3)) sNil)) (sCons (sUn (opFld "is_open") (sVar 3)) (sCons (sUn (opFld "quiet_ticks") (sVar 3)) sNil)))) [3]))))
def schedules_of_1 : FN := fnOf 4 schedules_of_1_b
/-- _law_members -/
def l_members_b : SS := (sSeq (sSet 2 (sLstO (sCons (sC (.str "a")) (sCons (sC (.str "b")) (sCons (sC (.str "abcdefgh")) (sCons (sC (.str "zz")) (sCons (sC (.str "m")) (sCons (sC (.str "ba")) (sCons (sC (.str "q")) (sCons (sC (.str "xyz")) (sCons (sC (.str "cc")) (sCons (sC (.str "p")) sNil)))))))))))) (sSeq (sSet 3 (sBin opIx (sLst (sCons (sC (.int 1)) (sCons (sC (.int 2)) (sCons (sC (.int 4)) (sCons (sC (.int 10)) sNil))))) (sCall (withD [] Sh.l_draw_2) (sCons (sVar 0) (sCons (sC (.int 4)) sNil))))) (sSeq (sSet 4 (sCall (withD [] Sh.l_draw_2) (sCons (sVar 0) (sCons (sBin opAdd (sVar 1) (sC (.int 1))) sNil)))) (sRet (sLc false (sRng1 (sVar 4)) (gN 5) sYes (sTup (sCons (sMtO gPopAt (sVar 2) (sCons (sCall (withD [] Sh.l_draw_2) (sCons (sVar 0) (sCons (sCall bLen (sCons (sVar 2) sNil)) sNil))) sNil)) (sCons (sBin opAdd (sC (.int 1)) (sCall (withD [] Sh.l_draw_2) (sCons (sVar 0) (sCons (sVar 3) sNil)))) sNil))) [5])))))
def l_members : FN := fnOf 6 l_members_b
/-- _law_fault -/
def l_fault_1_b : SS := (sSeq (sSet 3 (sCall (b1 opDictP) (sCons (sLc false (sIt (sVar 0)) (gN 4) sYes (sTup (sCons (sBin opIx (sVar 4) (sC (.int 0))) (sCons (sBin opIx (sVar 4) (sC (.int 1))) sNil))) [4]) sNil))) (sSeq (sSet 5 (sLc false (sIt (sVar 0)) (gN 4) sYes (sBin opIx (sVar 4) (sC (.int 0))) [4])) (sSeq (sSet 6 (sBin opIx (sVar 1) (sVar 2))) (sSeq (sIfS (sOr (sTest (sBin (opIs false) (sVar 6) (sC .non))) (sTest (sCall (withD [] (pureF Sh.l_goes_on)) (sCons (sVar 3) (sCons (sVar 1) (sCons (sVar 6) (sCons (sVar 2) sNil))))))) (sRet (sC .non)) sNext) (sSeq (sSet 7 (sCall (withD [] (pureF Sh.l_last)) (sCons (sVar 1) (sCons (sVar 6) (sCons (sVar 2) sNil))))) (sSeq (sIfS (sTest (sBin (opNil false) (sCall (withD [] (pureF Sh.l_quiet)) (sCons (sVar 3) (sCons (sVar 1) (sCons (sBin opIxK (sVar 3) (sVar 6)) (sCons (sBin opAdd (sVar 7) (sC (.int 1))) (sCons (sVar 2) sNil)))))) (sLst sNil))) (sRet (sC (.str "silence"))) sNext) (sSeq (sSet 8 (sBin opIx (sCall (withD [] (pureF Sh.l_quiet)) (sCons (sVar 3) (sCons (sVar 1) (sCons (sBin opIxK (sVar 3) (sVar 6)) (sCons (sC (.int 0)) (sCons (sVar 2) sNil)))))) (sUn opNeg (sC (.int 1))))) (sSeq (sSet 9 (sCut false (sVar 5) (sPart (sBin opAdd (sIdx (sVar 5) (sCons (sVar 6) sNil)) (sC (.int 1)))) sNoPart)) (sSeq (sSet 10 (sLc false (sIt (sCut false (sVar 1) (sPart (sBin opAdd (sVar 8) (sC (.int 1)))) (sPart (sVar 2)))) (gN 11) (sTest (sBin (opInL false) (sVar 11) (sVar 9))) (sVar 11) [11])) (sSeq (sSet 12 (sLc false (sIt (sVar 10)) (gN 11) (sTest (sBin (opEq false) (sBin opIxK (sVar 3) (sVar 11)) (sBin opIxK (sVar 3) (sVar 6)))) (sVar 11) [11])) (sRet (sIf (sTest (sBin (opNil true) (sVar 12) (sLst sNil))) (sC (.str "order")) (sC .non)))))))))))))
def l_fault_1 : FN := fnOf 13 l_fault_1_b
/-- _law_due -/
def l_due_8_b : SS := (sSeq (sSet 2 (sLc false (sRng1 (sCall bLen (sCons (sVar 1) sNil))) (gN 3) sYes (sTup (sCons (sVar 3) (sCons (sCall (withD [] (pureF Sh.l_fault_1)) (sCons (sVar 0) (sCons (sVar 1) (sCons (sVar 3) sNil)))) sNil))) [3])) (sRet (sBin opIx (sBin opAdd (sLc false (sIt (sVar 2)) (gN 4) (sTest (sBin (opIs true) (sBin opIx (sVar 4) (sC (.int 1))) (sC .non))) (sVar 4) [4]) (sLst (sCons (sC .non) sNil))) (sC (.int 0)))))
def l_due_8 : FN := fnOf 5 l_due_8_b
/-- _law_raised -/
def l_raised_b : SS := (sSeq (sTryS ["Inconsistent"] 2 (sExpr (sCall (withD [] (pureF Sh.schedules_of_1)) (sCons (sVar 0) (sCons (sVar 1) sNil)))) (sRet (sXfl ["Inconsistent", "InvalidMembers", "InvalidRecord"] "tick" (sVar 2)))) (sRet (sC .non)))
def l_raised : FN := fnOf 3 l_raised_b
/-- _law_right -/
def l_right_16_b : SS := (sSeq (sSet 3 (sCall (withD [] (lendF Sh.l_due_8)) (sCons (sVar 1) (sCons (sVar 2) sNil)))) (sSeq (sSet 4 (sLst (sCons (sCall (withD [] Sh.l_either) (sCons (sVar 0) (sCons (sVar 1) sNil))) (sCons (sCall (withD [] Sh.l_either) (sCons (sVar 0) (sCons (sVar 2) sNil))) sNil)))) (sSeq (sSet 5 (sCall (b1 opReprX) (sCons (sVar 4) sNil))) (sSeq (sFor (sRng1 (sC (.int 2))) (gN 6) (sIfS (sOr (sTest (sBin (opEqT true) (sCall (b1 opReprZ) (sCons (sCall (withD [] (noXF (pureF Sh.fault_of))) (sCons (sBin opIx (sVar 4) (sC (.int 0))) (sCons (sBin opIx (sVar 4) (sC (.int 1))) sNil))) sNil)) (sCall (b1 opReprZ) (sCons (sVar 3) sNil)))) (sTest (sBin (opEqT true) (sCall (b1 opReprX) (sCons (sVar 4) sNil)) (sVar 5)))) (sRet (sC (.bl false))) sNext)) (sSeq (sIfS (sTest (sBin (opIs false) (sVar 3) (sC .non))) (sRet (sBin (opIs false) (sCall (withD [] (lendF Sh.l_raised)) (sCons (sVar 1) (sCons (sVar 2) sNil))) (sC .non))) sNext) (sSeq (sIfS (sOr (sTest (sBin (opEq true) (sCall (withD [] (lendF Sh.l_raised)) (sCons (sVar 1) (sCons (sVar 2) sNil))) (sBin opIx (sVar 3) (sC (.int 0))))) (sTest (sBin (opIs true) (sCall (withD [] (noXF (pureF Sh.fault_of))) (sCons (sVar 1) (sCons (sCut false (sVar 2) sNoPart (sPart (sBin opIx (sVar 3) (sC (.int 0))))) sNil))) (sC .non)))) (sRet (sC (.bl false))) sNext) (sSeq (sWhile (sTest (sBin opGt (sCall bLen (sCons (sVar 2) sNil)) (sBin opIx (sVar 3) (sC (.int 0))))) (sExpr (sMtO gPop (sVar 2) sNil))) (sRet (sBin (opIs false) (sCall (withD [] (noXF (lendF Sh.fault_of))) (sCons (sVar 1) (sCons (sVar 2) sNil))) (sC .non))))))))))
def l_right_16 : FN := fnOf 7 l_right_16_b
/-- _law_changed -/
def l_changed_2_b : SS := (sSeq (sSet 3 (sCall (b1 (opList true)) (sCons (sVar 2) sNil))) (sSeq (sFor (sRng1 (sBin opAdd (sC (.int 1)) (sCall (withD [] Sh.l_draw_2) (sCons (sVar 0) (sCons (sC (.int 3)) sNil))))) (gN 4) (sSeq (sSet 5 (sCall (withD [] Sh.l_draw_2) (sCons (sVar 0) (sCons (sCall bMin (sCons (sBin opAdd (sCall bLen (sCons (sVar 3) sNil)) (sC (.int 1))) (sCons (sC (.int 400)) sNil))) sNil)))) (sSeq (sSet 6 (sBin opIx (sBin opAdd (sLst (sCons (sC .non) sNil)) (sVar 1)) (sCall (withD [] Sh.l_draw_2) (sCons (sVar 0) (sCons (sBin opAdd (sCall bLen (sCons (sVar 1) sNil)) (sC (.int 1))) sNil))))) (sSet 3 (sBin opIx (sLst (sCons (sBin opAddO (sBin opAdd (sCut false (sVar 3) sNoPart (sPart (sVar 5))) (sLst (sCons (sVar 6) sNil))) (sCut false (sVar 3) (sPart (sBin opAdd (sVar 5) (sC (.int 1)))) sNoPart)) (sCons (sBin opAddO (sCut false (sVar 3) sNoPart (sPart (sVar 5))) (sCut false (sVar 3) (sPart (sBin opAdd (sVar 5) (sC (.int 1)))) sNoPart)) sNil))) (sCall (withD [] Sh.l_draw_2) (sCons (sVar 0) (sCons (sC (.int 2)) sNil)))))))) (sRet (sVar 3))))
def l_changed_2 : FN := fnOf 7 l_changed_2_b
/-- law -/
def law_k43_b : SS := (sSeq (sSet 1 (sCall (withD [] Sh.l_bag) (sCons (sVar 0) sNil))) (sSeq (sFor (sRng1 (sBin opAdd (sC (.int 3)) (sCall bMin (sCons (sC (.int 5)) (sCons (sCall bLen (sCons (sVar 0) sNil)) sNil))))) (gN 2) (sSeq (sPar 3 4 (sCons (sBin opIx (sLst (sCons (sC (.int 10)) (sCons (sC (.int 6)) sNil))) (sCall bMin (sCons (sC (.int 1)) (sCons (sVar 2) sNil)))) (sCons (sBin opIx (sLst (sCons (sC (.int 401)) (sCons (sC (.int 61)) sNil))) (sCall bMin (sCons (sC (.int 1)) (sCons (sVar 2) sNil)))) sNil))) (sSeq (sSet 5 (sCall (withD [] Sh.l_members) (sCons (sVar 1) (sCons (sVar 3) sNil)))) (sSeq (sSet 6 (sBin opAdd (sLst (sCons (sC .non) sNil)) (sLc false (sIt (sVar 5)) (gN 7) sYes (sBin opIx (sVar 7) (sC (.int 0))) [7]))) (sSeq (sSet 8 (sLc true (sRng1 (sCall (withD [] Sh.l_draw_2) (sCons (sVar 1) (sCons (sVar 4) sNil)))) (gN 9) sYes (sBin opIx (sVar 6) (sCall (withD [] Sh.l_draw_2) (sCons (sVar 1) (sCons (sCall bLen (sCons (sVar 6) sNil)) sNil)))) [9])) (sSeq (sIfS (sNot (sTest (sCall (withD [] Sh.l_right_16) (sCons (sVar 1) (sCons (sVar 5) (sCons (sVar 8) sNil)))))) (sRet (sC (.bl false))) sNext) (sSeq (sSet 10 (sCall (withD [] Sh.l_hall_2) (sCons (sVar 1) (sCons (sVar 3) (sCons (sBin opIx (sLst (sCons (sC (.int 2)) (sCons (sC (.int 6)) sNil))) (sCall (withD [] Sh.l_draw_2) (sCons (sVar 1) (sCons (sC (.int 2)) sNil)))) sNil))))) (sSeq (sSet 8 (sCall (withD [] Sh.l_heard) (sCons (sVar 10) (sCons (sCall (withD [] Sh.l_draw_2) (sCons (sVar 1) (sCons (sVar 4) sNil))) sNil)))) (sSeq (sSet 5 (sLc false (sIt (sVar 10)) (gN 7) sYes (sTup (sCons (sBin opIx (sVar 7) (sC (.int 0))) (sCons (sBin opIx (sVar 7) (sC (.int 1))) sNil))) [7])) (sIfS (sNot (sTest (sCall (withD [] Sh.l_right_16) (sCons (sVar 1) (sCons (sVar 5) (sCons (sCall (withD [] Sh.l_changed_2) (sCons (sVar 1) (sCons (sLc false (sIt (sVar 10)) (gN 7) sYes (sBin opIx (sVar 7) (sC (.int 0))) [7]) (sCons (sVar 8) sNil)))) sNil)))))) (sRet (sC (.bl false))) sNext)))))))))) (sRet (sAndV (sBin (opEq false) (sCall (withD [] (noXF (pureF Sh.fault_of))) (sCons (sLst (sCons (sTup (sCons (sC (.str "a")) (sCons (sC (.int 1)) sNil))) (sCons (sTup (sCons (sC (.str "b")) (sCons (sC (.int 1)) sNil))) sNil))) (sCons (sLst (sCons (sC .non) (sCons (sC (.str "b")) (sCons (sC (.str "a")) sNil)))) sNil))) (sTup (sCons (sC (.int 2)) (sCons (sC (.str "order")) sNil)))) (sBin (opIs false) (sCall (withD [] (noXF (pureF Sh.fault_of))) (sCons (sLst sNil) (sCons (sBin opMul (sLst (sCons (sC .non) sNil)) (sC (.int 400))) sNil))) (sC .non))))))
def law_k43 : FN := fnOf 11 law_k43_b
end Sh
end HR
set_option Elab.async false
set_option linter.all false
set_option maxRecDepth 20000
namespace HR
open PySem L2
/-! ### the spring: draw -/
/-- the spring at i -/
def Spr (h : OH) (i : Nat) : Prop := ∃ a b c : Int, h[i]? = some (.lst [.int a, .int b, .int c]) ∧ 0 ≤ b ∧ b < 2305843009213693951
/-- nothing but i is changed; the heap may have grown -/
def Chg (i : Nat) (h h' : OH) : Prop := h.length ≤ h'.length ∧ ∀ j, j < h.length → j ≠ i → h'[j]? = h[j]?
theorem Chg.refl (i : Nat) (h : OH) : Chg i h h := ⟨Nat.le_refl _, fun _ _ _ => rfl⟩
theorem Chg.trans {i : Nat} {h1 h2 h3 : OH} (a : Chg i h1 h2) (b : Chg i h2 h3) : Chg i h1 h3 := ⟨Nat.le_trans a.1 b.1, fun j hj n => (b.2 j (Nat.lt_of_lt_of_le hj a.1) n).trans (a.2 j hj n)⟩
theorem Chg.set (i : Nat) (h : OH) (o : OO) : Chg i h (h.set i o) := ⟨by simp, fun j hj n => by rw [List.getElem?_set_ne (Ne.symm n)]⟩
theorem Chg.get {i : Nat} {h h' : OH} (c : Chg i h h') {j : Nat} {o : OO} (e : h[j]? = some o) (n : j ≠ i) : h'[j]? = some o := (c.2 j (List.getElem?_eq_some_iff.mp e).1 n).trans e
theorem Chg.app (i : Nat) (h t : OH) : Chg i h (h ++ t) := ⟨by simp, fun j hj _ => List.getElem?_append_left hj⟩
/-- an object made since is changed -/
theorem Chg.setNew {i : Nat} {h h' : OH} (c : Chg i h h') {j : Nat} (hj : h.length ≤ j) (o : OO) : Chg i h (h'.set j o) := ⟨by simpa using c.1, fun k hk n => by rw [List.getElem?_set_ne (by omega)]; exact c.2 k hk n⟩
theorem Spr.lt {h : OH} {i : Nat} (s : Spr h i) : i < h.length := by
  obtain ⟨a, b, c, e, _⟩ := s
  exact (List.getElem?_eq_some_iff.mp e).1
theorem Spr.app {h : OH} {i : Nat} (s : Spr h i) (t : OH) : Spr (h ++ t) i := by
  have := s.lt
  obtain ⟨a, b, c, e, r⟩ := s
  exact ⟨a, b, c, by rw [List.getElem?_append_left this]; exact e, r⟩
theorem Spr.set {h : OH} {i j : Nat} (s : Spr h i) (n : j ≠ i) (o : OO) : Spr (h.set j o) i := by
  obtain ⟨a, b, c, e, r⟩ := s
  exact ⟨a, b, c, by rw [List.getElem?_set_ne n]; exact e, r⟩
end HR
set_option Elab.async false
set_option linter.all false
set_option maxRecDepth 20000
namespace HR
open PySem L2
/-! ### halls: the talks, the talkers -/
def dT (p : Int × Int) : D := .tup [.int p.1, .int p.2]
structure Tk where
  name : Str
  rank : Int
  pre : List (Int × Int)
  cyc : List (Int × Int)
def dTk (t : Tk) : D := .tup [.str t.name, .int t.rank, .lst (t.pre.map dT), .lst (t.cyc.map dT)]
def In1 (m : Int) (p : Int × Int) : Prop := 1 ≤ p.1 ∧ p.1 ≤ m ∧ 1 ≤ p.2 ∧ p.2 ≤ m
theorem pickI {ns : List Int} {v : Int} {P : D → Prop} (h0 : 0 ≤ v) (h1 : v < ns.length) (q : ∀ n ∈ ns, P (.int n)) : lkS (atI (ns.map D.int) v) P := by
  have hl : v.toNat < ns.length := by omega
  refine lkS_of (x := .int ns[v.toNat]) ?_ (q _ (List.getElem_mem hl))
  rw [atI_z h0 (by simpa using h1)]
  simp [hl]
def WfN (x : Str) : Prop := 1 ≤ x.length ∧ x.length ≤ 8 ∧ ∀ c ∈ x.cps.toList, c ∈ ("abcdefghijklmnopqrstuvwxyz" : Str).cps.toList
structure WfTk (m : Int) (t : Tk) : Prop where
  name : WfN t.name
  r1 : 1 ≤ t.rank
  r2 : t.rank ≤ 10
  lp : t.pre.length ≤ 8
  lc1 : 1 ≤ t.cyc.length
  lc : t.cyc.length ≤ 8
  pre : ∀ p ∈ t.pre, In1 m p
  cyc : ∀ p ∈ t.cyc, In1 m p
structure WfHall (m : Int) (ts : List Tk) : Prop where
  len : ts.length ≤ 10
  tk : ∀ t ∈ ts, WfTk m t
  nd : (ts.map (·.name)).Nodup
def NAMES : List Str := ["a", "b", "abcdefgh", "zz", "m", "ba", "q", "xyz", "cc", "p"]
theorem names_wf : ∀ x ∈ NAMES, WfN x := by unfold WfN; decide +kernel
theorem names_nd : NAMES.Nodup := by decide +kernel
theorem eraseIdx_mapF {α β : Type} (f : α → β) : ∀ (l : List α) (n : Nat), (l.map f).eraseIdx n = (l.eraseIdx n).map f
  | [], _ => rfl
  | _ :: _, 0 => rfl
  | x :: l, n + 1 => by simp [eraseIdx_mapF f l n]
theorem eraseIdx_permF {α : Type} : ∀ (l : List α) (n : Nat) (h : n < l.length), (l[n] :: l.eraseIdx n).Perm l
  | [], _, h => absurd h (Nat.not_lt_zero _)
  | x :: l, 0, _ => List.Perm.refl _
  | x :: l, n + 1, h => (List.Perm.swap x _ _).trans ((eraseIdx_permF l n (Nat.lt_of_succ_lt_succ h)).cons x)
end HR
set_option Elab.async false
set_option linter.all false
set_option maxRecDepth 20000
namespace HR
open PySem L2
/-! ### the checks of a hall -/
abbrev T30 : Int := 1000000000000000000000000000000
theorem pure_dT (p : Int × Int) : (dT p).pure = true := by simp [dT]
@[simp] theorem pureL_dT (ts : List (Int × Int)) : D.pureL (ts.map dT) = true := pureL_map _ pure_dT ts
theorem pure_dTk (t : Tk) : (dTk t).pure = true := by simp [dTk]
@[simp] theorem pureL_dTk (ts : List Tk) : D.pureL (ts.map dTk) = true := pureL_map _ pure_dTk ts
@[simp] theorem isseq_l (xs : List D) (h : OH) (hp : D.pureL xs = true) : pureF Sh.is_sequence [.lst xs] h = .ok (.bl true) h := by
  refine pure_eq h (by simp [hp]) rfl ?_
  unfold Sh.is_sequence; rw [W_fn]; unfold Sh.is_sequence_b; simp
@[simp] theorem isseq_t (xs : List D) (h : OH) (hp : D.pureL xs = true) : pureF Sh.is_sequence [.tup xs] h = .ok (.bl true) h := by
  refine pure_eq h (by simp [hp]) rfl ?_
  unfold Sh.is_sequence; rw [W_fn]; unfold Sh.is_sequence_b; simp
@[simp] theorem isint2 (v lo hi : Int) (h : OH) : pureF Sh.is_integer [.int v, .int lo, .int hi] h = .ok (.bl (decide (lo ≤ v) && decide (v ≤ hi))) h := by
  refine pure_eq h rfl rfl ?_
  unfold Sh.is_integer; rw [W_fn]; unfold Sh.is_integer_b; simp
  split
  · rename_i q; simp [q]
  · rename_i q; simp [q]
@[simp] theorem isint1 (v lo : Int) (h : OH) : pureF Sh.is_integer [.int v, .int lo, .non] h = .ok (.bl (decide (lo ≤ v))) h := by
  refine pure_eq h rfl rfl ?_
  unfold Sh.is_integer; rw [W_fn]; unfold Sh.is_integer_b; simp
theorem isname (x : Str) (h : OH) (w : WfN x) : pureF Sh.is_name [.str x] h = .ok (.bl true) h := by
  refine pure_eq h rfl rfl ?_
  obtain ⟨l1, l2, lc⟩ := w
  have l1' : (1 : Int) ≤ x.length := by omega
  have l2' : (x.length : Int) ≤ 8 := by omega
  have lb : x.length ≤ big := by simp [big]; omega
  have ln : x.cps.toList.length = x.length := by simp [Str.length]
  unfold Sh.is_name; rw [W_fn]; unfold Sh.is_name_b; simp [wipeD, W_lenS, lb, l1', l2', signsD]
  refine W_lcMap1 x.cps.toList (fun c => .str ⟨#[c]⟩) (fun _ => .bl true) [] (by simp only [big]; omega) (fun c hc => ⟨_, rfl, ?_⟩) ?_
  · simp
    exact Array.mem_toList_iff.mp (lc c hc)
  · rw [bs_mapF]; simp
end HR
set_option Elab.async false
set_option linter.all false
set_option maxRecDepth 20000
namespace HR
open PySem L2
/-! ### schedules -/
/-- 0, x0, x0 + x1, .. -/
def sums (l : List Int) : List Int := (List.range (l.length + 1)).map fun k => (l.take k).sum
def dSch (p c : List (Int × Int)) : D := .obj "Schedule" [("prefix", .lst (p.map dT)), ("cycle", .lst (c.map dT)), ("prefix_silences", .lst ((sums (p.map (·.1))).map D.int)), ("prefix_lengths", .lst ((sums (p.map (·.2))).map D.int)), ("cycle_silences", .lst ((sums (c.map (·.1))).map D.int)), ("cycle_lengths", .lst ((sums (c.map (·.2))).map D.int))]
@[simp] theorem pure_dSch (p c : List (Int × Int)) : (dSch p c).pure = true := by simp [dSch]
def dMem (t : Tk) : D := .obj "Member" [("name", .str t.name), ("rank", .int t.rank), ("schedule", dSch t.pre t.cyc)]
@[simp] theorem pure_dMem (t : Tk) : (dMem t).pure = true := by simp [dMem]
@[simp] theorem pureL_dMem (ts : List Tk) : D.pureL (ts.map dMem) = true := pureL_map _ pure_dMem ts
end HR
set_option Elab.async false
set_option linter.all false
set_option maxRecDepth 20000
namespace HR
open PySem L2
/-! ### the talks of a schedule, their sums -/
def nth (p c : List (Int × Int)) (i : Nat) : Int × Int := if i < p.length then p.getD i (0, 0) else c.getD ((i - p.length) % c.length) (0, 0)
/-- the sum over the first n talks -/
def acc (f : Int × Int → Int) (p c : List (Int × Int)) : Nat → Int
  | 0 => 0
  | n + 1 => acc f p c n + f (nth p c n)
section
variable {f : Int × Int → Int} {p c : List (Int × Int)}
theorem nth_mem (hc : 1 ≤ c.length) (n : Nat) : nth p c n ∈ p ∨ nth p c n ∈ c := by
  unfold nth
  by_cases h : n < p.length
  · rw [if_pos h]; left; simp [h]
  · rw [if_neg h]; right
    have : (n - p.length) % c.length < c.length := Nat.mod_lt _ hc
    simp [this]
end
end HR
set_option Elab.async false
set_option linter.all false
set_option maxRecDepth 20000
namespace HR
open PySem L2
section
variable {p c : List (Int × Int)}
/-- the two lists of sums -/
def dSums (f : Int × Int → Int) (l : List (Int × Int)) : D := .lst ((sums (l.map f)).map D.int)
end
end HR
set_option Elab.async false
set_option linter.all false
set_option maxRecDepth 20000
namespace HR
open PySem L2
section
variable {p c : List (Int × Int)}
def schFs (p c : List (Int × Int)) : List (String × D) := [("prefix", .lst (p.map dT)), ("cycle", .lst (c.map dT)), ("prefix_silences", dSums (·.1) p), ("prefix_lengths", dSums (·.2) p), ("cycle_silences", dSums (·.1) c), ("cycle_lengths", dSums (·.2) c)]
@[simp] theorem ins_dSch (h : OH) : insAt h (dSch p c) = some ("Schedule", schFs p c) := rfl
@[simp] theorem fs_1 : (schFs p c).lookup "prefix" = some (.lst (p.map dT)) := rfl
@[simp] theorem fs_2 : (schFs p c).lookup "cycle" = some (.lst (c.map dT)) := rfl
@[simp] theorem fs_3 : (schFs p c).lookup "prefix_silences" = some (dSums (·.1) p) := rfl
@[simp] theorem fs_4 : (schFs p c).lookup "prefix_lengths" = some (dSums (·.2) p) := rfl
@[simp] theorem fs_5 : (schFs p c).lookup "cycle_silences" = some (dSums (·.1) c) := rfl
@[simp] theorem fs_6 : (schFs p c).lookup "cycle_lengths" = some (dSums (·.2) c) := rfl
@[simp] theorem fs_m1 : hasNo (schFs p c) "sum_of_first" = True := eq_true rfl
@[simp] theorem fs_m2 : hasNo (schFs p c) "nth_ready" = True := eq_true rfl
@[simp] theorem fs_m3 : hasNo (schFs p c) "nth_talk" = True := eq_true rfl
@[simp] theorem fs_m4 : hasNo (schFs p c) "count_ready" = True := eq_true rfl
@[simp] theorem fs_m5 : hasNo (schFs p c) "length_ready" = True := eq_true rfl
end
theorem WfTk.nth1 {m : Int} {t : Tk} (w : WfTk m t) (n : Nat) : In1 m (nth t.pre t.cyc n) := by
  rcases nth_mem (p := t.pre) w.lc1 n with h | h
  · exact w.pre _ h
  · exact w.cyc _ h
end HR
set_option Elab.async false
set_option linter.all false
set_option maxRecDepth 20000
set_option Elab.async false
set_option linter.all false
set_option maxRecDepth 20000
namespace HR
open PySem L2
/-! ### inverse of a growing function: the plain law -/
/-- g l: the least q with l ≤ f q -/
def Gal (f g : Nat → Nat) : Prop := ∀ q l, l ≤ f q ↔ g l ≤ q
def Inc (f : Nat → Nat) : Prop := ∀ q, f q < f (q + 1)
section
variable {f g f' g' : Nat → Nat}
theorem Inc.lt (i : Inc f) {a : Nat} : ∀ {b : Nat}, a < b → f a < f b
  | 0, h => absurd h (Nat.not_lt_zero _)
  | b + 1, h => by
    rcases Nat.lt_or_ge a b with h1 | h1
    · exact Nat.lt_trans (i.lt h1) (i b)
    · have : a = b := by omega
      subst this; exact i a
theorem Inc.le (i : Inc f) {a b : Nat} (h : a ≤ b) : f a ≤ f b := by
  rcases Nat.lt_or_ge a b with h1 | h1
  · exact Nat.le_of_lt (i.lt h1)
  · have : a = b := by omega
    subst this; exact Nat.le_refl _
theorem Gal.le (a : Gal f g) (l : Nat) : l ≤ f (g l) := (a (g l) l).mpr (Nat.le_refl _)
theorem Gal.lt (a : Gal f g) {q l : Nat} (h : q < g l) : f q < l := by
  rcases Nat.lt_or_ge (f q) l with k | k
  · exact k
  · have := (a q l).mp k; omega
end
/-! ### how many talks are ready, how long they are -/
section
variable {p c : List (Int × Int)}
def cnt (p c : List (Int × Int)) : Nat → Nat
  | 0 => 0
  | q + 1 => if acc (·.1) p c (cnt p c q + 1) ≤ ((q + 1 : Nat) : Int) then cnt p c q + 1 else cnt p c q
/-- ticks of the talks that are ready at q -/
def len2 (p c : List (Int × Int)) (q : Nat) : Nat := (acc (·.2) p c (cnt p c q)).toNat
end
/-! ### the clocks -/
def LL (ts : List Tk) (r q : Nat) : Nat := ((ts.filter fun t => t.rank == (r : Int)).map fun t => len2 t.pre t.cyc q).sum
def LI (ts : List Tk) (r q : Nat) : Nat := q + LL ts r q
end HR
set_option Elab.async false
set_option linter.all false
set_option maxRecDepth 20000
namespace HR
open PySem L2
/-! ### the clocks: what the functions of the program compute -/
def memFs (t : Tk) : List (String × D) := [("name", .str t.name), ("rank", .int t.rank), ("schedule", dSch t.pre t.cyc)]
@[simp] theorem ins_dMem (t : Tk) (h : OH) : insAt h (dMem t) = some ("Member", memFs t) := rfl
@[simp] theorem mem_1 (t : Tk) : (memFs t).lookup "name" = some (.str t.name) := rfl
@[simp] theorem mem_2 (t : Tk) : (memFs t).lookup "rank" = some (.int t.rank) := rfl
@[simp] theorem mem_3 (t : Tk) : (memFs t).lookup "schedule" = some (dSch t.pre t.cyc) := rfl
section
variable {ts : List Tk}
/-- the i-th tick left for rank k + 1, as a tick -/
def TO (ts : List Tk) : Nat → Nat → Nat
  | 0, q => q
  | k + 1, q => TO ts k (LI ts (k + 1) q)
end
end HR
set_option Elab.async false
set_option linter.all false
set_option maxRecDepth 20000
set_option exponentiation.threshold 5000
set_option Elab.async false
set_option linter.all false
set_option maxRecDepth 20000
namespace HR
open PySem L2
/-! small things of many laws -/
theorem In1.mono {m m' : Int} {p : Int × Int} (w : In1 m p) (h : m ≤ m') : In1 m' p := ⟨w.1, by have := w.2.1; omega, w.2.2.1, by have := w.2.2.2; omega⟩
theorem WfHall.mono {m m' : Int} {ts : List Tk} (w : WfHall m ts) (h : m ≤ m') : WfHall m' ts := ⟨w.len, fun t ht => let a := w.tk t ht; ⟨a.name, a.r1, a.r2, a.lp, a.lc1, a.lc, fun p hp => (a.pre p hp).mono h, fun p hp => (a.cyc p hp).mono h⟩, w.nd⟩
@[simp] theorem W_addLL (xs ys : List D) (h : OH) {PD : D → OH → Prop} : (opAdd (.lst xs) (.lst ys) h).W PD = if xs.length + ys.length ≤ 1000000 then PD (.lst (xs ++ ys)) h else False := by
  simp [opAdd, lstAt, big]
@[simp] theorem SW_aug (i : Nat) (g : D → D → OH → Res D) (f : SE) (e : Env') (h : OH) {N C B : Env' → OH → Prop} {R : D → OH → Prop} : (sAug i g f e h).W N C B R = (sVar i e h).W fun x _ => (f e h).W fun y h1 => (g x y h1).W fun z h2 => N (e.set i (some z)) h2 := by
  unfold sAug sVar
  rcases e[i]? with _ | _ | x
  · rfl
  · rfl
  · simp
@[simp] theorem W_tointB (b : Bool) (h : OH) {PD : D → OH → Prop} : (opInt (.bl b) h).W PD = PD (.int (if b then 1 else 0)) h := rfl
@[simp] theorem W_tointI (b : Int) (h : OH) {PD : D → OH → Prop} : (opInt (.int b) h).W PD = PD (.int b) h := rfl
end HR
set_option Elab.async false
set_option linter.all false
set_option maxRecDepth 20000
namespace HR
open PySem L2
/-! ### how long a repr may be -/
theorem textFrom_up : ∀ (ts : List Str) (k : Nat) (acc : Str) (n : Nat), (∀ t ∈ ts, t.length ≤ n) → (textFrom k acc ts).length ≤ acc.length + ts.length * (n + 2)
  | [], k, acc, n, _ => by simp [textFrom]
  | t :: ts, k, acc, n, hn => by
    have h1 := hn t List.mem_cons_self
    have h2 := textFrom_up ts (k + 1) (acc ++ (if k > 0 then ", " else "" : String) ++ t) n fun y hy => hn y (List.mem_cons_of_mem _ hy)
    have e : (acc ++ (if k > 0 then ", " else "" : String) ++ t).length ≤ acc.length + 2 + t.length := by
      rw [strLen_append, strLen_append]
      split <;> simp only [Nat.add_le_add_iff_right, Nat.add_le_add_iff_left] <;> decide
    simp only [textFrom, List.length_cons, Nat.add_mul]
    omega
theorem listText_up {ts : List Str} {n : Nat} (hn : ∀ t ∈ ts, t.length ≤ n) : (listText ts).length ≤ ts.length * (n + 2) + 2 := by
  have := textFrom_up ts 0 "[" n hn
  unfold listText
  rw [strLen_append]
  have a : (("[" : String) : Str).length = 1 := rfl
  have b : (("]" : String) : Str).length = 1 := rfl
  omega
theorem join_up : ∀ (ts : List Str) (n : Nat), (∀ t ∈ ts, t.length ≤ n) → (Str.join ", " ts).length ≤ ts.length * (n + 2)
  | [], n, _ => by
    show (0 : Nat) ≤ _
    omega
  | [t], n, hn => by
    have h1 := hn t List.mem_cons_self
    show t.length ≤ _
    simp only [List.length_cons, List.length_nil]
    omega
  | t :: u :: r, n, hn => by
    have h1 := hn t List.mem_cons_self
    have h2 := join_up (u :: r) n fun y hy => hn y (List.mem_cons_of_mem _ hy)
    have e : Str.join ", " (t :: u :: r) = t ++ ((", " : String) : Str) ++ Str.join ", " (u :: r) := rfl
    rw [e, strLen_append, strLen_append]
    have c : ((", " : String) : Str).length = 2 := rfl
    simp only [List.length_cons, Nat.add_mul] at h2 ⊢
    omega
theorem tupleText_up {ts : List Str} {n : Nat} (hn : ∀ t ∈ ts, t.length ≤ n) : (tupleText ts).length ≤ ts.length * (n + 2) + 3 := by
  have := join_up ts n hn
  unfold tupleText
  rw [strLen_append, strLen_append]
  have a : (("(" : String) : Str).length = 1 := rfl
  have b : ((if ts.length == 1 then ",)" else ")" : String) : Str).length ≤ 2 := by split <;> decide
  omega
/-- d is read as p: shown within n signs, of depth at most k -/
structure RpP (d : D) (p : PyData) (k n : Nat) : Prop where
  py : ∀ get, pyR get d = some p
  sh : p.showable = true
  dp : p.depth ≤ k
  ln : p.shown.length ≤ n
def Rp (d : D) (k n : Nat) : Prop := ∃ p, RpP d p k n
theorem Rp.mono {d : D} {k n k' n' : Nat} (h : Rp d k n) (hk : k ≤ k') (hn : n ≤ n') : Rp d k' n' := let ⟨p, a, b, c, e⟩ := h; ⟨p, a, b, Nat.le_trans c hk, Nat.le_trans e hn⟩
theorem rp_non : Rp .non 0 4 := ⟨.none, fun _ => rfl, rfl, Nat.le_refl _, by decide⟩
theorem rp_int {i : Int} {k : Nat} (hk : 0 < k) (hk2 : k ≤ 1920) (h : i.natAbs < 2 ^ k) : Rp (.int i) 0 (k + 1) := by
  have hl : i.natAbs.log2 < k := by
    by_cases h0 : i.natAbs = 0
    · rw [h0]; simpa using hk
    · exact (Nat.log2_lt h0).mpr h
  refine ⟨.int i, fun _ => rfl, by simp only [PyData.showable, decide_eq_true_eq]; omega, Nat.le_refl _, ?_⟩
  simp only [PyData.shown]
  have := int_text_length_le hk hl
  rw [ofString_length]
  exact this
theorem rp_str {x : Str} (h : ∀ c ∈ x.cps.toList, c < 16 ^ 8) : Rp (.str x) 0 (10 * x.length + 2) := by
  refine ⟨.str x, fun _ => rfl, rfl, Nat.le_refl _, ?_⟩
  simp only [PyData.shown]
  have := StrLaws.foldl_repr_len (reprQuote x) x.cps.toList #[reprQuote x] h
  show (reprText x).cps.size ≤ _
  unfold reprText
  rw [Array.size_push, ← Array.foldl_toList]
  have e : x.cps.toList.length = x.length := by simp [Str.length]
  simp only [List.size_toArray, List.length_cons, List.length_nil] at this
  omega
theorem rpL {k n : Nat} : ∀ {ds : List D}, (∀ d ∈ ds, Rp d k n) → ∃ ps, (∀ get, pyRL get ds = some ps) ∧ PyData.showableAll ps = true ∧ PyData.depthAll ps ≤ k ∧ (∀ t ∈ PyData.shownAll ps, t.length ≤ n) ∧ (PyData.shownAll ps).length = ds.length
  | [], _ => ⟨[], fun _ => rfl, rfl, Nat.zero_le _, (fun _ h => by cases h), rfl⟩
  | d :: ds, h => by
    obtain ⟨p, a, b, c, e⟩ := h d List.mem_cons_self
    obtain ⟨ps, a2, b2, c2, e2, l2⟩ := rpL fun y hy => h y (List.mem_cons_of_mem _ hy)
    refine ⟨p :: ps, fun get => by simp [pyRL, a get, a2 get], by simp [PyData.showableAll, b, b2], by simp only [PyData.depthAll]; omega, fun t ht => ?_, by simp [PyData.shownAll, l2]⟩
    simp only [PyData.shownAll, List.mem_cons] at ht
    rcases ht with rfl | ht
    · exact e
    · exact e2 t ht
theorem rp_lst {ds : List D} {k n : Nat} (h : ∀ d ∈ ds, Rp d k n) : Rp (.lst ds) (k + 1) (ds.length * (n + 2) + 2) := by
  obtain ⟨ps, a, b, c, e, l⟩ := rpL h
  refine ⟨.list ps, fun get => by simp [pyR, a get], by simp [PyData.showable, b], by simp only [PyData.depth]; omega, ?_⟩
  simp only [PyData.shown]
  rw [← l]
  exact listText_up e
theorem rp_tup {ds : List D} {k n : Nat} (h : ∀ d ∈ ds, Rp d k n) : Rp (.tup ds) (k + 1) (ds.length * (n + 2) + 3) := by
  obtain ⟨ps, a, b, c, e, l⟩ := rpL h
  refine ⟨.tuple ps, fun get => by simp [pyR, a get], by simp [PyData.showable, b], by simp only [PyData.depth]; omega, ?_⟩
  simp only [PyData.shown]
  rw [← l]
  exact tupleText_up e
/-- repr of a list or tuple, frozen -/
theorem W_reprF {d : D} {h : OH} {k n : Nat} (r : isRf d = true) (q : Rp d k n) (hk : k ≤ 60) (hn : n ≤ big) : ∃ x, ∀ h PD, (opReprX d h).W PD = PD (.str x) h := by
  obtain ⟨p, a, b, c, e⟩ := q
  refine ⟨p.shown, fun h PD => ?_⟩
  have ok : reprOkX p = true := by
    simp only [reprOkX, b, Bool.true_and, Bool.and_eq_true, decide_eq_true_eq]
    omega
  unfold opReprX
  rw [if_pos r]
  simp [pyRAt, a, ok]
end HR
set_option Elab.async false
set_option linter.all false
set_option maxRecDepth 20000
set_option exponentiation.threshold 5000
namespace HR
open PySem L2
/-! ### values that are no halls -/
def gTk : Tk := ⟨"k", 1, [], [(1, 1)]⟩
/-! what they are to repr -/
/-! the def that draws one -/
@[simp] theorem W_dct0 (e : Env') (h : OH) {PD : D → OH → Prop} : (sDct0 e h).W PD = PD (.dct []) h := rfl
end HR
set_option Elab.async false
set_option linter.all false
set_option maxRecDepth 20000
set_option exponentiation.threshold 5000
set_option Elab.async false
set_option linter.all false
set_option maxRecDepth 20000
set_option exponentiation.threshold 5000
namespace HR
open PySem L2
/-! ### small things of the laws of errors -/
@[simp] theorem W_eqNS (neg : Bool) (y : Str) (h : OH) {PD : D → OH → Prop} (hy : PyData.strOk y = true) : (opEq neg .non (.str y) h).W PD = PD (.bl neg) h := by
  simp [opEq, SeqAt.shaped, PyData.canLay0, PyData.depth, PyData.eqv, hy]
end HR
set_option Elab.async false
set_option linter.all false
set_option maxRecDepth 20000
namespace HR
open PySem L2
/-! ### the bag of the laws of records and texts: draws -/
/-- the bag at i, after at most c draws -/
def Bag (ns : List Int) (h : OH) (i c : Nat) : Prop := ∃ p rest cnt total : Int, h[i]? = some (.lst [.lst (ns.map D.int), .int p, .int rest, .int cnt, .int total]) ∧ 0 ≤ p ∧ p ≤ ns.length ∧ 0 ≤ cnt ∧ cnt ≤ c ∧ 0 ≤ total ∧ total < 2305843009213693951
section
variable {ns : List Int} {h : OH} {i c : Nat}
theorem Bag.lt (s : Bag ns h i c) : i < h.length := by
  obtain ⟨p, r, n, t, e, _⟩ := s
  exact (List.getElem?_eq_some_iff.mp e).1
theorem Bag.mono {c' : Nat} (s : Bag ns h i c) (hc : c ≤ c') : Bag ns h i c' := by
  obtain ⟨p, r, n, t, e, a1, a2, a3, a4, a5⟩ := s
  exact ⟨p, r, n, t, e, a1, a2, a3, by omega, a5⟩
theorem Bag.app (s : Bag ns h i c) (t : OH) : Bag ns (h ++ t) i c := by
  have := s.lt
  obtain ⟨p, r, n, t', e, q⟩ := s
  exact ⟨p, r, n, t', by rw [List.getElem?_append_left this]; exact e, q⟩
theorem Bag.set {j : Nat} (s : Bag ns h i c) (n : j ≠ i) (o : OO) : Bag ns (h.set j o) i c := by
  obtain ⟨p, r, m, t, e, q⟩ := s
  exact ⟨p, r, m, t, by rw [List.getElem?_set_ne n]; exact e, q⟩
theorem stir_ok {a b : Int} (hb : 0 ≤ b) (hb2 : b < 2 ^ 62) : ∃ s : Int, ∀ h, pureF Sh.l_stir [.int a, .int b] h = .ok (.int s) h := by
  have key : (Sh.l_stir [.int a, .int b] []).W fun d _ => ∃ s : Int, d = .int s := by
    unfold Sh.l_stir; rw [W_fn]; unfold Sh.l_stir_b
    have m1 : mulOk a 998244353 = true := mulOk_r (by decide)
    have m2 : mulOk b 1000000007 = true := mulOk_r (by decide)
    have m3 : ∀ x : Int, mulOk (x % 2305843009213693951) (x % 2305843009213693951) = true := fun x => mulOk_l (by have := Int.emod_nonneg x (show (2305843009213693951 : Int) ≠ 0 by decide); have := Int.emod_lt_of_pos x (show (0 : Int) < 2305843009213693951 by decide); omega)
    have m4 : ∀ x : Int, mulOk x 2860486313 = true := fun x => mulOk_r (by decide)
    have m5 : mulOk b b = true := mulOk_l (by omega)
    have m6 : ∀ x : Int, mulOk x 48271 = true := fun x => mulOk_r (by decide)
    have d1 : ∀ x : Int, divOk x 3 = true := fun x => divOk_small (small_64 (by decide)) (by decide)
    have d2 : ∀ x : Int, divOk x 1024 = true := fun x => divOk_small (small_64 (by decide)) (by decide)
    simp [m1, m2, m3, m4, m5, m6, d1, d2]
  obtain ⟨d, h', e, s, rfl⟩ := key.out
  have r0 : D.pureL [D.int a, D.int b] = true := rfl
  exact ⟨s, fun h => by unfold pureF; rw [if_pos r0, e]; rfl⟩
theorem bdraw_ok {n : Int} (hs : Bag ns h i c) (hc : c < 2 ^ 60) (hn : 0 < n) (hn2 : Small n) {P : D → OH → Prop} (q : ∀ v h', 0 ≤ v → v < n → Bag ns h' i (c + 1) → Chg i h h' → P (.int v) h') : (Sh.l_draw_2 [.ref i, .int n] h).W P := by
  have hi := hs.lt
  have hm := hs.mono (Nat.le_succ c)
  obtain ⟨p, rest, cnt, total, e, p0, p1, c0, c1, t0, t1⟩ := hs
  unfold Sh.l_draw_2
  rw [W_fn]
  unfold Sh.l_draw_2_b
  have hd : ∀ x : Int, divOk x n = true := fun x => divOk_small (i := x) hn2 hn
  have k1 : ∀ x : Int, 0 ≤ x % n := fun x => Int.emod_nonneg _ (by omega)
  have k2 : ∀ x : Int, x % n < n := fun x => Int.emod_lt_of_pos _ hn
  have hset : ∀ o : OO, (h.set i o)[i]? = some o := fun o => by simp [hi]
  have st : ∀ a : Int, ∃ s : Int, ∀ h, pureF Sh.l_stir [.int a, .int (cnt + 1)] h = .ok (.int s) h := fun a => stir_ok (by omega) (by omega)
  have hb : (2 : Nat) ^ 60 = 1152921504606846976 := by decide
  have i1 : ixN 5 1 = some 1 := rfl
  have i2 : ixN 5 2 = some 2 := rfl
  have i3 : ixN 5 3 = some 3 := rfl
  have a4 : ∀ a b c d e : D, atI [a, b, c, d, e] 4 = some e := fun _ _ _ _ _ => rfl
  by_cases hn1 : n = 1
  · subst hn1
    simp
    exact q 0 h (by decide) (by decide) hm (Chg.refl ..)
  · by_cases hr : rest < 2
    · by_cases hp : p = ns.length
      · obtain ⟨s, es⟩ := st total
        simp [hn1, e, hset, i1, i2, i3, a4, hr, hp, es, hn]
        exact q _ _ (k1 _) (k2 _) ⟨p, rest, cnt + 1, total, by rw [hp]; exact hset _, p0, p1, by omega, by omega, t0, t1⟩ (Chg.set ..)
      · have hpl : p.toNat < ns.length := by omega
        have ea : atI (ns.map D.int) p = some (.int ns[p.toNat]) := by
          rw [atI_z p0 (by simp; omega)]
          simp [hpl]
        generalize ns[p.toNat] = cell at ea
        by_cases hcell : cell < 1000000000000000000
        · obtain ⟨s, es⟩ := st (cell % 2305843009213693951)
          simp [hn1, e, hset, i1, i2, i3, a4, hr, hp, ea, hcell, es, hn]
          exact q _ _ (k1 _) (k2 _) ⟨p + 1, rest, cnt + 1, total, hset _, by omega, by omega, by omega, by omega, t0, t1⟩ (Chg.set ..)
        · simp [hn1, e, hset, i1, i2, i3, a4, hr, hp, ea, hcell, hn, hd]
          exact q _ _ (k1 _) (k2 _) ⟨p + 1, _, cnt + 1, total, hset _, by omega, by omega, by omega, by omega, t0, t1⟩ (Chg.set ..)
    · simp [hn1, e, hset, i1, i2, i3, a4, hr, hn, hd]
      exact q _ _ (k1 _) (k2 _) ⟨p, _, cnt + 1, total, hset _, by omega, by omega, by omega, by omega, t0, t1⟩ (Chg.set ..)
end
theorem bag_ok (ns : List Int) (h : OH) (hl : ns.length ≤ 63) {P : D → OH → Prop} (q : ∀ o, Bag ns (h ++ [o]) h.length 0 → P (.ref h.length) (h ++ [o])) : (Sh.l_bag [.scr (ns.map D.int)] h).W P := by
  unfold Sh.l_bag
  rw [W_fn]
  unfold Sh.l_bag_b
  simp
  refine W_forL (fun k e h' => h' = h ∧ ∃ (t : Int) (c : Option D), e = [some (.scr (ns.map D.int)), some (.int t), c] ∧ 0 ≤ t ∧ t < 2305843009213693951) _ _ _ ⟨rfl, 1, none, rfl, by decide, by decide⟩ (fun k d hd e h' hI => ?_) (fun e h' hI => ?_)
  · obtain ⟨rfl, t, c, rfl, t1, t2⟩ := hI
    rw [List.getElem?_map, Option.map_eq_some_iff] at hd
    obtain ⟨x, hx, rfl⟩ := hd
    refine ⟨_, rfl, ?_⟩
    have m1 : mulOk t 1000003 = true := mulOk_r (by decide)
    have s3 : ∀ y : Int, 0 ≤ y % 2305843009213693951 ∧ y % 2305843009213693951 < 2305843009213693951 := fun y => ⟨Int.emod_nonneg _ (by decide), Int.emod_lt_of_pos _ (by decide)⟩
    simp [m1]
    exact ⟨(s3 _).1, (s3 _).2⟩
  · obtain ⟨rfl, t, c, rfl, t1, t2⟩ := hI
    simp [opList, seqAt, Res.W]
    exact q _ ⟨0, 0, 0, t, by simp, by decide, by omega, by decide, by decide, t1, t2⟩
end HR
set_option Elab.async false
set_option linter.all false
set_option maxRecDepth 20000
namespace HR
open PySem L2
/-! ### records as texts -/
abbrev Item := Option Str
def dI : Item → D
  | none => .non
  | some x => .str x
theorem pure_dI (x : Item) : (dI x).pure = true := by cases x <;> rfl
@[simp] theorem pureL_dI (xs : List Item) : D.pureL (xs.map dI) = true := pureL_map _ pure_dI xs
@[simp] theorem ok_dash : PyData.strOk "-" = true := by decide +kernel
@[simp] theorem W_sM1 (g : Str → D → OH → Res D) (o a : SE) (e : Env') (h : OH) {PD : D → OH → Prop} : (sM1 g o a e h).W PD = (o e h).W fun x h1 => match x with | .str s => (a e h1).W fun d h2 => (g s d h2).W PD | _ => False := by
  unfold sM1
  rw [W_bind]
  congr; funext x h1
  cases x with
  | str s => rw [W_bind]
  | _ => rfl
end HR
set_option Elab.async false
set_option linter.all false
set_option maxRecDepth 20000
set_option exponentiation.threshold 5000
namespace HR
open PySem L2
/-! ### the simulation: it runs through -/
def runFs (t : Tk) (i : Nat) (b : Bool) (sp wt : Int) : List (String × D) := [("member", dMem t), ("index", .int i), ("is_ready", .bl b), ("spoken", .int sp), ("waited", .int wt)]
def oRun (t : Tk) (i : Nat) (b : Bool) (sp wt : Int) : OO := .ins "Running" (runFs t i b sp wt)
@[simp] theorem W_make (K : String) (g : FN) (a : SA) (e : Env') (h : OH) {PD : D → OH → Prop} : (sMake K g a e h).W PD = (a e h).W fun ys h1 => (g (.ref h1.length :: ys) (h1 ++ [.ins K []])).W fun d h2 => (match d with | .non => PD (.ref h1.length) h2 | _ => False) := by
  unfold sMake
  rw [W_bind]
  congr; funext ys h1
  rw [W_bind, W_noX]
  congr; funext d h2
  cases d <;> rfl
@[simp] theorem SW_fldA (K f : String) (o v : SE) (e : Env') (h : OH) {N C B : Env' → OH → Prop} {R : D → OH → Prop} : (sFldA K f o v e h).W N C B R = (o e h).W fun x h1 => isR x fun n => lkI h1[n]? fun K' fs => if K' = K then (lkS (fs.lookup f) fun d => match d with
    | .int i => (v e h1).W fun y h2 => (match y with
      | .int j => lkI h2[n]? fun K2 fs2 => if K2 = K ∧ fs2.length < 900 then N e (h2.set n (.ins K (putS f (.int (i + j)) fs2))) else False
      | _ => False)
    | _ => False) else False := by
  unfold sFldA
  rw [W_toS]
  congr; funext x h1
  cases x with
  | ref n =>
    dsimp only [isR]
    cases h1[n]? with
    | none => rfl
    | some ob =>
      cases ob with
      | ins K' fs =>
        simp only [lkI_ins]
        by_cases q : K' = K
        · rw [if_pos q, if_pos q]
          cases fs.lookup f with
          | none => rfl
          | some d =>
            simp only [lkS_some]
            cases d with
            | int i =>
              dsimp only
              rw [W_toS]
              congr; funext y h2
              cases y with
              | int j =>
                cases h2[n]? with
                | none => rfl
                | some ob2 =>
                  cases ob2 with
                  | ins K2 fs2 => simp only [lkI_ins]; split <;> rfl
                  | _ => rfl
              | _ => cases h2[n]? <;> rfl
            | _ => rfl
        · rw [if_neg q, if_neg q]; rfl
      | _ => rfl
  | _ => rfl
section
variable {t : Tk} {i : Nat} {b : Bool} {sp wt : Int}
@[simp] theorem rf_member : (runFs t i b sp wt).lookup "member" = some (dMem t) := rfl
@[simp] theorem rf_index : (runFs t i b sp wt).lookup "index" = some (.int i) := rfl
@[simp] theorem rf_ready : (runFs t i b sp wt).lookup "is_ready" = some (.bl b) := rfl
@[simp] theorem rf_spoken : (runFs t i b sp wt).lookup "spoken" = some (.int sp) := rfl
@[simp] theorem rf_waited : (runFs t i b sp wt).lookup "waited" = some (.int wt) := rfl
@[simp] theorem rf_len : (runFs t i b sp wt).length = 5 := rfl
@[simp] theorem rf_wait : hasNo (runFs t i b sp wt) "wait" = True := eq_true rfl
@[simp] theorem rf_speak : hasNo (runFs t i b sp wt) "speak" = True := eq_true rfl
@[simp] theorem put_index : putS "index" (.int ((i : Int) + 1)) (runFs t i b sp wt) = runFs t (i + 1) b sp wt := by simp [putS, runFs]
@[simp] theorem put_ready (x : Bool) : putS "is_ready" (.bl x) (runFs t i b sp wt) = runFs t i x sp wt := by simp [putS, runFs]
@[simp] theorem put_spoken (x : Int) : putS "spoken" (.int x) (runFs t i b sp wt) = runFs t i b x wt := by simp [putS, runFs]
@[simp] theorem put_waited (x : Int) : putS "waited" (.int x) (runFs t i b sp wt) = runFs t i b sp x := by simp [putS, runFs]
@[simp] theorem put_all : putS "waited" (.int 0) (putS "spoken" (.int 0) (putS "is_ready" (.bl false) (putS "index" (.int 0) (putS "member" (dMem t) [])))) = runFs t 0 false 0 0 := by simp [putS, runFs]
@[simp] theorem ins_set {h : OH} {n : Nat} {C : String} {fs : List (String × D)} (lt : n < h.length) : insAt (h.set n (.ins C fs)) (.ref n) = some (C, fs) := ins_ref (by simp [lt])
end
/-- the instances of all talkers, in order, from 0 on; K: no index is above -/
def RunSt (ts : List Tk) (h : OH) (K : Nat) : Prop := ∀ (k : Nat) (t : Tk), ts[k]? = some t → ∃ (i : Nat) (b : Bool) (sp wt : Int), i ≤ K ∧ h[k]? = some (oRun t i b sp wt)
end HR
set_option Elab.async false
set_option linter.all false
set_option maxRecDepth 20000
set_option exponentiation.threshold 5000
namespace HR
open PySem L2
section
variable {ts : List Tk} {h : OH} {K : Nat}
theorem RunSt.mono {K' : Nat} (S : RunSt ts h K) (hk : K ≤ K') : RunSt ts h K' := fun k t e => by
  obtain ⟨i, b, sp, wt, a, q⟩ := S k t e
  exact ⟨i, b, sp, wt, by omega, q⟩
theorem RunSt.lt (S : RunSt ts h K) {k : Nat} (hk : k < ts.length) : k < h.length := by
  obtain ⟨i, b, sp, wt, _, q⟩ := S k ts[k] (by simp [hk])
  exact (List.getElem?_eq_some_iff.mp q).1
theorem RunSt.other (S : RunSt ts h K) {n : Nat} (hn : ts.length ≤ n) (o : OO) : RunSt ts (h.set n o) K := fun k t e => by
  obtain ⟨i, b, sp, wt, a, q⟩ := S k t e
  have := (List.getElem?_eq_some_iff.mp e).1
  exact ⟨i, b, sp, wt, a, by rw [List.getElem?_set_ne (by omega)]; exact q⟩
theorem RunSt.app (S : RunSt ts h K) (o : OH) : RunSt ts (h ++ o) K := fun k t e => by
  obtain ⟨i, b, sp, wt, a, q⟩ := S k t e
  exact ⟨i, b, sp, wt, a, by rw [List.getElem?_append_left (List.getElem?_eq_some_iff.mp q).1]; exact q⟩
theorem RunSt.at_ (S : RunSt ts h K) {k : Nat} (hk : k < ts.length) : ∃ (i : Nat) (b : Bool) (sp wt : Int), i ≤ K ∧ h[k]? = some (oRun ts[k] i b sp wt) := S k ts[k] (by simp [hk])
end
end HR
set_option Elab.async false
set_option linter.all false
set_option maxRecDepth 20000
set_option exponentiation.threshold 5000
namespace HR
open PySem L2
/-! ### the simulation, exactly -/
/-- who is chosen: the ready ones of the least rank, the started ones of them first -/
def chooseG {α : Type} (rk : α → Int) (b st : α → Bool) (L : List α) : Option α := match L.filter b with
  | [] => none
  | x :: r => (((x :: r).filter fun y => rk y == (r.map rk).foldl min (rk x)).filter st ++ (x :: r).filter fun y => rk y == (r.map rk).foldl min (rk x)).head?
/-- what it means to be chosen -/
theorem foldl_min_le : ∀ (l : List Int) (x : Int), l.foldl min x ≤ x ∧ (∀ y ∈ l, l.foldl min x ≤ y) ∧ (l.foldl min x = x ∨ l.foldl min x ∈ l)
  | [], x => ⟨Int.le_refl _, by simp, .inl rfl⟩
  | z :: l, x => by
    obtain ⟨a, b, c⟩ := foldl_min_le l (min x z)
    simp only [List.foldl_cons]
    refine ⟨by omega, fun y hy => ?_, ?_⟩
    · rcases List.mem_cons.mp hy with rfl | hy
      · omega
      · exact b y hy
    · rcases c with c | c
      · rw [c]
        by_cases h : x ≤ z
        · left; omega
        · right
          have : min x z = z := by omega
          rw [this]
          exact List.mem_cons_self
      · right
        exact List.mem_cons_of_mem _ c
theorem chooseG_none {α : Type} {rk : α → Int} {b st : α → Bool} {L : List α} : chooseG rk b st L = none ↔ ∀ x ∈ L, b x = false := by
  unfold chooseG
  constructor
  · intro h
    cases e : L.filter b with
    | nil =>
      intro x hx
      have := List.filter_eq_nil_iff.mp e x hx
      simpa using this
    | cons x r =>
      rw [e] at h
      dsimp only at h
      rw [List.head?_eq_none_iff, List.append_eq_nil_iff] at h
      exfalso
      obtain ⟨a, _, c⟩ := foldl_min_le (r.map rk) (rk x)
      have h2 := List.filter_eq_nil_iff.mp h.2
      rcases c with c | c
      · exact h2 x List.mem_cons_self (by simp [c])
      · obtain ⟨y, hy, e2⟩ := List.mem_map.mp c
        exact h2 y (List.mem_cons_of_mem _ hy) (by simp [e2])
  · intro h
    rw [List.filter_eq_nil_iff.mpr fun x hx => by simp [h x hx]]
/-- the least rank of the ready ones -/
def IsMin {α : Type} (rk : α → Int) (b : α → Bool) (L : List α) (m : Int) : Prop := (∀ x ∈ L, b x = true → m ≤ rk x) ∧ ∃ x ∈ L, b x = true ∧ rk x = m
theorem chooseG_min {α : Type} {rk : α → Int} {b st : α → Bool} {L : List α} {m : Int} (h : IsMin rk b L m) : chooseG rk b st L = (((L.filter b).filter fun y => rk y == m).filter st ++ (L.filter b).filter fun y => rk y == m).head? := by
  obtain ⟨h1, x0, hx0, hb0, hm0⟩ := h
  unfold chooseG
  have m0 : x0 ∈ L.filter b := List.mem_filter.mpr ⟨hx0, hb0⟩
  have sub : ∀ x ∈ L.filter b, m ≤ rk x := fun x hx => h1 x (List.mem_filter.mp hx).1 (List.mem_filter.mp hx).2
  cases e : L.filter b with
  | nil => rw [e] at m0; cases m0
  | cons x r =>
    rw [e] at m0 sub
    dsimp only
    obtain ⟨p, q, s⟩ := foldl_min_le (r.map rk) (rk x)
    have em : (r.map rk).foldl min (rk x) = m := by
      have le : (r.map rk).foldl min (rk x) ≤ m := by
        rw [← hm0]
        rcases List.mem_cons.mp m0 with rfl | hx
        · exact p
        · exact q _ (List.mem_map_of_mem hx)
      have ge : m ≤ (r.map rk).foldl min (rk x) := by
        rcases s with s | s
        · rw [s]; exact sub x List.mem_cons_self
        · obtain ⟨y, hy, e2⟩ := List.mem_map.mp s
          rw [← e2]
          exact sub y (List.mem_cons_of_mem _ hy)
      omega
    rw [em]
theorem chooseG_has {α : Type} {rk : α → Int} {b st : α → Bool} {L : List α} {u : α} (h : chooseG rk b st L = some u) : ∃ m, IsMin rk b L m ∧ u ∈ L ∧ b u = true ∧ rk u = m := by
  have ne : chooseG rk b st L ≠ none := by rw [h]; simp
  have ex : ∃ x ∈ L, b x = true := by
    refine Classical.byContradiction fun z => ne (chooseG_none.mpr fun x hx => ?_)
    cases e : b x with
    | false => rfl
    | true => exact absurd ⟨x, hx, e⟩ z
  have mn : ∃ m, IsMin rk b L m := by
    obtain ⟨x, hx, hb⟩ := ex
    have hm : x ∈ L.filter b := List.mem_filter.mpr ⟨hx, hb⟩
    cases e : L.filter b with
    | nil => rw [e] at hm; cases hm
    | cons y r =>
      obtain ⟨p, q, s⟩ := foldl_min_le (r.map rk) (rk y)
      have mem : ∀ z, z ∈ y :: r ↔ z ∈ L ∧ b z = true := fun z => by rw [← e]; exact List.mem_filter
      refine ⟨(r.map rk).foldl min (rk y), fun z hz hbz => ?_, ?_⟩
      · rcases List.mem_cons.mp ((mem z).mpr ⟨hz, hbz⟩) with rfl | hz
        · exact p
        · exact q _ (List.mem_map_of_mem hz)
      · rcases s with s | s
        · obtain ⟨a, c⟩ := (mem y).mp List.mem_cons_self
          exact ⟨y, a, c, s.symm⟩
        · obtain ⟨z, hz, e2⟩ := List.mem_map.mp s
          obtain ⟨a, c⟩ := (mem z).mp (List.mem_cons_of_mem _ hz)
          exact ⟨z, a, c, e2⟩
  obtain ⟨m, hm⟩ := mn
  rw [chooseG_min hm] at h
  have hu := List.mem_of_mem_head? h
  have hu2 : u ∈ (L.filter b).filter fun y => rk y == m := by
    rcases List.mem_append.mp hu with z | z
    · exact (List.mem_filter.mp z).1
    · exact z
  obtain ⟨a, c⟩ := List.mem_filter.mp hu2
  obtain ⟨a1, a2⟩ := List.mem_filter.mp a
  exact ⟨m, hm, a1, a2, by simpa using c⟩
end HR
set_option Elab.async false
set_option linter.all false
set_option maxRecDepth 20000
set_option exponentiation.threshold 5000
namespace HR
open PySem L2
structure Rs where
  i : Nat
  b : Bool
  sp : Int
  wt : Int
abbrev Cf := Tk × Rs
def waitR (t : Tk) (r : Rs) : Rs := ⟨r.i, r.wt + 1 == (nth t.pre t.cyc r.i).1, r.sp, r.wt + 1⟩
def speakR (t : Tk) (r : Rs) : Rs := if r.sp + 1 = (nth t.pre t.cyc r.i).2 then ⟨r.i + 1, false, 0, 0⟩ else ⟨r.i, r.b, r.sp + 1, r.wt⟩
/-- does one wait at a tick -/
def waits (c : Option Tk) (x : Cf) : Bool := !x.2.b && (match c with | none => true | some u => decide (x.1.rank < u.rank))
def afterW (c : Option Tk) (x : Cf) : Cf := if waits c x then (x.1, waitR x.1 x.2) else x
def start (ts : List Tk) : List Cf := ts.map fun t => (t, ⟨0, false, 0, 0⟩)
def dN : Option Str → D
  | none => .non
  | some x => .str x
def oCf (x : Cf) : OO := oRun x.1 x.2.i x.2.b x.2.sp x.2.wt
theorem afterW_fst (c : Option Tk) (x : Cf) : (afterW c x).1 = x.1 := by
  unfold afterW
  split <;> rfl
/-! ### the program -/
end HR
set_option Elab.async false
set_option linter.all false
set_option maxRecDepth 20000
set_option exponentiation.threshold 5000
namespace HR
open PySem L2
/-- the heap in the midst of the waiting: the first i are through -/
def WaitIs (c : Option Tk) (S : List Cf) (i : Nat) (h : OH) : Prop := ∀ (k : Nat) (x : Cf), S[k]? = some x → h[k]? = some (oCf (if k < i then afterW c x else x))
theorem WaitIs.tk {c : Option Tk} {S : List Cf} {i : Nat} {h : OH} (R : WaitIs c S i h) {k : Nat} {x : Cf} (e : S[k]? = some x) : ∃ r, h[k]? = some (oCf (x.1, r)) := by
  have := R k x e
  split at this
  · refine ⟨(afterW c x).2, ?_⟩
    rw [this, ← afterW_fst c x]
  · exact ⟨x.2, this⟩
end HR
set_option Elab.async false
set_option linter.all false
set_option maxRecDepth 20000
set_option exponentiation.threshold 5000
namespace HR
open PySem L2
/-! ### a record, read tick by tick -/
/-- what it shows of one member: the talks that are over, the one that may go on, the quiet ticks since -/
structure Ob where
  done : List (Int × Int)
  cur : Option (Int × Int)
  q : Int
def Ob.tk (o : Ob) : List (Int × Int) := o.done ++ o.cur.toList
def speakO (o : Ob) : Ob := match o.cur with
  | some p => ⟨o.done, some (p.1, p.2 + 1), 0⟩
  | none => ⟨o.done, some (o.q, 1), 0⟩
/-- a tick at which one of the rank rs speaks, or nobody -/
def isQ (rs : Option Int) (r : Int) : Bool := match rs with
  | none => true
  | some s => decide (s > r)
def isC (rs : Option Int) (r : Int) : Bool := match rs with
  | none => true
  | some s => decide (s ≥ r)
def passO (rs : Option Int) (r : Int) (o : Ob) : Ob := ⟨if isC rs r then o.tk else o.done, if isC rs r then none else o.cur, if isQ rs r then o.q + 1 else o.q⟩
structure RdS where
  obs : Nat → Ob
  lp : Int → Int
variable (rk : Nat → Int)
def stepRd (x : Option Nat) (S : RdS) : RdS where
  obs := fun j => match x with
    | none => passO none (rk j) (S.obs j)
    | some k => if j = k then speakO (S.obs j) else passO (some (rk k)) (rk j) (S.obs j)
  lp := fun r => match x with
    | none => -1
    | some k => if rk k > r then -1 else if r = rk k then (if (k : Int) > S.lp r then (k : Int) else S.lp r) else S.lp r
/-- the kind of the fault if k speaks: silence (true), order (false) -/
def kindF (k : Nat) (S : RdS) : Option Bool := if (S.obs k).cur.isSome then none else if (S.obs k).q = 0 then some true else if S.lp (rk k) > k then some false else none
def OkT (x : Option Nat) (S : RdS) : Prop := ∀ k, x = some k → kindF rk k S = none
def runRd : List (Option Nat) → RdS → RdS
  | [], S => S
  | x :: xs, S => runRd xs (stepRd rk x S)
def okRd : List (Option Nat) → RdS → Prop
  | [], _ => True
  | x :: xs, S => OkT rk x S ∧ okRd xs (stepRd rk x S)
def S0 : RdS := ⟨fun _ => ⟨[], none, 0⟩, fun _ => -1⟩
theorem runRd_app : ∀ (xs ys : List (Option Nat)) (S : RdS), runRd rk (xs ++ ys) S = runRd rk ys (runRd rk xs S)
  | [], _, _ => rfl
  | x :: xs, ys, S => runRd_app xs ys _
theorem okRd_app : ∀ (xs ys : List (Option Nat)) (S : RdS), okRd rk (xs ++ ys) S ↔ okRd rk xs S ∧ okRd rk ys (runRd rk xs S)
  | [], _, _ => by simp [okRd, runRd]
  | x :: xs, ys, S => by
    simp only [List.cons_append, okRd, runRd]
    rw [okRd_app xs ys, and_assoc]
theorem tk_pass (rs : Option Int) (r : Int) (o : Ob) : (passO rs r o).tk = o.tk := by
  unfold passO
  cases isC rs r <;> simp [Ob.tk]
theorem isQC {rs : Option Int} {r : Int} (h : isQ rs r = true) : isC rs r = true := by
  cases rs with
  | none => rfl
  | some s => simp [isQ, isC] at h ⊢; omega
/-- the quiet ticks are no more than the ticks -/
theorem q_speak (o : Ob) : (speakO o).q = 0 := by unfold speakO; split <;> rfl
/-! ### a record without a fault: what the end tells of what came before -/
end HR
set_option Elab.async false
set_option linter.all false
set_option maxRecDepth 20000
set_option exponentiation.threshold 5000
namespace HR
open PySem L2
/-! ### the hall with the talks of a record produces the record -/
def rkT (ts : List Tk) (j : Nat) : Int := (ts.getD j gTk).rank
def nmT (ts : List Tk) (x : Option Nat) : Option Str := x.map fun k => (ts.getD k gTk).name
section
variable {ts : List Tk} {L : Nat → List (Int × Int)} {N : Int} {S : RdS} {x : Option Nat}
theorem name_ne (nd : (ts.map (·.name)).Nodup) {j k : Nat} (hj : j < ts.length) (hk : k < ts.length) (e : (ts.getD j gTk).name = (ts.getD k gTk).name) : j = k := by
  have a : (ts.map (·.name))[j]? = some (ts.getD j gTk).name := by simp [hj]
  have b : (ts.map (·.name))[k]? = some (ts.getD k gTk).name := by simp [hk]
  exact (List.getElem?_inj (by simpa using hj) nd).mp (by rw [a, b, e])
end
end HR
set_option Elab.async false
set_option linter.all false
set_option maxRecDepth 20000
set_option exponentiation.threshold 5000
namespace HR
open PySem L2
/-! ### what a hall produces has no fault -/
theorem choose_some {n k : Nat} {rk : Nat → Int} {b st : Nat → Bool} (h : chooseG rk b st (List.range n) = some k) :
    k < n ∧ b k = true ∧ (∀ j, j < n → b j = true → rk k ≤ rk j) ∧ (st k = true ∨ ∀ j, j < n → b j = true → rk j = rk k → st j = false ∧ k ≤ j) := by
  obtain ⟨m, hm, hk, hb, rfl⟩ := chooseG_has h
  refine ⟨List.mem_range.mp hk, hb, fun j hj hbj => hm.1 j (List.mem_range.mpr hj) hbj, ?_⟩
  rw [chooseG_min hm] at h
  simp only [List.filter_filter, List.head?_append, List.head?_filter] at h
  cases e : (List.range n).find? (fun a => st a && (rk a == rk k && b a)) with
  | some u =>
    rw [e] at h
    have : u = k := by simpa using h
    subst this
    have := List.find?_some e
    simp only [Bool.and_eq_true] at this
    exact .inl this.1
  | none =>
    rw [e] at h
    right
    intro j hj hbj er
    have n1 := List.find?_eq_none.mp e j (List.mem_range.mpr hj)
    refine ⟨by simpa [hbj, er] using n1, ?_⟩
    have h : (List.range n).find? (fun a => rk a == rk k && b a) = some k := by simpa using h
    rw [List.find?_range_eq_some] at h
    refine Nat.le_of_not_lt fun lt => ?_
    have := h.2.2 j lt
    simp [hbj, er] at this
def talksT (t : Tk) (i : Nat) : List (Int × Int) := (List.range i).map (nth t.pre t.cyc)
theorem talksT_succ (t : Tk) (i : Nat) : talksT t (i + 1) = talksT t i ++ [nth t.pre t.cyc i] := by simp [talksT, List.range_succ]
def Psi (t : Tk) (o : Ob) (r : Rs) : Prop :=
  (r.b = true ∧ 0 < r.sp ∧ r.sp < (nth t.pre t.cyc r.i).2 ∧ o.cur = some ((nth t.pre t.cyc r.i).1, r.sp) ∧ o.done = talksT t r.i ∧ o.q = 0) ∨
  (r.b = false ∧ r.sp = 0 ∧ r.wt = 0 ∧ (∃ i, r.i = i + 1 ∧ o.cur = some (nth t.pre t.cyc i) ∧ o.done = talksT t i) ∧ o.q = 0) ∨
  (o.cur = none ∧ o.done = talksT t r.i ∧ r.sp = 0 ∧ r.wt = o.q ∧ r.b = (o.q == (nth t.pre t.cyc r.i).1) ∧ o.q ≤ (nth t.pre t.cyc r.i).1)
structure InvB (ts : List Tk) (S : RdS) (r : Nat → Rs) : Prop where
  psi : ∀ j, j < ts.length → Psi (ts.getD j gTk) (S.obs j) (r j)
  lp : ∀ j, j < ts.length → (r j).b = true → (r j).sp = 0 → S.lp (rkT ts j) ≤ j
  un : ∀ j k, j < ts.length → k < ts.length → rkT ts j = rkT ts k → 0 < (r j).sp → 0 < (r k).sp → j = k
  fr : ∀ j k, j < ts.length → k < ts.length → rkT ts j = rkT ts k → 0 < (r k).sp → (r j).b = true → (r j).sp = 0 → k ≤ j
def whoI (ts : List Tk) (r : Nat → Rs) : Option Nat := chooseG (rkT ts) (fun j => (r j).b) (fun j => decide (0 < (r j).sp)) (List.range ts.length)
def stepI (ts : List Tk) (r : Nat → Rs) (j : Nat) : Rs := match whoI ts r with
  | none => if (r j).b then r j else waitR (ts.getD j gTk) (r j)
  | some k => if j = k then speakR (ts.getD j gTk) (r j) else if !(r j).b && decide (rkT ts j < rkT ts k) then waitR (ts.getD j gTk) (r j) else r j
section
variable {ts : List Tk} {S : RdS} {r : Nat → Rs}
/-- who waits at a tick -/
theorem stepI_quiet {x : Option Nat} (e : whoI ts r = x) {j : Nat} (hj : j < ts.length) (q : isQ (x.map (rkT ts)) (rkT ts j) = true) : (r j).b = false ∧ stepI ts r j = waitR (ts.getD j gTk) (r j) := by
  unfold stepI
  rw [e]
  cases x with
  | none =>
    have b := chooseG_none.mp e j (List.mem_range.mpr hj)
    have b : (r j).b = false := b
    simp [b]
  | some k =>
    obtain ⟨hk, bk, mn, _⟩ := choose_some e
    have q : rkT ts k > rkT ts j := by simpa [isQ] using q
    have b : (r j).b = false := by
      cases c : (r j).b with
      | false => rfl
      | true => have := mn j hj c; omega
    have ne : j ≠ k := fun z => by subst z; omega
    refine ⟨b, ?_⟩
    dsimp only
    rw [if_neg ne, if_pos (by simp [b]; omega)]
theorem stepI_loud {x : Option Nat} (e : whoI ts r = x) {j : Nat} (q : isQ (x.map (rkT ts)) (rkT ts j) = false) (ne : x ≠ some j) : stepI ts r j = r j := by
  unfold stepI
  rw [e]
  cases x with
  | none => cases q
  | some k =>
    have q : ¬ rkT ts k > rkT ts j := by simpa [isQ] using q
    have ne : j ≠ k := fun z => ne (by rw [z])
    dsimp only
    rw [if_neg ne, if_neg (by simp; intro _; omega)]
theorem obs_pass {x : Option Nat} {j : Nat} (ne : x ≠ some j) : (stepRd (rkT ts) x S).obs j = passO (x.map (rkT ts)) (rkT ts j) (S.obs j) := by
  cases x with
  | none => rfl
  | some k =>
    have ne : j ≠ k := fun z => ne (by rw [z])
    simp [stepRd, ne]
theorem psi_speak {t : Tk} (w : WfTk T30 t) {o : Ob} {r : Rs} (h : Psi t o r) (b : r.b = true) : Psi t (speakO o) (speakR t r) ∧ (o.cur = none → r.sp = 0 ∧ o.q ≠ 0) := by
  have in1 : 1 ≤ (nth t.pre t.cyc r.i).1 ∧ 1 ≤ (nth t.pre t.cyc r.i).2 := by
    have := w.nth1 r.i
    exact ⟨this.1, this.2.2.1⟩
  rcases h with ⟨_, h2, h3, h4, h5, h6⟩ | ⟨h1, _⟩ | ⟨h1, h2, h3, h4, h5, h6⟩
  · refine ⟨?_, fun z => by rw [h4] at z; cases z⟩
    simp only [speakO, h4, speakR]
    by_cases c : r.sp + 1 = (nth t.pre t.cyc r.i).2
    · rw [if_pos c]
      right; left
      refine ⟨rfl, rfl, rfl, ⟨r.i, rfl, ?_, h5⟩, rfl⟩
      rw [c]
    · rw [if_neg c]
      left
      exact ⟨b, by dsimp only; omega, by dsimp only; omega, rfl, h5, rfl⟩
  · rw [b] at h1; cases h1
  · rw [b] at h5
    have eq : o.q = (nth t.pre t.cyc r.i).1 := by simpa using h5.symm
    refine ⟨?_, fun _ => ⟨h3, by omega⟩⟩
    simp only [speakO, h1, speakR, h3]
    by_cases c : (0 : Int) + 1 = (nth t.pre t.cyc r.i).2
    · rw [if_pos c]
      right; left
      refine ⟨rfl, rfl, rfl, ⟨r.i, rfl, ?_, h2⟩, rfl⟩
      rw [eq, show (1 : Int) = (nth t.pre t.cyc r.i).2 from c]
    · rw [if_neg c]
      left
      exact ⟨b, by dsimp only; omega, by dsimp only; omega, by rw [eq]; rfl, h2, rfl⟩
theorem speak_sp {t : Tk} {r : Rs} (h0 : 0 ≤ r.sp) : 0 < (speakR t r).sp ∧ (speakR t r).b = r.b ∨ (speakR t r).b = false ∧ (speakR t r).sp = 0 := by
  unfold speakR
  split
  · exact .inr ⟨rfl, rfl⟩
  · exact .inl ⟨by dsimp only; omega, rfl⟩
theorem psi_wait {t : Tk} (w : WfTk T30 t) {o : Ob} {r : Rs} {rs : Option Int} {rk : Int} (h : Psi t o r) (b : r.b = false) (q : isQ rs rk = true) : Psi t (passO rs rk o) (waitR t r) := by
  have in1 : ∀ i, 1 ≤ (nth t.pre t.cyc i).1 := fun i => (w.nth1 i).1
  have c := isQC q
  rcases h with ⟨h1, _⟩ | ⟨h1, h2, h3, ⟨i, h4, h5, h6⟩, h7⟩ | ⟨h1, h2, h3, h4, h5, h6⟩
  · rw [b] at h1; cases h1
  · right; right
    refine ⟨by simp [passO, c], ?_, h2, ?_, ?_, ?_⟩
    · simp only [passO, c, if_true, Ob.tk, h5, h6, waitR, h4, talksT_succ]
      rfl
    · simp only [passO, q, if_true, waitR, h3, h7]
    · simp only [passO, q, if_true, waitR, h3, h7]
    · simp only [passO, q, if_true, waitR, h7]
      have := in1 r.i
      omega
  · right; right
    rw [b] at h5
    have ne : o.q ≠ (nth t.pre t.cyc r.i).1 := by simpa using h5.symm
    refine ⟨by simp [passO, c], ?_, h3, ?_, ?_, ?_⟩
    · simp only [passO, c, if_true, Ob.tk, h1, h2, waitR]
      simp
    · simp only [passO, q, if_true, waitR, h4]
    · simp only [passO, q, if_true, waitR, h4]
    · simp only [passO, q, if_true, waitR]
      omega
theorem psi_stay {t : Tk} (w : WfTk T30 t) {o : Ob} {r : Rs} {rs : Option Int} {rk : Int} (h : Psi t o r) (q : isQ rs rk = false) (hs : isC rs rk = true → r.sp = 0) : Psi t (passO rs rk o) r := by
  have in1 : ∀ i, 1 ≤ (nth t.pre t.cyc i).1 := fun i => (w.nth1 i).1
  by_cases c : isC rs rk = true
  · have s0 := hs c
    rcases h with ⟨_, h2, _⟩ | ⟨h1, h2, h3, ⟨i, h4, h5, h6⟩, h7⟩ | ⟨h1, h2, h3, h4, h5, h6⟩
    · omega
    · right; right
      have := in1 r.i
      refine ⟨by simp [passO, c], ?_, h2, ?_, ?_, ?_⟩
      · simp only [passO, c, if_true, Ob.tk, h5, h6, h4, talksT_succ]
        rfl
      · simp [passO, q, h3, h7]
      · simp only [passO, q, h1, h7]
        symm
        rw [beq_eq_false_iff_ne]
        simp only [Bool.false_eq_true, if_false]
        omega
      · simp only [passO, q, h7]
        simp only [Bool.false_eq_true, if_false]
        omega
    · right; right
      refine ⟨by simp [passO, c], by simp [passO, c, Ob.tk, h1, h2], h3, by simp [passO, q, h4], by simp [passO, q, h5], by simp [passO, q, h6]⟩
  · have eo : passO rs rk o = o := by
      cases o
      simp [passO, c, q]
    rw [eo]
    exact h
theorem psi_sp {t : Tk} {o : Ob} {r : Rs} (h : Psi t o r) : 0 ≤ r.sp ∧ (0 < r.sp → r.b = true) := by
  rcases h with ⟨h1, h2, _⟩ | ⟨h1, h2, _⟩ | ⟨h1, h2, h3, _⟩
  · exact ⟨by omega, fun _ => h1⟩
  · exact ⟨by omega, fun z => by omega⟩
  · exact ⟨by omega, fun z => by omega⟩
theorem heard_step (w : ∀ t ∈ ts, WfTk T30 t) (I : InvB ts S r) : OkT (rkT ts) (whoI ts r) S ∧ InvB ts (stepRd (rkT ts) (whoI ts r) S) (stepI ts r) := by
  obtain ⟨x, e⟩ : ∃ x, whoI ts r = x := ⟨_, rfl⟩
  have wj : ∀ j, j < ts.length → WfTk T30 (ts.getD j gTk) := fun j hj => w _ (by simp [hj])
  rw [e]
  have speak : ∀ k, x = some k → k < ts.length ∧ (r k).b = true ∧ stepI ts r k = speakR (ts.getD k gTk) (r k) ∧ (stepRd (rkT ts) x S).obs k = speakO (S.obs k) := fun k hk => by
    subst hk
    obtain ⟨h1, h2, _⟩ := choose_some e
    refine ⟨h1, h2, ?_, by simp [stepRd]⟩
    unfold stepI
    rw [e]
    simp
  -- a started one of the speaker's rank is the speaker
  have same : ∀ k j, x = some k → j < ts.length → j ≠ k → rkT ts j = rkT ts k → (r j).sp = 0 := fun k j hk hj ne er => by
    subst hk
    obtain ⟨h1, h2, _, h4⟩ := choose_some e
    have := psi_sp (I.psi j hj)
    refine Classical.byContradiction fun c => ?_
    have c : 0 < (r j).sp := by omega
    rcases h4 with h4 | h4
    · have h4 : 0 < (r k).sp := by simpa using h4
      exact ne (I.un j k hj h1 er c h4)
    · have := (h4 j hj (this.2 c) er).1
      simp at this
      omega
  refine ⟨fun k hk => ?_, ?_, ?_, ?_, ?_⟩
  · obtain ⟨h1, h2, _, _⟩ := speak k hk
    have ps := psi_speak (wj k h1) (I.psi k h1) h2
    unfold kindF
    cases ec : (S.obs k).cur with
    | some p => rfl
    | none =>
      obtain ⟨a, b⟩ := ps.2 ec
      have := I.lp k h1 h2 a
      simp only [Option.isSome_none, Bool.false_eq_true, if_false]
      rw [if_neg b, if_neg (by omega)]
  · intro j hj
    by_cases hk : x = some j
    · obtain ⟨h1, h2, h3, h4⟩ := speak j hk
      rw [h3, h4]
      exact (psi_speak (wj j hj) (I.psi j hj) h2).1
    · rw [obs_pass hk]
      cases q : isQ (x.map (rkT ts)) (rkT ts j) with
      | true =>
        obtain ⟨b, s⟩ := stepI_quiet e hj q
        rw [s]
        exact psi_wait (wj j hj) (I.psi j hj) b q
      | false =>
        rw [stepI_loud e q hk]
        refine psi_stay (wj j hj) (I.psi j hj) q fun c => ?_
        cases x with
        | none => cases q
        | some k =>
          refine same k j rfl hj (fun z => hk (by rw [z])) ?_
          simp [isQ, isC] at q c
          omega
  · intro j hj bj sj
    by_cases hk : x = some j
    · obtain ⟨h1, h2, h3, h4⟩ := speak j hk
      rw [h3] at bj sj
      rcases speak_sp (t := ts.getD j gTk) (psi_sp (I.psi j hj)).1 with ⟨a, _⟩ | ⟨a, _⟩
      · omega
      · rw [a] at bj; cases bj
    · cases q : isQ (x.map (rkT ts)) (rkT ts j) with
      | true =>
        have : (stepRd (rkT ts) x S).lp (rkT ts j) = -1 := by
          cases x with
          | none => rfl
          | some k =>
            have q : rkT ts k > rkT ts j := by simpa [isQ] using q
            simp [stepRd, q]
        omega
      | false =>
        rw [stepI_loud e q hk] at bj sj
        have l := I.lp j hj bj sj
        cases x with
        | none => cases q
        | some k =>
          obtain ⟨k1, k2, _, k4⟩ := choose_some e
          have q : ¬ rkT ts k > rkT ts j := by simpa [isQ] using q
          simp only [stepRd]
          rw [if_neg q]
          by_cases er : rkT ts j = rkT ts k
          · rw [if_pos er]
            have kj : k ≤ j := by
              rcases k4 with k4 | k4
              · exact I.fr j k hj k1 er (by simpa using k4) bj sj
              · exact (k4 j hj bj er).2
            split <;> omega
          · rw [if_neg er]; exact l
  · intro j k hj hk er sj sk
    refine Classical.byContradiction fun ne => ?_
    have old : ∀ i, i < ts.length → x ≠ some i → 0 < (stepI ts r i).sp → stepI ts r i = r i := fun i hi ni si => by
      cases q : isQ (x.map (rkT ts)) (rkT ts i) with
      | true =>
        obtain ⟨b, s⟩ := stepI_quiet e hi q
        rw [s] at si
        have si : 0 < (r i).sp := si
        have := (psi_sp (I.psi i hi)).2 si
        rw [b] at this; cases this
      | false => exact stepI_loud e q ni
    by_cases xj : x = some j
    · have xk : x ≠ some k := fun z => ne (by rw [xj] at z; cases z; rfl)
      rw [old k hk xk sk] at sk
      have := same j k xj hk (fun z => ne z.symm) er.symm
      omega
    · rw [old j hj xj sj] at sj
      by_cases xk : x = some k
      · have := same k j xk hj ne er
        omega
      · rw [old k hk xk sk] at sk
        exact ne (I.un j k hj hk er sj sk)
  · intro j k hj hk er sk bj sj
    by_cases ejk : j = k
    · omega
    cases q : isQ (x.map (rkT ts)) (rkT ts k) with
    | true =>
      have nk : x ≠ some k := fun z => by subst z; simp [isQ] at q
      obtain ⟨b, s⟩ := stepI_quiet e hk q
      rw [s] at sk
      have sk : 0 < (r k).sp := sk
      have := (psi_sp (I.psi k hk)).2 sk
      rw [b] at this; cases this
    | false =>
      have qj : isQ (x.map (rkT ts)) (rkT ts j) = false := by rw [er]; exact q
      by_cases xj : x = some j
      · obtain ⟨h1, h2, h3, h4⟩ := speak j xj
        rw [h3] at bj sj
        rcases speak_sp (t := ts.getD j gTk) (psi_sp (I.psi j hj)).1 with ⟨a, _⟩ | ⟨a, _⟩
        · omega
        · rw [a] at bj; cases bj
      · rw [stepI_loud e qj xj] at bj sj
        by_cases xk : x = some k
        · subst xk
          obtain ⟨k1, k2, _, k4⟩ := choose_some e
          rcases k4 with k4 | k4
          · exact I.fr j k hj hk er (by simpa using k4) bj sj
          · exact (k4 j hj bj er).2
        · rw [stepI_loud e q xk] at sk
          exact I.fr j k hj hk er sk bj sj
theorem inv0 (w : ∀ t ∈ ts, WfTk T30 t) : InvB ts S0 fun _ => ⟨0, false, 0, 0⟩ := by
  refine ⟨fun j hj => ?_, fun j hj b => (Bool.noConfusion b), fun j k _ _ _ h => absurd h (by decide), fun j k _ _ _ h => absurd h (by decide)⟩
  have := ((w (ts.getD j gTk) (by simp [hj])).nth1 0).1
  right; right
  refine ⟨rfl, rfl, rfl, rfl, ?_, ?_⟩
  · show false = ((0 : Int) == (nth (ts.getD j gTk).pre (ts.getD j gTk).cyc 0).1)
    symm
    rw [beq_eq_false_iff_ne]
    omega
  · show (0 : Int) ≤ (nth (ts.getD j gTk).pre (ts.getD j gTk).cyc 0).1
    omega
end
end HR
set_option Elab.async false
set_option linter.all false
set_option maxRecDepth 20000
set_option exponentiation.threshold 5000
namespace HR
open PySem L2
/-! ### the reading of a record by the program -/
def obFs (j : Nat) (m : Str × Int) (l : Nat) (o : Ob) : List (String × D) := [("position", .int j), ("name", .str m.1), ("rank", .int m.2), ("found_talks", .ref l), ("quiet_ticks", .int o.q), ("is_open", .bl o.cur.isSome)]
section
variable {j : Nat} {m : Str × Int} {l : Nat} {o : Ob}
@[simp] theorem ofs_pos : (obFs j m l o).lookup "position" = some (.int j) := rfl
@[simp] theorem ofs_name : (obFs j m l o).lookup "name" = some (.str m.1) := rfl
@[simp] theorem ofs_rank : (obFs j m l o).lookup "rank" = some (.int m.2) := rfl
@[simp] theorem ofs_talks : (obFs j m l o).lookup "found_talks" = some (.ref l) := rfl
@[simp] theorem ofs_q : (obFs j m l o).lookup "quiet_ticks" = some (.int o.q) := rfl
@[simp] theorem ofs_open : (obFs j m l o).lookup "is_open" = some (.bl o.cur.isSome) := rfl
@[simp] theorem ofs_len : (obFs j m l o).length = 6 := rfl
@[simp] theorem ofs_n1 : hasNo (obFs j m l o) "speak_on" = True := eq_true rfl
@[simp] theorem ofs_n2 : hasNo (obFs j m l o) "pass_tick" = True := eq_true rfl
end
theorem W_isR (i : Nat) (neg : Bool) (h : OH) {PD : D → OH → Prop} : (opIs neg (.ref i) .non h).W PD = PD (.bl neg) h := by cases neg <;> rfl
theorem ixN_last {n : Nat} : ixN (n + 1) (-1) = some n := by
  unfold ixN
  rw [if_neg (by decide), if_pos (by omega)]
  congr 1
  omega
theorem atI_last {α : Type} (xs : List α) (x : α) : atI (xs ++ [x]) (-1) = some x := by
  have e : (xs ++ [x]).length = xs.length + 1 := by simp
  unfold atI
  rw [e, ixN_last]
  simp
/-- who speaks: nobody, or an object with a rank -/
def SpkD (rs : Option Int) (d : D) (h : OH) (i : Nat) : Prop := match rs with
  | none => d = .non
  | some s => ∃ k fs, d = .ref k ∧ k ≠ i ∧ h[k]? = some (.ins "Observed" fs) ∧ fs.lookup "rank" = some (.int s)
section
variable {h : OH} {i : Nat} {j : Nat} {m : Str × Int} {l : Nat} {o : Ob}
theorem ob_init {nm : Str} {r : Int} (e : h[i]? = some (.ins "Observed" [])) {PD : D → OH → Prop} (q : PD .non ((h ++ [OO.lst []]).set i (OO.ins "Observed" (obFs j (nm, r) h.length ⟨[], none, 0⟩)))) : (Sh.Observed_init [.ref i, .int j, .str nm, .int r] h).W PD := by
  have lt := (List.getElem?_eq_some_iff.mp e).1
  have hs : ∀ x : OO, (h.set i x)[i]? = some x := fun x => by simp [lt]
  have ha : ∀ (x : OO) (t : OH), (h.set i x ++ t)[i]? = some x := fun x t => by rw [List.getElem?_append_left (by simpa using lt)]; exact hs x
  have hq : ∀ (x : OO) (y : OO) (t : OH), (h.set i x ++ t).set i y = h.set i y ++ t := fun x y t => by
    rw [List.set_append_left _ _ (by simpa using lt), List.set_set]
  unfold Sh.Observed_init; rw [W_fn]; unfold Sh.Observed_init_b
  simp [isR, e, hs, ha, hq, putS]
  rw [List.set_append_left _ _ lt] at q
  exact q
theorem ob_pass {rs : Option Int} {d : D} (e : h[i]? = some (.ins "Observed" (obFs j m l o))) (sd : SpkD rs d h i) {PD : D → OH → Prop} (q : PD .non (h.set i (.ins "Observed" (obFs j m l (passO rs m.2 o))))) : (Sh.Observed_pass_tick [.ref i, d] h).W PD := by
  have lt := (List.getElem?_eq_some_iff.mp e).1
  have hs : ∀ x : OO, (h.set i x)[i]? = some x := fun x => by simp [lt]
  have si : ∀ fs, insAt (h.set i (.ins "Observed" fs)) (.ref i) = some ("Observed", fs) := fun fs => ins_set lt
  have s0 := ins_ref e
  have hset : h.set i (.ins "Observed" (obFs j m l o)) = h := by
    refine List.ext_getElem? fun k => ?_
    by_cases c : i = k
    · subst c; rw [hs]; exact e.symm
    · rw [List.getElem?_set_ne c]
  have pq : ∀ x, putS "quiet_ticks" (.int x) (obFs j m l o) = obFs j m l ⟨o.done, o.cur, x⟩ := fun x => by simp [putS, obFs]
  have po : ∀ o : Ob, putS "is_open" (.bl false) (obFs j m l o) = obFs j m l ⟨o.tk, none, o.q⟩ := fun x => by simp [putS, obFs]
  unfold Sh.Observed_pass_tick; rw [W_fn]; unfold Sh.Observed_pass_tick_b
  have wr := W_isR
  cases rs with
  | none =>
    cases sd
    simp [isR, e, hs, pq, po]
    exact q
  | some s =>
    obtain ⟨k, fs, rfl, ne, ek, er⟩ := sd
    have sk : ∀ x : OO, insAt (h.set i x) (.ref k) = some ("Observed", fs) := fun x => ins_ref (by rw [List.getElem?_set_ne (Ne.symm ne)]; exact ek)
    have sk0 := ins_ref ek
    have isq : isQ (some s) m.2 = decide (m.2 < s) := rfl
    have isc : isC (some s) m.2 = decide (m.2 ≤ s) := rfl
    by_cases c1 : m.2 < s
    · have c2 : m.2 ≤ s := by omega
      have z : passO (some s) m.2 o = ⟨(⟨o.done, o.cur, o.q + 1⟩ : Ob).tk, none, o.q + 1⟩ := by simp [passO, isq, isc, c1, c2, Ob.tk]
      rw [z] at q
      simp [isR, wr, e, hs, si, s0, sk, sk0, er, pq, po, c1, c2]
      exact q
    · by_cases c2 : m.2 ≤ s
      · have z : passO (some s) m.2 o = ⟨o.tk, none, o.q⟩ := by simp [passO, isq, isc, c1, c2]
        rw [z] at q
        simp [isR, wr, e, hs, si, s0, sk, sk0, er, pq, po, c1, c2]
        exact q
      · have z : passO (some s) m.2 o = o := by
          cases o
          simp [passO, isq, isc, c1, c2]
        rw [z, hset] at q
        simp [isR, wr, e, hs, si, s0, sk, sk0, er, pq, po, c1, c2]
        exact q
theorem ob_speak (e : h[i]? = some (.ins "Observed" (obFs j m l o))) (el : h[l]? = some (.lst (o.tk.map dT))) (hl : o.tk.length < 1000) (ne : i ≠ l) {PD : D → OH → Prop}
    (q : PD .non ((h.set l (.lst ((speakO o).tk.map dT))).set i (.ins "Observed" (obFs j m l (speakO o))))) : (Sh.Observed_speak_on [.ref i] h).W PD := by
  have lt := (List.getElem?_eq_some_iff.mp e).1
  have ltl := (List.getElem?_eq_some_iff.mp el).1
  have s0 := ins_ref e
  have hs : ∀ x y : OO, ((h.set l y).set i x)[i]? = some x := fun x y => by simp [lt]
  have hl0 : ∀ y : OO, (h.set l y)[i]? = some (.ins "Observed" (obFs j m l o)) := fun y => by rw [List.getElem?_set_ne (Ne.symm ne)]; exact e
  have si : ∀ y : OO, insAt (h.set l y) (.ref i) = some ("Observed", obFs j m l o) := fun y => ins_ref (hl0 y)
  have si2 : ∀ (y : OO) fs, insAt ((h.set l y).set i (.ins "Observed" fs)) (.ref i) = some ("Observed", fs) := fun y fs => ins_ref (hs _ y)
  have pq : putS "is_open" (.bl true) (putS "quiet_ticks" (.int 0) (obFs j m l o)) = obFs j m l (speakO o) := by
    unfold speakO
    cases o.cur <;> simp [putS, obFs]
  have pql : (putS "quiet_ticks" (.int 0) (obFs j m l o)).length = 6 := rfl
  unfold Sh.Observed_speak_on; rw [W_fn]; unfold Sh.Observed_speak_on_b
  cases ec : o.cur with
  | some p =>
    have et : o.tk = o.done ++ [p] := by simp [Ob.tk, ec]
    have et2 : (speakO o).tk = o.done ++ [(p.1, p.2 + 1)] := by simp [Ob.tk, speakO, ec]
    rw [et2] at q
    rw [et] at el
    simp only [List.map_append, List.map_cons, List.map_nil] at el q
    simp [isR, s0, ec, el, atI_last, ixN_last, gT, gCs, gN, gNl, seqAt, dT, hl0, hs, pq, pql] at q ⊢
    exact q
  | none =>
    have et : o.tk = o.done := by simp [Ob.tk, ec]
    have et2 : (speakO o).tk = o.done ++ [(o.q, 1)] := by simp [Ob.tk, speakO, ec]
    rw [et2] at q
    rw [et] at el hl
    simp only [List.map_append, List.map_cons, List.map_nil] at el q
    have hl2 : o.done.length < 1000000 := by omega
    have lk : h[l]? = some (.lst (o.done.map dT)) := el
    simp [isR, s0, ec, el, isOwn, hl2, dT, hl0, hs, pq, pql] at q ⊢
    exact q
end
end HR
set_option Elab.async false
set_option linter.all false
set_option maxRecDepth 20000
set_option exponentiation.threshold 5000
namespace HR
open PySem L2
def lpD (lp : Int → Int) : List (Key × D) := (List.range 10).map fun (r : Nat) => (Sum.inl ((r : Int) + 1), D.int (lp ((r : Int) + 1)))
theorem ten {r : Int} (h1 : 1 ≤ r) (h2 : r ≤ 10) : r = 1 ∨ r = 2 ∨ r = 3 ∨ r = 4 ∨ r = 5 ∨ r = 6 ∨ r = 7 ∨ r = 8 ∨ r = 9 ∨ r = 10 := by omega
theorem lpD_ten (lp : Int → Int) : lpD lp = [(.inl 1, .int (lp 1)), (.inl 2, .int (lp 2)), (.inl 3, .int (lp 3)), (.inl 4, .int (lp 4)), (.inl 5, .int (lp 5)), (.inl 6, .int (lp 6)), (.inl 7, .int (lp 7)), (.inl 8, .int (lp 8)), (.inl 9, .int (lp 9)), (.inl 10, .int (lp 10))] := rfl
theorem lp_get (lp : Int → Int) {r : Int} (h1 : 1 ≤ r) (h2 : r ≤ 10) : getK (lpD lp) (.inl r) = some (.int (lp r)) := by
  rw [lpD_ten]
  rcases ten h1 h2 with rfl | rfl | rfl | rfl | rfl | rfl | rfl | rfl | rfl | rfl <;> simp [getK]
theorem lp_put (lp : Int → Int) {r x : Int} (h1 : 1 ≤ r) (h2 : r ≤ 10) : putD (lpD lp) (.inl r) (.int x) = lpD fun s => if s = r then x else lp s := by
  rw [lpD_ten, lpD_ten]
  rcases ten h1 h2 with rfl | rfl | rfl | rfl | rfl | rfl | rfl | rfl | rfl | rfl <;> simp [putD]
theorem lp_len (lp : Int → Int) : (lpD lp).length = 10 := rfl
theorem lp_congr {lp lp' : Int → Int} (h : ∀ r, 1 ≤ r → r ≤ 10 → lp r = lp' r) : lpD lp = lpD lp' := by
  rw [lpD_ten, lpD_ten]
  simp [h]
def rdRefs (b n : Nat) : List D := (List.range n).map fun j => D.ref (b + 1 + 2 * j)
def rdFs (b n : Nat) (flt : D) : List (String × D) := [("observed", .lst (rdRefs b n)), ("last_position", .ref (b + 1 + 2 * n)), ("fault", flt)]
/-- the reading stands at b -/
structure RdIs (ms : List (Str × Int)) (b : Nat) (S : RdS) (flt : D) (h : OH) : Prop where
  len : h.length = b + 2 * ms.length + 2
  rd : h[b]? = some (.ins "Reading" (rdFs b ms.length flt))
  ob : ∀ j m, ms[j]? = some m → h[b + 1 + 2 * j]? = some (.ins "Observed" (obFs j m (b + 2 + 2 * j) (S.obs j))) ∧ h[b + 2 + 2 * j]? = some (.lst ((S.obs j).tk.map dT))
  lp : h[b + 1 + 2 * ms.length]? = some (.dct (lpD S.lp))
section
variable {ms : List (Str × Int)} {b : Nat} {S : RdS} {flt : D} {h : OH}
@[simp] theorem rfs_obs (b n : Nat) (flt : D) : (rdFs b n flt).lookup "observed" = some (.lst (rdRefs b n)) := rfl
@[simp] theorem rfs_lp (b n : Nat) (flt : D) : (rdFs b n flt).lookup "last_position" = some (.ref (b + 1 + 2 * n)) := rfl
@[simp] theorem rfs_flt (b n : Nat) (flt : D) : (rdFs b n flt).lookup "fault" = some flt := rfl
@[simp] theorem rfs_len (b n : Nat) (flt : D) : (rdFs b n flt).length = 3 := rfl
@[simp] theorem rfs_n1 (b n : Nat) (flt : D) : hasNo (rdFs b n flt) "kind_of_fault" = True := eq_true rfl
@[simp] theorem rfs_n2 (b n : Nat) (flt : D) : hasNo (rdFs b n flt) "read_tick" = True := eq_true rfl
theorem RdIs.congr {S' : RdS} (R : RdIs ms b S flt h) (ho : ∀ j, j < ms.length → S'.obs j = S.obs j) (hl : ∀ r, 1 ≤ r → r ≤ 10 → S'.lp r = S.lp r) : RdIs ms b S' flt h :=
  ⟨R.len, R.rd, fun j m e => by rw [ho j (List.getElem?_eq_some_iff.mp e).1]; exact R.ob j m e, by rw [lp_congr hl]; exact R.lp⟩
theorem RdIs.setLp (R : RdIs ms b S flt h) (lp : Int → Int) : RdIs ms b ⟨S.obs, lp⟩ flt (h.set (b + 1 + 2 * ms.length) (.dct (lpD lp))) := by
  refine ⟨by simpa using R.len, ?_, fun j m e => ?_, ?_⟩
  · rw [List.getElem?_set_ne (by omega)]; exact R.rd
  · have := (List.getElem?_eq_some_iff.mp e).1
    rw [List.getElem?_set_ne (by omega), List.getElem?_set_ne (by omega)]
    exact R.ob j m e
  · have := R.len
    rw [List.getElem?_set_self (by omega)]
theorem RdIs.setOb (R : RdIs ms b S flt h) {k : Nat} {m : Str × Int} (ek : ms[k]? = some m) (o : Ob) : RdIs ms b ⟨fun j => if j = k then o else S.obs j, S.lp⟩ flt ((h.set (b + 2 + 2 * k) (.lst (o.tk.map dT))).set (b + 1 + 2 * k) (.ins "Observed" (obFs k m (b + 2 + 2 * k) o))) := by
  have hk := (List.getElem?_eq_some_iff.mp ek).1
  have hl := R.len
  refine ⟨by simpa using hl, ?_, fun j m2 e => ?_, ?_⟩
  · rw [List.getElem?_set_ne (by omega), List.getElem?_set_ne (by omega)]; exact R.rd
  · by_cases c : j = k
    · subst c
      rw [ek] at e
      cases e
      simp only [if_true]
      rw [List.getElem?_set_self (by simp; omega), List.getElem?_set_ne (by omega), List.getElem?_set_self (by omega)]
      exact ⟨rfl, rfl⟩
    · simp only [if_neg c]
      rw [List.getElem?_set_ne (by omega), List.getElem?_set_ne (by omega), List.getElem?_set_ne (by omega), List.getElem?_set_ne (by omega)]
      exact R.ob j m2 e
  · rw [List.getElem?_set_ne (by omega), List.getElem?_set_ne (by omega)]; exact R.lp
theorem RdIs.setOb0 (R : RdIs ms b S flt h) {k : Nat} {m : Str × Int} (ek : ms[k]? = some m) (o : Ob) (et : o.tk = (S.obs k).tk) : RdIs ms b ⟨fun j => if j = k then o else S.obs j, S.lp⟩ flt (h.set (b + 1 + 2 * k) (.ins "Observed" (obFs k m (b + 2 + 2 * k) o))) := by
  have e : h.set (b + 2 + 2 * k) (.lst (o.tk.map dT)) = h := by
    have := (R.ob k m ek).2
    rw [et]
    refine List.ext_getElem? fun i => ?_
    by_cases c : b + 2 + 2 * k = i
    · subst c
      rw [List.getElem?_set_self (List.getElem?_eq_some_iff.mp this).1]
      exact this.symm
    · rw [List.getElem?_set_ne c]
  have := R.setOb ek o
  rw [e] at this
  exact this
def gMb : Str × Int := (gTk.name, gTk.rank)
def rkM (ms : List (Str × Int)) (j : Nat) : Int := (ms.getD j gMb).2
structure WfM (ms : List (Str × Int)) : Prop where
  len : ms.length ≤ 10
  rk : ∀ m ∈ ms, 1 ≤ m.2 ∧ m.2 ≤ 10
  nm : ∀ m ∈ ms, WfN m.1
  nd : (ms.map (·.1)).Nodup
theorem rkM_at {j : Nat} {m : Str × Int} (e : ms[j]? = some m) : rkM ms j = m.2 := by simp [rkM, e]
def dKd : Option Bool → D
  | none => .non
  | some true => .str "silence"
  | some false => .str "order"
/-- who speaks, as a value -/
def spkD (b : Nat) : Option Nat → D
  | none => .non
  | some k => .ref (b + 1 + 2 * k)
theorem kind_ok (R : RdIs ms b S flt h) (w : WfM ms) {k : Nat} (hk : k < ms.length) {PD : D → OH → Prop} (q : PD (dKd (kindF (rkM ms) k S)) h) : (Sh.Reading_kind_of_fault [.ref b, .ref (b + 1 + 2 * k)] h).W PD := by
  obtain ⟨m, em⟩ : ∃ m, ms[k]? = some m := ⟨_, List.getElem?_eq_getElem hk⟩
  have rr := w.rk m (List.mem_of_getElem? em)
  have er := rkM_at em
  have i1 := ins_ref R.rd
  have i2 := ins_ref (R.ob k m em).1
  have dc := dctAt_ref R.lp
  have g := lp_get S.lp rr.1 rr.2
  unfold Sh.Reading_kind_of_fault; rw [W_fn]; unfold Sh.Reading_kind_of_fault_b
  unfold kindF at q
  rw [er] at q
  cases ec : (S.obs k).cur with
  | some p =>
    rw [ec] at q
    simp [i2, ec]
    exact q
  | none =>
    rw [ec] at q
    by_cases c : (S.obs k).q = 0
    · simp only [Option.isSome_none, Bool.false_eq_true, if_false, if_pos c] at q
      simp [i2, ec, c]
      exact q
    · simp only [Option.isSome_none, Bool.false_eq_true, if_false, if_neg c] at q
      simp [i1, i2, ec, c, W_ixD dc (keyD_int _) g]
      by_cases c2 : S.lp m.2 > k
      · rw [if_pos c2] at q
        rw [if_pos (show (k : Int) < S.lp m.2 from c2)]
        exact q
      · rw [if_neg c2] at q
        rw [if_neg (show ¬ (k : Int) < S.lp m.2 from c2)]
        exact q
end
end HR
set_option Elab.async false
set_option linter.all false
set_option maxRecDepth 20000
set_option exponentiation.threshold 5000
namespace HR
open PySem L2
section
variable {ms : List (Str × Int)} {b : Nat} {S : RdS} {flt : D} {h : OH}
theorem rdRefs_at {b n j : Nat} {d : D} (e : (rdRefs b n)[j]? = some d) : j < n ∧ d = .ref (b + 1 + 2 * j) := by
  unfold rdRefs at e
  rw [List.getElem?_map, Option.map_eq_some_iff] at e
  obtain ⟨k, hk, rfl⟩ := e
  obtain ⟨h1, h2⟩ := List.getElem?_eq_some_iff.mp hk
  rw [List.getElem_range] at h2
  subst h2
  exact ⟨by simpa using h1, rfl⟩
/-- the positions, behind what a tick forgets -/
def rsF (ms : List (Str × Int)) (S : RdS) (x : Option Nat) (r : Int) : Int := match x with
  | none => -1
  | some k => if rkM ms k > r then -1 else S.lp r
theorem tick_ok (R : RdIs ms b S flt h) (w : WfM ms) {x : Option Nat} (hx : ∀ k, x = some k → k < ms.length) (hl : ∀ j, (S.obs j).tk.length < 1000) {PD : D → OH → Prop} (q : ∀ h', RdIs ms b (stepRd (rkM ms) x S) flt h' → PD .non h') : (Sh.Reading_read_tick [.ref b, spkD b x] h).W PD := by
  have hn := w.len
  unfold Sh.Reading_read_tick; rw [W_fn]; unfold Sh.Reading_read_tick_b
  have i1 := ins_ref R.rd
  -- the members
  refine SW_seqK fun K hK => ?_
  simp [i1]
  refine W_forL (fun i e h' => RdIs ms b ⟨fun j => if j < i then (stepRd (rkM ms) x S).obs j else S.obs j, S.lp⟩ flt h' ∧ ∃ a c : Option D, e = [some (.ref b), some (spkD b x), a, c]) _ _ _ ⟨R.congr (fun j _ => by simp) (fun _ _ _ => rfl), _, _, rfl⟩ (fun i d hd e h' hI => ?_) (fun e h' hI => ?_)
  · obtain ⟨R1, a, c, rfl⟩ := hI
    obtain ⟨hi, rfl⟩ := rdRefs_at hd
    obtain ⟨m, em⟩ : ∃ m, ms[i]? = some m := ⟨_, List.getElem?_eq_getElem hi⟩
    have er := rkM_at em
    have oi := R1.ob i m em
    simp only [Nat.lt_irrefl, if_false] at oi
    have ii := ins_ref oi.1
    have next : ∀ {o : Ob} {h2 : OH}, (stepRd (rkM ms) x S).obs i = o → RdIs ms b ⟨fun j => if j = i then o else if j < i then (stepRd (rkM ms) x S).obs j else S.obs j, S.lp⟩ flt h2 → RdIs ms b ⟨fun j => if j < i + 1 then (stepRd (rkM ms) x S).obs j else S.obs j, S.lp⟩ flt h2 := fun {o h2} eo R2 => by
      refine R2.congr (fun j hj => ?_) fun _ _ _ => rfl
      dsimp only
      by_cases c1 : j = i
      · rw [if_pos (by omega), if_pos c1, c1, eo]
      · by_cases c2 : j < i
        · rw [if_pos (by omega), if_neg c1, if_pos c2]
        · rw [if_neg (by omega), if_neg c1, if_neg c2]
    refine ⟨_, rfl, ?_⟩
    cases x with
    | none =>
      have we := fun (PD : D → OH → Prop) => W_eqI_non (PD := PD) (es := ["Observed"]) oi.1 (by decide)
      simp [spkD, we, ii]
      refine ob_pass (rs := none) oi.1 rfl ?_
      have e1 : (stepRd (rkM ms) none S).obs i = passO none m.2 (S.obs i) := by simp [stepRd, er]
      exact next e1 (R1.setOb0 em _ (by simp only [Nat.lt_irrefl, if_false]; exact tk_pass _ _ _))
    | some k =>
      have hk := hx k rfl
      obtain ⟨mk, emk⟩ : ∃ m, ms[k]? = some m := ⟨_, List.getElem?_eq_getElem hk⟩
      have erk := rkM_at emk
      have ok := R1.ob k mk emk
      have we := fun (PD : D → OH → Prop) => W_eqI_ref (PD := PD) (es := ["Observed"]) oi.1 (by decide) ok.1
      simp [spkD, we]
      by_cases c : i = k
      · subst c
        simp [ii]
        refine ob_speak oi.1 oi.2 (hl i) (by omega) ?_
        have e1 : (stepRd (rkM ms) (some i) S).obs i = speakO (S.obs i) := by simp [stepRd]
        exact next e1 (R1.setOb em _)
      · have ne : ¬ b + 1 + 2 * i = b + 1 + 2 * k := by omega
        have ne2 : ¬ 2 * i = 2 * k := by omega
        simp [ne2, c, ii]
        refine ob_pass (rs := some (rkM ms k)) oi.1 ⟨_, _, rfl, by omega, ok.1, by rw [erk]; rfl⟩ ?_
        have e1 : (stepRd (rkM ms) (some k) S).obs i = passO (some (rkM ms k)) m.2 (S.obs i) := by simp [stepRd, er, c]
        exact next e1 (R1.setOb0 em _ (by simp only [Nat.lt_irrefl, if_false]; exact tk_pass _ _ _))
  obtain ⟨R1, a, c, rfl⟩ := hI
  have R1 : RdIs ms b ⟨(stepRd (rkM ms) x S).obs, S.lp⟩ flt h' := R1.congr (fun j hj => by
    have : j < (rdRefs b ms.length).length := by simpa [rdRefs] using hj
    dsimp only
    rw [if_pos this]) fun _ _ _ => rfl
  refine hK _ _ ?_
  clear hK K hl R i1
  -- the ranks
  obtain ⟨rs, hrs⟩ : ∃ rs, rs = rsF ms S x := ⟨_, rfl⟩
  refine SW_seqK fun K hK => ?_
  have r1 : rngOk 1 = true := by decide
  have r2 : rngOk 11 = true := by decide
  simp [r1, r2]
  refine W_forL (fun i e h' => RdIs ms b ⟨(stepRd (rkM ms) x S).obs, fun r => if r ≤ i then rs r else S.lp r⟩ flt h' ∧ ∃ a c : Option D, e = [some (.ref b), some (spkD b x), a, c]) _ _ _ ⟨R1.congr (fun _ _ => rfl) (fun r h1 _ => by dsimp only; rw [if_neg (by omega)]), _, _, rfl⟩ (fun i d hd e h2 hI => ?_) (fun e h2 hI => ?_)
  · obtain ⟨R2, a2, c2, rfl⟩ := hI
    obtain ⟨hi, rfl⟩ := rngD_at hd
    refine ⟨_, rfl, ?_⟩
    have i2 := ins_ref R2.rd
    have ek : keyD (.int (1 + (i : Int))) = some (.inl (1 + (i : Int))) := rfl
    have lb : (10 : Nat) < big := by decide
    have lset : ∀ r : Int, (r ≤ ((i : Int) + 1) ∧ ¬ r ≤ (i : Int)) ↔ r = 1 + (i : Int) := fun r => by omega
    have fin : ∀ v : Int, v = rs (1 + (i : Int)) → RdIs ms b ⟨(stepRd (rkM ms) x S).obs, fun r => if r ≤ ((i + 1 : Nat) : Int) then rs r else S.lp r⟩ flt (h2.set (b + 1 + 2 * ms.length) (.dct (putD (lpD fun r => if r ≤ (i : Int) then rs r else S.lp r) (.inl (1 + (i : Int))) (.int v)))) := fun v hv => by
      rw [lp_put _ (by omega) (by omega)]
      refine (R2.setLp _).congr (fun _ _ => rfl) fun r h1 h2 => ?_
      dsimp only
      by_cases c1 : r = 1 + (i : Int)
      · rw [if_pos (by omega), if_pos c1, hv, c1]
      · by_cases c3 : r ≤ (i : Int)
        · rw [if_pos (by omega), if_neg c1, if_pos c3]
        · rw [if_neg (by omega), if_neg c1, if_neg c3]
    have stay : rs (1 + (i : Int)) = S.lp (1 + (i : Int)) → RdIs ms b ⟨(stepRd (rkM ms) x S).obs, fun r => if r ≤ ((i + 1 : Nat) : Int) then rs r else S.lp r⟩ flt h2 := fun he => by
      refine R2.congr (fun _ _ => rfl) fun r h1 h2 => ?_
      dsimp only
      by_cases c1 : r = 1 + (i : Int)
      · rw [if_pos (by omega), if_neg (by omega), c1, he]
      · by_cases c3 : r ≤ (i : Int)
        · rw [if_pos (by omega), if_pos c3]
        · rw [if_neg (by omega), if_neg c3]
    cases x with
    | none =>
      simp [spkD, i2, ek, R2.lp, lp_len, lb]
      exact fin (-1) (by rw [hrs]; rfl)
    | some k =>
      have hk := hx k rfl
      obtain ⟨mk, emk⟩ : ∃ m, ms[k]? = some m := ⟨_, List.getElem?_eq_getElem hk⟩
      have erk := rkM_at emk
      have ik := ins_ref (R2.ob k mk emk).1
      by_cases c : 1 + (i : Int) < mk.2
      · simp [spkD, W_isR, ik, c, i2, ek, R2.lp, lp_len, lb]
        refine fin (-1) ?_
        rw [hrs]
        show _ = if rkM ms k > 1 + (i : Int) then -1 else S.lp (1 + (i : Int))
        rw [erk, if_pos c]
      · simp [spkD, W_isR, ik, c, i2]
        refine stay ?_
        rw [hrs]
        show (if rkM ms k > 1 + (i : Int) then -1 else S.lp (1 + (i : Int))) = _
        rw [erk, if_neg c]
  obtain ⟨R2, a2, c2, rfl⟩ := hI
  refine hK _ _ ?_
  clear hK K R1
  have i2 := ins_ref R2.rd
  cases x with
  | none =>
    simp [spkD]
    refine q _ (R2.congr (fun _ _ => rfl) fun r h1 h3 => ?_)
    simp [stepRd, hrs, rsF]
    omega
  | some k =>
    have hk := hx k rfl
    obtain ⟨mk, emk⟩ : ∃ m, ms[k]? = some m := ⟨_, List.getElem?_eq_getElem hk⟩
    have erk := rkM_at emk
    have rr := w.rk mk (List.mem_of_getElem? emk)
    have ik := ins_ref (R2.ob k mk emk).1
    have dc := dctAt_ref R2.lp
    have l10 : mk.2 ≤ ((rngD 1 10).length : Int) := by simp; omega
    have g := lp_get (fun r => if r ≤ ((rngD 1 10).length : Int) then rs r else S.lp r) rr.1 rr.2
    have ev : rs mk.2 = S.lp mk.2 := by
      rw [hrs]
      show (if rkM ms k > mk.2 then -1 else S.lp mk.2) = _
      rw [erk, if_neg (by omega)]
    rw [if_pos l10, ev] at g
    have lb : (10 : Nat) < big := by decide
    simp only [spkD]
    simp [W_isR, ik, i2, W_ixD dc (keyD_int _) g, R2.lp, lp_len, lb]
    rw [lp_put _ rr.1 rr.2]
    refine q _ ((R2.setLp _).congr (fun _ _ => rfl) fun r h1 h3 => ?_)
    have l10r : r ≤ 10 := h3
    simp only [stepRd, erk]
    by_cases c1 : r = mk.2
    · subst c1
      rw [if_neg (by omega)]
      simp only [if_true]
    · rw [if_neg c1, if_neg c1]
      simp only [l10r, if_true, hrs, rsF, erk]
end
end HR
set_option Elab.async false
set_option linter.all false
set_option maxRecDepth 20000
set_option exponentiation.threshold 5000
namespace HR
open PySem L2
def dMb (m : Str × Int) : D := .tup [.str m.1, .int m.2]
@[simp] theorem pure_dMb (m : Str × Int) : (dMb m).pure = true := by simp [dMb]
@[simp] theorem pureL_dMb (ms : List (Str × Int)) : D.pureL (ms.map dMb) = true := pureL_map _ pure_dMb ms
@[simp] theorem pureL_dN (xs : List (Option Str)) : D.pureL (xs.map dN) = true := pureL_map _ (fun x => by cases x <;> rfl) xs
def nmM (ms : List (Str × Int)) (x : Option Nat) : Option Str := x.map fun k => (ms.getD k gMb).1
def endRd (rk : Nat → Int) : List (Option Nat) → Nat → RdS → Option (Nat × Bool) × RdS
  | [], _, S => (none, S)
  | x :: xs, t, S => match x.bind fun k => kindF rk k S with
    | some kd => (some (t, kd), S)
    | none => endRd rk xs (t + 1) (stepRd rk x S)
def dFlt : Option (Nat × Bool) → D
  | none => .non
  | some p => .tup [.int p.1, dKd (some p.2)]
theorem tk_len_step (rk : Nat → Int) (x : Option Nat) (S : RdS) (j : Nat) : ((stepRd rk x S).obs j).tk.length ≤ (S.obs j).tk.length + 1 := by
  cases x with
  | none => simp only [stepRd, tk_pass]; omega
  | some k =>
    by_cases e : j = k
    · simp only [stepRd, if_pos e, speakO, Ob.tk]
      cases (S.obs j).cur <;> simp
    · simp only [stepRd, if_neg e, tk_pass]; omega
section
variable {ms : List (Str × Int)} {b : Nat} {h : OH}
theorem mb_at {k : Nat} (hk : k < ms.length) : ms[k]? = some (ms.getD k gMb) := by simp [hk]
theorem find_nm (w : WfM ms) {k : Nat} (hk : k < ms.length) : (List.range ms.length).filter (fun j => (ms.getD j gMb).1 == (ms.getD k gMb).1) = [k] := by
  have e : (List.range ms.length).filter (fun j => (ms.getD j gMb).1 == (ms.getD k gMb).1) = (List.range ms.length).filter (fun j => j == k) := by
    refine List.filter_congr fun j hj => ?_
    have hj := List.mem_range.mp hj
    rw [Bool.eq_iff_iff]
    simp only [beq_iff_eq]
    refine ⟨fun z => ?_, fun z => by rw [z]⟩
    have a : (ms.map (·.1))[j]? = some (ms.getD j gMb).1 := by simp [hj]
    have c : (ms.map (·.1))[k]? = some (ms.getD k gMb).1 := by simp [hk]
    exact (List.getElem?_inj (by simpa using hj) w.nd).mp (by rw [a, c, z])
  rw [e]
  have key : ∀ n, k < n → (List.range n).filter (fun j => j == k) = [k] := by
    intro n
    induction n with
    | zero => intro h; omega
    | succ n ih =>
      intro h
      rw [List.range_succ, List.filter_append]
      by_cases c : k < n
      · rw [ih c]
        have : n ≠ k := by omega
        simp [this]
      · have : n = k := by omega
        subst this
        have z : (List.range n).filter (fun j => j == n) = [] := List.filter_eq_nil_iff.mpr fun j hj => by
          have := List.mem_range.mp hj
          simp
          omega
        rw [z]
        simp
  exact key _ hk
theorem enumAt {xs : List D} {i : Nat} {d : D} (e : (enumD xs)[i]? = some d) : ∃ y, xs[i]? = some y ∧ d = .tup [.int i, y] := by
  unfold enumD at e
  first
    | (rw [List.getElem?_mapIdx, Option.map_eq_some_iff] at e; obtain ⟨y, h1, h2⟩ := e; exact ⟨y, h1, h2.symm⟩)
    | (simp at e; obtain ⟨y, h1, h2⟩ := e; exact ⟨y, h1, h2.symm⟩)
end
end HR
set_option Elab.async false
set_option linter.all false
set_option maxRecDepth 20000
set_option exponentiation.threshold 5000
namespace HR
open PySem L2
theorem okNm {x : Str} (w : WfN x) : PyData.strOk x = true := by
  have e : ∀ c ∈ ("abcdefghijklmnopqrstuvwxyz" : Str).cps.toList, c < 0x110000 := by decide +kernel
  simp only [PyData.strOk, Array.all_eq_true_iff_forall_mem, decide_eq_true_eq]
  exact fun c hc => e c (w.2.2 c (Array.mem_toList_iff.mpr hc))
/-! records in == and in -/
theorem W_inN (o : Option Str) (xs : List Str) (h : OH) {PD : D → OH → Prop} : (opInL false (dN o) (.lst (xs.map D.str)) h).W PD = PD (.bl (match o with | none => false | some x => decide (x ∈ xs))) h := by
  have fl : flatsD (xs.map D.str) = some (xs.map V.str) := by
    induction xs with
    | nil => rfl
    | cons y ys ih => simp [flatsD, flatD, ih]
  have f : (xs.map V.str).all flatV = true := by simp [flatV]
  cases o with
  | none =>
    have e : inV .non (xs.map V.str) = false := by
      clear fl f
      induction xs with
      | nil => rfl
      | cons y ys ih => simpa [inV, eqV] using ih
    simp [dN, opInL, flatD, seqAt, fl, e, f, flatV]
  | some x =>
    have e : inV (.str x) (xs.map V.str) = decide (x ∈ xs) := by
      rw [Bool.eq_iff_iff]
      simp [inV, eqV]
    simp [dN, opInL, flatD, seqAt, fl, e, f, flatV]
end HR
set_option Elab.async false
set_option linter.all false
set_option maxRecDepth 20000
set_option exponentiation.threshold 5000
namespace HR
open PySem L2
section
variable {ms : List (Str × Int)} {b : Nat} {h : OH}
/-- the members' objects, the first j of them -/
structure MkIs (ms : List (Str × Int)) (b j : Nat) (h : OH) : Prop where
  len : h.length = b + 1 + 2 * j
  rd : h[b]? = some (.ins "Reading" [])
  ob : ∀ i m, i < j → ms[i]? = some m → h[b + 1 + 2 * i]? = some (.ins "Observed" (obFs i m (b + 2 + 2 * i) ⟨[], none, 0⟩)) ∧ h[b + 2 + 2 * i]? = some (.lst [])
theorem mk_step {j : Nat} {m : Str × Int} (M : MkIs ms b j h) (em : ms[j]? = some m) : MkIs ms b (j + 1) (((h ++ [OO.ins "Observed" []]) ++ [OO.lst []]).set h.length (OO.ins "Observed" (obFs j m (h.length + 1) ⟨[], none, 0⟩))) := by
  have hl := M.len
  refine ⟨by simp [hl]; omega, ?_, fun i m2 hi e => ?_⟩
  · rw [List.getElem?_set_ne (by omega), List.append_assoc, List.getElem?_append_left (by omega)]
    exact M.rd
  · by_cases c : i = j
    · subst c
      rw [em] at e
      cases e
      have e1 : b + 1 + 2 * i = h.length := by omega
      have e2 : b + 2 + 2 * i = h.length + 1 := by omega
      rw [e1, e2, List.getElem?_set_self (by simp), List.getElem?_set_ne (by omega)]
      refine ⟨rfl, ?_⟩
      rw [List.getElem?_append_right (by simp)]
      simp
    · have hi : i < j := by omega
      rw [List.getElem?_set_ne (by omega), List.getElem?_set_ne (by omega), List.append_assoc, List.getElem?_append_left (by omega), List.getElem?_append_left (by omega)]
      exact M.ob i m2 hi e
theorem W_dcRank (a0 a1 a2 a3 a4 a5 a6 a7 a8 a9 : Option D) (h : OH) : dcGo (gN 5) sYes (sVar 5) (sUn opNeg (sC (.int 1))) (wipeD [a0, a1, a2, a3, a4, a5, a6, a7, a8, a9] [5]) (rngD 1 10) h [] = .ok (lpD fun _ => -1) h := by rfl
/-- a member, as a list or a tuple -/
def mbV (t : Bool) (m : Str × Int) : D := if t then .tup [.str m.1, .int m.2] else .lst [.str m.1, .int m.2]
theorem rd_init0 (w : WfM ms) {xs : List (Option Nat)} {ys ds : List D} {MV RV : D} (hmv : enumAtX MV = some (enumD ds)) (hrv : enumAtX RV = some (enumD ys)) (hd1 : ds.length = ms.length) (hd2 : ∀ (j : Nat) (m : Str × Int), ms[j]? = some m → ∃ t, ds[j]? = some (mbV t m)) (hy1 : ys.length = xs.length) (hy2 : ∀ (t : Nat) (x : Option Nat), xs[t]? = some x → ys[t]? = some (dN (nmM ms x))) (hx : ∀ x ∈ xs, ∀ k, x = some k → k < ms.length) (hl : xs.length ≤ 400) (hb : h.length = b + 1) (h0 : h[b]? = some (.ins "Reading" [])) {PD : D → OH → Prop}
    (q : ∀ h', RdIs ms b (endRd (rkM ms) xs 0 S0).2 (dFlt (endRd (rkM ms) xs 0 S0).1) h' → PD .non h') : (Sh.Reading_init [.ref b, MV, RV] h).W PD := by
  have hn := w.len
  unfold Sh.Reading_init; rw [W_fn]; unfold Sh.Reading_init_b
  -- the members
  refine SW_seqK fun K hK => ?_
  simp [hmv]
  refine W_lcGo (fun j acc h' => MkIs ms b j h' ∧ acc = rdRefs b j) _ _ _ ⟨⟨by omega, h0, fun i m hi => by omega⟩, rfl⟩ (fun j d hd acc h' hI => ?_) (fun acc h' hI => ?_)
  · obtain ⟨M, rfl⟩ := hI
    obtain ⟨y, hy, rfl⟩ := enumAt hd
    have hj : j < ms.length := by
      have := (List.getElem?_eq_some_iff.mp hy).1
      omega
    have em := mb_at hj
    obtain ⟨m, hm⟩ : ∃ m, ms.getD j gMb = m := ⟨_, rfl⟩
    rw [hm] at em
    obtain ⟨t, et⟩ := hd2 j m em
    have hy := hy.symm.trans et
    cases hy
    refine ⟨_, by simp [gT, gCs, gN, gNl, seqAt, wipeD]; rfl, ?_⟩
    have m0 : ∀ (PD : D → OH → Prop) (h : OH), (opIx (mbV t m) (.int 0) h).W PD = PD (.str m.1) h := fun PD h => by cases t <;> simp [mbV]
    have m1 : ∀ (PD : D → OH → Prop) (h : OH), (opIx (mbV t m) (.int 1) h).W PD = PD (.int m.2) h := fun PD h => by cases t <;> simp [mbV]
    simp [m0, m1]
    refine ob_init (by simp) ?_
    refine ⟨by simp [rdRefs]; omega, ?_, ?_⟩
    · have := mk_step M em
      simpa using this
    · have := M.len
      simp [rdRefs, List.range_succ]
      omega
  obtain ⟨M, rfl⟩ := hI
  have M : MkIs ms b ms.length h' := by simpa [enumD, hd1] using M
  have le : (enumD ds).length = ms.length := by simp [enumD, hd1]
  have Ml := M.len
  rw [le]
  simp [isR, M.rd]
  refine hK _ _ ?_
  clear hK K h0 hb
  -- the positions
  refine SW_seqK fun K hK => ?_
  have r1 : rngOk 1 = true := by decide
  have r2 : rngOk 11 = true := by decide
  simp [r1, r2]
  rw [W_dcRank]
  simp only [W_ok]
  have g1 : ∀ (x : OO) (t : OH), (h'.set b x ++ t)[b]? = some x := fun x t => by
    rw [List.getElem?_append_left (by simp; omega), List.getElem?_set_self (by omega)]
  simp [isR, g1]
  refine hK _ _ ?_
  clear hK K
  refine SW_seqK fun K hK => ?_
  have g2 : ∀ (x y : OO) (t : OH), ((h'.set b x ++ t).set b y)[b]? = some y := fun x y t => by
    rw [List.getElem?_set_self (by simp; omega)]
  simp [isR, g2]
  refine hK _ _ ?_
  clear hK K
  have R : RdIs ms b S0 .non ((((h'.set b (OO.ins "Reading" [("observed", .lst (rdRefs b ms.length))])) ++ [OO.dct (lpD fun _ => -1)]).set b (OO.ins "Reading" [("observed", .lst (rdRefs b ms.length)), ("last_position", .ref h'.length)])).set b (OO.ins "Reading" [("observed", .lst (rdRefs b ms.length)), ("last_position", .ref h'.length), ("fault", .non)])) := by
    have el : b + 1 + 2 * ms.length = h'.length := by omega
    refine ⟨by simp; omega, ?_, fun j m e => ?_, ?_⟩
    · rw [List.getElem?_set_self (by simp; omega)]
      simp [rdFs, el]
    · have hj := (List.getElem?_eq_some_iff.mp e).1
      have := M.ob j m hj e
      rw [List.getElem?_set_ne (by omega), List.getElem?_set_ne (by omega), List.getElem?_append_left (by simp; omega), List.getElem?_set_ne (by omega), List.getElem?_set_ne (by omega), List.getElem?_set_ne (by omega), List.getElem?_append_left (by simp; omega), List.getElem?_set_ne (by omega)]
      exact this
    · rw [List.getElem?_set_ne (by omega), List.getElem?_set_ne (by omega), List.getElem?_append_right (by simp; omega)]
      simp [el]
      rfl
  simp only [List.set_set] at R ⊢
  revert R
  generalize (List.set (h'.set b (OO.ins "Reading" [("observed", .lst (rdRefs b ms.length))]) ++ [OO.dct (lpD fun _ => -1)]) b (OO.ins "Reading" [("observed", .lst (rdRefs b ms.length)), ("last_position", .ref h'.length), ("fault", .non)])) = h1
  intro R
  clear M Ml g1 g2 r1 r2 le
  -- the record
  simp [hrv]
  refine W_forL (fun t e h2 => ∃ S, RdIs ms b S .non h2 ∧ (∀ j, (S.obs j).tk.length ≤ t) ∧ endRd (rkM ms) xs 0 S0 = endRd (rkM ms) (xs.drop t) t S ∧ ∃ a1 a2 a3 a4 a5 a6 a7 : Option D, e = [some (.ref b), some MV, some RV, a1, a2, a3, a4, a5, a6, a7]) _ _ _ ⟨S0, R, fun j => by simp [S0, Ob.tk], by simp, none, none, none, none, none, none, none, rfl⟩ (fun t d hd e h2 hI => ?_) (fun e h2 hI => ?_)
  · obtain ⟨S, R1, ht, ee, a1, a2, a3, a4, a5, a6, a7, rfl⟩ := hI
    obtain ⟨y, hy, rfl⟩ := enumAt hd
    have htl0 := (List.getElem?_eq_some_iff.mp hy).1
    obtain ⟨x, ex⟩ : ∃ x, xs[t]? = some x := ⟨_, List.getElem?_eq_getElem (by omega)⟩
    have hy := hy.symm.trans (hy2 t x ex)
    cases hy
    have htl := (List.getElem?_eq_some_iff.mp ex).1
    have dr : xs.drop t = x :: xs.drop (t + 1) := by
      rw [List.drop_eq_getElem_cons htl]
      congr 1
      rw [List.getElem?_eq_getElem htl] at ex
      exact Option.some.inj ex
    have hxx := hx x (List.mem_of_getElem? ex)
    rw [dr] at ee
    have i1 := ins_ref R1.rd
    refine ⟨_, by simp [gT, gCs, gN, gNl, seqAt]; rfl, ?_⟩
    -- who speaks
    refine SW_seqK fun K hK => ?_
    suffices hk : K [some (.ref b), some MV, some RV, a1, a2, a3, some (.int t), some (dN (nmM ms x)), some (spkD b x), a7] h2 by
      cases x with
      | none =>
        simp [nmM, dN]
        exact hk
      | some k =>
        have hk1 := hxx k rfl
        simp [-List.getD_eq_getElem?_getD, nmM, dN, W_isStr, i1, wipeD]
        refine W_lcMap (List.range ms.length) (fun j => D.ref (b + 1 + 2 * j)) (fun j => (ms.getD j gMb).1 == (ms.getD k gMb).1) (fun j => D.ref (b + 1 + 2 * j)) _ (by simp only [big, List.length_range]; omega) (fun j hj => ⟨_, rfl, ?_⟩) ?_
        · have hj := List.mem_range.mp hj
          have ij := ins_ref (R1.ob j _ (mb_at hj)).1
          have s1 := okNm (w.nm _ (List.mem_of_getElem? (mb_at hj)))
          have s2 := okNm (w.nm _ (List.mem_of_getElem? (mb_at hk1)))
          simp [-List.getD_eq_getElem?_getD, ij, W_eqS _ _ _ _ s1 s2]
        · rw [find_nm w hk1]
          simp [-List.getD_eq_getElem?_getD]
          exact hk
    refine hK _ _ ?_
    clear hK K
    refine SW_seqK fun K hK => ?_
    suffices hk : K [some (.ref b), some MV, some RV, a1, a2, a3, some (.int t), some (dN (nmM ms x)), some (spkD b x), some (dKd (x.bind fun k => kindF (rkM ms) k S))] h2 by
      cases x with
      | none =>
        simp [spkD]
        exact hk
      | some k =>
        have hk1 := hxx k rfl
        simp [spkD, W_isR, i1]
        refine kind_ok R1 w hk1 ?_
        exact hk
    refine hK _ _ ?_
    clear hK K
    refine SW_seqK fun K hK => ?_
    cases ek : x.bind fun k => kindF (rkM ms) k S with
    | some kd =>
      have e2 : endRd (rkM ms) xs 0 S0 = (some (t, kd), S) := by
        rw [ee]
        simp only [endRd, ek]
      rw [e2] at q
      have nk : ∀ PD : D → OH → Prop, (opIs true (dKd (some kd)) .non h2).W PD = PD (.bl true) h2 := fun PD => by cases kd <;> simp [dKd]
      have pf : putS "fault" (.tup [.int t, dKd (some kd)]) (rdFs b ms.length .non) = rdFs b ms.length (.tup [.int t, dKd (some kd)]) := by simp [putS, rdFs]
      simp [nk, isR, R1.rd, pf]
      refine q _ ⟨by simpa using R1.len, ?_, fun j m e => ?_, ?_⟩
      · have := R1.len
        rw [List.getElem?_set_self (by omega)]
        rfl
      · rw [List.getElem?_set_ne (by omega), List.getElem?_set_ne (by omega)]
        exact R1.ob j m e
      · rw [List.getElem?_set_ne (by omega)]
        exact R1.lp
    | none =>
      simp [dKd]
      refine hK _ _ ?_
      clear hK K
      simp [i1]
      refine tick_ok R1 w hxx (fun j => by have := ht j; omega) fun h3 R2 => ?_
      refine ⟨_, R2, fun j => ?_, ?_⟩
      · have := tk_len_step (rkM ms) x S j
        have := ht j
        omega
      · rw [ee]
        simp only [endRd, ek]
  · obtain ⟨S, R1, ht, ee, a1, a2, a3, a4, a5, a6, a7, rfl⟩ := hI
    rw [List.drop_eq_nil_of_le (by simp [enumD, hy1])] at ee
    rw [ee] at q
    exact q _ R1
theorem rd_init (w : WfM ms) {xs : List (Option Nat)} (hx : ∀ x ∈ xs, ∀ k, x = some k → k < ms.length) (hl : xs.length ≤ 400) (hb : h.length = b + 1) (h0 : h[b]? = some (.ins "Reading" [])) {PD : D → OH → Prop}
    (q : ∀ h', RdIs ms b (endRd (rkM ms) xs 0 S0).2 (dFlt (endRd (rkM ms) xs 0 S0).1) h' → PD .non h') : (Sh.Reading_init [.ref b, .lst (ms.map dMb), .lst ((xs.map (nmM ms)).map dN)] h).W PD :=
  rd_init0 w rfl rfl (by simp) (fun j m e => ⟨true, by simp [e, mbV, dMb]⟩) (by simp) (fun t x e => by simp [e]) hx hl hb h0 q
end
end HR
set_option Elab.async false
set_option linter.all false
set_option maxRecDepth 20000
set_option exponentiation.threshold 5000
namespace HR
open PySem L2
theorem pure_excP {g : FN} {ds : List D} {C : String} {q : String × D} {h' : OH} (h : OH) (hp : D.pureL ds = true) (hq : q.2.pure = true) (e : g ds [] = .exc C (some q) h') : pureF g ds h = .exc C (some q) h := by
  unfold pureF
  rw [if_pos hp, e]
  simp [hq]
section
variable {ms : List (Str × Int)}
theorem isMember (m : Str × Int) (hn : WfN m.1) (h1 : 1 ≤ m.2) (h2 : m.2 ≤ 10) (h : OH) : pureF Sh.is_member [dMb m] h = .ok (.bl true) h := by
  refine pure_eq h (by simp) rfl ?_
  unfold Sh.is_member; rw [W_fn]; unfold Sh.is_member_b
  simp [dMb, isname m.1 _ hn, h1, h2]
theorem checkMembers (w : WfM ms) (h : OH) : pureF Sh.check_members [.lst (ms.map dMb)] h = .ok .non h := by
  refine pure_eq h (by simp) rfl ?_
  have hl := w.len
  have l10 : ¬ (10 : Int) < ms.length := by omega
  unfold Sh.check_members; rw [W_fn]; unfold Sh.check_members_b
  simp [wipeD, l10]
  refine W_lcMap1 ms dMb (fun _ => .bl true) [] (by simp [big]; omega) (fun x hx => ⟨_, rfl, ?_⟩) ?_
  · simp [isMember x (w.nm x hx) (w.rk x hx).1 (w.rk x hx).2]
  · rw [bs_mapF]; simp [sLenSet, wipeD]
    refine W_lcMap1 ms dMb (fun m => .str m.1) [] (by simp [big]; omega) (fun x hx => ⟨_, rfl, ?_⟩) ?_
    · simp [dMb]
    · have e : ms.map (fun m => D.str m.1) = (ms.map (·.1)).map D.str := by simp
      rw [e]
      simp only [lsqAt, seqAt, Option.bind_some, keys_strs]
      have e2 : ((ms.map (·.1)).map (Sum.inr : Str → Key)).Nodup := by
        refine List.Pairwise.map _ (fun a b hab he => hab (Sum.inr.inj he)) w.nd
      rw [ddK_nodup _ [] e2 (by simp)]
      simp
      omega
theorem isItem {x : Option Str} {xs : List Str} (hx : ∀ y, x = some y → y ∈ xs) (h : OH) : pureF Sh.is_item [dN x, .lst (xs.map D.str)] h = .ok (.bl true) h := by
  refine pure_eq h (by cases x <;> simp [dN]) rfl ?_
  unfold Sh.is_item; rw [W_fn]; unfold Sh.is_item_b
  cases x with
  | none => simp [dN]
  | some y =>
    have := W_inN (some y) xs
    simp [dN] at this ⊢
    simp [this, hx y rfl]
theorem nmM_mem {x : Option Nat} (hx : ∀ k, x = some k → k < ms.length) : ∀ y, nmM ms x = some y → y ∈ ms.map (·.1) := fun y e => by
  cases x with
  | none => cases e
  | some k =>
    have hk := hx k rfl
    cases e
    exact List.mem_map_of_mem (List.mem_of_getElem? (mb_at hk))
theorem checkRecord {xs : List (Option Str)} {ns : List Str} (hx : ∀ x ∈ xs, ∀ y, x = some y → y ∈ ns) (hl : xs.length ≤ 400) (h : OH) : pureF Sh.check_record [.lst (xs.map dN), .lst (ns.map D.str)] h = .ok .non h := by
  have pn : D.pureL (ns.map D.str) = true := pureL_map _ (fun _ => rfl) ns
  refine pure_eq h (by simp [pn]) rfl ?_
  have l400 : ¬ (400 : Int) < xs.length := by omega
  unfold Sh.check_record; rw [W_fn]; unfold Sh.check_record_b
  simp [wipeD, l400]
  refine W_lcMap1 xs dN (fun _ => .bl true) [] (by simp [big]; omega) (fun x hx2 => ⟨_, rfl, ?_⟩) ?_
  · simp [isItem (hx x hx2)]
  · rw [bs_mapF]; simp
/-- the first members and a record -/
structure Rc (ms : List (Str × Int)) (xs : List (Option Nat)) : Prop where
  w : WfM ms
  hx : ∀ x ∈ xs, ∀ k, x = some k → k < ms.length
  hl : xs.length ≤ 400
def recD (ms : List (Str × Int)) (xs : List (Option Nat)) : D := .lst ((xs.map (nmM ms)).map dN)
@[simp] theorem pure_recD (ms : List (Str × Int)) (xs : List (Option Nat)) : (recD ms xs).pure = true := by simp [recD, -List.map_map]
variable {xs : List (Option Nat)}
theorem checkedReading (r : Rc ms xs) (h : OH) {PD : D → OH → Prop} (q : ∀ h', RdIs ms h.length (endRd (rkM ms) xs 0 S0).2 (dFlt (endRd (rkM ms) xs 0 S0).1) h' → PD (.ref h.length) h') : (Sh.checked_reading [.lst (ms.map dMb), recD ms xs] h).W PD := by
  have hn := r.w.len
  have cr := fun h => checkRecord (xs := xs.map (nmM ms)) (ns := ms.map (·.1)) (fun x hx => by
    obtain ⟨z, hz, rfl⟩ := List.mem_map.mp hx
    exact nmM_mem (r.hx z hz)) (by simpa using r.hl) h
  unfold Sh.checked_reading; rw [W_fn]; unfold Sh.checked_reading_b
  refine SW_seqK fun K hK => ?_
  simp [checkMembers r.w]
  refine hK _ _ ?_
  clear hK K
  refine SW_seqK fun K hK => ?_
  simp [wipeD]
  refine W_lcMap1 ms dMb (fun m => .str m.1) _ (by simp [big]; omega) (fun x hx => ⟨_, rfl, by simp [dMb]⟩) ?_
  have e : ms.map (fun m => D.str m.1) = (ms.map (·.1)).map D.str := by simp
  rw [e, recD, cr]
  simp
  refine hK _ _ ?_
  clear hK K cr e
  have := rd_init (h := h ++ [.ins "Reading" []]) (b := h.length) r.w r.hx r.hl (by simp) (by simp) (PD := fun d h2 => match d with | .non => PD (.ref h.length) h2 | _ => False) fun h' R => q h' R
  rw [List.map_map] at this
  simp
  exact this
theorem dFlt_pure (o : Option (Nat × Bool)) : (dFlt o).pure = true := by
  cases o with
  | none => rfl
  | some p => obtain ⟨t, kd⟩ := p; cases kd <;> rfl
theorem faultOf (r : Rc ms xs) (h : OH) : pureF Sh.fault_of [.lst (ms.map dMb), recD ms xs] h = .ok (dFlt (endRd (rkM ms) xs 0 S0).1) h := by
  refine pure_eq h (by simp) (dFlt_pure _) ?_
  unfold Sh.fault_of; rw [W_fn]; unfold Sh.fault_of_b
  simp
  refine checkedReading r [] fun h' R => ?_
  have i1 : insAt h' (.ref 0) = _ := ins_ref R.rd
  simp [i1]
def dSd (o : Ob) : D := .tup [.lst (o.tk.map dT), .bl o.cur.isSome, .int o.q]
def schD (ms : List (Str × Int)) (S : RdS) : D := .lst ((List.range ms.length).map fun j => dSd (S.obs j))
theorem schD_pure (ms : List (Str × Int)) (S : RdS) : (schD ms S).pure = true := by
  have : D.pureL ((List.range ms.length).map fun j => dSd (S.obs j)) = true := pureL_map _ (fun j => by simp [dSd]) _
  simp [schD, this]
theorem sched_body (r : Rc ms xs) (h : OH) (e : (endRd (rkM ms) xs 0 S0).1 = none) {R : D → OH → Prop} (q : ∀ h', R (schD ms (endRd (rkM ms) xs 0 S0).2) h') (a : SS) (e0 : Env') (h' : OH) (R0 : RdIs ms h.length (endRd (rkM ms) xs 0 S0).2 .non h') (m1 m2 a3 : Option D) :
    (sSeq (sIfS (sTest (sBin (opIs true) (sUn (opFld "fault") (sVar 2)) (sC .non))) a sNext) (sRet (sLc false (sIt (sUn (opFld "observed") (sVar 2))) (gN 3) sYes (sTup (sCons (sCall (b1 (opList false)) (sCons (sUn (opFld "found_talks") (sVar 3)) sNil)) (sCons (sUn (opFld "is_open") (sVar 3)) (sCons (sUn (opFld "quiet_ticks") (sVar 3)) sNil)))) [3])) [m1, m2, some (.ref h.length), a3] h').W (fun _ h1 => R .non h1) (fun _ _ => False) (fun _ _ => False) R := by
  have i1 := ins_ref R0.rd
  have hn := r.w.len
  simp [i1, wipeD]
  refine W_lcMap1 (List.range ms.length) (fun j => D.ref (h.length + 1 + 2 * j)) (fun j => dSd ((endRd (rkM ms) xs 0 S0).2.obs j)) _ (by simp [big]; omega) (fun j hj => ⟨_, rfl, ?_⟩) ?_
  · have hj := List.mem_range.mp hj
    obtain ⟨o1, o2⟩ := R0.ob j _ (mb_at hj)
    have lo : opList false (.ref (h.length + 2 + 2 * j)) h' = .ok (.lst (((endRd (rkM ms) xs 0 S0).2.obs j).tk.map dT)) h' := by simp [opList, seqAt, o2]
    simp [-List.getD_eq_getElem?_getD, ins_ref o1, lo, dSd]
  · exact q _
theorem schedulesOf1 (r : Rc ms xs) (e : (endRd (rkM ms) xs 0 S0).1 = none) (h : OH) : pureF Sh.schedules_of_1 [.lst (ms.map dMb), recD ms xs] h = .ok (schD ms (endRd (rkM ms) xs 0 S0).2) h := by
  refine pure_eq h (by simp) (schD_pure _ _) ?_
  unfold Sh.schedules_of_1; rw [W_fn]; unfold Sh.schedules_of_1_b
  refine SW_seqK fun K hK => ?_
  simp
  refine checkedReading r [] fun h' R => ?_
  rw [e] at R
  refine hK _ _ ?_
  clear hK K
  exact sched_body (R := fun d _ => d = schD ms (endRd (rkM ms) xs 0 S0).2) r [] e (fun h' => rfl) _ [] h' R _ _ _
theorem schedulesX1 (r : Rc ms xs) {t : Nat} {kd : Bool} (e : (endRd (rkM ms) xs 0 S0).1 = some (t, kd)) (h : OH) : pureF Sh.schedules_of_1 [.lst (ms.map dMb), recD ms xs] h = .exc "Inconsistent" (some ("tick", .int t)) h := by
  have w : (Sh.checked_reading [.lst (ms.map dMb), recD ms xs] []).W fun d h' => d = .ref 0 ∧ insAt h' (.ref 0) = some ("Reading", rdFs 0 ms.length (.tup [.int t, dKd (some kd)])) := checkedReading r [] fun h' R => by
    rw [e] at R
    exact ⟨rfl, ins_ref R.rd⟩
  obtain ⟨d, h', e1, rfl, e2⟩ := w.out
  refine pure_excP (h' := h') h (by simp) rfl ?_
  have f1 : (rdFs 0 ms.length (.tup [.int t, dKd (some kd)])).lookup "fault" = some (.tup [.int t, dKd (some kd)]) := rfl
  unfold Sh.schedules_of_1 Sh.schedules_of_1_b
  simp [fnOf, sSeq, sSet, sCall, sCons, sNil, sVar, withD, e1, sIfS, sTest, sBin, sUn, opFld, e2, f1, sC, opIs, sRaiseF, opIx, seqAt, lsqAt]
end
end HR
set_option Elab.async false
set_option linter.all false
set_option maxRecDepth 20000
set_option exponentiation.threshold 5000
namespace HR
open PySem L2
/-! ### law k73: records and halls (maths) -/
section
variable {rk : Nat → Int}
theorem endRd_some : ∀ (xs : List (Option Nat)) (t : Nat) (S : RdS) (u : Nat) (kd : Bool), (endRd rk xs t S).1 = some (u, kd) → ∃ i, u = t + i ∧ i < xs.length ∧ (endRd rk (xs.take i) t S).1 = none ∧ (endRd rk (xs.take (i + 1)) t S).1 = some (u, kd)
  | [], _, _, _, _, h => by cases h
  | x :: xs, t, S, u, kd, h => by
    cases e : x.bind fun k => kindF rk k S with
    | some kd2 =>
      simp only [endRd, e] at h
      cases h
      exact ⟨0, rfl, by simp, rfl, by simp only [List.take_succ_cons, endRd, e]⟩
    | none =>
      simp only [endRd, e] at h
      obtain ⟨i, h1, h2, h3, h4⟩ := endRd_some xs (t + 1) _ u kd h
      exact ⟨i + 1, by omega, by simp; omega, by simp only [List.take_succ_cons, endRd, e]; exact h3, by simp only [List.take_succ_cons, endRd, e] at h4 ⊢; exact h4⟩
end
/-! the hall with the talks of a record -/
/-! members of a hall -/
def mbT (t : Tk) : Str × Int := (t.name, t.rank)
theorem mbT_wf {ts : List Tk} (w : WfHall T30 ts) : WfM (ts.map mbT) := by
  refine ⟨by simpa using w.len, fun m hm => ?_, fun m hm => ?_, ?_⟩
  · obtain ⟨t, ht, rfl⟩ := List.mem_map.mp hm
    exact ⟨(w.tk t ht).r1, (w.tk t ht).r2⟩
  · obtain ⟨t, ht, rfl⟩ := List.mem_map.mp hm
    exact (w.tk t ht).name
  · have : (ts.map mbT).map (·.1) = ts.map (·.name) := by simp [mbT, Function.comp_def]
    rw [this]
    exact w.nd
theorem getD_mbT (ts : List Tk) (j : Nat) : (ts.map mbT).getD j gMb = mbT (ts.getD j gTk) := by
  simp only [List.getD_eq_getElem?_getD, List.getElem?_map]
  cases ts[j]? <;> rfl
theorem mbT_nm (ts : List Tk) : nmM (ts.map mbT) = nmT ts := by
  funext x
  cases x with
  | none => rfl
  | some k =>
    show some ((ts.map mbT).getD k gMb).1 = some (ts.getD k gTk).name
    rw [getD_mbT]
    rfl
end HR
set_option Elab.async false
set_option linter.all false
set_option maxRecDepth 20000
set_option exponentiation.threshold 5000
namespace HR
open PySem L2
/-! ### a record by the definitions: the last tick of a talker, quiet ticks, whether a talk goes on -/
section
variable (rk : Nat → Int) (w : List (Option Nat))
def spkR (k : Nat) : Option Int := (w.getD k none).map rk
def isJ (j k : Nat) : Bool := w.getD k none == some j
def atsL (j n : Nat) : List Nat := (List.range n).filter (isJ w j)
def lastI (j n : Nat) : Int := match (atsL w j n).getLast? with
  | some i => i
  | none => -1
def qsL (r : Int) (a n : Nat) : List Nat := ((List.range n).drop a).filter fun k => isQ (spkR rk w k) r
def goes (j n : Nat) : Bool := decide (0 ≤ lastI w j n) && ((List.range n).drop (lastI w j n + 1).toNat).all fun k => !isC (spkR rk w k) (rk j)
def addT (tk : List (Int × Int)) (j at_ : Nat) : List (Int × Int) := if goes rk w j at_ then tk.dropLast ++ [((tk.getLastD (0, 0)).1, (tk.getLastD (0, 0)).2 + 1)] else tk ++ [(((qsL rk w (rk j) (lastI w j at_ + 1).toNat at_).length : Int), 1)]
def talksL (j n : Nat) : List (Int × Int) := (atsL w j n).foldl (fun tk at_ => addT rk w tk j at_) []
variable {w}
theorem atsL_succ (j n : Nat) : atsL w j (n + 1) = atsL w j n ++ if isJ w j n then [n] else [] := by
  unfold atsL
  rw [List.range_succ, List.filter_append]
  congr 1
  by_cases h : isJ w j n = true
  · rw [if_pos h, List.filter_cons_of_pos h]; rfl
  · rw [if_neg h, List.filter_cons_of_neg h]; rfl
theorem lastI_succ (j n : Nat) : lastI w j (n + 1) = if isJ w j n then (n : Int) else lastI w j n := by
  unfold lastI
  rw [atsL_succ]
  by_cases h : isJ w j n = true
  · rw [if_pos h, if_pos h]
    simp
  · rw [if_neg h, if_neg h, List.append_nil]
theorem lastI_lt (j : Nat) : ∀ n, -1 ≤ lastI w j n ∧ lastI w j n < n
  | 0 => by simp [lastI, atsL]
  | n + 1 => by
    have := lastI_lt j n
    rw [lastI_succ]
    split <;> omega
theorem qsL_succ (r : Int) (a n : Nat) (h : a ≤ n) : qsL rk w r a (n + 1) = qsL rk w r a n ++ if isQ (spkR rk w n) r then [n] else [] := by
  unfold qsL
  rw [List.range_succ, List.drop_append_of_le_length (by simpa using h), List.filter_append]
  congr 1
  by_cases q : isQ (spkR rk w n) r = true
  · rw [if_pos q, List.filter_cons_of_pos (by simpa using q)]; rfl
  · rw [if_neg q, List.filter_cons_of_neg (by simpa using q)]; rfl
theorem qsL_end (r : Int) (n : Nat) : qsL rk w r n n = [] := by
  unfold qsL
  rw [List.drop_eq_nil_of_le (by simp)]
  rfl
theorem goes_succ (j n : Nat) : goes rk w j (n + 1) = if isJ w j n then true else goes rk w j n && !isC (spkR rk w n) (rk j) := by
  unfold goes
  rw [lastI_succ]
  have lt := lastI_lt (w := w) j n
  by_cases h : isJ w j n = true
  · rw [if_pos h, if_pos h]
    rw [List.drop_eq_nil_of_le (by simp)]
    simp
  · rw [if_neg h, if_neg h]
    rw [List.range_succ, List.drop_append_of_le_length (by simp; omega), List.all_append]
    simp [Bool.and_assoc]
theorem talksL_succ (j n : Nat) : talksL rk w j (n + 1) = if isJ w j n then addT rk w (talksL rk w j n) j n else talksL rk w j n := by
  unfold talksL
  rw [atsL_succ]
  by_cases h : isJ w j n = true
  · rw [if_pos h, if_pos h, List.foldl_append]; rfl
  · rw [if_neg h, if_neg h, List.append_nil]
theorem take_succ_run (n : Nat) (hn : n < w.length) : runRd rk (w.take (n + 1)) S0 = stepRd rk (w.getD n none) (runRd rk (w.take n) S0) := by
  rw [List.take_succ, List.getElem?_eq_getElem hn, runRd_app]
  simp [runRd, hn]
/-- the reading is as the definitions say -/
theorem defs_ok (j : Nat) : ∀ n, n ≤ w.length → ((runRd rk (w.take n) S0).obs j).cur.isSome = goes rk w j n ∧ ((runRd rk (w.take n) S0).obs j).q = ((qsL rk w (rk j) (lastI w j n + 1).toNat n).length : Int) ∧ ((runRd rk (w.take n) S0).obs j).tk = talksL rk w j n
  | 0, _ => by
    refine ⟨?_, ?_, ?_⟩
    · simp [runRd, S0, goes, lastI, atsL]
    · simp [runRd, S0, qsL]
    · simp [runRd, S0, Ob.tk, talksL, atsL]
  | n + 1, hn => by
    obtain ⟨h1, h2, h3⟩ := defs_ok j n (by omega)
    rw [take_succ_run rk n (by omega)]
    have lt := lastI_lt (w := w) j n
    rw [goes_succ, lastI_succ, talksL_succ]
    obtain ⟨x, ex⟩ : ∃ x, w.getD n none = x := ⟨_, rfl⟩
    have es : spkR rk w n = x.map rk := by unfold spkR; rw [ex]
    have ej : isJ w j n = (x == some j) := by unfold isJ; rw [ex]
    rw [ex]
    generalize runRd rk (w.take n) S0 = S at h1 h2 h3 ⊢
    have pass : x ≠ some j → (stepRd rk x S).obs j = passO (x.map rk) (rk j) (S.obs j) := fun ne => by
      cases x with
      | none => rfl
      | some k =>
        have ne : j ≠ k := fun z => ne (by rw [z])
        simp [stepRd, ne]
    by_cases c : x = some j
    · subst c
      have ej : isJ w j n = true := by rw [ej]; simp
      rw [if_pos ej, if_pos ej, if_pos ej]
      have eo : (stepRd rk (some j) S).obs j = speakO (S.obs j) := by simp [stepRd]
      rw [eo]
      refine ⟨?_, ?_, ?_⟩
      · unfold speakO
        cases (S.obs j).cur <;> rfl
      · rw [q_speak, show ((n : Int) + 1).toNat = n + 1 by omega, qsL_end]
        rfl
      · unfold addT
        cases ec : (S.obs j).cur with
        | some p =>
          rw [ec] at h1
          have h1 : goes rk w j n = true := h1.symm
          rw [if_pos h1, ← h3]
          simp [speakO, Ob.tk, ec]
        | none =>
          rw [ec] at h1
          have h1 : goes rk w j n = false := h1.symm
          rw [if_neg (by rw [h1]; simp), ← h3, ← h2]
          simp [speakO, Ob.tk, ec]
    · have ej : isJ w j n = false := by rw [ej]; simpa using c
      rw [ej]
      simp only [Bool.false_eq_true, if_false]
      rw [pass c]
      refine ⟨?_, ?_, by rw [tk_pass]; exact h3⟩
      · rw [es, ← h1]
        unfold passO
        dsimp only
        cases isC (x.map rk) (rk j) <;> simp
      · rw [qsL_succ rk (rk j) _ n (by omega), es, List.length_append]
        unfold passO
        dsimp only
        rw [h2]
        cases isQ (x.map rk) (rk j) <;> simp
end
end HR
set_option Elab.async false
set_option linter.all false
set_option maxRecDepth 20000
set_option exponentiation.threshold 5000
namespace HR
open PySem L2
/-! ### the fault at a tick, by the definitions (maths) -/
section
variable (rk : Nat → Int) (w : List (Option Nat))
def sinceL (r : Int) (t : Nat) : Nat := (qsL rk w r 0 t).getLastD 0
def rivL (j t : Nat) : List (Option Nat) := ((w.take t).drop (sinceL rk w (rk j) t + 1)).filter fun x => match x with
  | none => false
  | some m => decide (j < m) && decide (rk m = rk j)
def faultDef (t : Nat) : Option Bool := match w.getD t none with
  | none => none
  | some j => if goes rk w j t then none else if qsL rk w (rk j) (lastI w j t + 1).toNat t = [] then some true else if rivL rk w j t = [] then none else some false
theorem qsL_mem (r : Int) (a t k : Nat) : k ∈ qsL rk w r a t ↔ a ≤ k ∧ k < t ∧ isQ (spkR rk w k) r = true := by
  unfold qsL
  rw [List.mem_filter]
  have e : k ∈ (List.range t).drop a ↔ a ≤ k ∧ k < t := by
    rw [List.range_eq_range', List.drop_range', List.mem_range'_1]
    omega
  rw [e, and_assoc]
theorem lp_ok (r : Int) (j : Nat) : ∀ t, t ≤ w.length → ((runRd rk (w.take t) S0).lp r > j ↔ ∃ k m, k < t ∧ w.getD k none = some m ∧ rk m = r ∧ j < m ∧ ∀ k', k ≤ k' → k' < t → isQ (spkR rk w k') r = false)
  | 0, _ => by
    constructor
    · intro h
      have : (S0.lp r : Int) = -1 := rfl
      simp only [List.take_zero, runRd] at h
      omega
    · rintro ⟨k, m, hk, _⟩
      omega
  | t + 1, ht => by
    have ih := lp_ok r j t (by omega)
    rw [take_succ_run (w := w) rk t (by omega)]
    generalize runRd rk (w.take t) S0 = S at ih ⊢
    have sp : spkR rk w t = (w.getD t none).map rk := rfl
    cases hx : w.getD t none with
    | none =>
      rw [hx] at sp
      simp only [stepRd]
      constructor
      · intro h; omega
      · rintro ⟨k, m, hk, h1, h2, h3, h4⟩
        have := h4 t (by omega) (by omega)
        rw [sp] at this
        cases this
    | some m =>
      rw [hx] at sp
      simp only [stepRd]
      by_cases c1 : rk m > r
      · rw [if_pos c1]
        constructor
        · intro h; omega
        · rintro ⟨k, m2, hk, h1, h2, h3, h4⟩
          have := h4 t (by omega) (by omega)
          rw [sp] at this
          simp [isQ] at this
          omega
      · rw [if_neg c1]
        have nq : isQ (spkR rk w t) r = false := by rw [sp]; simp [isQ]; omega
        have ext : (∃ k m2, k < t ∧ w.getD k none = some m2 ∧ rk m2 = r ∧ j < m2 ∧ ∀ k', k ≤ k' → k' < t → isQ (spkR rk w k') r = false) → ∃ k m2, k < t + 1 ∧ w.getD k none = some m2 ∧ rk m2 = r ∧ j < m2 ∧ ∀ k', k ≤ k' → k' < t + 1 → isQ (spkR rk w k') r = false := by
          rintro ⟨k, m2, hk, h1, h2, h3, h4⟩
          refine ⟨k, m2, by omega, h1, h2, h3, fun k' a b => ?_⟩
          by_cases e : k' = t
          · rw [e]; exact nq
          · exact h4 k' a (by omega)
        by_cases c2 : r = rk m
        · rw [if_pos c2]
          constructor
          · intro h
            by_cases c3 : j < m
            · refine ⟨t, m, by omega, hx, c2.symm, c3, fun k' a b => ?_⟩
              have : k' = t := by omega
              rw [this]; exact nq
            · refine ext (ih.mp ?_)
              split at h <;> omega
          · rintro ⟨k, m2, hk, h1, h2, h3, h4⟩
            by_cases e : k = t
            · subst e
              rw [hx] at h1
              cases h1
              split <;> omega
            · have := ih.mpr ⟨k, m2, by omega, h1, h2, h3, fun k' a b => h4 k' a (by omega)⟩
              split <;> omega
        · rw [if_neg c2]
          constructor
          · intro h; exact ext (ih.mp h)
          · rintro ⟨k, m2, hk, h1, h2, h3, h4⟩
            by_cases e : k = t
            · subst e
              rw [hx] at h1
              cases h1
              exact absurd h2.symm c2
            · exact ih.mpr ⟨k, m2, by omega, h1, h2, h3, fun k' a b => h4 k' a (by omega)⟩
theorem since_ok (r : Int) (t : Nat) (ne : qsL rk w r 0 t ≠ []) : sinceL rk w r t < t ∧ isQ (spkR rk w (sinceL rk w r t)) r = true ∧ ∀ k, sinceL rk w r t < k → k < t → isQ (spkR rk w k) r = false := by
  have hl : sinceL rk w r t = (qsL rk w r 0 t).getLast ne := by
    unfold sinceL
    rw [List.getLastD_eq_getLast?, List.getLast?_eq_getLast ne]
    rfl
  have hm := (qsL_mem rk w r 0 t _).mp (List.getLast_mem ne)
  rw [← hl] at hm
  refine ⟨hm.2.1, hm.2.2, fun k h1 h2 => ?_⟩
  cases e : isQ (spkR rk w k) r with
  | false => rfl
  | true =>
    have hk : k ∈ qsL rk w r 0 t := (qsL_mem rk w r 0 t k).mpr ⟨by omega, h2, e⟩
    have sorted : (qsL rk w r 0 t).Pairwise (· < ·) := by
      unfold qsL
      exact List.Pairwise.filter _ (List.Pairwise.drop List.pairwise_lt_range)
    have le : ∀ (l : List Nat) (ne : l ≠ []), l.Pairwise (· < ·) → ∀ x ∈ l, x ≤ l.getLast ne := fun l ne => by
      induction l with
      | nil => exact absurd rfl ne
      | cons y l ih =>
        intro hp x hx
        by_cases hl0 : l = []
        · subst hl0
          simp at hx
          simp [hx]
        · rw [List.getLast_cons hl0]
          obtain ⟨p1, p2⟩ := List.pairwise_cons.mp hp
          rcases List.mem_cons.mp hx with rfl | hx
          · exact Nat.le_of_lt (p1 _ (List.getLast_mem hl0))
          · exact ih hl0 p2 x hx
    have := le _ ne sorted k hk
    rw [← hl] at this
    omega
theorem riv_ok (j t : Nat) (ht : t ≤ w.length) (ne : qsL rk w (rk j) 0 t ≠ []) : rivL rk w j t ≠ [] ↔ (runRd rk (w.take t) S0).lp (rk j) > j := by
  obtain ⟨s1, s2, s3⟩ := since_ok rk w (rk j) t ne
  rw [lp_ok rk w (rk j) j t ht]
  unfold rivL
  rw [Ne, List.filter_eq_nil_iff]
  constructor
  · intro h
    have h : ∃ x ∈ (w.take t).drop (sinceL rk w (rk j) t + 1), (match x with | none => false | some m => decide (j < m) && decide (rk m = rk j)) = true := by
      refine Classical.byContradiction fun z => h fun x hx => ?_
      intro y
      exact z ⟨x, hx, y⟩
    obtain ⟨x, hx, e⟩ := h
    cases x with
    | none => cases e
    | some m =>
      simp at e
      obtain ⟨i, hi, ei⟩ := List.mem_iff_getElem.mp hx
      rw [List.getElem_drop, List.getElem_take] at ei
      simp at hi
      refine ⟨sinceL rk w (rk j) t + 1 + i, m, by omega, ?_, e.2, e.1, fun k' a b => s3 k' (by omega) b⟩
      have : sinceL rk w (rk j) t + 1 + i < w.length := by omega
      simp [this, ei]
  · rintro ⟨k, m, hk, h1, h2, h3, h4⟩ z
    have kl : sinceL rk w (rk j) t < k := by
      refine Nat.lt_of_not_le fun c => ?_
      have := h4 _ c s1
      rw [s2] at this
      cases this
    have hm : some m ∈ (w.take t).drop (sinceL rk w (rk j) t + 1) := by
      refine List.mem_iff_getElem.mpr ⟨k - (sinceL rk w (rk j) t + 1), by simp; omega, ?_⟩
      rw [List.getElem_drop, List.getElem_take]
      have e : sinceL rk w (rk j) t + 1 + (k - (sinceL rk w (rk j) t + 1)) = k := by omega
      simp only [e]
      have : k < w.length := by omega
      simpa [this] using h1
    have := z _ hm
    simp at this
    exact this h3 h2
/-- the fault by the definitions is the reading's -/
theorem fault_def (t : Nat) (ht : t < w.length) : faultDef rk w t = (w.getD t none).bind fun k => kindF rk k (runRd rk (w.take t) S0) := by
  unfold faultDef
  cases hx : w.getD t none with
  | none => rfl
  | some j =>
    obtain ⟨d1, d2, _⟩ := defs_ok (w := w) rk j t (by omega)
    simp only [Option.bind_some, kindF]
    rw [d1, d2]
    cases g : goes rk w j t with
    | true => rfl
    | false =>
      simp only [Bool.false_eq_true, if_false]
      by_cases c : qsL rk w (rk j) (lastI w j t + 1).toNat t = []
      · rw [if_pos c, c]
        rfl
      · rw [if_neg c]
        have nz : ((qsL rk w (rk j) (lastI w j t + 1).toNat t).length : Int) ≠ 0 := by
          have := List.length_pos_iff.mpr c
          omega
        rw [if_neg nz]
        have ne0 : qsL rk w (rk j) 0 t ≠ [] := by
          obtain ⟨y, hy⟩ := List.exists_mem_of_ne_nil _ c
          have := (qsL_mem rk w (rk j) _ t y).mp hy
          have : y ∈ qsL rk w (rk j) 0 t := (qsL_mem rk w (rk j) 0 t y).mpr ⟨by omega, this.2⟩
          exact List.ne_nil_of_mem this
        have rv := riv_ok rk w j t (by omega) ne0
        by_cases c2 : rivL rk w j t = []
        · rw [if_pos c2, if_neg (fun z => rv.mpr z c2)]
        · rw [if_neg c2, if_pos (rv.mp c2)]
/-- the first fault -/
theorem end_first : ∀ (n t : Nat), t + n = w.length → (endRd rk (w.drop t) t (runRd rk (w.take t) S0)).1 = (((List.range w.length).drop t).find? fun t => (faultDef rk w t).isSome).map fun t => (t, (faultDef rk w t).getD true)
  | 0, t, h => by
    rw [List.drop_eq_nil_of_le (by omega), List.drop_eq_nil_of_le (by simp; omega)]
    rfl
  | n + 1, t, h => by
    have ht : t < w.length := by omega
    have dr : w.drop t = w.getD t none :: w.drop (t + 1) := by
      rw [List.drop_eq_getElem_cons ht]
      simp [ht]
    have dr2 : (List.range w.length).drop t = t :: (List.range w.length).drop (t + 1) := by
      rw [List.drop_eq_getElem_cons (by simpa using ht)]
      simp
    have fd := fault_def rk w t ht
    rw [dr, dr2, List.find?_cons]
    simp only [endRd]
    cases e : faultDef rk w t with
    | some kd =>
      rw [e] at fd
      rw [← fd]
      simp [e]
    | none =>
      rw [e] at fd
      rw [← fd]
      dsimp only
      rw [← take_succ_run (w := w) rk t ht]
      exact end_first n (t + 1) (by omega)
theorem end_first0 : (endRd rk w 0 S0).1 = ((List.range w.length).find? fun t => (faultDef rk w t).isSome).map fun t => (t, (faultDef rk w t).getD true) := by
  have := end_first rk w w.length 0 (by omega)
  simpa [runRd] using this
end
end HR
set_option Elab.async false
set_option linter.all false
set_option maxRecDepth 20000
set_option exponentiation.threshold 5000
namespace HR
open PySem L2
/-! ### members, drawn from the bag -/
structure MemI (ns : List Int) (i c : Nat) (h : OH) (k : Nat) (acc : List D) (h' : OH) : Prop where
  ex : Bag ns h' i (c + 2 + 2 * k) ∧ Chg i h h' ∧ ∃ (ms : List (Str × Int)) (nl : List Str), acc = ms.map dMb ∧ h'[h.length]? = some (.lst (nl.map D.str)) ∧ ms.length = k ∧ nl.length + k = 10 ∧ (ms.map (·.1) ++ nl).Perm NAMES ∧ ∀ m ∈ ms, 1 ≤ m.2 ∧ m.2 ≤ 10
theorem members_ok {ns : List Int} {h : OH} {i c : Nat} {most : Int} (hs : Bag ns h i c) (hc : c < 2 ^ 59) (h0 : 0 ≤ most) (h1 : most ≤ 10) {P : D → OH → Prop}
    (q : ∀ (ms : List (Str × Int)) h', Bag ns h' i (c + 30) → Chg i h h' → (ms.length : Int) ≤ most → WfM ms → (∀ m ∈ ms, m.1 ∈ NAMES) → P (.lst (ms.map dMb)) h') : (Sh.l_members [.ref i, .int most] h).W P := by
  have hi := hs.lt
  unfold Sh.l_members
  rw [W_fn]
  unfold Sh.l_members_b
  have b60 : (2 : Nat) ^ 60 = 2 * 2 ^ 59 := by decide
  refine SW_seqK fun K hK => ?_
  simp
  refine hK _ _ ?_
  clear hK K
  refine SW_seqK fun K hK => ?_
  simp
  refine bdraw_ok (hs.app _) (by omega) (by decide) (small_64 (by decide)) fun v h2 v0 v1 s2 c2 => ?_
  try simp
  refine pickI (ns := [1, 2, 4, 10]) v0 v1 fun ranks hr => ?_
  have hr' : 1 ≤ ranks ∧ ranks ≤ 10 := by simp at hr; omega
  refine hK _ _ ?_
  clear hK K
  refine SW_seqK fun K hK => ?_
  simp
  refine bdraw_ok s2 (by omega) (by omega) (small_64 (by omega)) fun w h3 w0 w1 s3 c3 => ?_
  refine hK _ _ ?_
  clear hK K
  have r : rngOk w = true := by simp [rngOk]; omega
  have g3 : h3[h.length]? = some (.lst (NAMES.map D.str)) := c3.get (c2.get (by simp; rfl) (by omega)) (by omega)
  have cc : Chg i h h3 := (Chg.app i h _).trans (c2.trans c3)
  simp [r, wipeD]
  refine W_lcGo (fun k acc h' => MemI ns i c h k acc h') _ _ _
    ⟨s3, cc, [], NAMES, rfl, g3, rfl, rfl, List.Perm.refl _, by simp⟩ (fun k d hd acc h' hI => ?_) (fun acc h' hI => ?_)
  · obtain ⟨s, c4, ms, nl, rfl, g, hk, hnl, hp, hw⟩ := hI.ex
    obtain ⟨hk2, rfl⟩ := rngD_at hd
    have hk3 : k < 10 := by omega
    refine ⟨_, rfl, ?_⟩
    simp [g, isOwn]
    refine bdraw_ok s (by omega) (by omega) (small_64 (by omega)) fun p h5 p0 p1 s5 c5 => ?_
    have g5 := c5.get g (by omega)
    simp [g5]
    have hpl : p.toNat < nl.length := by omega
    refine W_popAt p0 (y := .str nl[p.toNat]) (by simp [hpl]) (by omega) ?_
    have s5' := s5.set (j := h.length) (by omega) (.lst ((nl.map D.str).eraseIdx p.toNat))
    have c5' := (c4.trans c5).setNew (j := h.length) (Nat.le_refl _) (.lst ((nl.map D.str).eraseIdx p.toNat))
    have n5 : (h5.set h.length (.lst ((nl.map D.str).eraseIdx p.toNat)))[h.length]? = some (.lst ((nl.eraseIdx p.toNat).map D.str)) := by
      rw [List.getElem?_set_self (List.getElem?_eq_some_iff.mp g5).1, eraseIdx_mapF]
    generalize h5.set h.length (.lst ((nl.map D.str).eraseIdx p.toNat)) = h6 at s5' c5' n5 ⊢
    try simp
    refine bdraw_ok s5' (by omega) (by omega) (small_64 (by omega)) fun rk h7 rk0 rk1 s7 c7 => ?_
    have n7 := c7.get n5 (by omega)
    try simp
    refine ⟨by omega, ⟨s7.mono (by omega), c5'.trans c7, ms ++ [(nl[p.toNat], 1 + rk)], nl.eraseIdx p.toNat, by simp [dMb], n7, by simp [hk], ?_, ?_, ?_⟩⟩
    · rw [List.length_eraseIdx, if_pos hpl]; omega
    · refine List.Perm.trans ?_ hp
      simp only [List.map_append, List.map_cons, List.map_nil, List.append_assoc, List.singleton_append]
      exact List.Perm.append_left _ (eraseIdx_permF nl _ hpl)
    · intro m hm
      rcases List.mem_append.mp hm with hm | hm
      · exact hw m hm
      · rw [List.mem_singleton.mp hm]
        exact ⟨by dsimp only; omega, by dsimp only; omega⟩
  · obtain ⟨s, c4, ms, nl, rfl, g, hk, hnl, hp, hw⟩ := hI.ex
    rw [rngD_len] at hk hnl s
    have hx : ∀ m ∈ ms, m.1 ∈ NAMES := fun m hm => hp.mem_iff.mp (List.mem_append_left _ (List.mem_map_of_mem hm))
    have := hp.symm.nodup names_nd
    exact q ms _ (s.mono (by omega)) c4 (by omega) ⟨by omega, hw, fun m hm => names_wf _ (hx m hm), (List.nodup_append.mp this).1⟩ hx
end HR
set_option Elab.async false
set_option linter.all false
set_option maxRecDepth 20000
set_option exponentiation.threshold 5000
namespace HR
open PySem L2
/-! ### the definitions, as the laws compute them -/
def rkK (ms : List (Str × Int)) : List (Key × D) := ms.map fun m => (Sum.inr m.1, .int m.2)
section
variable {ms : List (Str × Int)} {xs : List (Option Nat)}
theorem rkK_pureK : ∀ ms : List (Str × Int), D.pureK (rkK ms) = true
  | [] => rfl
  | m :: ms => by
    have := rkK_pureK ms
    simp only [rkK, List.map_cons, D.pureK]
    rw [show D.pureK (List.map (fun m => (Sum.inr m.fst, D.int m.snd)) ms) = true from this]
    rfl
theorem rkK_pure (ms : List (Str × Int)) : (D.dct (rkK ms)).pure = true := rkK_pureK ms
theorem rkK_nodup (w : WfM ms) : ((rkK ms).map (·.1)).Nodup := by
  have : (rkK ms).map (·.1) = (ms.map (·.1)).map (Sum.inr : Str → Key) := by simp [rkK]
  rw [this]
  exact List.Pairwise.map _ (fun a b hab he => hab (Sum.inr.inj he)) w.nd
theorem getK_nd : ∀ {ks : List (Key × D)} (nd : (ks.map (·.1)).Nodup) {k : Key} {d : D}, (k, d) ∈ ks → getK ks k = some d
  | [], _, _, _, h => by cases h
  | (k0, d0) :: ks, nd, k, d, h => by
    simp only [List.map_cons, List.nodup_cons] at nd
    by_cases c : k0 = k
    · subst c
      rcases List.mem_cons.mp h with e | e
      · cases e; simp [getK]
      · exact absurd (List.mem_map_of_mem (f := (·.1)) e) nd.1
    · rcases List.mem_cons.mp h with e | e
      · cases e; exact absurd rfl c
      · have := getK_nd nd.2 e
        simpa [getK, c] using this
theorem rkK_get (w : WfM ms) {k : Nat} (hk : k < ms.length) : getK (rkK ms) (Sum.inr (ms.getD k gMb).1) = some (.int (rkM ms k)) := by
  refine getK_nd (rkK_nodup w) ?_
  have := List.mem_of_getElem? (mb_at hk)
  exact List.mem_map.mpr ⟨_, this, rfl⟩
theorem recL_at {at_ : Nat} (h : at_ < xs.length) : atI ((xs.map (nmM ms)).map dN) (at_ : Int) = some (dN (nmM ms (xs.getD at_ none))) := by
  rw [atI_z (by omega) (by simpa using h), Int.toNat_natCast]
  simp [h]
theorem getD_hx (r : Rc ms xs) (k j : Nat) (e : xs.getD k none = some j) : j < ms.length := by
  by_cases h : k < xs.length
  · rw [List.getD_eq_getElem?_getD, List.getElem?_eq_getElem h] at e
    exact r.hx _ (List.getElem_mem h) j e
  · rw [List.getD_eq_getElem?_getD, List.getElem?_eq_none (by omega)] at e
    cases e
theorem rngD_drop (a n : Nat) (h : a ≤ n) : rngD (a : Int) (n - a) = ((List.range n).drop a).map fun (k : Nat) => D.int (k : Int) := by
  unfold rngD
  refine List.ext_getElem? fun i => ?_
  rw [List.getElem?_map, List.getElem?_map, List.getElem?_drop]
  by_cases c : i < n - a
  · rw [List.getElem?_range c, List.getElem?_range (by omega)]
    simp
  · rw [List.getElem?_eq_none (by simp; omega), List.getElem?_eq_none (by simp; omega)]
    rfl
/-- _law_quiet -/
theorem quiet_ok (r : Rc ms xs) (rank : Int) {a n : Nat} (ha : a ≤ n) (hn : n ≤ xs.length) (h : OH) : pureF Sh.l_quiet [.dct (rkK ms), recD ms xs, .int rank, .int a, .int n] h = .ok (.lst ((qsL (rkM ms) xs rank a n).map fun (k : Nat) => D.int (k : Int))) h := by
  have hl := r.hl
  refine pure_eq h (by simp [rkK_pure]) (pureL_map _ (fun _ => rfl) _) ?_
  have r1 : rngOk a = true := by simp [rngOk]; omega
  have r2 : rngOk n = true := by simp [rngOk]; omega
  unfold Sh.l_quiet; rw [W_fn]; unfold Sh.l_quiet_b
  have en : ((n : Int) - a).toNat = n - a := by omega
  simp [-List.map_drop, r1, r2, wipeD, en, rngD_drop a n ha]
  unfold qsL
  refine W_lcMap ((List.range n).drop a) (fun (k : Nat) => D.int (k : Int)) (fun k => isQ (spkR (rkM ms) xs k) rank) (fun (k : Nat) => D.int (k : Int)) _ (by simp [big]; omega) (fun k hk => ⟨_, rfl, ?_⟩) ?_
  · have hk := List.mem_range.mp (List.mem_of_mem_drop hk)
    have e1 := recL_at (ms := ms) (xs := xs) (at_ := k) (by omega)
    have e2 : ∀ h (PD : D → OH → Prop), (opIx (recD ms xs) (.int k) h).W PD = PD (dN (nmM ms (xs.getD k none))) h := fun h PD => by
      rw [recD, W_ixL, e1]
      rfl
    unfold spkR
    cases ex : xs.getD k none with
    | none =>
      simp [-List.getD_eq_getElem?_getD, e2, ex, nmM, dN, isQ]
    | some j =>
      have hj := getD_hx r k j ex
      have g := rkK_get r.w hj
      simp [-List.getD_eq_getElem?_getD, e2, ex, nmM, dN, isQ, W_ixK (keyD_str _) g]
  · rfl
theorem W_eqNS2 {z : Str} (s1 : PyData.strOk z = true) (h : OH) {PD : D → OH → Prop} : (opEq false .non (.str z) h).W PD = PD (.bl false) h := by
  simp [opEq, SeqAt.shaped, PyData.canLay0, PyData.depth, PyData.eqv, s1]
/-- _law_last -/
theorem last_ok (r : Rc ms xs) {j n : Nat} (hj : j < ms.length) (hn : n ≤ xs.length) (h : OH) : pureF Sh.l_last [recD ms xs, .str (ms.getD j gMb).1, .int n] h = .ok (.int (lastI xs j n)) h := by
  have hl := r.hl
  have s1 := okNm (r.w.nm _ (List.mem_of_getElem? (mb_at hj)))
  have nmj : ∀ {k2 : Nat}, k2 < ms.length → ((ms.getD k2 gMb).1 == (ms.getD j gMb).1) = (some k2 == some j) := fun {k2} hk2 => by
    rw [Bool.eq_iff_iff]
    simp only [beq_iff_eq, Option.some.injEq]
    refine ⟨fun z => ?_, fun z => by rw [z]⟩
    have a : (ms.map (·.1))[k2]? = some (ms.getD k2 gMb).1 := by simp [hk2]
    have c : (ms.map (·.1))[j]? = some (ms.getD j gMb).1 := by simp [hj]
    exact (List.getElem?_inj (by simpa using hk2) r.w.nd).mp (by rw [a, c, z])
  generalize (ms.getD j gMb).1 = nm at s1 nmj ⊢
  obtain ⟨v, hv⟩ : ∃ v, v = lastI xs j n := ⟨_, rfl⟩
  rw [← hv]
  refine pure_eq h (by simp) rfl ?_
  have r2 : rngOk n = true := by simp [rngOk]; omega
  unfold Sh.l_last; rw [W_fn]; unfold Sh.l_last_b
  have e0 : rngD 0 n = (List.range n).map fun (k : Nat) => D.int (k : Int) := by
    have := rngD_drop 0 n (by omega)
    simpa using this
  simp [-List.getD_eq_getElem?_getD, r2, wipeD, e0]
  refine W_lcMap (List.range n) (fun (k : Nat) => D.int (k : Int)) (fun k => isJ xs j k) (fun (k : Nat) => D.int (k : Int)) _ (by simp [big]; omega) (fun k hk => ⟨_, rfl, ?_⟩) ?_
  · have hk := List.mem_range.mp hk
    have e1 := recL_at (ms := ms) (xs := xs) (at_ := k) (by omega)
    have e2 : ∀ h (PD : D → OH → Prop), (opIx (recD ms xs) (.int k) h).W PD = PD (dN (nmM ms (xs.getD k none))) h := fun h PD => by
      rw [recD, W_ixL, e1]
      rfl
    unfold isJ
    cases ex : xs.getD k none with
    | none =>
      have := fun h (PD : D → OH → Prop) => W_eqNS2 s1 h (PD := PD)
      simp [-List.getD_eq_getElem?_getD, e2, ex, nmM, dN, this]
    | some k2 =>
      have hk2 := getD_hx r k k2 ex
      have s2 := okNm (r.w.nm _ (List.mem_of_getElem? (mb_at hk2)))
      have eb := nmj hk2
      simp [-List.getD_eq_getElem?_getD, e2, ex, nmM, dN, W_eqS _ _ _ _ s2 s1, eb]
  · rw [hv]
    unfold lastI atsL
    generalize (List.range n).filter (isJ xs j) = L
    cases q : L.getLast? with
    | none =>
      have : L = [] := by simpa using q
      subst this
      simp
    | some i =>
      obtain ⟨L', rfl⟩ : ∃ L', L = L' ++ [i] := by
        obtain ⟨L', e⟩ := List.getLast?_eq_some_iff.mp q
        exact ⟨L', e⟩
      simp [atI_last]
/-- _law_goes_on -/
theorem goesOn_ok (r : Rc ms xs) {j n : Nat} (hj : j < ms.length) (hn : n ≤ xs.length) (h : OH) : pureF Sh.l_goes_on [.dct (rkK ms), recD ms xs, .str (ms.getD j gMb).1, .int n] h = .ok (.bl (goes (rkM ms) xs j n)) h := by
  have hl := r.hl
  refine pure_eq h (by simp [rkK_pure]) rfl ?_
  have lo := last_ok r hj hn
  have lt := lastI_lt (w := xs) j n
  have gj := rkK_get r.w hj
  unfold Sh.l_goes_on; rw [W_fn]; unfold Sh.l_goes_on_b
  generalize pureF Sh.l_last = LO at lo ⊢
  refine SW_seqK fun K hK => ?_
  simp [-List.getD_eq_getElem?_getD] at lo ⊢
  simp [-List.getD_eq_getElem?_getD, lo]
  refine hK _ _ ?_
  clear hK K
  obtain ⟨a, ha⟩ : ∃ a : Nat, lastI xs j n + 1 = (a : Int) := ⟨(lastI xs j n + 1).toNat, by omega⟩
  have han : a ≤ n := by omega
  have r1 : rngOk a = true := by simp [rngOk]; omega
  have r2 : rngOk n = true := by simp [rngOk]; omega
  have en : ((n : Int) - a).toNat = n - a := by omega
  refine SW_seqK fun K hK => ?_
  simp [-List.map_drop, -List.getD_eq_getElem?_getD, ha, r1, r2, en, rngD_drop a n han]
  refine W_forL (fun i e h' => h' = [] ∧ (((List.range n).drop a).take i).all (fun k => !isC (spkR (rkM ms) xs k) (rkM ms j)) = true ∧ ∃ c : Option D, e = [some (.dct (rkK ms)), some (recD ms xs), some (.str (ms.getD j gMb).1), some (.int n), some (.int (lastI xs j n)), c]) _ _ _ ⟨rfl, by simp, _, rfl⟩ (fun i d hd e h' hI => ?_) (fun e h' hI => ?_)
  · obtain ⟨rfl, hall, c, rfl⟩ := hI
    rw [List.getElem?_map, Option.map_eq_some_iff] at hd
    obtain ⟨k, hk, rfl⟩ := hd
    have hk1 := List.mem_range.mp (List.mem_of_mem_drop (List.mem_of_getElem? hk))
    have e1 := recL_at (ms := ms) (xs := xs) (at_ := k) (by omega)
    have e2 : ∀ h (PD : D → OH → Prop), (opIx (recD ms xs) (.int k) h).W PD = PD (dN (nmM ms (xs.getD k none))) h := fun h PD => by
      rw [recD, W_ixL, e1]
      rfl
    have tk : ((List.range n).drop a).take (i + 1) = ((List.range n).drop a).take i ++ [k] := by rw [List.take_succ, hk]; rfl
    have tot : goes (rkM ms) xs j n = (decide (0 ≤ lastI xs j n) && ((List.range n).drop a).all fun k => !isC (spkR (rkM ms) xs k) (rkM ms j)) := by
      unfold goes
      rw [ha, Int.toNat_natCast]
    have no : isC (spkR (rkM ms) xs k) (rkM ms j) = true → goes (rkM ms) xs j n = false := fun z => by
      rw [tot]
      have : (((List.range n).drop a).all fun k => !isC (spkR (rkM ms) xs k) (rkM ms j)) = false := by
        rw [List.all_eq_false]
        exact ⟨k, List.mem_of_getElem? hk, by simp [z]⟩
      rw [this, Bool.and_false]
    refine ⟨_, rfl, ?_⟩
    cases ex : xs.getD k none with
    | none =>
      have z : isC (spkR (rkM ms) xs k) (rkM ms j) = true := by unfold spkR; rw [ex]; rfl
      simp [-List.getD_eq_getElem?_getD, e2, ex, nmM, dN, no z]
    | some k2 =>
      have hk2 := getD_hx r k k2 ex
      have g := rkK_get r.w hk2
      have z : isC (spkR (rkM ms) xs k) (rkM ms j) = decide (rkM ms j ≤ rkM ms k2) := by unfold spkR; rw [ex]; rfl
      by_cases q : rkM ms j ≤ rkM ms k2
      · simp [-List.getD_eq_getElem?_getD, e2, ex, nmM, dN, W_ixK (keyD_str _) g, W_ixK (keyD_str _) gj, q, no (by rw [z]; exact decide_eq_true q)]
      · simp [-List.getD_eq_getElem?_getD, e2, ex, nmM, dN, W_ixK (keyD_str _) g, W_ixK (keyD_str _) gj, q]
        have fin : (((List.range n).drop a).take (i + 1)).all (fun k => !isC (spkR (rkM ms) xs k) (rkM ms j)) = true := by
          rw [tk, List.all_append, hall]
          simp [z, q]
        simpa using fin
  · obtain ⟨rfl, hall, c, rfl⟩ := hI
    refine hK _ _ ?_
    clear hK K
    rw [List.take_of_length_le (by simp)] at hall
    have tot : goes (rkM ms) xs j n = decide (0 ≤ lastI xs j n) := by
      unfold goes
      rw [ha, Int.toNat_natCast, hall, Bool.and_true]
    rw [tot]
    simp
end
end HR
set_option Elab.async false
set_option linter.all false
set_option maxRecDepth 20000
set_option exponentiation.threshold 5000
set_option Elab.async false
set_option linter.all false
set_option maxRecDepth 20000
set_option exponentiation.threshold 5000
namespace HR
open PySem L2
section
variable {ms : List (Str × Int)} {xs : List (Option Nat)} {h : OH}
theorem rngD0 (n : Nat) : rngD 0 n = (List.range n).map fun (k : Nat) => D.int (k : Int) := by
  have := rngD_drop 0 n (by omega)
  simpa using this
end
end HR
set_option Elab.async false
set_option linter.all false
set_option maxRecDepth 20000
set_option exponentiation.threshold 5000
namespace HR
open PySem L2
section
variable {ms : List (Str × Int)} {xs : List (Option Nat)} {h : OH}
theorem rkDict (w : WfM ms) : (lsqAt h (.lst (ms.map fun m => D.tup [.str m.1, .int m.2]))).bind pairsK = some (rkK ms) := by
  have key : ∀ l : List (Str × Int), pairsK (l.map fun m => D.tup [.str m.1, .int m.2]) = some (rkK l) := by
    intro l
    induction l with
    | nil => rfl
    | cons m l ih => simp [pairsK, pairK, ih, rkK]
  simp [lsqAt, seqAt, key]
end
end HR
set_option Elab.async false
set_option linter.all false
set_option maxRecDepth 20000
set_option exponentiation.threshold 5000
namespace HR
open PySem L2
/-! ### the stream of the laws 70 and on: draw, talks, halls -/
def Spr4 (h : OH) (i : Nat) : Prop := ∃ a b : Int, h[i]? = some (.lst [.int a, .int b]) ∧ 0 ≤ b ∧ b < 2147483647
theorem Spr4.lt {h : OH} {i : Nat} (s : Spr4 h i) : i < h.length := by
  obtain ⟨a, b, e, _⟩ := s
  exact (List.getElem?_eq_some_iff.mp e).1
theorem Spr4.app {h : OH} {i : Nat} (s : Spr4 h i) (t : OH) : Spr4 (h ++ t) i := by
  have := s.lt
  obtain ⟨a, b, e, r⟩ := s
  exact ⟨a, b, by rw [List.getElem?_append_left this]; exact e, r⟩
theorem Spr4.set {h : OH} {i j : Nat} (s : Spr4 h i) (n : j ≠ i) (o : OO) : Spr4 (h.set j o) i := by
  obtain ⟨a, b, e, r⟩ := s
  exact ⟨a, b, by rw [List.getElem?_set_ne n]; exact e, r⟩
end HR
set_option Elab.async false
set_option linter.all false
set_option maxRecDepth 20000
set_option exponentiation.threshold 5000
set_option Elab.async false
set_option linter.all false
set_option maxRecDepth 20000
set_option exponentiation.threshold 5000
namespace HR
open PySem L2
/-! ### law k73: the helpers of the law -/
section
variable {ms : List (Str × Int)} {xs : List (Option Nat)} {ts : List Tk} {t : Tk}
theorem Rc.sub (r : Rc ms xs) {ys : List (Option Nat)} (h1 : ∀ y ∈ ys, y ∈ xs) (h2 : ys.length ≤ xs.length) : Rc ms ys := ⟨r.w, fun y hy => r.hx y (h1 y hy), Nat.le_trans h2 r.hl⟩
theorem Rc.take (r : Rc ms xs) (n : Nat) : Rc ms (xs.take n) := r.sub (fun y hy => List.mem_of_mem_take hy) (by simp; omega)
end
end HR
set_option Elab.async false
set_option linter.all false
set_option maxRecDepth 20000
set_option exponentiation.threshold 5000
set_option Elab.async false
set_option linter.all false
set_option maxRecDepth 20000
set_option exponentiation.threshold 5000
namespace HR
open PySem L2
section
variable {ms : List (Str × Int)} {xs : List (Option Nat)} {h : OH} {i c : Nat} {ns : List Int}
theorem mul1 (x : D) {k : Int} (k0 : 0 ≤ k) (k1 : k ≤ 2) (h : OH) {PD : D → OH → Prop} : (opMul (.lst [x]) (.int k) h).W PD = PD (.lst (List.replicate k.toNat x)) h := by
  have e : (List.replicate k.toNat [x]).flatten = List.replicate k.toNat x := by
    induction k.toNat with
    | zero => rfl
    | succ n ih => rw [List.replicate_succ, List.flatten_cons, ih]; rfl
  have a : -(2 ^ 63) ≤ k ∧ k < 2 ^ 63 ∧ ([x] : List D).length * k.toNat ≤ big := by
    refine ⟨by omega, by omega, ?_⟩
    simp [big]; omega
  have : opMul (.lst [x]) (.int k) h = .ok (.lst (List.replicate k.toNat x)) h := by
    show (match lstAt h (.lst [x]) with
    | some xs => if -(2 ^ 63) ≤ k ∧ k < 2 ^ 63 ∧ xs.length * k.toNat ≤ big then Res.ok (D.lst (List.replicate k.toNat xs).flatten) h else .bad
    | none => .bad) = _
    rw [show lstAt h (.lst [x]) = some [x] from rfl]
    dsimp only
    rw [if_pos a, e]
  rw [this]; rfl
theorem popLast {i : Nat} {l : List D} {x : D} {h : OH} {PD : D → OH → Prop} : (gPop i (l ++ [x]) [] h).W PD = PD x (h.set i (.lst l)) := by
  have e : (l ++ [x])[(l ++ [x]).length - 1]? = some x := by simp
  have : gPop i (l ++ [x]) [] h = .ok x (h.set i (.lst l)) := by
    show (match (l ++ [x])[(l ++ [x]).length - 1]? with
    | some y => Res.ok y (h.set i (.lst (l ++ [x]).dropLast))
    | none => .bad) = _
    rw [e]
    simp
  rw [this]; rfl
theorem snapMb (get : Nat → Option (List D)) : ∀ l : List (Str × Int), snapGL get (l.map dMb) = some (l.map dMb)
  | [] => rfl
  | p :: ts => by simp [snapGL, snapG, dMb, snapMb get ts]
theorem snapN (get : Nat → Option (List D)) : ∀ l : List (Option Str), snapGL get (l.map dN) = some (l.map dN)
  | [] => rfl
  | none :: ts => by simp [snapGL, snapG, dN, snapN get ts]
  | some x :: ts => by simp [snapGL, snapG, dN, snapN get ts]
theorem flat_dFlt (o : Option (Nat × Bool)) : flatT (dFlt o) = true := by
  cases o with
  | none => rfl
  | some p => obtain ⟨t, kd⟩ := p; cases kd <;> rfl
theorem lendFault (r : Rc ms xs) {j : Nat} (g : h[j]? = some (.lst ((xs.map (nmM ms)).map dN))) : lendF Sh.fault_of [.lst (ms.map dMb), .ref j] h = .ok (dFlt (endRd (rkM ms) xs 0 S0).1) h := by
  have q0 := faultOf r []
  unfold pureF at q0
  rw [if_pos (by simp)] at q0
  have e : snapGL (snapGet h 5) [.lst (ms.map dMb), .ref j] = some [.lst (ms.map dMb), recD ms xs] := by
    have e1 : snapGet h 5 j = some ((xs.map (nmM ms)).map dN) := by
      show (match h[j]? with | some (.lst xs) => snapGL (snapGet h 4) xs | _ => none) = _
      rw [g]
      exact snapN _ _
    simp [-List.map_map, snapGL, snapG, snapMb, e1, recD]
  unfold lendF
  rw [e]
  dsimp only
  cases r : Sh.fault_of [.lst (ms.map dMb), recD ms xs] [] with
  | ok d h1 =>
    rw [r] at q0
    dsimp only at q0
    split at q0
    · cases q0
      dsimp only
      rw [if_pos (flat_dFlt _)]
    · cases q0
  | exc C p h1 =>
    rw [r] at q0
    cases p with
    | none => cases q0
    | some z =>
      dsimp only at q0
      split at q0 <;> cases q0
  | bad => rw [r] at q0; cases q0
end
end HR
set_option Elab.async false
set_option linter.all false
set_option maxRecDepth 20000
set_option exponentiation.threshold 5000
namespace HR
open PySem L2
/-! ### law k45: what a prefix tells stays right -/
section
variable {rk : Nat → Int}
/-- the talks L go on from those of o -/
def ExtO (o : Ob) (L : List (Int × Int)) : Prop := ∃ rest, match o.cur with
  | none => L = o.done ++ rest
  | some p => ∃ p' : Int × Int, p'.1 = p.1 ∧ p.2 ≤ p'.2 ∧ L = o.done ++ [p'] ++ rest
def PfO (o o2 : Ob) : Prop := (∃ p p' : Int × Int, o.cur = some p ∧ o2.cur = some p' ∧ o2.done = o.done ∧ p'.1 = p.1 ∧ p.2 ≤ p'.2) ∨ ExtO o o2.done
theorem ExtO.app {o : Ob} {L M : List (Int × Int)} (e : ExtO o L) : ExtO o (L ++ M) := by
  obtain ⟨rest, e⟩ := e
  refine ⟨rest ++ M, ?_⟩
  cases h : o.cur with
  | none => rw [h] at e; dsimp only at e ⊢; rw [e, List.append_assoc]
  | some p =>
    rw [h] at e
    obtain ⟨p', a, b, c⟩ := e
    exact ⟨p', a, b, by rw [c]; simp⟩
theorem PfO.ext {o o2 : Ob} (f : PfO o o2) : ExtO o o2.tk := by
  rcases f with ⟨p, p', a, b, c, d, e⟩ | f
  · refine ⟨[], ?_⟩
    rw [a]
    exact ⟨p', d, e, by simp [Ob.tk, b, c]⟩
  · exact f.app
theorem PfO.refl (o : Ob) : PfO o o := by
  cases h : o.cur with
  | none =>
    right
    refine ⟨[], ?_⟩
    rw [h]
    simp
  | some p => left; exact ⟨p, p, h, h, rfl, rfl, Int.le_refl _⟩
theorem PfO.pass {o o2 : Ob} (f : PfO o o2) (rs : Option Int) (r : Int) : PfO o (passO rs r o2) := by
  unfold passO
  cases c : isC rs r with
  | true =>
    right
    simpa using f.ext
  | false =>
    rcases f with ⟨p, p', a, b, c, d, e⟩ | f
    · left; exact ⟨p, p', a, by simpa using b, by simpa using c, d, e⟩
    · right; simpa using f
theorem PfO.speak {o o2 : Ob} (f : PfO o o2) : PfO o (speakO o2) := by
  rcases f with ⟨p, p', a, b, c, d, e⟩ | f
  · left
    refine ⟨p, (p'.1, p'.2 + 1), a, ?_, ?_, d, by dsimp only; omega⟩
    · unfold speakO; rw [b]
    · unfold speakO; rw [b]; exact c
  · right
    unfold speakO
    split <;> exact f
theorem PfO.step {o : Ob} {S : RdS} {j : Nat} (f : PfO o (S.obs j)) (x : Option Nat) : PfO o ((stepRd rk x S).obs j) := by
  cases x with
  | none => exact f.pass _ _
  | some k =>
    by_cases e : j = k
    · simp only [stepRd, if_pos e]; exact f.speak
    · simp only [stepRd, if_neg e]; exact f.pass _ _
theorem PfO.run {o : Ob} {j : Nat} : ∀ (ys : List (Option Nat)) {S : RdS}, PfO o (S.obs j) → PfO o ((runRd rk ys S).obs j)
  | [], _, f => f
  | y :: ys, _, f => PfO.run ys (f.step y)
end
end HR
set_option Elab.async false
set_option linter.all false
set_option maxRecDepth 20000
set_option exponentiation.threshold 5000
set_option Elab.async false
set_option linter.all false
set_option maxRecDepth 20000
set_option exponentiation.threshold 5000
namespace HR
open PySem L2
/-! ### members and records, as lists and tuples -/
def sqV (t : Bool) (xs : List D) : D := if t then .tup xs else .lst xs
section
variable {ms : List (Str × Int)} {xs : List (Option Nat)}
def mvL (f : Nat → Bool) (ms : List (Str × Int)) : List D := (List.range ms.length).map fun j => mbV (f j) (ms.getD j gMb)
def mvD (t : Bool) (f : Nat → Bool) (ms : List (Str × Int)) : D := sqV t (mvL f ms)
def rvD (t : Bool) (ms : List (Str × Int)) (xs : List (Option Nat)) : D := sqV t ((xs.map (nmM ms)).map dN)
@[simp] theorem sqV_pure (t : Bool) (xs : List D) : (sqV t xs).pure = D.pureL xs := by cases t <;> simp [sqV]
@[simp] theorem mbV_pure (t : Bool) (m : Str × Int) : (mbV t m).pure = true := by cases t <;> rfl
@[simp] theorem mvL_pure (f : Nat → Bool) (ms : List (Str × Int)) : D.pureL (mvL f ms) = true := pureL_map _ (fun j => mbV_pure _ _) _
@[simp] theorem rvL_pure (xs : List (Option Str)) : D.pureL (xs.map dN) = true := pureL_map _ (fun x => by cases x <;> rfl) _
theorem mvL_len (f : Nat → Bool) (ms : List (Str × Int)) : (mvL f ms).length = ms.length := by simp [mvL]
theorem isMemberX (t : Bool) (m : Str × Int) (hn : WfN m.1) (h1 : 1 ≤ m.2) (h2 : m.2 ≤ 10) (h : OH) : pureF Sh.is_member [mbV t m] h = .ok (.bl true) h := by
  refine pure_eq h (by simp) rfl ?_
  unfold Sh.is_member; rw [W_fn]; unfold Sh.is_member_b
  cases t <;> simp [mbV, isname m.1 _ hn, h1, h2]
theorem map_getD (ms : List (Str × Int)) : (List.range ms.length).map (fun j => ms.getD j gMb) = ms := by
  refine List.ext_getElem? fun j => ?_
  by_cases hj : j < ms.length
  · simp [hj]
  · rw [List.getElem?_eq_none (by simp; omega), List.getElem?_eq_none (by omega)]
theorem map_nm (ms : List (Str × Int)) : (List.range ms.length).map (fun j => D.str (ms.getD j gMb).1) = (ms.map (·.1)).map D.str := by
  conv => rhs; rw [← map_getD ms]
  rw [List.map_map, List.map_map]
  rfl
theorem checkMembersX (w : WfM ms) (t : Bool) (f : Nat → Bool) (h : OH) : pureF Sh.check_members [mvD t f ms] h = .ok .non h := by
  refine pure_eq h (by simp [mvD]) rfl ?_
  have hl := w.len
  have l10 : ¬ (10 : Int) < ms.length := by omega
  have ll := mvL_len f ms
  have mem : ∀ j, j < ms.length → WfN (ms.getD j gMb).1 ∧ 1 ≤ (ms.getD j gMb).2 ∧ (ms.getD j gMb).2 ≤ 10 := fun j hj => ⟨w.nm _ (by simp [hj]), (w.rk _ (by simp [hj])).1, (w.rk _ (by simp [hj])).2⟩
  have e0 : ∀ (tt : Bool) (m : Str × Int) (PD : D → OH → Prop) (h : OH), (opIx (mbV tt m) (.int 0) h).W PD = PD (.str m.1) h := fun tt m PD h => by cases tt <;> simp [mbV]
  unfold Sh.check_members; rw [W_fn]; unfold Sh.check_members_b
  have im : ∀ (tt : Bool) (j : Nat), j < ms.length → ∀ h, pureF Sh.is_member [mbV tt (ms.getD j gMb)] h = .ok (.bl true) h := fun tt j hj h => isMemberX tt _ (mem j hj).1 (mem j hj).2.1 (mem j hj).2.2 h
  generalize pureF Sh.is_member = IM at im
  cases t <;>
  · simp [mvD, sqV, wipeD, ll, l10]
    refine W_lcMap1 (List.range ms.length) (fun j => mbV (f j) (ms.getD j gMb)) (fun _ => .bl true) [] (by simp [big]; omega) (fun j hj => ⟨_, rfl, ?_⟩) ?_
    · simp [-List.getD_eq_getElem?_getD, im _ j (List.mem_range.mp hj)]
    · rw [bs_mapF]; simp [sLenSet, wipeD]
      refine W_lcMap1 (List.range ms.length) (fun j => mbV (f j) (ms.getD j gMb)) (fun j => .str (ms.getD j gMb).1) [] (by simp [big]; omega) (fun j hj => ⟨_, rfl, ?_⟩) ?_
      · simp [-List.getD_eq_getElem?_getD, e0]
      · rw [map_nm]
        simp only [lsqAt, seqAt, Option.bind_some, keys_strs]
        have e2 : ((ms.map (·.1)).map (Sum.inr : Str → Key)).Nodup := by
          refine List.Pairwise.map _ (fun a b hab he => hab (Sum.inr.inj he)) w.nd
        rw [ddK_nodup _ [] e2 (by simp)]
        simp
        omega
theorem checkRecordX {xs : List (Option Str)} {ns : List Str} (hx : ∀ x ∈ xs, ∀ y, x = some y → y ∈ ns) (hl : xs.length ≤ 400) (t : Bool) (h : OH) : pureF Sh.check_record [sqV t (xs.map dN), .lst (ns.map D.str)] h = .ok .non h := by
  have pn : D.pureL (ns.map D.str) = true := pureL_map _ (fun _ => rfl) ns
  refine pure_eq h (by simp [pn]) rfl ?_
  have l400 : ¬ (400 : Int) < xs.length := by omega
  unfold Sh.check_record; rw [W_fn]; unfold Sh.check_record_b
  cases t <;>
  · simp [sqV, wipeD, l400]
    refine W_lcMap1 xs dN (fun _ => .bl true) [] (by simp [big]; omega) (fun x hx2 => ⟨_, rfl, ?_⟩) ?_
    · simp [isItem (hx x hx2)]
    · rw [bs_mapF]; simp
theorem enumAt_sq (t : Bool) (ds : List D) : enumAtX (sqV t ds) = some (enumD ds) := by cases t <;> rfl
theorem checkedReadingX (r : Rc ms xs) (t : Bool) (f : Nat → Bool) (u : Bool) (h : OH) {PD : D → OH → Prop} (q : ∀ h', RdIs ms h.length (endRd (rkM ms) xs 0 S0).2 (dFlt (endRd (rkM ms) xs 0 S0).1) h' → PD (.ref h.length) h') : (Sh.checked_reading [mvD t f ms, rvD u ms xs] h).W PD := by
  have hn := r.w.len
  have cr := fun h => checkRecordX (xs := xs.map (nmM ms)) (ns := ms.map (·.1)) (fun x hx => by
    obtain ⟨z, hz, rfl⟩ := List.mem_map.mp hx
    exact nmM_mem (r.hx z hz)) (by simpa using r.hl) u h
  have e0 : ∀ (tt : Bool) (m : Str × Int) (PD : D → OH → Prop) (h : OH), (opIx (mbV tt m) (.int 0) h).W PD = PD (.str m.1) h := fun tt m PD h => by cases tt <;> simp [mbV]
  unfold Sh.checked_reading; rw [W_fn]; unfold Sh.checked_reading_b
  refine SW_seqK fun K hK => ?_
  simp [checkMembersX r.w]
  refine hK _ _ ?_
  clear hK K
  refine SW_seqK fun K hK => ?_
  suffices hk : K [some (mvD t f ms), some (rvD u ms xs), none] h by
    have eu : sqV u ((xs.map (nmM ms)).map dN) = rvD u ms xs := rfl
    rw [eu] at cr
    generalize rvD u ms xs = RV at hk cr ⊢
    cases t <;>
    · simp [mvD, sqV, wipeD]
      refine W_lcMap1 (List.range ms.length) (fun j => mbV (f j) (ms.getD j gMb)) (fun j => .str (ms.getD j gMb).1) _ (by simp [big]; omega) (fun j hj => ⟨_, rfl, by simp [-List.getD_eq_getElem?_getD, e0]⟩) ?_
      rw [map_nm, cr]
      exact hk
  refine hK _ _ ?_
  clear hK K cr
  have := rd_init0 (h := h ++ [.ins "Reading" []]) (b := h.length) (MV := mvD t f ms) (RV := rvD u ms xs) (ds := mvL f ms) (ys := (xs.map (nmM ms)).map dN) r.w (enumAt_sq t _) (enumAt_sq u _) (mvL_len f ms) (fun j m e => ⟨f j, by
    have hj := (List.getElem?_eq_some_iff.mp e).1
    have := (List.getElem?_eq_some_iff.mp e).2
    simp [mvL, hj, this]⟩) (by simp) (fun t x e => by simp [e]) r.hx r.hl (by simp) (by simp) (PD := fun d h2 => match d with | .non => PD (.ref h.length) h2 | _ => False) fun h' R => q h' R
  simp
  exact this
theorem faultOfX (r : Rc ms xs) (t : Bool) (f : Nat → Bool) (u : Bool) (h : OH) : pureF Sh.fault_of [mvD t f ms, rvD u ms xs] h = .ok (dFlt (endRd (rkM ms) xs 0 S0).1) h := by
  refine pure_eq h (by simp [mvD, rvD, -List.map_map]) (dFlt_pure _) ?_
  unfold Sh.fault_of; rw [W_fn]; unfold Sh.fault_of_b
  simp
  refine checkedReadingX r t f u [] fun h' R => ?_
  have i1 : insAt h' (.ref 0) = _ := ins_ref R.rd
  simp [i1]
end
end HR
set_option Elab.async false
set_option linter.all false
set_option maxRecDepth 20000
set_option exponentiation.threshold 5000
namespace HR
open PySem L2
/-! ### schedules by the definitions, of an own record -/
section
variable {ms : List (Str × Int)} {xs : List (Option Nat)} {h : OH}
theorem snapRec {f : Nat} (g : h[f]? = some (.lst ((xs.map (nmM ms)).map dN))) : snapGL (snapGet h 5) [.lst (ms.map dMb), .ref f] = some [.lst (ms.map dMb), recD ms xs] := by
  have e1 : snapGet h 5 f = some ((xs.map (nmM ms)).map dN) := by
    show (match h[f]? with | some (.lst xs) => snapGL (snapGet h 4) xs | _ => none) = _
    rw [g]
    exact snapN _ _
  simp [-List.map_map, snapGL, snapG, snapMb, e1, recD]
end
end HR
set_option Elab.async false
set_option linter.all false
set_option maxRecDepth 20000
set_option exponentiation.threshold 5000
namespace HR
open PySem L2
/-! ### the law's own model of a hall: queues (maths) -/
section
variable {ts : List Tk} {S : RdS} {r : Nat → Rs}
/-- who waits to speak at rank q, in the order of the hall -/
def qI (ts : List Tk) (r : Nat → Rs) (q : Int) : List Nat := (List.range ts.length).filter fun j => (r j).b && decide (rkT ts j = q)
theorem qI_mem {q : Int} {j : Nat} : j ∈ qI ts r q ↔ j < ts.length ∧ (r j).b = true ∧ rkT ts j = q := by
  unfold qI
  rw [List.mem_filter, List.mem_range]
  simp
theorem filter_head {n k : Nat} {p : Nat → Bool} (hk : k < n) (pk : p k = true) (mn : ∀ j, j < n → p j = true → k ≤ j) : ∃ rest, (List.range n).filter p = k :: rest ∧ (List.range n).filter (fun j => p j && decide (j ≠ k)) = rest := by
  have e : List.range n = List.range k ++ k :: (List.range' (k + 1) (n - k - 1)) := by
    rw [List.range_eq_range', List.range_eq_range', show n = k + (1 + (n - k - 1)) by omega, ← List.range'_append_1]
    congr 1
    rw [show 0 + k = k by omega, show k + (1 + (n - k - 1)) - k - 1 = n - k - 1 by omega, show 1 + (n - k - 1) = (n - k - 1) + 1 by omega, List.range'_succ]
  have lo : (List.range k).filter p = [] := List.filter_eq_nil_iff.mpr fun j hj z => by
    have := List.mem_range.mp hj
    have := mn j (by omega) z
    omega
  refine ⟨(List.range' (k + 1) (n - k - 1)).filter p, ?_, ?_⟩
  · rw [e, List.filter_append, lo, List.filter_cons_of_pos pk]; rfl
  · rw [e, List.filter_append, List.filter_cons_of_neg (by simp)]
    have lo2 : (List.range k).filter (fun j => p j && decide (j ≠ k)) = [] := List.filter_eq_nil_iff.mpr fun j hj z => by
      have := List.mem_range.mp hj
      have := mn j (by omega) (by simp at z; exact z.1)
      omega
    rw [lo2, List.nil_append]
    refine List.filter_congr fun j hj => ?_
    have := (List.mem_range'_1.mp hj).1
    have ne : j ≠ k := by omega
    simp [ne]
theorem who_first (I : InvB ts S r) {k : Nat} (e : whoI ts r = some k) : k < ts.length ∧ (r k).b = true ∧ (∀ j, j < ts.length → (r j).b = true → rkT ts k ≤ rkT ts j) ∧ ∃ rest, qI ts r (rkT ts k) = k :: rest ∧ (List.range ts.length).filter (fun j => ((r j).b && decide (rkT ts j = rkT ts k)) && decide (j ≠ k)) = rest := by
  obtain ⟨h1, h2, h3, h4⟩ := choose_some e
  refine ⟨h1, h2, h3, filter_head h1 (by simp; exact h2) fun j hj pj => ?_⟩
  simp only [Bool.and_eq_true, decide_eq_true_eq] at pj
  rcases h4 with h4 | h4
  · have h4 : 0 < (r k).sp := by simpa using h4
    have sj := psi_sp (I.psi j hj)
    by_cases c : (r j).sp = 0
    · exact I.fr j k hj h1 pj.2 h4 pj.1 c
    · have := I.un j k hj h1 pj.2 (by omega) h4
      omega
  · exact (h4 j hj pj.1 pj.2).2
theorem who_no (e : whoI ts r = none) (q : Int) : qI ts r q = [] := by
  have := chooseG_none.mp e
  refine List.filter_eq_nil_iff.mpr fun j hj z => ?_
  have := this j hj
  simp at z
  rw [z.1] at this
  cases this
/-- waits at this tick -/
def wtI (ts : List Tk) (r : Nat → Rs) (j : Nat) : Bool := !(r j).b && (match whoI ts r with
  | none => true
  | some k => decide (rkT ts j < rkT ts k))
/-- once the first i have waited -/
def wrI (ts : List Tk) (r : Nat → Rs) (i j : Nat) : Rs := if decide (j < i) && wtI ts r j then waitR (ts.getD j gTk) (r j) else r j
/-- the queue once the first i have waited -/
def qW (ts : List Tk) (r : Nat → Rs) (i : Nat) (q : Int) : List Nat := qI ts r q ++ (List.range i).filter fun j => wtI ts r j && ((waitR (ts.getD j gTk) (r j)).b && decide (rkT ts j = q))
theorem qW_zero (q : Int) : qW ts r 0 q = qI ts r q := by simp [qW]
theorem qW_succ (i : Nat) (q : Int) : qW ts r (i + 1) q = qW ts r i q ++ (if wtI ts r i && ((waitR (ts.getD i gTk) (r i)).b && decide (rkT ts i = q)) then [i] else []) := by
  unfold qW
  rw [List.range_succ, List.filter_append, List.append_assoc]
  simp only [List.filter_cons, List.filter_nil]
theorem qW_end (q : Int) : qW ts r ts.length q = qI ts (wrI ts r ts.length) q := by
  unfold qW
  by_cases c : ∃ j, j < ts.length ∧ wtI ts r j = true ∧ rkT ts j = q
  · obtain ⟨j0, hj0, w0, e0⟩ := c
    have em : qI ts r q = [] := by
      unfold wtI at w0
      cases e : whoI ts r with
      | none => exact who_no e q
      | some k =>
        rw [e] at w0
        simp only [Bool.and_eq_true, decide_eq_true_eq] at w0
        obtain ⟨_, _, h3, _⟩ := choose_some e
        refine List.filter_eq_nil_iff.mpr fun j hj z => ?_
        simp at z
        have := h3 j (List.mem_range.mp hj) z.1
        omega
    rw [em, List.nil_append]
    unfold qI
    refine List.filter_congr fun j hj => ?_
    have hj := List.mem_range.mp hj
    unfold wrI
    by_cases w : wtI ts r j = true
    · simp [hj, w]
    · have nb : ¬ ((r j).b = true ∧ rkT ts j = q) := fun z => by
        have : j ∈ qI ts r q := qI_mem.mpr ⟨hj, z⟩
        rw [em] at this
        cases this
      have w : wtI ts r j = false := by simpa using w
      rw [w]
      symm
      simpa using nb
  · have nn : ((List.range ts.length).filter fun j => wtI ts r j && ((waitR (ts.getD j gTk) (r j)).b && decide (rkT ts j = q))) = [] := List.filter_eq_nil_iff.mpr fun j hj z => by
      simp only [Bool.and_eq_true, decide_eq_true_eq] at z
      exact c ⟨j, List.mem_range.mp hj, z.1, z.2.2⟩
    rw [nn, List.append_nil]
    unfold qI
    refine List.filter_congr fun j hj => ?_
    have hj := List.mem_range.mp hj
    unfold wrI
    by_cases w : wtI ts r j = true
    · have ne : rkT ts j ≠ q := fun z => c ⟨j, hj, w, z⟩
      simp [ne]
    · have w : wtI ts r j = false := by simpa using w
      simp [w]
theorem stepI_wr (j : Nat) (hj : j < ts.length) : stepI ts r j = match whoI ts r with
    | none => wrI ts r ts.length j
    | some k => if j = k then speakR (ts.getD j gTk) (r j) else wrI ts r ts.length j := by
  unfold stepI wrI wtI
  cases whoI ts r with
  | none =>
    dsimp only
    cases (r j).b <;> simp [hj]
  | some k =>
    dsimp only
    by_cases c : j = k
    · rw [if_pos c, if_pos c]
    · rw [if_neg c, if_neg c]
      simp [hj]
end
end HR
set_option Elab.async false
set_option linter.all false
set_option maxRecDepth 20000
set_option exponentiation.threshold 5000
namespace HR
open PySem L2
/-! ### the law's own model of a hall: its objects -/
def seatD (t : Tk) (r : Rs) (tot : Int) : List (Key × D) := [(.inr "name", .str t.name), (.inr "rank", .int t.rank), (.inr "prefix", .lst (t.pre.map dT)), (.inr "cycle", .lst (t.cyc.map dT)), (.inr "index", .int r.i), (.inr "waited", .int r.wt), (.inr "begun", .int r.sp), (.inr "ready", .bl r.b), (.inr "total", .int tot)]
def queD (b : Nat) : List (Key × D) := (List.range 10).map fun (q : Nat) => (.inl (1 + (q : Int)), .ref (b + q))
def modD (b n : Nat) (tick sil : Int) : List (Key × D) := [(.inr "tick", .int tick), (.inr "silent", .int sil), (.inr "all", .lst ((List.range n).map fun k => .ref (b + 10 + 2 * k))), (.inr "queues", .dct (queD b))]
section
variable {t : Tk} {r : Rs} {tot : Int}
theorem g_name : getK (seatD t r tot) (.inr "name") = some (.str t.name) := by rfl
theorem g_rank : getK (seatD t r tot) (.inr "rank") = some (.int t.rank) := by rfl
theorem g_prefix : getK (seatD t r tot) (.inr "prefix") = some (.lst (t.pre.map dT)) := by rfl
theorem g_cycle : getK (seatD t r tot) (.inr "cycle") = some (.lst (t.cyc.map dT)) := by rfl
theorem g_index : getK (seatD t r tot) (.inr "index") = some (.int r.i) := by rfl
theorem g_waited : getK (seatD t r tot) (.inr "waited") = some (.int r.wt) := by rfl
theorem g_begun : getK (seatD t r tot) (.inr "begun") = some (.int r.sp) := by rfl
theorem g_ready : getK (seatD t r tot) (.inr "ready") = some (.bl r.b) := by rfl
theorem g_total : getK (seatD t r tot) (.inr "total") = some (.int tot) := by rfl
theorem p_waited (v : Int) : putD (seatD t r tot) (.inr "waited") (.int v) = seatD t ⟨r.i, r.b, r.sp, v⟩ tot := by rfl
theorem p_ready (v : Bool) : putD (seatD t r tot) (.inr "ready") (.bl v) = seatD t ⟨r.i, v, r.sp, r.wt⟩ tot := by rfl
theorem p_begun (v : Int) : putD (seatD t r tot) (.inr "begun") (.int v) = seatD t ⟨r.i, r.b, v, r.wt⟩ tot := by rfl
theorem p_total (v : Int) : putD (seatD t r tot) (.inr "total") (.int v) = seatD t r v := by rfl
theorem m_reset (v : Nat) : mergeD (seatD t r tot) [(.inr "index", .int v), (.inr "waited", .int 0), (.inr "begun", .int 0), (.inr "ready", .bl false)] = seatD t ⟨v, false, 0, 0⟩ tot := by rfl
theorem m_seat : mergeD [(.inr "name", .str t.name), (.inr "rank", .int t.rank), (.inr "prefix", .lst (t.pre.map dT)), (.inr "cycle", .lst (t.cyc.map dT))] [(.inr "index", .int 0), (.inr "waited", .int 0), (.inr "begun", .int 0), (.inr "ready", .bl false), (.inr "total", .int 0)] = seatD t ⟨0, false, 0, 0⟩ 0 := by rfl
variable {b n : Nat} {tick sil : Int}
theorem g_tick : getK (modD b n tick sil) (.inr "tick") = some (.int tick) := by rfl
theorem g_silent : getK (modD b n tick sil) (.inr "silent") = some (.int sil) := by rfl
theorem g_all : getK (modD b n tick sil) (.inr "all") = some (.lst ((List.range n).map fun k => .ref (b + 10 + 2 * k))) := by rfl
theorem g_queues : getK (modD b n tick sil) (.inr "queues") = some (.dct (queD b)) := by rfl
theorem p_tick (v : Int) : putD (modD b n tick sil) (.inr "tick") (.int v) = modD b n v sil := by rfl
theorem p_silent (v : Int) : putD (modD b n tick sil) (.inr "silent") (.int v) = modD b n tick v := by rfl
theorem g_que {q : Nat} (hq : q < 10) : getK (queD b) (.inl (1 + (q : Int))) = some (.ref (b + q)) := by
  have h : q = 0 ∨ q = 1 ∨ q = 2 ∨ q = 3 ∨ q = 4 ∨ q = 5 ∨ q = 6 ∨ q = 7 ∨ q = 8 ∨ q = 9 := by omega
  rcases h with rfl | rfl | rfl | rfl | rfl | rfl | rfl | rfl | rfl | rfl <;> rfl
end
/-- the objects of the model stand from b on -/
structure MdIs (b : Nat) (ts : List Tk) (r : Nat → Rs) (tot : Nat → Int) (tick sil : Int) (h : OH) : Prop where
  seat : ∀ k, k < ts.length → h[b + 10 + 2 * k]? = some (.dct (seatD (ts.getD k gTk) (r k) (tot k)))
  que : ∀ q, q < 10 → h[b + q]? = some (.lst ((qI ts r (1 + (q : Int))).map fun k => D.str (ts.getD k gTk).name))
  mod : h[b + 10 + 2 * ts.length]? = some (.dct (modD b ts.length tick sil))
section
variable {ts : List Tk} {S : RdS} {r : Nat → Rs} {tot : Nat → Int} {tick sil : Int} {b : Nat} {h : OH}
theorem mdTalk {t : Tk} (w : WfTk T30 t) {s : Nat} {r : Rs} {tot : Int} (e : h[s]? = some (.dct (seatD t r tot))) {PD : D → OH → Prop} (q : PD (dT (nth t.pre t.cyc r.i)) h) : (Sh.l_talk [.ref s] h).W PD := by
  have d1 := fun k d (g : getK (seatD t r tot) k = some d) (kd : D) (ek : keyD kd = some k) (PD : D → OH → Prop) => W_ixD (PD := PD) (dctAt_ref e) ek g
  have i1 := d1 _ _ g_index (.str "index") rfl
  have i2 := d1 _ _ g_prefix (.str "prefix") rfl
  have i3 := d1 _ _ g_cycle (.str "cycle") rfl
  have lc := w.lc1
  unfold Sh.l_talk; rw [W_fn]; unfold Sh.l_talk_b
  refine SW_seqK fun K hK => ?_
  simp [i1, i2]
  refine hK _ _ ?_
  clear hK K
  by_cases c : r.i < t.pre.length
  · have c2 : (r.i : Int) - t.pre.length < 0 := by omega
    have at1 : atI (t.pre.map dT) (r.i : Int) = some (dT (nth t.pre t.cyc r.i)) := by
      rw [atI_z (by omega) (by simp; omega)]
      simp [nth, c]
    simp [c2, i1, i2, at1]
    exact q
  · have c2 : ¬ (r.i : Int) - t.pre.length < 0 := by omega
    have c3 : (0 : Int) < t.cyc.length := by omega
    have em : ((r.i : Int) - t.pre.length) % t.cyc.length = ((r.i - t.pre.length) % t.cyc.length : Nat) := by
      rw [show (r.i : Int) - t.pre.length = ((r.i - t.pre.length : Nat) : Int) by omega]
      rfl
    have lt : (r.i - t.pre.length) % t.cyc.length < t.cyc.length := Nat.mod_lt _ (by omega)
    have at1 : atI (t.cyc.map dT) (((r.i - t.pre.length) % t.cyc.length : Nat) : Int) = some (dT (nth t.pre t.cyc r.i)) := by
      rw [atI_z (by omega) (by simp only [List.length_map]; omega), Int.toNat_natCast]
      simp [nth, c, lt]
    have dv : divOk ((r.i : Int) - t.pre.length) t.cyc.length = true := divOk_small (small_64 (by have := w.lc; omega)) (by omega)
    simp [c2, i3, dv]
    rw [em, at1]
    simp
    exact ⟨by omega, q⟩
theorem mdFind (M : MdIs b ts r tot tick sil h) (nd : (ts.map (·.name)).Nodup) (wn : ∀ t ∈ ts, WfN t.name) (hl : ts.length ≤ 10) {k : Nat} (hk : k < ts.length) {PD : D → OH → Prop} (q : PD (.ref (b + 10 + 2 * k)) h) : (Sh.l_find [.ref (b + 10 + 2 * ts.length), .str (ts.getD k gTk).name] h).W PD := by
  have a1 := fun (PD : D → OH → Prop) => W_ixD (PD := PD) (dctAt_ref M.mod) (show keyD (.str "all") = some (.inr "all") from rfl) g_all
  have sk := okNm (wn _ (show ts.getD k gTk ∈ ts by simp [hk]))
  unfold Sh.l_find; rw [W_fn]; unfold Sh.l_find_b
  generalize hnm : (ts.getD k gTk).name = nm at sk ⊢
  simp [a1, wipeD]
  refine W_lcMap (List.range ts.length) (fun j => .ref (b + 10 + 2 * j)) (fun j => decide (j = k)) (fun j => .ref (b + 10 + 2 * j)) _ (by simp [big]; omega) (fun j hj => ⟨_, rfl, ?_⟩) ?_
  · have hj := List.mem_range.mp hj
    have n1 := fun (PD : D → OH → Prop) => W_ixD (PD := PD) (dctAt_ref (M.seat j hj)) (show keyD (.str "name") = some (.inr "name") from rfl) g_name
    have sj := okNm (wn _ (show ts.getD j gTk ∈ ts by simp [hj]))
    have eb : ((ts.getD j gTk).name == nm) = decide (j = k) := by
      rw [Bool.eq_iff_iff]
      simp only [beq_iff_eq, decide_eq_true_eq]
      rw [← hnm]
      exact ⟨fun z => name_ne nd hj hk z, fun z => by rw [z]⟩
    have eq1 := fun (PD : D → OH → Prop) => W_eqS (PD := PD) false (ts.getD j gTk).name nm h sj sk
    rw [eb] at eq1
    simp [-List.getD_eq_getElem?_getD, n1, eq1]
  · have ef : (List.range ts.length).filter (fun j => decide (j = k)) = [k] := by
      obtain ⟨rest, h1, h2⟩ := filter_head (p := fun j => decide (j = k)) hk (by simp) (fun j hj pj => by simp at pj; omega)
      rw [h1]
      congr 1
      rw [← h2]
      exact List.filter_eq_nil_iff.mpr fun j _ => by simp
    rw [ef]
    simp [atI]
    exact q
theorem nilRef {j : Nat} {xs : List D} (g : h[j]? = some (.lst xs)) (neg : Bool) {PD : D → OH → Prop} : (opNil neg (.ref j) (.lst []) h).W PD = PD (.bl (if neg then !xs.isEmpty else xs.isEmpty)) h := by
  simp [opNil, lsqAt, seqAt, g]
theorem mdFirst (M : MdIs b ts r tot tick sil h) (I : InvB ts S r) (w : WfHall T30 ts) {PD : D → OH → Prop} (q0 : whoI ts r = none → PD .non h) (q1 : ∀ k, whoI ts r = some k → PD (.ref (b + 10 + 2 * k)) h) : (Sh.l_first [.ref (b + 10 + 2 * ts.length)] h).W PD := by
  have a1 := fun (PD : D → OH → Prop) => W_ixD (PD := PD) (dctAt_ref M.mod) (show keyD (.str "queues") = some (.inr "queues") from rfl) g_queues
  have fd := fun {k : Nat} (hk : k < ts.length) {PD : D → OH → Prop} (q : PD (.ref (b + 10 + 2 * k)) h) => mdFind M w.nd (fun t ht => (w.tk t ht).name) w.len hk q
  unfold Sh.l_first; rw [W_fn]; unfold Sh.l_first_b
  generalize Sh.l_find = FD at fd ⊢
  refine SW_seqK fun K hK => ?_
  simp [wipeD, rngOk]
  have er : rngD 1 10 = (List.range 10).map fun (k : Nat) => D.int (1 + (k : Int)) := rfl
  rw [er]
  refine W_lcMap (List.range 10) (fun (k : Nat) => .int (1 + (k : Int))) (fun k => !(qI ts r (1 + (k : Int))).isEmpty) (fun k => .str (ts.getD ((qI ts r (1 + (k : Int))).headD 0) gTk).name) _ (by simp [big]) (fun k hk => ⟨_, rfl, ?_⟩) ?_
  · have hk := List.mem_range.mp hk
    have g2 := fun (PD : D → OH → Prop) => W_ixD (PD := PD) (dctAt_dct h (queD b)) (show keyD (.int (1 + (k : Int))) = some (.inl (1 + (k : Int))) from rfl) (g_que hk)
    have n1 := fun (PD : D → OH → Prop) => nilRef (PD := PD) (M.que k hk) true
    simp [a1, g2, n1]
    intro ne
    cases e : qI ts r (1 + (k : Int)) with
    | nil => exact absurd e ne
    | cons x rest =>
      have m := M.que k hk
      rw [e] at m
      simp [m, atI]
  · refine hK _ _ ?_
    clear hK K
    cases e : whoI ts r with
    | none =>
      rw [List.filter_eq_nil_iff.mpr fun k _ => by simp [who_no e]]
      simp
      exact q0 e
    | some k =>
      obtain ⟨h1, h2, h3, rest, h4, _⟩ := who_first I e
      have rk := (w.tk (ts.getD k gTk) (by simp [h1]))
      have r1 : 1 ≤ rkT ts k := rk.r1
      have r2 : rkT ts k ≤ 10 := rk.r2
      obtain ⟨q, hq, eq⟩ : ∃ q : Nat, q < 10 ∧ rkT ts k = 1 + (q : Int) := ⟨(rkT ts k - 1).toNat, by omega, by omega⟩
      obtain ⟨rest', e1, _⟩ := filter_head (n := 10) (k := q) (p := fun k => !(qI ts r (1 + (k : Int))).isEmpty) hq (by rw [← eq, h4]; rfl) (fun j hj pj => by
        cases em : qI ts r (1 + (j : Int)) with
        | nil => simp [em] at pj
        | cons m l =>
          have hm : m ∈ qI ts r (1 + (j : Int)) := by rw [em]; exact List.mem_cons_self
          obtain ⟨m1, m2, m3⟩ := qI_mem.mp hm
          have := h3 m m1 m2
          omega)
      rw [e1]
      have hd : (qI ts r (1 + (q : Int))).head?.getD 0 = k := by rw [← eq, h4]; rfl
      simp [-List.getD_eq_getElem?_getD, atI, hd]
      exact fd h1 (q1 k e)
end
end HR
set_option Elab.async false
set_option linter.all false
set_option maxRecDepth 20000
set_option exponentiation.threshold 5000
namespace HR
open PySem L2
/-! ### the law's own model of a hall: one tick -/
section
variable {ts : List Tk} {S : RdS} {r : Nat → Rs} {tot : Nat → Int} {tick sil : Int} {b : Nat} {h : OH}
/-- who speaks, as a value -/
def loudD (b : Nat) (ts : List Tk) (r : Nat → Rs) : D := match whoI ts r with
  | none => .non
  | some k => .ref (b + 10 + 2 * k)
theorem mdFirst' (M : MdIs b ts r tot tick sil h) (I : InvB ts S r) (w : WfHall T30 ts) {PD : D → OH → Prop} (q : PD (loudD b ts r) h) : (Sh.l_first [.ref (b + 10 + 2 * ts.length)] h).W PD :=
  mdFirst M I w (fun e => by simpa [loudD, e] using q) fun k e => by simpa [loudD, e] using q
/-- only the model's own objects are changed -/
def Frm (b n : Nat) (h h' : OH) : Prop := h.length ≤ h'.length ∧ ∀ j, j < h.length → (j < b ∨ b + 10 + 2 * n < j) → h'[j]? = h[j]?
theorem Frm.refl (b n : Nat) (h : OH) : Frm b n h h := ⟨Nat.le_refl _, fun _ _ _ => rfl⟩
theorem Frm.trans {b n : Nat} {h1 h2 h3 : OH} (x : Frm b n h1 h2) (y : Frm b n h2 h3) : Frm b n h1 h3 := ⟨Nat.le_trans x.1 y.1, fun j hj hn => (y.2 j (Nat.lt_of_lt_of_le hj x.1) hn).trans (x.2 j hj hn)⟩
theorem Frm.set {b n i : Nat} (h : OH) (h1 : b ≤ i) (h2 : i ≤ b + 10 + 2 * n) (o : OO) : Frm b n h (h.set i o) := ⟨by simp, fun j _ hn => by rw [List.getElem?_set_ne (by omega)]⟩
theorem Frm.app (b n : Nat) (h t : OH) : Frm b n h (h ++ t) := ⟨by simp, fun j hj _ => List.getElem?_append_left hj⟩
theorem Frm.get {b n : Nat} {h h' : OH} (f : Frm b n h h') {j : Nat} {o : OO} (e : h[j]? = some o) (hn : j < b ∨ b + 10 + 2 * n < j) : h'[j]? = some o := (f.2 j (List.getElem?_eq_some_iff.mp e).1 hn).trans e
/-- the model once the first i have waited -/
structure MdW (b : Nat) (ts : List Tk) (r : Nat → Rs) (tot : Nat → Int) (tick sil : Int) (i : Nat) (h : OH) : Prop where
  seat : ∀ k, k < ts.length → h[b + 10 + 2 * k]? = some (.dct (seatD (ts.getD k gTk) (wrI ts r i k) (tot k)))
  que : ∀ q, q < 10 → h[b + q]? = some (.lst ((qW ts r i (1 + (q : Int))).map fun k => D.str (ts.getD k gTk).name))
  mod : h[b + 10 + 2 * ts.length]? = some (.dct (modD b ts.length tick sil))
theorem MdW.zero (M : MdIs b ts r tot tick sil h) : MdW b ts r tot tick sil 0 h := by
  refine ⟨fun k hk => ?_, fun q hq => ?_, M.mod⟩
  · have := M.seat k hk
    simpa [wrI] using this
  · rw [qW_zero]; exact M.que q hq
theorem wr_self (i : Nat) : wrI ts r i i = r i := by simp [wrI]
theorem wr_succ_ne {i k : Nat} (n : k ≠ i) : wrI ts r (i + 1) k = wrI ts r i k := by
  unfold wrI
  have : decide (k < i + 1) = decide (k < i) := by simp; omega
  rw [this]
theorem wr_succ (i : Nat) : wrI ts r (i + 1) i = if wtI ts r i then waitR (ts.getD i gTk) (r i) else r i := by simp [wrI]
theorem MdW.skip {i : Nat} (M : MdW b ts r tot tick sil i h) (e : wtI ts r i = false) : MdW b ts r tot tick sil (i + 1) h := by
  refine ⟨fun k hk => ?_, fun q hq => ?_, M.mod⟩
  · rw [M.seat k hk]
    by_cases c : k = i
    · subst c; rw [wr_succ, wr_self, e]; rfl
    · rw [wr_succ_ne c]
  · rw [qW_succ, e]
    simpa using M.que q hq
theorem qW_len (i : Nat) (q : Int) : (qW ts r i q).length ≤ ts.length + i := by
  unfold qW qI
  rw [List.length_append]
  have h1 := List.length_filter_le (fun j => (r j).b && decide (rkT ts j = q)) (List.range ts.length)
  have h2 := List.length_filter_le (fun j => wtI ts r j && ((waitR (ts.getD j gTk) (r j)).b && decide (rkT ts j = q))) (List.range i)
  simp only [List.length_range] at h1 h2
  omega
/-- one more has waited -/
theorem MdW.step {i q : Nat} (M : MdW b ts r tot tick sil i h) (hi : i < ts.length) (e : wtI ts r i = true) (hq : q < 10) (eq : rkT ts i = 1 + (q : Int)) (o1 : OO) :
    MdW b ts r tot tick sil (i + 1) ((((h.set (b + 10 + 2 * i) o1).set (b + 10 + 2 * i) (.dct (seatD (ts.getD i gTk) (waitR (ts.getD i gTk) (r i)) (tot i)))).set (b + q) (.lst ((qW ts r (i + 1) (1 + (q : Int))).map fun k => D.str (ts.getD k gTk).name)))) := by
  refine ⟨fun k hk => ?_, fun p hp => ?_, ?_⟩
  · rw [List.getElem?_set_ne (by omega)]
    by_cases c : k = i
    · subst c
      have := (List.getElem?_eq_some_iff.mp (M.seat k hk)).1
      rw [List.getElem?_set_self (by simpa using this), wr_succ, e]
      rfl
    · rw [List.getElem?_set_ne (by omega), List.getElem?_set_ne (by omega), wr_succ_ne c]
      exact M.seat k hk
  · by_cases c : p = q
    · subst c
      have := (List.getElem?_eq_some_iff.mp (M.que p hp)).1
      rw [List.getElem?_set_self (by simpa using this)]
    · rw [List.getElem?_set_ne (by omega), List.getElem?_set_ne (by omega), List.getElem?_set_ne (by omega), M.que p hp, qW_succ]
      have : decide (rkT ts i = 1 + (p : Int)) = false := by simp; omega
      simp [this]
  · rw [List.getElem?_set_ne (by omega), List.getElem?_set_ne (by omega), List.getElem?_set_ne (by omega)]
    exact M.mod
/-- what is read of a seat -/
structure SeatR (h : OH) (s : Nat) (t : Tk) (r : Rs) (tot : Int) : Prop where
  nm : ∀ PD : D → OH → Prop, (opIxD (.ref s) (.str "name") h).W PD = PD (.str t.name) h
  rk : ∀ PD : D → OH → Prop, (opIxD (.ref s) (.str "rank") h).W PD = PD (.int t.rank) h
  ix : ∀ PD : D → OH → Prop, (opIxD (.ref s) (.str "index") h).W PD = PD (.int r.i) h
  wt : ∀ PD : D → OH → Prop, (opIxD (.ref s) (.str "waited") h).W PD = PD (.int r.wt) h
  bg : ∀ PD : D → OH → Prop, (opIxD (.ref s) (.str "begun") h).W PD = PD (.int r.sp) h
  rd : ∀ PD : D → OH → Prop, (opIxD (.ref s) (.str "ready") h).W PD = PD (.bl r.b) h
  tt : ∀ PD : D → OH → Prop, (opIxD (.ref s) (.str "total") h).W PD = PD (.int tot) h
theorem seatR {s : Nat} {t : Tk} {r : Rs} {tot : Int} (e : h[s]? = some (.dct (seatD t r tot))) : SeatR h s t r tot :=
  ⟨fun PD => W_ixD (dctAt_ref e) (show keyD (.str "name") = some (.inr "name") from rfl) g_name,
   fun PD => W_ixD (dctAt_ref e) (show keyD (.str "rank") = some (.inr "rank") from rfl) g_rank,
   fun PD => W_ixD (dctAt_ref e) (show keyD (.str "index") = some (.inr "index") from rfl) g_index,
   fun PD => W_ixD (dctAt_ref e) (show keyD (.str "waited") = some (.inr "waited") from rfl) g_waited,
   fun PD => W_ixD (dctAt_ref e) (show keyD (.str "begun") = some (.inr "begun") from rfl) g_begun,
   fun PD => W_ixD (dctAt_ref e) (show keyD (.str "ready") = some (.inr "ready") from rfl) g_ready,
   fun PD => W_ixD (dctAt_ref e) (show keyD (.str "total") = some (.inr "total") from rfl) g_total⟩
/-- does one wait -/
theorem mdCond {i : Nat} (M : MdW b ts r tot tick sil i h) (hi : i < ts.length) (a : D) {P : Bool → OH → Prop} : (sAnd (sNot (sTest (sBin opIxD (sVar 2) (sC (.str "ready"))))) (sOr (sTest (sBin (opIs false) (sVar 1) (sC .non))) (sTest (sBin opGt (sBin opIxD (sVar 1) (sC (.str "rank"))) (sBin opIxD (sVar 2) (sC (.str "rank")))))) [some a, some (loudD b ts r), some (.ref (b + 10 + 2 * i))] h).W P = P (wtI ts r i) h := by
  have R := seatR (M.seat i hi)
  rw [wr_self] at R
  cases e : whoI ts r with
  | none =>
    cases c : (r i).b <;> simp [-List.getD_eq_getElem?_getD, R.rd, R.rk, loudD, e, wtI, c]
  | some k =>
    have hk := (choose_some e).1
    have R2 := seatR (M.seat k hk)
    cases c : (r i).b <;> simp [-List.getD_eq_getElem?_getD, R.rd, R.rk, R2.rk, loudD, e, wtI, c, W_isR, rkT]
    exact iff_of_eq (by congr)
/-- once all have waited -/
theorem wr_who {k : Nat} (e : whoI ts r = some k) : wrI ts r ts.length k = r k := by
  obtain ⟨_, h2, _⟩ := choose_some e
  simp [wrI, wtI, h2]
theorem wt_rank {k j : Nat} (e : whoI ts r = some k) (er : rkT ts j = rkT ts k) : wtI ts r j = false := by
  simp [wtI, e, er]
theorem qW_who {k : Nat} (e : whoI ts r = some k) : qW ts r ts.length (rkT ts k) = qI ts r (rkT ts k) := by
  unfold qW
  rw [List.filter_eq_nil_iff.mpr fun j _ z => ?_, List.append_nil]
  simp only [Bool.and_eq_true, decide_eq_true_eq] at z
  rw [wt_rank e z.2.2] at z
  cases z.1
/-- the queues after a tick -/
theorem q_none (e : whoI ts r = none) (q : Int) : qI ts (stepI ts r) q = qW ts r ts.length q := by
  rw [qW_end]
  unfold qI
  refine List.filter_congr fun j hj => ?_
  rw [stepI_wr j (List.mem_range.mp hj), e]
theorem q_some {k : Nat} (e : whoI ts r = some k) (q : Int) (h : q ≠ rkT ts k ∨ (speakR (ts.getD k gTk) (r k)).b = true) : qI ts (stepI ts r) q = qW ts r ts.length q := by
  rw [qW_end]
  unfold qI
  refine List.filter_congr fun j hj => ?_
  rw [stepI_wr j (List.mem_range.mp hj), e]
  dsimp only
  by_cases c : j = k
  · subst c
    rw [if_pos rfl, wr_who e, (choose_some e).2.1]
    rcases h with h | h
    · have : decide (rkT ts j = q) = false := by simp; exact fun z => h z.symm
      rw [this, Bool.and_false, Bool.and_false]
    · rw [h]
  · rw [if_neg c]
theorem q_gone (I : InvB ts S r) {k : Nat} (e : whoI ts r = some k) (h : (speakR (ts.getD k gTk) (r k)).b = false) : qW ts r ts.length (rkT ts k) = k :: qI ts (stepI ts r) (rkT ts k) := by
  obtain ⟨h1, h2, h3, rest, h4, h5⟩ := who_first I e
  rw [qW_who e, h4, ← h5]
  congr 1
  unfold qI
  refine List.filter_congr fun j hj => ?_
  rw [stepI_wr j (List.mem_range.mp hj), e]
  dsimp only
  by_cases c : j = k
  · subst c
    simp [-List.getD_eq_getElem?_getD, h]
  · rw [if_neg c]
    by_cases er : rkT ts j = rkT ts k
    · have : wrI ts r ts.length j = r j := by simp [wrI, wt_rank e er]
      rw [this]
      simp [c]
    · simp [er]
theorem mdPass (M : MdIs b ts r tot tick sil h) (I : InvB ts S r) (w : WfHall T30 ts) {PD : D → OH → Prop}
    (q : ∀ tot' h', MdIs b ts (stepI ts r) tot' (tick + 1) (sil + if (whoI ts r).isNone then 1 else 0) h' → Frm b ts.length h h' → PD .non h') : (Sh.l_pass [.ref (b + 10 + 2 * ts.length)] h).W PD := by
  have lf := fun {PD : D → OH → Prop} => mdFirst' (PD := PD) M I w
  have hl := w.len
  have a1 := fun (PD : D → OH → Prop) => W_ixD (PD := PD) (dctAt_ref M.mod) (show keyD (.str "all") = some (.inr "all") from rfl) g_all
  have tkOk : ∀ {k : Nat}, k < ts.length → WfTk T30 (ts.getD k gTk) := fun {k} hk => w.tk _ (by simp [hk])
  unfold Sh.l_pass; rw [W_fn]; unfold Sh.l_pass_b
  generalize Sh.l_first = LF at lf
  have tk := fun {t : Tk} (w : WfTk T30 t) {s : Nat} {r : Rs} {tot : Int} {h : OH} (e : h[s]? = some (.dct (seatD t r tot))) (PD : D → OH → Prop) (q : PD (dT (nth t.pre t.cyc r.i)) h) => mdTalk (PD := PD) w e q
  generalize Sh.l_talk = TK at tk
  refine SW_seqK fun K hK => ?_
  simp
  refine lf ?_
  refine hK _ _ ?_
  clear hK K lf
  refine SW_seqK fun K hK => ?_
  simp [a1]
  refine W_forL (fun i e h' => (∃ o, e = [some (.ref (b + 10 + 2 * ts.length)), some (loudD b ts r), o]) ∧ MdW b ts r tot tick sil i h' ∧ Frm b ts.length h h') _ _ _ ⟨⟨_, rfl⟩, MdW.zero M, Frm.refl _ _ _⟩ (fun i d hd e h' hI => ?_) (fun e h' hI => ?_)
  · obtain ⟨⟨o, rfl⟩, W, F⟩ := hI
    rw [List.getElem?_map, Option.map_eq_some_iff] at hd
    obtain ⟨i', hi', rfl⟩ := hd
    obtain ⟨hi, rfl⟩ : i < ts.length ∧ i' = i := by
      have := List.getElem?_eq_some_iff.mp hi'
      obtain ⟨h1, h2⟩ := this
      simp at h1 h2
      exact ⟨h1, h2.symm⟩
    refine ⟨_, rfl, ?_⟩
    rw [SW_if]
    refine (mdCond W hi _).mpr ?_
    cases c : wtI ts r i' with
    | false =>
      simp
      exact ⟨MdW.skip W c, F⟩
    | true =>
      simp only [if_true]
      have R := seatR (W.seat i' hi)
      rw [wr_self] at R
      refine SW_seqK fun K2 hK2 => ?_
      simp [R.wt]
      have es := W.seat i' hi
      rw [wr_self] at es
      have sl := (List.getElem?_eq_some_iff.mp es).1
      rw [es, lkD_dct, p_waited]
      refine ⟨(by decide : (9 : Nat) < big), hK2 _ _ ?_⟩
      clear hK2 K2
      have e1 : (h'.set (b + 10 + 2 * i') (.dct (seatD (ts.getD i' gTk) ⟨(r i').i, (r i').b, (r i').sp, (r i').wt + 1⟩ (tot i'))))[b + 10 + 2 * i']? = some (.dct (seatD (ts.getD i' gTk) ⟨(r i').i, (r i').b, (r i').sp, (r i').wt + 1⟩ (tot i'))) := by simp [sl]
      obtain ⟨h1, eh1⟩ : ∃ h1, h'.set (b + 10 + 2 * i') (.dct (seatD (ts.getD i' gTk) ⟨(r i').i, (r i').b, (r i').sp, (r i').wt + 1⟩ (tot i'))) = h1 := ⟨_, rfl⟩
      rw [eh1] at e1 ⊢
      have R1 := seatR e1
      refine SW_seqK fun K2 hK2 => ?_
      simp [R1.wt]
      refine tk (tkOk hi) e1 _ ?_
      simp [-List.getD_eq_getElem?_getD, dT]
      rw [e1, lkD_dct, p_ready]
      refine ⟨(by decide : (9 : Nat) < big), hK2 _ _ ?_⟩
      clear hK2 K2
      dsimp only
      have sl1 := (List.getElem?_eq_some_iff.mp e1).1
      have e2 : (h1.set (b + 10 + 2 * i') (.dct (seatD (ts.getD i' gTk) (waitR (ts.getD i' gTk) (r i')) (tot i'))))[b + 10 + 2 * i']? = some (.dct (seatD (ts.getD i' gTk) (waitR (ts.getD i' gTk) (r i')) (tot i'))) := by simp [sl1]
      have er : (⟨(r i').i, (r i').wt + 1 == (nth (ts.getD i' gTk).pre (ts.getD i' gTk).cyc (r i').i).1, (r i').sp, (r i').wt + 1⟩ : Rs) = waitR (ts.getD i' gTk) (r i') := rfl
      rw [er]
      obtain ⟨h2, eh2⟩ : ∃ h2, h1.set (b + 10 + 2 * i') (.dct (seatD (ts.getD i' gTk) (waitR (ts.getD i' gTk) (r i')) (tot i'))) = h2 := ⟨_, rfl⟩
      rw [eh2] at e2 ⊢
      have R2 := seatR e2
      have r1 : 1 ≤ rkT ts i' := (tkOk hi).r1
      have r2 : rkT ts i' ≤ 10 := (tkOk hi).r2
      obtain ⟨q, hq, eq⟩ : ∃ q : Nat, q < 10 ∧ rkT ts i' = 1 + (q : Int) := ⟨(rkT ts i' - 1).toNat, by omega, by omega⟩
      have e3 : h2[b + 10 + 2 * ts.length]? = some (.dct (modD b ts.length tick sil)) := by
        rw [← eh2, ← eh1, List.getElem?_set_ne (by omega), List.getElem?_set_ne (by omega)]
        exact W.mod
      have e4 : h2[b + q]? = some (.lst ((qW ts r i' (1 + (q : Int))).map fun k => D.str (ts.getD k gTk).name)) := by
        rw [← eh2, ← eh1, List.getElem?_set_ne (by omega), List.getElem?_set_ne (by omega)]
        exact W.que q hq
      have q1 := fun (PD : D → OH → Prop) => W_ixD (PD := PD) (dctAt_ref e3) (show keyD (.str "queues") = some (.inr "queues") from rfl) g_queues
      have q2 := fun (PD : D → OH → Prop) => W_ixD (PD := PD) (dctAt_dct h2 (queD b)) (show keyD (.int (1 + (q : Int))) = some (.inl (1 + (q : Int))) from rfl) (g_que hq)
      have rk : (ts.getD i' gTk).rank = 1 + (q : Int) := eq
      simp [-List.getD_eq_getElem?_getD, q1, R2.rk]
      rw [rk, q2]
      dsimp only
      rw [e4]
      simp only [lkL_lst]
      rw [R2.nm, R2.rd]
      have big2 := qW_len (ts := ts) (r := r) i' (1 + (q : Int))
      have fin : ∀ xs : List D, xs = (qW ts r (i' + 1) (1 + (q : Int))).map (fun k => D.str (ts.getD k gTk).name) → MdW b ts r tot tick sil (i' + 1) (h2.set (b + q) (.lst xs)) ∧ Frm b ts.length h (h2.set (b + q) (.lst xs)) := fun xs ex => by
        subst ex
        rw [← eh2, ← eh1]
        exact ⟨MdW.step W hi c hq eq _, F.trans (((Frm.set _ (by omega) (by omega) _).trans (Frm.set _ (by omega) (by omega) _)).trans (Frm.set _ (by omega) (by omega) _))⟩
      have eqw := qW_succ (ts := ts) (r := r) i' (1 + (q : Int))
      rw [c, ← eq] at eqw
      cases cb : (waitR (ts.getD i' gTk) (r i')).b with
      | false =>
        simp [-List.getD_eq_getElem?_getD, mul1 _ (show (0 : Int) ≤ 0 by decide) (show (0 : Int) ≤ 2 by decide), e4]
        refine ⟨by simp only [List.length_nil, List.length_cons]; omega, ?_⟩
        refine fin _ ?_
        rw [← eq, eqw, cb]
        simp
      | true =>
        simp [-List.getD_eq_getElem?_getD, mul1 _ (show (0 : Int) ≤ 1 by decide) (show (1 : Int) ≤ 2 by decide), e4]
        refine ⟨by simp only [List.length_nil, List.length_cons]; omega, ?_⟩
        refine fin _ ?_
        rw [← eq, eqw, cb]
        simp
  · obtain ⟨⟨o, rfl⟩, W, F⟩ := hI
    have en : ((List.range ts.length).map fun k => D.ref (b + 10 + 2 * k)).length = ts.length := by simp
    rw [en] at W
    refine hK _ _ ?_
    clear hK K a1
    have t1 := fun (PD : D → OH → Prop) => W_ixD (PD := PD) (dctAt_ref W.mod) (show keyD (.str "tick") = some (.inr "tick") from rfl) g_tick
    have sl := (List.getElem?_eq_some_iff.mp W.mod).1
    refine SW_seqK fun K hK => ?_
    simp [t1]
    rw [W.mod, lkD_dct, p_tick]
    refine ⟨(by decide : (4 : Nat) < big), hK _ _ ?_⟩
    clear hK K
    have W1 : MdW b ts r tot (tick + 1) sil ts.length (h'.set (b + 10 + 2 * ts.length) (.dct (modD b ts.length (tick + 1) sil))) := ⟨fun k hk => by rw [List.getElem?_set_ne (by omega)]; exact W.seat k hk, fun q hq => by rw [List.getElem?_set_ne (by omega)]; exact W.que q hq, by simp [sl]⟩
    have F1 := F.trans (Frm.set (b := b) (n := ts.length) h' (by omega) (Nat.le_refl (b + 10 + 2 * ts.length)) (.dct (modD b ts.length (tick + 1) sil)))
    generalize h'.set (b + 10 + 2 * ts.length) (.dct (modD b ts.length (tick + 1) sil)) = g at W1 F1
    clear W F t1 sl
    have t1 := fun (PD : D → OH → Prop) => W_ixD (PD := PD) (dctAt_ref W1.mod) (show keyD (.str "silent") = some (.inr "silent") from rfl) g_silent
    have sl := (List.getElem?_eq_some_iff.mp W1.mod).1
    refine SW_seqK fun K hK => ?_
    have W2 : MdW b ts r tot (tick + 1) (sil + if (whoI ts r).isNone then 1 else 0) ts.length (g.set (b + 10 + 2 * ts.length) (.dct (modD b ts.length (tick + 1) (sil + if (whoI ts r).isNone then 1 else 0)))) := ⟨fun k hk => by rw [List.getElem?_set_ne (by omega)]; exact W1.seat k hk, fun q hq => by rw [List.getElem?_set_ne (by omega)]; exact W1.que q hq, by simp [sl]⟩
    have F2 := F1.trans (Frm.set (b := b) (n := ts.length) g (by omega) (Nat.le_refl (b + 10 + 2 * ts.length)) (.dct (modD b ts.length (tick + 1) (sil + if (whoI ts r).isNone then 1 else 0))))
    cases e : whoI ts r with
    | none =>
      simp [t1, loudD, e]
      rw [W1.mod, lkD_dct, p_silent]
      refine ⟨(by decide : (4 : Nat) < big), hK _ _ ?_⟩
      clear hK K
      simp
      rw [e] at W2 F2
      refine q tot _ ⟨fun k hk => ?_, fun p hp => ?_, ?_⟩ ?_
      · have := W2.seat k hk
        rw [stepI_wr k hk, e]
        exact this
      · have := W2.que p hp
        rw [q_none e]
        exact this
      · rw [e]; exact W2.mod
      · exact F2
    | some k =>
      obtain ⟨hk, bk, mn, rest, _⟩ := who_first I e
      simp [t1, loudD, e, W_isR]
      rw [W1.mod, lkD_dct, p_silent]
      refine ⟨(by decide : (4 : Nat) < big), hK _ _ ?_⟩
      clear hK K
      rw [e] at W2 F2
      simp only [Option.isNone_some, Bool.false_eq_true, if_false, Int.add_zero] at W2 F2
      generalize g.set (b + 10 + 2 * ts.length) (.dct (modD b ts.length (tick + 1) sil)) = g2 at W2 F2
      have R := seatR (W2.seat k hk)
      rw [wr_who e] at R
      have es := W2.seat k hk
      rw [wr_who e] at es
      have sl := (List.getElem?_eq_some_iff.mp es).1
      have tst : ∀ (a : D) (o : Option D) (P : Bool → OH → Prop), (sTest (sBin (opIs true) (sVar 1) (sC .non)) [some a, some (.ref (b + 10 + 2 * k)), o] g2).W P = P true g2 := fun a o P => by simp [W_isR]
      rw [SW_if, tst]
      simp only [if_true]
      refine SW_seqK fun K hK => ?_
      simp [R.bg, R.tt]
      have e1 : (g2.set (b + 10 + 2 * k) (.dct (seatD (ts.getD k gTk) ⟨(r k).i, (r k).b, (r k).sp + 1, (r k).wt⟩ (tot k))))[b + 10 + 2 * k]? = some (.dct (seatD (ts.getD k gTk) ⟨(r k).i, (r k).b, (r k).sp + 1, (r k).wt⟩ (tot k))) := by simp [sl]
      rw [es, lkD_dct, p_begun]
      refine ⟨(by decide : (9 : Nat) < big), ?_⟩
      rw [e1, lkD_dct, p_total]
      refine ⟨(by decide : (9 : Nat) < big), hK _ _ ?_⟩
      clear hK K
      have e2 : (g2.set (b + 10 + 2 * k) (.dct (seatD (ts.getD k gTk) ⟨(r k).i, (r k).b, (r k).sp + 1, (r k).wt⟩ (tot k + 1))))[b + 10 + 2 * k]? = some (.dct (seatD (ts.getD k gTk) ⟨(r k).i, (r k).b, (r k).sp + 1, (r k).wt⟩ (tot k + 1))) := by simp [sl]
      have nes : ∀ k', k' < ts.length → k' ≠ k → (g2.set (b + 10 + 2 * k) (.dct (seatD (ts.getD k gTk) ⟨(r k).i, (r k).b, (r k).sp + 1, (r k).wt⟩ (tot k + 1))))[b + 10 + 2 * k']? = some (.dct (seatD (ts.getD k' gTk) (wrI ts r ts.length k') (tot k'))) := fun k' h1 h2 => by rw [List.getElem?_set_ne (by omega)]; exact W2.seat k' h1
      have neq : ∀ q, q < 10 → (g2.set (b + 10 + 2 * k) (.dct (seatD (ts.getD k gTk) ⟨(r k).i, (r k).b, (r k).sp + 1, (r k).wt⟩ (tot k + 1))))[b + q]? = some (.lst ((qW ts r ts.length (1 + (q : Int))).map fun k => D.str (ts.getD k gTk).name)) := fun q h1 => by rw [List.getElem?_set_ne (by omega)]; exact W2.que q h1
      have nem : (g2.set (b + 10 + 2 * k) (.dct (seatD (ts.getD k gTk) ⟨(r k).i, (r k).b, (r k).sp + 1, (r k).wt⟩ (tot k + 1))))[b + 10 + 2 * ts.length]? = some (.dct (modD b ts.length (tick + 1) sil)) := by rw [List.getElem?_set_ne (by omega)]; exact W2.mod
      have F3 := F2.trans (Frm.set (b := b) (n := ts.length) g2 (by omega) (show b + 10 + 2 * k ≤ b + 10 + 2 * ts.length by omega) (.dct (seatD (ts.getD k gTk) ⟨(r k).i, (r k).b, (r k).sp + 1, (r k).wt⟩ (tot k + 1))))
      generalize g2.set (b + 10 + 2 * k) (.dct (seatD (ts.getD k gTk) ⟨(r k).i, (r k).b, (r k).sp + 1, (r k).wt⟩ (tot k + 1))) = g3 at e2 nes neq nem F3
      have R3 := seatR e2
      have tst2 : ∀ (a : D) (o : Option D) (P : Bool → OH → Prop), P ((r k).sp + 1 == (nth (ts.getD k gTk).pre (ts.getD k gTk).cyc (r k).i).2) g3 → (sTest (sBin (opEq false) (sBin opIxD (sVar 1) (sC (.str "begun"))) (sBin opIx (sCall (withD [] TK) (sCons (sVar 1) sNil)) (sC (.int 1)))) [some a, some (.ref (b + 10 + 2 * k)), o] g3).W P := fun a o P p => by
        simp [R3.bg]
        refine tk (tkOk hk) e2 _ ?_
        simpa [-List.getD_eq_getElem?_getD, dT] using p
      rw [SW_if]
      refine tst2 _ _ _ ?_
      have r1 : 1 ≤ rkT ts k := (tkOk hk).r1
      have r2 : rkT ts k ≤ 10 := (tkOk hk).r2
      obtain ⟨p, hp, eq⟩ : ∃ q : Nat, q < 10 ∧ rkT ts k = 1 + (q : Int) := ⟨(rkT ts k - 1).toNat, by omega, by omega⟩
      cases c : ((r k).sp + 1 == (nth (ts.getD k gTk).pre (ts.getD k gTk).cyc (r k).i).2) with
      | false =>
        have ne : (r k).sp + 1 ≠ (nth (ts.getD k gTk).pre (ts.getD k gTk).cyc (r k).i).2 := by simpa [-List.getD_eq_getElem?_getD] using c
        have sp : speakR (ts.getD k gTk) (r k) = ⟨(r k).i, (r k).b, (r k).sp + 1, (r k).wt⟩ := by unfold speakR; rw [if_neg ne]
        simp
        refine q (fun j => if j = k then tot k + 1 else tot j) _ ⟨fun j hj => ?_, fun z hz => ?_, ?_⟩ F3
        · rw [stepI_wr j hj, e]
          dsimp only
          by_cases ej : j = k
          · subst ej
            rw [if_pos rfl, if_pos rfl, sp]
            exact e2
          · rw [if_neg ej, if_neg ej]
            exact nes j hj ej
        · rw [q_some e _ (.inr (by rw [sp]; exact bk))]
          exact neq z hz
        · rw [e]
          simpa using nem
      | true =>
        have ne : (r k).sp + 1 = (nth (ts.getD k gTk).pre (ts.getD k gTk).cyc (r k).i).2 := by simpa [-List.getD_eq_getElem?_getD] using c
        have sp : speakR (ts.getD k gTk) (r k) = ⟨(r k).i + 1, false, 0, 0⟩ := by unfold speakR; rw [if_pos ne]
        have gone := q_gone I e (by rw [sp])
        have q1 := fun (PD : D → OH → Prop) => W_ixD (PD := PD) (dctAt_ref nem) (show keyD (.str "queues") = some (.inr "queues") from rfl) g_queues
        have q2 := fun (PD : D → OH → Prop) => W_ixD (PD := PD) (dctAt_dct g3 (queD b)) (show keyD (.int (1 + (p : Int))) = some (.inl (1 + (p : Int))) from rfl) (g_que hp)
        have rk : (ts.getD k gTk).rank = 1 + (p : Int) := eq
        simp only [if_true]
        refine SW_seqK fun K hK => ?_
        simp [-List.getD_eq_getElem?_getD, q1, R3.rk]
        rw [rk, q2]
        dsimp only
        have nq := neq p hp
        rw [← eq, gone] at nq
        rw [nq]
        simp only [lkL_lst]
        rw [R3.nm, nq]
        simp only [lkL_lst]
        have em : ∀ L : List Nat, (L.map fun k => D.str (ts.getD k gTk).name) = (L.map fun k => (ts.getD k gTk).name).map D.str := fun L => by simp
        rw [em, W_rem (by simp), List.map_cons, List.erase_cons_head, ← em]
        refine hK _ _ ?_
        clear hK K
        have slq := (List.getElem?_eq_some_iff.mp nq).1
        have e4 := e2
        rw [← List.getElem?_set_ne (l := g3) (i := b + p) (a := .lst ((qI ts (stepI ts r) (rkT ts k)).map fun k => D.str (ts.getD k gTk).name)) (by omega)] at e4
        have nes4 : ∀ k', k' < ts.length → k' ≠ k → (g3.set (b + p) (.lst ((qI ts (stepI ts r) (rkT ts k)).map fun k => D.str (ts.getD k gTk).name)))[b + 10 + 2 * k']? = some (.dct (seatD (ts.getD k' gTk) (wrI ts r ts.length k') (tot k'))) := fun k' h1 h2 => by rw [List.getElem?_set_ne (by omega)]; exact nes k' h1 h2
        have neq4 : ∀ q, q < 10 → (g3.set (b + p) (.lst ((qI ts (stepI ts r) (rkT ts k)).map fun k => D.str (ts.getD k gTk).name)))[b + q]? = some (.lst ((qI ts (stepI ts r) (1 + (q : Int))).map fun k => D.str (ts.getD k gTk).name)) := fun z hz => by
          by_cases ez : z = p
          · subst ez
            rw [List.getElem?_set_self (by simpa using slq), eq]
          · rw [List.getElem?_set_ne (by omega), q_some e _ (.inl (by omega))]
            exact neq z hz
        have nem4 := nem
        rw [← List.getElem?_set_ne (l := g3) (i := b + p) (a := .lst ((qI ts (stepI ts r) (rkT ts k)).map fun k => D.str (ts.getD k gTk).name)) (by omega)] at nem4
        have F4 := F3.trans (Frm.set (b := b) (n := ts.length) g3 (show b ≤ b + p by omega) (by omega) (.lst ((qI ts (stepI ts r) (rkT ts k)).map fun k => D.str (ts.getD k gTk).name)))
        generalize g3.set (b + p) (.lst ((qI ts (stepI ts r) (rkT ts k)).map fun k => D.str (ts.getD k gTk).name)) = g4 at e4 nes4 neq4 nem4 F4
        have R4 := seatR e4
        have sl4 := (List.getElem?_eq_some_iff.mp e4).1
        have own4 : isOwnD g4 (.ref (b + 10 + 2 * k)) = true := by simp [isOwnD, e4]
        simp only [SW_expr, W_upd, W_varS, W_var0, own4, if_true]
        simp only [W_sCons, W_sNil, W_dispO, W_prs, W_prs0, W_sBin, W_varS, W_var0, W_c, R4.ix, W_addI]
        have nd4 : (List.map (fun x : Key × D => x.fst) [(Sum.inr (Str.ofString "index"), D.int ((r k).i + 1 : Int)), (Sum.inr (Str.ofString "waited"), D.int 0), (Sum.inr (Str.ofString "begun"), D.int 0), (Sum.inr (Str.ofString "ready"), D.bl false)]).Nodup := by
          simp only [List.map_cons, List.map_nil]
          decide
        rw [if_pos ⟨nd4, (by decide : (4 : Nat) ≤ 15)⟩, if_pos (by omega), List.getElem?_append_left sl4, e4, lkD_dct, List.getElem?_append_right (Nat.le_refl _), Nat.sub_self]
        simp only [List.getElem?_cons_zero, lkD_dct]
        rw [if_pos]
        rotate_left
        · simp [seatD]
        have mr := m_reset (t := ts.getD k gTk) (r := ⟨(r k).i, (r k).b, (r k).sp + 1, (r k).wt⟩) (tot := tot k + 1) ((r k).i + 1)
        have cast : (((r k).i + 1 : Nat) : Int) = (r k).i + 1 := rfl
        rw [cast] at mr
        rw [mr]
        have sl5 : b + 10 + 2 * k < (g4 ++ [OO.dct [(Sum.inr (Str.ofString "index"), D.int ((r k).i + 1)), (Sum.inr (Str.ofString "waited"), D.int 0), (Sum.inr (Str.ofString "begun"), D.int 0), (Sum.inr (Str.ofString "ready"), D.bl false)]]).length := by simp; omega
        refine q (fun j => if j = k then tot k + 1 else tot j) _ ⟨fun j hj => ?_, fun z hz => ?_, ?_⟩ (F4.trans ((Frm.app _ _ _ _).trans (Frm.set _ (by omega) (by omega) _)))
        · rw [stepI_wr j hj, e]
          dsimp only
          by_cases ej : j = k
          · subst ej
            rw [if_pos rfl, if_pos rfl, sp, List.getElem?_set_self sl5]
          · rw [if_neg ej, if_neg ej, List.getElem?_set_ne (by omega)]
            have := nes4 j hj ej
            rw [List.getElem?_append_left (List.getElem?_eq_some_iff.mp this).1]
            exact this
        · have := neq4 z hz
          rw [List.getElem?_set_ne (by omega), List.getElem?_append_left (List.getElem?_eq_some_iff.mp this).1]
          exact this
        · rw [e, List.getElem?_set_ne (by omega), List.getElem?_append_left (List.getElem?_eq_some_iff.mp nem4).1]
          simpa using nem4
end
end HR
set_option Elab.async false
set_option linter.all false
set_option maxRecDepth 100000
set_option exponentiation.threshold 5000
namespace HR
open PySem L2
/-! ### the law's own model of a hall: made, heard -/
section
variable {ts : List Tk} {h : OH}
/-- what was there stays -/
def Kept (h h' : OH) : Prop := h.length ≤ h'.length ∧ ∀ j, j < h.length → h'[j]? = h[j]?
theorem Kept.refl (h : OH) : Kept h h := ⟨Nat.le_refl _, fun _ _ => rfl⟩
theorem Kept.trans {a b c : OH} (x : Kept a b) (y : Kept b c) : Kept a c := ⟨Nat.le_trans x.1 y.1, fun j hj => (y.2 j (Nat.lt_of_lt_of_le hj x.1)).trans (x.2 j hj)⟩
theorem Kept.app (h t : OH) : Kept h (h ++ t) := ⟨by simp, fun j hj => List.getElem?_append_left hj⟩
theorem Kept.setNew {a b : OH} (x : Kept a b) {j : Nat} (hj : a.length ≤ j) (o : OO) : Kept a (b.set j o) := ⟨by simpa using x.1, fun k hk => by rw [List.getElem?_set_ne (by omega)]; exact x.2 k hk⟩
theorem Kept.get {a b : OH} (x : Kept a b) {j : Nat} {o : OO} (e : a[j]? = some o) : b[j]? = some o := (x.2 j (List.getElem?_eq_some_iff.mp e).1).trans e
theorem mdSeat (t : Tk) {PD : D → OH → Prop} (q : ∀ h', h'.length = h.length + 2 → Kept h h' → h'[h.length]? = some (.dct (seatD t ⟨0, false, 0, 0⟩ 0)) → PD (.ref h.length) h') : (Sh.l_seat [dTk t] h).W PD := by
  unfold Sh.l_seat; rw [W_fn]; unfold Sh.l_seat_b
  refine SW_seqK fun K hK => ?_
  simp [dTk, atI]
  refine ⟨⟨fun x => ⟨?_, ?_, ?_⟩, fun x => ⟨?_, ?_⟩, ?_⟩, hK _ _ ?_⟩ <;> first | (intro z; exact absurd z (by decide)) | skip
  clear hK K
  refine SW_seqK fun K hK => ?_
  simp [isOwnD]
  refine ⟨⟨fun x => ⟨?_, ?_, ?_, ?_⟩, fun x => ⟨?_, ?_, ?_⟩, fun x => ⟨?_, ?_⟩, ?_⟩, hK _ _ ?_⟩ <;> first | (intro z; exact absurd z (by decide)) | skip
  clear hK K
  simp only [SW_ret, W_varS, W_var0]
  rw [m_seat]
  exact q _ (by simp) (Kept.app _ _) (by simp)
theorem quL {PL : List D → OH → Prop} (a : D) (q : PL ((List.range 10).map fun (k : Nat) => D.tup [.int (1 + (k : Int)), .ref (h.length + k)]) (h ++ List.replicate 10 (.lst []))) : (lcGo (gN 2) sYes (sTup (sCons (sVar 2) (sCons (sLstO sNil) sNil))) (wipeD [some a, none, none, none] [2]) (rngD 1 10) h []).W PL := by
  have er : rngD 1 10 = (List.range 10).map fun (k : Nat) => D.int (1 + (k : Int)) := rfl
  rw [er]
  refine W_lcGo (fun k acc h' => acc = (List.range k).map (fun (k : Nat) => D.tup [.int (1 + (k : Int)), .ref (h.length + k)]) ∧ h' = h ++ List.replicate k (.lst [])) _ _ _ ⟨rfl, by simp⟩ (fun k d hd acc h' hI => ?_) (fun acc h' hI => ?_)
  · obtain ⟨rfl, rfl⟩ := hI
    rw [List.getElem?_map, Option.map_eq_some_iff] at hd
    obtain ⟨k', hk, rfl⟩ := hd
    obtain ⟨h1, h2⟩ := List.getElem?_eq_some_iff.mp hk
    simp at h1 h2
    subst h2
    refine ⟨_, rfl, ?_⟩
    simp [wipeD]
    refine ⟨by omega, ?_, ?_⟩
    · rw [List.range_succ]; simp
    · rw [List.replicate_succ']
  · obtain ⟨rfl, rfl⟩ := hI
    simpa using q
theorem mdModel (hn : ts.length ≤ 10) {PD : D → OH → Prop} (q : ∀ h', h'.length = h.length + 11 + 2 * ts.length → Kept h h' → MdIs h.length ts (fun _ => ⟨0, false, 0, 0⟩) (fun _ => 0) 0 0 h' → PD (.ref (h.length + 10 + 2 * ts.length)) h') : (Sh.l_model [.lst (ts.map dTk)] h).W PD := by
  have st := fun (t : Tk) (h : OH) {PD : D → OH → Prop} => mdSeat (h := h) t (PD := PD)
  unfold Sh.l_model; rw [W_fn]; unfold Sh.l_model_b
  generalize Sh.l_seat = SE at st
  refine SW_seqK fun K hK => ?_
  simp [rngOk]
  refine quL _ ?_
  rw [W_dictP (ks := queD h.length) (by rfl) (by simp only [queD, List.map_map]; exact (List.nodup_range (n := 10)).map _ (fun a b ne z => ne (by simp at z; omega)))]
  refine hK _ _ ?_
  clear hK K
  simp [wipeD]
  have e10 : h ++ [OO.lst [], OO.lst [], OO.lst [], OO.lst [], OO.lst [], OO.lst [], OO.lst [], OO.lst [], OO.lst [], OO.lst []] = h ++ List.replicate 10 (OO.lst []) := rfl
  rw [e10]
  refine W_lcGo (fun k acc h' => k ≤ ts.length → acc = (List.range k).map (fun (k : Nat) => D.ref (h.length + 10 + 2 * k)) ∧ h'.length = h.length + 10 + 2 * k ∧ Kept (h ++ List.replicate 10 (OO.lst [])) h' ∧ ∀ j, j < k → h'[h.length + 10 + 2 * j]? = some (.dct (seatD (ts.getD j gTk) ⟨0, false, 0, 0⟩ 0))) _ _ _ (fun _ => ⟨rfl, by simp, Kept.refl _, fun j hj => absurd hj (by omega)⟩) (fun k d hd acc h' hI => ?_) (fun acc h' hI => ?_)
  · rw [List.getElem?_map, Option.map_eq_some_iff] at hd
    obtain ⟨t, ht, rfl⟩ := hd
    have hk := (List.getElem?_eq_some_iff.mp ht).1
    obtain ⟨rfl, i2, i3, i4⟩ := hI (by omega)
    refine ⟨_, rfl, ?_⟩
    simp
    refine st t h' fun h2 g1 g2 g3 => ?_
    refine ⟨by omega, fun _ => ⟨?_, by omega, i3.trans g2, fun j hj => ?_⟩⟩
    · rw [List.range_succ, i2]; simp
    · by_cases c : j < k
      · exact g2.get (i4 j c)
      · have : j = k := by omega
        subst this
        rw [← i2, g3]
        simp [ht]
  · rw [List.length_map] at hI
    obtain ⟨rfl, i2, i3, i4⟩ := hI (Nat.le_refl _)
    refine ⟨⟨fun x => ⟨?_, ?_, ?_⟩, fun x => ⟨?_, ?_⟩, ?_⟩, ?_⟩ <;> first | (intro z; exact absurd z (by decide)) | skip
    rw [i2]
    refine q _ (by simp [i2]; omega) ((Kept.app _ _).trans (i3.trans (Kept.app _ _))) ⟨fun k hk => ?_, fun p hp => ?_, ?_⟩
    · exact (Kept.app _ _).get (i4 k hk)
    · refine (i3.trans (Kept.app _ _)).get ?_
      have e : qI ts (fun _ => (⟨0, false, 0, 0⟩ : Rs)) (1 + (p : Int)) = [] := List.filter_eq_nil_iff.mpr fun j _ => by simp
      rw [e, List.getElem?_append_right (by omega), show h.length + p - h.length = p by omega, List.getElem?_replicate, if_pos hp]
      rfl
    · rw [← i2, List.getElem?_append_right (Nat.le_refl _), Nat.sub_self]
      rfl
theorem MdIs.setOut {b : Nat} {r : Nat → Rs} {tot : Nat → Int} {tick sil : Int} (M : MdIs b ts r tot tick sil h) {j : Nat} (hj : b + 10 + 2 * ts.length < j) (o : OO) : MdIs b ts r tot tick sil (h.set j o) :=
  ⟨fun k hk => by rw [List.getElem?_set_ne (by omega)]; exact M.seat k hk, fun q hq => by rw [List.getElem?_set_ne (by omega)]; exact M.que q hq, by rw [List.getElem?_set_ne (by omega)]; exact M.mod⟩
theorem MdIs.app {b : Nat} {r : Nat → Rs} {tot : Nat → Int} {tick sil : Int} (M : MdIs b ts r tot tick sil h) (t : OH) : MdIs b ts r tot tick sil (h ++ t) :=
  ⟨fun k hk => (Kept.app _ _).get (M.seat k hk), fun q hq => (Kept.app _ _).get (M.que q hq), (Kept.app _ _).get M.mod⟩
/-- what is heard -/
theorem mdHeard (w : WfHall T30 ts) {m : Nat} {mi : Int} (hmi : mi = m) (hm : m ≤ 2000) {PD : D → OH → Prop}
    (q : ∀ (xs : List (Option Nat)) h' f, xs.length = m → (∀ x ∈ xs, ∀ k, x = some k → k < ts.length) → okRd (rkT ts) xs S0 → (∃ r', InvB ts (runRd (rkT ts) xs S0) r') → Kept h h' → h.length ≤ f → h'[f]? = some (.lst ((xs.map (nmT ts)).map dN)) → PD (.ref f) h') : (Sh.l_heard [.lst (ts.map dTk), .int mi] h).W PD := by
  have md := fun {PD : D → OH → Prop} => mdModel (h := h) w.len (PD := PD)
  have fs := fun {b S r tot tick sil h} (M : MdIs b ts r tot tick sil h) (I : InvB ts S r) {PD : D → OH → Prop} => mdFirst' M I w (PD := PD)
  have ps := fun {b S r tot tick sil h} (M : MdIs b ts r tot tick sil h) (I : InvB ts S r) {PD : D → OH → Prop} => mdPass M I w (PD := PD)
  unfold Sh.l_heard; rw [W_fn]; unfold Sh.l_heard_b
  generalize Sh.l_model = MO at md
  generalize Sh.l_first = FI at fs
  generalize Sh.l_pass = PA at ps
  refine SW_seqK fun K hK => ?_
  simp
  refine md fun h1 l1 k1 M1 => hK _ _ ?_
  clear hK K md
  generalize hG : h.length + 10 + 2 * ts.length = G
  refine SW_seqK fun K hK => ?_
  simp
  refine hK _ _ ?_
  clear hK K
  refine SW_seqK fun K hK => ?_
  have rm : rngOk mi = true := by simp [rngOk]; omega
  simp [rm]
  refine W_forL (fun i e h' => i ≤ m → (∃ o1 o2, e = [some (.lst (ts.map dTk)), some (.int mi), some (.ref G), some (.ref h1.length), o1, o2]) ∧ ∃ (xs : List (Option Nat)) (r : Nat → Rs) (tot : Nat → Int) (tick sil : Int), xs.length = i ∧ (∀ x ∈ xs, ∀ k, x = some k → k < ts.length) ∧ okRd (rkT ts) xs S0 ∧ InvB ts (runRd (rkT ts) xs S0) r ∧ MdIs h.length ts r tot tick sil h' ∧ Kept h h' ∧ h'[h1.length]? = some (.lst ((xs.map (nmT ts)).map dN))) _ _ _ (fun _ => ⟨⟨_, _, rfl⟩, [], _, _, _, _, rfl, by simp, trivial, inv0 w.tk, M1.app _, k1.trans (Kept.app _ _), by simp⟩) (fun i d hd e h' hI => ?_) (fun e h' hI => ?_)
  · obtain ⟨hi, rfl⟩ := rngD_at hd
    rw [hmi, Int.toNat_natCast] at hi
    obtain ⟨⟨o1, o2, rfl⟩, xs, r, tot, tick, sil, i1, i2, i3, i4, i5, i6, i7⟩ := hI (by omega)
    refine ⟨_, rfl, ?_⟩
    subst hG
    refine SW_seqK fun K2 hK2 => ?_
    simp
    refine fs i5 i4 (hK2 _ _ ?_)
    clear hK2 K2
    refine SW_seqK fun K2 hK2 => ?_
    have fl := (List.getElem?_eq_some_iff.mp i7).1
    suffices go : K2 [some (.lst (ts.map dTk)), some (.int mi), some (.ref (h.length + 10 + 2 * ts.length)), some (.ref h1.length), some (.int (0 + (i : Int))), some (loudD h.length ts r)] (h'.set h1.length (.lst ((xs.map (nmT ts)).map dN ++ [dN (nmT ts (whoI ts r))]))) by
      simp only [Int.zero_add] at go
      cases e : whoI ts r with
      | none =>
        simp only [loudD, e] at go
        simp [loudD, e]
        rw [i7]
        exact ⟨by simp; omega, go⟩
      | some k =>
        have R := seatR (i5.seat k (choose_some e).1)
        simp only [loudD, e] at go
        simp [loudD, e, W_isR, R.nm]
        rw [i7]
        exact ⟨by simp; omega, go⟩
    refine hK2 _ _ ?_
    clear hK2 K2
    have lt : h.length + 10 + 2 * ts.length < h1.length := by omega
    have j5 := i5.setOut lt (.lst ((xs.map (nmT ts)).map dN ++ [dN (nmT ts (whoI ts r))]))
    have j6 := i6.setNew (show h.length ≤ h1.length from k1.1) (.lst ((xs.map (nmT ts)).map dN ++ [dN (nmT ts (whoI ts r))]))
    have j7 : (h'.set h1.length (.lst ((xs.map (nmT ts)).map dN ++ [dN (nmT ts (whoI ts r))])))[h1.length]? = some (.lst ((xs.map (nmT ts)).map dN ++ [dN (nmT ts (whoI ts r))])) := by simp [fl]
    obtain ⟨ok, I2⟩ := heard_step w.tk i4
    simp only [SW_expr, W_sCall, W_sCons, W_sNil, W_varS, W_var0, W_withD, List.append_nil]
    refine ps j5 i4 fun tot' h2 M2 F2 => ?_
    intro hi2
    refine ⟨⟨_, _, rfl⟩, xs ++ [whoI ts r], stepI ts r, tot', _, _, by simp [i1], fun x hx k hk => ?_, ?_, ?_, M2, ⟨Nat.le_trans j6.1 F2.1, fun j hj => (F2.2 j (Nat.lt_of_lt_of_le hj j6.1) (.inl hj)).trans (j6.2 j hj)⟩, ?_⟩
    · rcases List.mem_append.mp hx with hx | hx
      · exact i2 x hx k hk
      · have : x = whoI ts r := by simpa using hx
        rw [this] at hk
        exact (choose_some hk).1
    · rw [okRd_app]
      exact ⟨i3, ok, trivial⟩
    · rw [runRd_app]
      exact I2
    · rw [F2.get j7 (.inr lt)]
      simp
  · rw [rngD_len, hmi, Int.toNat_natCast] at hI
    obtain ⟨⟨o1, o2, rfl⟩, xs, r, tot, tick, sil, i1, i2, i3, i4, i5, i6, i7⟩ := hI (Nat.le_refl _)
    refine hK _ _ ?_
    simp
    exact q xs h' _ i1 i2 i3 ⟨r, i4⟩ i6 (by have := k1.1; omega) i7
end
end HR
set_option Elab.async false
set_option linter.all false
set_option maxRecDepth 20000
set_option exponentiation.threshold 5000
set_option Elab.async false
set_option linter.all false
set_option maxRecDepth 20000
set_option exponentiation.threshold 5000
set_option Elab.async false
set_option linter.all false
set_option maxRecDepth 20000
set_option exponentiation.threshold 5000
namespace HR
open PySem L2
def SP : Str := " "
def NL : Str := "\n"
end HR
set_option Elab.async false
set_option linter.all false
set_option maxRecDepth 20000
set_option exponentiation.threshold 5000
namespace HR
open PySem L2
/-! ### what the program takes for halls: any frozen value -/
mutual
def szD : D → Bool
  | .lst xs => decide (xs.length ≤ 1000) && szL xs
  | .tup xs => decide (xs.length ≤ 1000) && szL xs
  | .str x => decide (x.length ≤ 1000)
  | .non => true
  | .bl _ => true
  | .int _ => true
  | .dct [] => true
  | _ => false
def szL : List D → Bool
  | [] => true
  | x :: xs => szD x && szL xs
end
def sqD : D → Option (List D)
  | .lst xs => some xs
  | .tup xs => some xs
  | _ => none
@[simp] theorem isi_t1 : isiB "NoneType" "list" = false := by decide
@[simp] theorem isi_t2 : isiB "NoneType" "tuple" = false := by decide
@[simp] theorem isi_t3 : isiB "bool" "list" = false := by decide
@[simp] theorem isi_t4 : isiB "bool" "tuple" = false := by decide
@[simp] theorem isi_t5 : isiB "dict" "list" = false := by decide
@[simp] theorem isi_t6 : isiB "dict" "tuple" = false := by decide
@[simp] theorem isi_t7 : isiB "NoneType" "int" = false := by decide
@[simp] theorem isi_t8 : isiB "list" "int" = false := by decide
@[simp] theorem isi_t9 : isiB "tuple" "int" = false := by decide
@[simp] theorem isi_ta : isiB "dict" "int" = false := by decide
@[simp] theorem isi_tb : isiB "bool" "bool" = true := by decide
@[simp] theorem isi_tc : isiB "NoneType" "str" = false := by decide
@[simp] theorem isi_td : isiB "list" "str" = false := by decide
@[simp] theorem isi_te : isiB "tuple" "str" = false := by decide
@[simp] theorem isi_tf : isiB "dict" "str" = false := by decide
@[simp] theorem isi_tg : isiB "bool" "str" = false := by decide
/-! ### halls with lists and tuples exchanged -/
def AllR {ξ : Type} (R : D → ξ → Prop) (xs : List D) (ps : List ξ) : Prop := xs.length = ps.length ∧ ∀ (k : Nat) (x : D), xs[k]? = some x → ∃ p, ps[k]? = some p ∧ R x p
def DrT (d : D) (p : Int × Int) : Prop := sqD d = some [.int p.1, .int p.2]
def DrTs (d : D) (ts : List (Int × Int)) : Prop := ∃ xs, sqD d = some xs ∧ AllR DrT xs ts
def DrTk (d : D) (t : Tk) : Prop := ∃ a b, sqD d = some [.str t.name, .int t.rank, a, b] ∧ DrTs a t.pre ∧ DrTs b t.cyc
def DrH (d : D) (ts : List Tk) : Prop := ∃ xs, sqD d = some xs ∧ AllR DrTk xs ts
theorem AllR.all {ξ : Type} {R : D → ξ → Prop} {xs : List D} {ps : List ξ} (ar : AllR R xs ps) {p : D → Bool} (h : ∀ x q, x ∈ xs → q ∈ ps → R x q → p x = true) : xs.all p = true := by
  rw [List.all_eq_true]
  intro x hx
  obtain ⟨k, hk⟩ := List.mem_iff_getElem?.mp hx
  obtain ⟨q, hq, r⟩ := ar.2 k x hk
  exact h x q hx (List.mem_of_getElem? hq) r
end HR
set_option Elab.async false
set_option linter.all false
set_option maxRecDepth 20000
set_option exponentiation.threshold 5000
set_option Elab.async false
set_option linter.all false
set_option maxRecDepth 20000
set_option exponentiation.threshold 5000
set_option Elab.async false
set_option linter.all false
set_option maxRecDepth 20000
set_option exponentiation.threshold 5000
namespace HR
open PySem L2
/-! ### law k01: lists and tuples exchanged at random -/
def Drs (j i : Nat) (x : D) (R : D → Prop) : Prop := ∀ (h : OH) (P : D → OH → Prop), Spr h i → (∀ d h', R d → Spr h' i → Chg i h h' → P d h') → (Sh.l_dressed_n j [.ref i, x] h).W P
theorem Drs.mono {j i : Nat} {x : D} {R R' : D → Prop} (a : Drs j i x R) (q : ∀ d, R d → R' d) : Drs j i x R' := fun h P s z => a h P s fun d h' r => z d h' (q d r)
end HR
set_option Elab.async false
set_option linter.all false
set_option maxRecDepth 20000
namespace HR
open PySem L2
/-! ### the reel of laws 21 to 41: draw, talks, halls -/
abbrev RM : Int := 170141183460469231731687303715884105727
structure RlS (gs ms : List Int) (c s : Int) : Prop where
  g0 : ∀ g ∈ gs, 0 ≤ g
  gl : gs.length ≤ 63
  mn : ms ≠ []
  ml : ms.length ≤ 64
  m0 : ∀ x ∈ ms, 0 ≤ x ∧ x < 1000003
  c0 : 0 ≤ c
  s0 : 0 ≤ s
  s1 : s < RM
def rlD (gs ms : List Int) (c s : Int) : OO := .lst [.lst (gs.map D.int), .lst (ms.map D.int), .int c, .int s]
/-- the reel at i -/
def Rl (h : OH) (i : Nat) : Prop := ∃ (gs ms : List Int) (c s : Int), h[i]? = some (rlD gs ms c s) ∧ RlS gs ms c s
theorem Rl.lt {h : OH} {i : Nat} (s : Rl h i) : i < h.length := by
  obtain ⟨a, b, c, d, e, _⟩ := s
  exact (List.getElem?_eq_some_iff.mp e).1
theorem Rl.app {h : OH} {i : Nat} (s : Rl h i) (t : OH) : Rl (h ++ t) i := by
  have := s.lt
  obtain ⟨a, b, c, d, e, r⟩ := s
  exact ⟨a, b, c, d, by rw [List.getElem?_append_left this]; exact e, r⟩
theorem Rl.set {h : OH} {i j : Nat} (s : Rl h i) (n : j ≠ i) (o : OO) : Rl (h.set j o) i := by
  obtain ⟨a, b, c, d, e, r⟩ := s
  exact ⟨a, b, c, d, by rw [List.getElem?_set_ne n]; exact e, r⟩
end HR
set_option Elab.async false
set_option linter.all false
set_option maxRecDepth 20000
set_option exponentiation.threshold 5000
namespace HR
open PySem L2
/-! ### lists and tuples exchanged at random, over the reel -/
def Rrs (j i : Nat) (x : D) (R : D → Prop) : Prop := ∀ (h : OH) (P : D → OH → Prop), Rl h i → (∀ d h', R d → Rl h' i → Chg i h h' → P d h') → (Sh.l_dressed_1_n j [.ref i, x] h).W P
theorem Rrs.mono {j i : Nat} {x : D} {R R' : D → Prop} (a : Rrs j i x R) (q : ∀ d, R d → R' d) : Rrs j i x R' := fun h P s z => a h P s fun d h' r => z d h' (q d r)
end HR
set_option Elab.async false
set_option linter.all false
set_option maxRecDepth 20000
set_option Elab.async false
set_option linter.all false
set_option maxRecDepth 20000
set_option exponentiation.threshold 5000
namespace HR
open PySem L2
/-! ### law k36: the program's own copies of talkers -/
def rk (r : D) (t : Tk) : Int := match r with
  | .int v => v
  | _ => t.rank
/-- the copy of t whose lists stand at b and b + 1 -/
def oTk (name : Str) (r : Int) (b : Nat) : D := .tup [.str name, .int r, .ref b, .ref (b + 1)]
def oLs (t : Tk) : OH := [.lst (t.pre.map dT), .lst (t.cyc.map dT)]
theorem DrTs.all {d : D} {ts : List (Int × Int)} (r : DrTs d ts) : ∃ xs, sqD d = some xs ∧ AllR DrT xs ts := r
end HR
set_option Elab.async false
set_option linter.all false
set_option maxRecDepth 20000
set_option exponentiation.threshold 5000
namespace HR
open PySem L2
/-- copies of talkers, the first with its lists at b -/
def oTks : List Tk → Nat → List D
  | [], _ => []
  | t :: ts, b => oTk t.name t.rank b :: oTks ts (b + 2)
end HR
set_option Elab.async false
set_option linter.all false
set_option maxRecDepth 20000
set_option exponentiation.threshold 5000
set_option Elab.async false
set_option linter.all false
set_option maxRecDepth 20000
set_option exponentiation.threshold 5000
set_option Elab.async false
set_option linter.all false
set_option maxRecDepth 20000
set_option exponentiation.threshold 5000
namespace HR
open PySem L2
/-! ### law k01: talkers with one part changed -/
structure IT (d : D) : Prop where
  sz : szD d = true
  rp : Rp d 2 1690
structure CH (d : D) : Prop where
  sz : szD d = true
  rp : Rp d 3 13540
end HR
set_option Elab.async false
set_option linter.all false
set_option maxRecDepth 20000
set_option exponentiation.threshold 5000
namespace HR
open PySem L2
/-! ### law k01: names with one other character; a hall that is changed in place -/
/-- n own talkers in a row -/
structure Sb (n : Nat) (f : Nat → Tk) (h : OH) : Prop where
  pre : ∀ m, m < n → h[3 * m]? = some (.lst ((f m).pre.map dT))
  cyc : ∀ m, m < n → h[3 * m + 1]? = some (.lst ((f m).cyc.map dT))
  tk : ∀ m, m < n → h[3 * m + 2]? = some (.lst [.str (f m).name, .int (f m).rank, .ref (3 * m), .ref (3 * m + 1)])
def rf (m : Nat) : D := .ref (3 * m + 2)
def upd1 (f : Nat → Tk) (k : Nat) (t : Tk) : Nat → Tk := fun m => if m = k then t else f m
theorem Sb.rank {n k : Nat} {f : Nat → Tk} {h : OH} (s : Sb n f h) (hk : k < n) (hl : 3 * n ≤ h.length) (r : Int) : Sb n (upd1 f k { f k with rank := r }) (h.set (3 * k + 2) (.lst [.str (f k).name, .int r, .ref (3 * k), .ref (3 * k + 1)])) := by
  refine ⟨fun m hm => ?_, fun m hm => ?_, fun m hm => ?_⟩
  · rw [List.getElem?_set_ne (by omega)]
    unfold upd1
    split
    · subst m; exact s.pre k hk
    · exact s.pre m hm
  · rw [List.getElem?_set_ne (by omega)]
    unfold upd1
    split
    · subst m; exact s.cyc k hk
    · exact s.cyc m hm
  · unfold upd1
    split
    · subst m
      rw [List.getElem?_set_self (by omega)]
    · rw [List.getElem?_set_ne (by omega)]
      exact s.tk m hm
end HR
set_option Elab.async false
set_option linter.all false
set_option maxRecDepth 20000
set_option exponentiation.threshold 5000
namespace HR
open PySem L2
theorem Sb.app {n : Nat} {f : Nat → Tk} {h : OH} (s : Sb n f h) (l : OH) : Sb n f (h ++ l) := by
  have g : ∀ (i : Nat) o, h[i]? = some o → (h ++ l)[i]? = some o := fun i o e => by rw [List.getElem?_append_left (List.getElem?_eq_some_iff.mp e).1]; exact e
  exact ⟨fun m hm => g _ _ (s.pre m hm), fun m hm => g _ _ (s.cyc m hm), fun m hm => g _ _ (s.tk m hm)⟩
end HR
set_option Elab.async false
set_option linter.all false
set_option maxRecDepth 20000
set_option exponentiation.threshold 5000
namespace HR
open PySem L2
/-! ### how long the repr of many may be: a sum -/
def Rps (k : Nat) : List D → Nat → Prop
  | [], _ => True
  | d :: ds, n => ∃ a m, Rp d k a ∧ Rps k ds m ∧ a + 2 + m ≤ n
theorem Rps.py {k : Nat} : ∀ {ds : List D} {n : Nat}, Rps k ds n → ∃ ps, (∀ get, pyRL get ds = some ps) ∧ PyData.showableAll ps = true ∧ PyData.depthAll ps ≤ k ∧ ∀ (j : Nat) (acc : Str), (textFrom j acc (PyData.shownAll ps)).length ≤ acc.length + n
  | [], n, _ => ⟨[], fun _ => rfl, rfl, Nat.zero_le _, fun j acc => by simp [PyData.shownAll, textFrom]⟩
  | d :: ds, n, ⟨a, m, h1, h2, h3⟩ => by
    obtain ⟨p, a1, b1, c1, e1⟩ := h1
    obtain ⟨ps, a2, b2, c2, e2⟩ := h2.py
    refine ⟨p :: ps, fun get => by simp [pyRL, a1 get, a2 get], by simp [PyData.showableAll, b1, b2], by simp only [PyData.depthAll]; omega, fun j acc => ?_⟩
    simp only [PyData.shownAll, textFrom]
    refine Nat.le_trans (e2 _ _) ?_
    have e : (acc ++ (if j > 0 then ", " else "" : String) ++ p.shown).length ≤ acc.length + 2 + p.shown.length := by
      rw [strLen_append, strLen_append]
      split <;> simp only [Nat.add_le_add_iff_right, Nat.add_le_add_iff_left] <;> decide
    omega
/-! ### the values of the law -/
/-- a value that the law judges: d of at most a signs -/
structure VA (a : Nat) (d : D) : Prop where
  sz : szD d = true
  rp : Rp d 4 a
end HR
set_option Elab.async false
set_option linter.all false
set_option maxRecDepth 20000
set_option exponentiation.threshold 5000
namespace HR
open PySem L2
/-! ### halls that the caller owns, as they lie in the heap -/
structure HAt (h : OH) (j b : Nat) (ns : List Tk) : Prop where
  top : h[j]? = some (.lst (oTks ns b))
  in_ : ∀ i, i < 2 * ns.length → h[b + i]? = (ns.flatMap oLs)[i]?
def HOk (h : OH) (d : D) (ns : List Tk) (lo hi : Nat) : Prop := ∃ j b, d = .ref j ∧ HAt h j b ns ∧ lo ≤ b ∧ b + 2 * ns.length ≤ j ∧ j < hi
theorem HOk.frame {h h' : OH} {d : D} {ns : List Tk} {lo hi : Nat} (o : HOk h d ns lo hi) (k : ∀ i, lo ≤ i → i < hi → h'[i]? = h[i]?) : HOk h' d ns lo hi := by
  obtain ⟨j, b, e, a, l1, l2, l3⟩ := o
  exact ⟨j, b, e, ⟨by rw [k j (by omega) l3]; exact a.top, fun i hi => by rw [k (b + i) (by omega) (by omega)]; exact a.in_ i hi⟩, l1, l2, l3⟩
/-! ### what repr reads -/
theorem Rps.ok {n k : Nat} {ds : List D} (q : Rps k ds n) (hk : k + 1 ≤ 60) (hn : n + 2 ≤ big) : ∃ ps, (∀ get, pyRL get ds = some ps) ∧ reprOkX (.list ps) = true := by
  obtain ⟨ps, a, b, c, e⟩ := q.py
  refine ⟨ps, a, ?_⟩
  have t := e 0 (("[" : String) : Str)
  have l1 : (("[" : String) : Str).length = 1 := rfl
  have l2 : (("]" : String) : Str).length = 1 := rfl
  have d1 : (PyData.list ps).depth ≤ 60 := by
    simp only [PyData.depth]
    omega
  have d2 : (PyData.list ps).shown.length ≤ big := by
    simp only [PyData.shown]
    unfold listText
    rw [strLen_append]
    omega
  have d3 : (PyData.list ps).showable = true := by simp only [PyData.showable, b]
  simp only [reprOkX, d3, Bool.true_and, Bool.and_eq_true, decide_eq_true_eq]
  exact ⟨d1, d2⟩
/-! ### several halls, one behind the other; f, f + 1 are none of theirs -/
def Fnd (h : OH) (f : Nat) : Nat → List D → List (List Tk) → Prop
  | lo, [], [] => lo ≤ h.length
  | lo, d :: ds, ns :: nss => ∃ l1 hi, HOk h d ns l1 hi ∧ (hi ≤ f ∨ f + 1 < l1) ∧ lo ≤ l1 ∧ l1 ≤ hi ∧ Fnd h f hi ds nss
  | _, _, _ => False
theorem Fnd.le {h : OH} {f : Nat} : ∀ {ds : List D} {nss : List (List Tk)} {lo : Nat}, Fnd h f lo ds nss → lo ≤ h.length
  | [], [], _, r => r
  | d :: ds, ns :: nss, _, ⟨_, hi, _, _, l1, l2, r⟩ => Nat.le_trans (Nat.le_trans l1 l2) r.le
  | [], _ :: _, _, r => r.elim
  | _ :: _, [], _, r => r.elim
theorem Fnd.frame {h h' : OH} {f : Nat} (hl : h.length ≤ h'.length) : ∀ {ds : List D} {nss : List (List Tk)} {lo : Nat}, Fnd h f lo ds nss → (∀ i, lo ≤ i → i < h.length → i ≠ f → i ≠ f + 1 → h'[i]? = h[i]?) → Fnd h' f lo ds nss
  | [], [], _, r, k => Nat.le_trans r hl
  | d :: ds, ns :: nss, _, ⟨l1, hi, a, b, q1, q2, r⟩, k => by
    have := r.le
    exact ⟨l1, hi, a.frame fun i h1 h2 => k i (by omega) (by omega) (by omega) (by omega), b, q1, q2, r.frame hl fun i h1 h2 => k i (by omega) h2⟩
  | [], _ :: _, _, r, _ => r.elim
  | _ :: _, [], _, r, _ => r.elim
theorem Fnd.len {h : OH} {f : Nat} : ∀ {ds : List D} {nss : List (List Tk)} {lo : Nat}, Fnd h f lo ds nss → ds.length = nss.length
  | [], [], _, _ => rfl
  | d :: ds, ns :: nss, _, ⟨_, hi, _, _, _, _, r⟩ => by simp [r.len]
  | [], _ :: _, _, r => r.elim
  | _ :: _, [], _, r => r.elim
theorem Fnd.drop {h : OH} {f : Nat} : ∀ {ds : List D} {nss : List (List Tk)} {lo : Nat} (k : Nat) (d : D), Fnd h f lo ds nss → ds[k]? = some d → ∃ ns l1 hi, nss[k]? = some ns ∧ HOk h d ns l1 hi ∧ (hi ≤ f ∨ f + 1 < l1) ∧ lo ≤ l1 ∧ l1 ≤ hi ∧ Fnd h f hi (ds.drop (k + 1)) (nss.drop (k + 1))
  | d' :: ds, ns :: nss, _, 0, d, ⟨l1, hi, a, b, q1, q2, r⟩, e => by
    simp at e
    subst e
    exact ⟨ns, l1, hi, rfl, a, b, q1, q2, r⟩
  | d' :: ds, ns :: nss, _, k + 1, d, ⟨l1, hi, a, b, q1, q2, r⟩, e => by
    obtain ⟨n2, l2, hi2, e2, a2, b2, c1, c2, r2⟩ := r.drop k d (by simpa using e)
    exact ⟨n2, l2, hi2, by simpa using e2, a2, b2, by omega, c2, r2⟩
  | [], [], _, _, _, _, e => by simp at e
  | [], _ :: _, _, _, _, r, _ => r.elim
  | _ :: _, [], _, _, _, r, _ => r.elim
end HR
set_option Elab.async false
set_option linter.all false
set_option maxRecDepth 20000
set_option exponentiation.threshold 5000
set_option Elab.async false
set_option linter.all false
set_option maxRecDepth 20000
set_option exponentiation.threshold 5000
set_option Elab.async false
set_option linter.all false
set_option maxRecDepth 20000
set_option exponentiation.threshold 5000
namespace HR
open PySem L2
/-! ### law k35: halls that are read, frozen or own -/
def Gro (h0 h : OH) : Prop := h0.length ≤ h.length ∧ ∀ i, i < h0.length → h[i]? = h0[i]?
theorem Gro.refl (h : OH) : Gro h h := ⟨Nat.le_refl _, fun _ _ => rfl⟩
theorem Gro.trans {a b c : OH} (x : Gro a b) (y : Gro b c) : Gro a c := ⟨Nat.le_trans x.1 y.1, fun i hi => by rw [y.2 i (Nat.lt_of_lt_of_le hi x.1), x.2 i hi]⟩
theorem Gro.app (h t : OH) : Gro h (h ++ t) := ⟨by simp, fun i hi => List.getElem?_append_left hi⟩
theorem Gro.set {a h : OH} (x : Gro a h) {i : Nat} (o : OO) (hi : a.length ≤ i) : Gro a (h.set i o) := ⟨by simp [x.1], fun k hk => by rw [List.getElem?_set_ne (by omega)]; exact x.2 k hk⟩
theorem Gro.get {a b : OH} (x : Gro a b) {i : Nat} {o : OO} (e : a[i]? = some o) : b[i]? = some o := by
  rw [x.2 i (List.getElem?_eq_some_iff.mp e).1]
  exact e
/-- d is walked over: xs -/
def ItX (h : OH) (d : D) (xs : List D) : Prop := sqD d = some xs ∨ ∃ j, d = .ref j ∧ h[j]? = some (.lst xs)
/-! ### talkers -/
def PtX (h : OH) (a : D) (ts : List (Int × Int)) : Prop := ∃ xs, ItX h a xs ∧ AllR DrT xs ts
def RdT (h : OH) (x : D) (t : Tk) : Prop := ∃ a b, sqD x = some [.str t.name, .int t.rank, a, b] ∧ PtX h a t.pre ∧ PtX h b t.cyc
theorem drT_map (ts : List (Int × Int)) : AllR DrT (ts.map dT) ts := ⟨by simp, fun k x hx => by
  rw [List.getElem?_map, Option.map_eq_some_iff] at hx
  obtain ⟨p, hp, rfl⟩ := hx
  exact ⟨p, hp, rfl⟩⟩
theorem RdT.frz {h : OH} {x : D} {t : Tk} : DrTk x t → RdT h x t := fun ⟨a, b, e, ⟨xa, ea, ra⟩, ⟨xb, eb, rb⟩⟩ => ⟨a, b, e, ⟨xa, .inl ea, ra⟩, ⟨xb, .inl eb, rb⟩⟩
theorem RdT.own {h : OH} {t : Tk} {b : Nat} (g1 : h[b]? = some (.lst (t.pre.map dT))) (g2 : h[b + 1]? = some (.lst (t.cyc.map dT))) : RdT h (oTk t.name t.rank b) t := ⟨_, _, rfl, ⟨_, .inr ⟨_, rfl, g1⟩, drT_map _⟩, ⟨_, .inr ⟨_, rfl, g2⟩, drT_map _⟩⟩
/-! ### members that the law's halls make -/
/-- the parts of an instance at i, h before it -/
def InsAt (h : OH) (C : String) (h' : OH) (fs : List (String × D)) : Prop := Gro h h' ∧ h'[h.length]? = some (.ins C fs)
theorem InsAt.start (h : OH) (C : String) : InsAt h C (h ++ [.ins C []]) [] := ⟨Gro.app _ _, by simp⟩
end HR
set_option Elab.async false
set_option linter.all false
set_option maxRecDepth 20000
set_option exponentiation.threshold 5000
namespace HR
open PySem L2
/-! ### own halls anywhere in the heap -/
def oTz (ns : List Tk) (bs : List Nat) : List D := List.zipWith (fun t b => oTk t.name t.rank b) ns bs
theorem oTz_at {ns : List Tk} {bs : List Nat} {k : Nat} {t : Tk} {b : Nat} (e1 : ns[k]? = some t) (e2 : bs[k]? = some b) : (oTz ns bs)[k]? = some (oTk t.name t.rank b) := by
  simp [oTz, List.getElem?_zipWith, e1, e2]
structure HAz (h : OH) (j : Nat) (bs : List Nat) (ns : List Tk) : Prop where
  len : bs.length = ns.length
  top : h[j]? = some (.lst (oTz ns bs))
  in_ : ∀ (k : Nat) t b, ns[k]? = some t → bs[k]? = some b → h[b]? = some (.lst (t.pre.map dT)) ∧ h[b + 1]? = some (.lst (t.cyc.map dT))
theorem HAz.at {h : OH} {j : Nat} {bs : List Nat} {ns : List Tk} (a : HAz h j bs ns) {k : Nat} {t : Tk} (e : ns[k]? = some t) : ∃ b, bs[k]? = some b ∧ (oTz ns bs)[k]? = some (oTk t.name t.rank b) ∧ h[b]? = some (.lst (t.pre.map dT)) ∧ h[b + 1]? = some (.lst (t.cyc.map dT)) := by
  have hk := (List.getElem?_eq_some_iff.mp e).1
  have l := a.len
  have e2 : bs[k]? = some bs[k] := List.getElem?_eq_getElem (by omega)
  exact ⟨_, e2, oTz_at e e2, a.in_ k t _ e e2⟩
/-- a hall that is read: frozen or own -/
def RdH (h : OH) (d : D) (ts : List Tk) : Prop := (DrH d ts ∧ szD d = true) ∨ ∃ j bs, d = .ref j ∧ HAz h j bs ts
theorem AllR.mem {ξ : Type} {R : D → ξ → Prop} {xs : List D} {ps : List ξ} (a : AllR R xs ps) {x : D} (hx : x ∈ xs) : ∃ p, p ∈ ps ∧ R x p := by
  obtain ⟨k, hk⟩ := List.getElem?_of_mem hx
  obtain ⟨p, e, r⟩ := a.2 k x hk
  exact ⟨p, List.mem_of_getElem? e, r⟩
/-! ### own_hall -/
def bsq (b n : Nat) : List Nat := (List.range n).map fun k => b + 2 * k
@[simp] theorem bsq_len (b n : Nat) : (bsq b n).length = n := by simp [bsq]
end HR
set_option Elab.async false
set_option linter.all false
set_option maxRecDepth 20000
set_option exponentiation.threshold 5000
namespace HR
open PySem L2
/-! ### what with_talker and without_talker return -/
def HOz (h : OH) (d : D) (ns : List Tk) (lo hi : Nat) : Prop := ∃ j bs, d = .ref j ∧ HAz h j bs ns ∧ (∀ b ∈ bs, lo ≤ b ∧ b + 1 < hi ∧ b ≠ j ∧ b + 1 ≠ j) ∧ lo ≤ j ∧ j < hi
theorem HOz.rd {h : OH} {d : D} {ns : List Tk} {lo hi : Nat} : HOz h d ns lo hi → RdH h d ns := fun ⟨j, bs, e, a, _⟩ => .inr ⟨j, bs, e, a⟩
theorem HOz.frame {h h' : OH} {d : D} {ns : List Tk} {lo hi : Nat} (o : HOz h d ns lo hi) (k : ∀ i, lo ≤ i → i < hi → h'[i]? = h[i]?) : HOz h' d ns lo hi := by
  obtain ⟨j, bs, e, a, l1, l2, l3⟩ := o
  refine ⟨j, bs, e, ⟨a.len, by rw [k j l2 l3]; exact a.top, fun m t b e1 e2 => ?_⟩, l1, l2, l3⟩
  obtain ⟨p, q⟩ := a.in_ m t b e1 e2
  obtain ⟨c1, c2, _⟩ := l1 b (List.mem_of_getElem? e2)
  exact ⟨by rw [k b (by omega) (by omega)]; exact p, by rw [k (b + 1) (by omega) (by omega)]; exact q⟩
end HR
set_option Elab.async false
set_option linter.all false
set_option maxRecDepth 20000
set_option exponentiation.threshold 5000
set_option Elab.async false
set_option linter.all false
set_option maxRecDepth 20000
set_option exponentiation.threshold 5000
namespace HR
open PySem L2
/-! ### parse_hall -/
theorem W_sIdx (o : SE) (a : SA) (e : Env') (h : OH) {PD : D → OH → Prop} : (sIdx o a e h).W PD = (o e h).W fun x h1 => if (lsqAt h1 x).isSome then (a e h1).W fun ys h2 => (match ys with
  | [y] => (opIdx x y h2).W PD
  | _ => False) else False := by
  unfold sIdx
  rw [W_bind]
  congr; funext x h1
  split
  · rw [W_bind]
    congr; funext ys h2
    match ys with
    | [] => rfl
    | [_] => rfl
    | _ :: _ :: _ => rfl
  · rfl
end HR
set_option Elab.async false
set_option linter.all false
set_option maxRecDepth 20000
set_option exponentiation.threshold 5000
namespace HR
open PySem L2
/-! ### law k54: its own halls -/
/-- only i is changed, nothing is new -/
def Chl (i : Nat) (h h' : OH) : Prop := h'.length = h.length ∧ ∀ j, j ≠ i → h'[j]? = h[j]?
theorem Chl.refl (i : Nat) (h : OH) : Chl i h h := ⟨rfl, fun _ _ => rfl⟩
theorem Chl.set (i : Nat) (h : OH) (o : OO) : Chl i h (h.set i o) := ⟨by simp, fun j n => by rw [List.getElem?_set_ne (Ne.symm n)]⟩
theorem Chl.trans {i : Nat} {a b c : OH} (x : Chl i a b) (y : Chl i b c) : Chl i a c := ⟨by rw [y.1, x.1], fun j n => by rw [y.2 j n, x.2 j n]⟩
theorem Chl.get {i : Nat} {h h' : OH} (c : Chl i h h') {j : Nat} {o : OO} (e : h[j]? = some o) (n : j ≠ i) : h'[j]? = some o := by rw [c.2 j n]; exact e
section
variable {ns : List Int} {h : OH} {i c : Nat}
theorem bdrawL {n : Int} (hs : Bag ns h i c) (hc : c < 2 ^ 60) (hn : 0 < n) (hn2 : Small n) {P : D → OH → Prop} (q : ∀ v h', 0 ≤ v → v < n → Bag ns h' i (c + 1) → Chl i h h' → P (.int v) h') : (Sh.l_draw_2 [.ref i, .int n] h).W P := by
  have hi := hs.lt
  have hm := hs.mono (Nat.le_succ c)
  obtain ⟨p, rest, cnt, total, e, p0, p1, c0, c1, t0, t1⟩ := hs
  unfold Sh.l_draw_2
  rw [W_fn]
  unfold Sh.l_draw_2_b
  have hd : ∀ x : Int, divOk x n = true := fun x => divOk_small (i := x) hn2 hn
  have k1 : ∀ x : Int, 0 ≤ x % n := fun x => Int.emod_nonneg _ (by omega)
  have k2 : ∀ x : Int, x % n < n := fun x => Int.emod_lt_of_pos _ hn
  have hset : ∀ o : OO, (h.set i o)[i]? = some o := fun o => by simp [hi]
  have st : ∀ a : Int, ∃ s : Int, ∀ h, pureF Sh.l_stir [.int a, .int (cnt + 1)] h = .ok (.int s) h := fun a => stir_ok (by omega) (by omega)
  have hb : (2 : Nat) ^ 60 = 1152921504606846976 := by decide
  have i1 : ixN 5 1 = some 1 := rfl
  have i2 : ixN 5 2 = some 2 := rfl
  have i3 : ixN 5 3 = some 3 := rfl
  have a4 : ∀ a b c d e : D, atI [a, b, c, d, e] 4 = some e := fun _ _ _ _ _ => rfl
  by_cases hn1 : n = 1
  · subst hn1
    simp
    exact q 0 h (by decide) (by decide) hm (Chl.refl ..)
  · by_cases hr : rest < 2
    · by_cases hp : p = ns.length
      · obtain ⟨s, es⟩ := st total
        simp [hn1, e, hset, i1, i2, i3, a4, hr, hp, es, hn]
        exact q _ _ (k1 _) (k2 _) ⟨p, rest, cnt + 1, total, by rw [hp]; exact hset _, p0, p1, by omega, by omega, t0, t1⟩ (Chl.set ..)
      · have hpl : p.toNat < ns.length := by omega
        have ea : atI (ns.map D.int) p = some (.int ns[p.toNat]) := by
          rw [atI_z p0 (by simp; omega)]
          simp [hpl]
        generalize ns[p.toNat] = cell at ea
        by_cases hcell : cell < 1000000000000000000
        · obtain ⟨s, es⟩ := st (cell % 2305843009213693951)
          simp [hn1, e, hset, i1, i2, i3, a4, hr, hp, ea, hcell, es, hn]
          exact q _ _ (k1 _) (k2 _) ⟨p + 1, rest, cnt + 1, total, hset _, by omega, by omega, by omega, by omega, t0, t1⟩ (Chl.set ..)
        · simp [hn1, e, hset, i1, i2, i3, a4, hr, hp, ea, hcell, hn, hd]
          exact q _ _ (k1 _) (k2 _) ⟨p + 1, _, cnt + 1, total, hset _, by omega, by omega, by omega, by omega, t0, t1⟩ (Chl.set ..)
    · simp [hn1, e, hset, i1, i2, i3, a4, hr, hn, hd]
      exact q _ _ (k1 _) (k2 _) ⟨p, _, cnt + 1, total, hset _, by omega, by omega, by omega, by omega, t0, t1⟩ (Chl.set ..)
end
/-- only i is changed of what was; n are new -/
def Chn (i n : Nat) (h h' : OH) : Prop := h'.length = h.length + n ∧ ∀ j, j < h.length → j ≠ i → h'[j]? = h[j]?
theorem Chn.trans {i n m : Nat} {a b c : OH} (x : Chn i n a b) (y : Chn i m b c) : Chn i (n + m) a c := ⟨by rw [y.1, x.1]; omega, fun j hj hn => by rw [y.2 j (by rw [x.1]; omega) hn, x.2 j hj hn]⟩
theorem Chn.get {i n : Nat} {h h' : OH} (c : Chn i n h h') {j : Nat} {o : OO} (e : h[j]? = some o) (hn : j ≠ i) : h'[j]? = some o := by
  rw [c.2 j (List.getElem?_eq_some_iff.mp e).1 hn]
  exact e
theorem Chn.app (i : Nat) (h t : OH) : Chn i t.length h (h ++ t) := ⟨by simp, fun j hj _ => List.getElem?_append_left hj⟩
theorem Chn.set {i n : Nat} {h h' : OH} (c : Chn i n h h') {j : Nat} (hj : h.length ≤ j) (o : OO) : Chn i n h (h'.set j o) := ⟨by rw [List.length_set]; exact c.1, fun k hk hn => by rw [List.getElem?_set_ne (by omega)]; exact c.2 k hk hn⟩
end HR
set_option Elab.async false
set_option linter.all false
set_option maxRecDepth 20000
set_option exponentiation.threshold 5000
set_option Elab.async false
set_option linter.all false
set_option maxRecDepth 20000
set_option exponentiation.threshold 5000
namespace HR
open PySem L2
/-! ### halls, drawn from the bag -/
section
variable {ns : List Int} {h : OH} {i c : Nat}
theorem ftalks {least more longest : Int} (hs : Bag ns h i c) (hc : c + 300 < 2 ^ 60) (hl : 0 ≤ least) (hl2 : least ≤ 10) (hm : 0 < more) (hm2 : more ≤ 10) (hg : 0 < longest) (hg2 : Small longest) {P : D → OH → Prop}
    (q : ∀ (ts : List (Int × Int)) h', Bag ns h' i (c + 300) → Chl i h h' → least ≤ ts.length → ts.length < least + more → (∀ p ∈ ts, In1 longest p) → P (.lst (ts.map dT)) h') : (Sh.l_talks_2 [.ref i, .int least, .int more, .int longest] h).W P := by
  unfold Sh.l_talks_2; rw [W_fn]; unfold Sh.l_talks_2_b
  refine SW_seqK fun K hK => ?_
  simp
  refine bdrawL hs (by omega) hm (small_64 (by omega)) fun v h1 v0 v1 s1 c1 => ?_
  simp
  refine hK _ _ ?_
  clear hK K
  have r : rngOk (least + v) = true := by simp [rngOk]; omega
  simp [r]
  refine W_lcGo (fun k acc h' => Bag ns h' i (c + 1 + 2 * k) ∧ Chl i h h' ∧ ∃ ts : List (Int × Int), acc = ts.map dT ∧ ts.length = k ∧ ∀ p ∈ ts, In1 longest p) _ _ _ ⟨s1, c1, [], rfl, rfl, by simp⟩ (fun k d hd acc h' hI => ?_) (fun acc h' hI => ?_)
  · obtain ⟨s2, c2, ts, rfl, hk, ht⟩ := hI
    obtain ⟨hk2, rfl⟩ := rngD_at hd
    refine ⟨_, rfl, ?_⟩
    simp [wipeD]
    refine bdrawL s2 (by omega) hg hg2 fun a h2 a0 a1 s3 c3 => ?_
    simp
    refine bdrawL s3 (by omega) hg hg2 fun b h3 b0 b1 s4 c4 => ?_
    simp
    refine ⟨by omega, s4.mono (by omega), c2.trans (c3.trans c4), ts ++ [(1 + a, 1 + b)], by simp [dT], by simp [hk], fun p hp hq => ?_⟩
    rcases List.mem_append.mp hq with hq | hq
    · exact ht (p, hp) hq
    · simp only [List.mem_singleton, Prod.mk.injEq] at hq
      obtain ⟨rfl, rfl⟩ := hq
      refine ⟨?_, ?_, ?_, ?_⟩ <;> dsimp only <;> omega
  · obtain ⟨s2, c2, ts, rfl, hk, ht⟩ := hI
    rw [rngD_len] at hk s2
    exact q ts _ (s2.mono (by omega)) c2 (by omega) (by omega) ht
set_option maxHeartbeats 4000000 in
theorem fhall {most longest : Int} (hs : Bag ns h i c) (hc : c + 10000 < 2 ^ 60) (ht0 : 0 ≤ most) (ht1 : most ≤ 10) (hg : 0 < longest) (hg2 : Small longest) {P : D → OH → Prop}
    (q : ∀ (ts : List Tk) h', Bag ns h' i (c + 10000) → Chg i h h' → ts.length ≤ most → WfHall longest ts → (∀ t ∈ ts, t.name ∈ NAMES) → P (.lst (ts.map dTk)) h') : (Sh.l_hall_2 [.ref i, .int most, .int longest] h).W P := by
  have hi := hs.lt
  unfold Sh.l_hall_2; rw [W_fn]; unfold Sh.l_hall_2_b
  refine SW_seqK fun K hK => ?_
  simp
  refine hK _ _ ?_
  clear hK K
  refine SW_seqK fun K hK => ?_
  try simp
  refine bdrawL (hs.app _) (by omega) (by decide) (small_64 (by decide)) fun v h1 v0 v1 s1 c1 => ?_
  try simp
  refine pickI (ns := [1, 2, 4, 10]) v0 v1 fun ranks hr => ?_
  have hr' : 1 ≤ ranks ∧ ranks ≤ 10 := by simp at hr; omega
  refine hK _ _ ?_
  clear hK K
  have l1 : h1.length = h.length + 1 := by rw [c1.1]; simp
  refine SW_seqK fun K hK => ?_
  simp
  refine hK _ _ ?_
  clear hK K
  refine SW_seqK fun K hK => ?_
  simp
  refine bdrawL (s1.app _) (by omega) (by omega) (small_64 (by omega)) fun w h2 w0 w1 s2 c2 => ?_
  have r : rngOk w = true := by simp [rngOk]; omega
  have l2 : h2.length = h.length + 2 := by rw [c2.1, List.length_append, l1]; rfl
  have hn1 : h1[h.length]? = some (.lst (NAMES.map D.str)) := c1.get (by simp; rfl) (by omega)
  have hn2 : h2[h.length]? = some (.lst (NAMES.map D.str)) := c2.get (by rw [List.getElem?_append_left (by omega)]; exact hn1) (by omega)
  have hf2 : h2[h.length + 1]? = some (.lst []) := c2.get (by rw [← l1]; simp) (by omega)
  have keep : ∀ j, j < h.length → j ≠ i → h2[j]? = h[j]? := fun j hj n => by
    rw [c2.2 j n, List.getElem?_append_left (by omega), c1.2 j n, List.getElem?_append_left hj]
  simp [r]
  rw [l1]
  refine W_forL (fun k e h' => Bag ns h' i (c + 2 + 700 * k) ∧ (∀ j, j < h.length → j ≠ i → h'[j]? = h[j]?) ∧ h'.length = h.length + 2 ∧ ∃ (ts : List Tk) (nm : List Str) (a b c d : Option D), e = [some (.ref i), some (.int most), some (.int longest), some (.ref h.length), some (.int ranks), some (.ref (h.length + 1)), a, b, c, d] ∧
      h'[h.length]? = some (.lst (nm.map D.str)) ∧ h'[h.length + 1]? = some (.lst (ts.map dTk)) ∧ ts.length = k ∧ nm.length + k = 10 ∧ (ts.map (·.name) ++ nm).Perm NAMES ∧ ∀ t ∈ ts, WfTk longest t) _ _ _
    ⟨s2, keep, l2, [], NAMES, none, none, none, none, rfl, hn2, hf2, rfl, rfl, List.Perm.refl _, by simp⟩ (fun k d hd e h' hI => ?_) (fun e h' hI => ?_)
  · obtain ⟨s, kp, lk, ts, nm, ea, eb, ec, ed, rfl, g1, g2, hk, hns, hp, hw⟩ := hI
    obtain ⟨hk2, rfl⟩ := rngD_at hd
    have hk3 : k < 10 := by omega
    refine ⟨_, rfl, ?_⟩
    refine SW_seqK fun K2 hK2 => ?_
    simp [g1]
    refine bdrawL s (by omega) (by omega) (small_64 (by omega)) fun p h3 p0 p1 s3 c3 => ?_
    have g3 := c3.get g1 (by omega)
    simp [g3]
    have hpl : p.toNat < nm.length := by omega
    refine W_popAt p0 (y := .str nm[p.toNat]) (by simp [hpl]) (by omega) ?_
    have s3' := s3.set (j := h.length) (by omega) (.lst ((nm.map D.str).eraseIdx p.toNat))
    have c3' : ∀ j, j ≠ i → j ≠ h.length → (h3.set h.length (.lst ((nm.map D.str).eraseIdx p.toNat)))[j]? = h'[j]? := fun j n1 n2 => by
      rw [List.getElem?_set_ne (Ne.symm n2), c3.2 j n1]
    have n3 : (h3.set h.length (.lst ((nm.map D.str).eraseIdx p.toNat)))[h.length]? = some (.lst ((nm.eraseIdx p.toNat).map D.str)) := by
      rw [List.getElem?_set_self (List.getElem?_eq_some_iff.mp g3).1, eraseIdx_mapF]
    have l4 : (h3.set h.length (.lst ((nm.map D.str).eraseIdx p.toNat))).length = h.length + 2 := by rw [List.length_set, c3.1, lk]
    generalize h3.set h.length (.lst ((nm.map D.str).eraseIdx p.toNat)) = h4 at s3' c3' n3 l4 ⊢
    refine hK2 _ _ ?_
    clear hK2 K2 s3 c3 g3
    refine SW_seqK fun K2 hK2 => ?_
    try simp
    refine bdrawL s3' (by omega) (by decide) (small_64 (by decide)) fun a h5 a0 a1 s5 c5 => ?_
    try simp
    refine pickI (ns := [1, 1, 3, 9]) a0 a1 fun more hm => ?_
    have hm' : 1 ≤ more ∧ more ≤ 9 := by simp at hm; omega
    try simp
    refine ftalks s5 (by omega) (by decide) (by decide) (by omega) (by omega) hg hg2 fun pre h6 s6 c6 l6 l6' w6 => ?_
    refine hK2 _ _ ?_
    clear hK2 K2
    refine SW_seqK fun K2 hK2 => ?_
    try simp
    refine bdrawL s6 (by omega) (by decide) (small_64 (by decide)) fun a h7 a0 a1 s7 c7 => ?_
    try simp
    refine pickI (ns := [1, 3, 8]) a0 a1 fun more2 hm2 => ?_
    have hm2' : 1 ≤ more2 ∧ more2 ≤ 8 := by simp at hm2; omega
    try simp
    refine ftalks s7 (by omega) (by decide) (by decide) (by omega) (by omega) hg hg2 fun cyc h8 s8 c8 l8 l8' w8 => ?_
    refine hK2 _ _ ?_
    clear hK2 K2
    have c48 : Chl i h4 h8 := c5.trans (c6.trans (c7.trans c8))
    have f8 : h8[h.length + 1]? = some (.lst (ts.map dTk)) := by rw [c48.2 _ (by omega), c3' _ (by omega) (by omega)]; exact g2
    have n8 : h8[h.length]? = some (.lst ((nm.eraseIdx p.toNat).map D.str)) := by rw [c48.2 _ (by omega)]; exact n3
    simp [f8]
    refine bdrawL s8 (by omega) (by omega) (small_64 (by omega)) fun rk h9 rk0 rk1 s9 c9 => ?_
    have f9 := c9.get f8 (by omega)
    have n9 := c9.get n8 (by omega)
    have l9 : h9.length = h.length + 2 := by rw [c9.1, c48.1, l4]
    have k9 : ∀ j, j ≠ i → j ≠ h.length → h9[j]? = h'[j]? := fun j a2 a3 => by rw [c9.2 j a2, c48.2 j a2, c3' j a2 a3]
    have hx : nm[p.toNat] ∈ NAMES := hp.mem_iff.mp (List.mem_append_right _ (List.getElem_mem hpl))
    simp [f9]
    refine ⟨by omega, (s9.set (by omega) _).mono (by omega), fun j hj n => ?_, by simpa using l9, ts ++ [⟨nm[p.toNat], 1 + rk, pre, cyc⟩], nm.eraseIdx p.toNat, ?_, ?_, by simp [hk], ?_, ?_, ?_⟩
    · rw [List.getElem?_set_ne (by omega), k9 j n (by omega)]
      exact kp j hj n
    · first
      | exact n9
      | (rw [List.getElem?_set_ne (by omega)]; exact n9)
    · rw [List.getElem?_set_self (List.getElem?_eq_some_iff.mp f9).1]
      simp [dTk]
    · rw [List.length_eraseIdx, if_pos hpl]; omega
    · refine List.Perm.trans ?_ hp
      simp only [List.map_append, List.map_cons, List.map_nil, List.append_assoc, List.singleton_append]
      exact List.Perm.append_left _ (eraseIdx_permF nm _ hpl)
    · intro t htm
      rcases List.mem_append.mp htm with htm | htm
      · exact hw t htm
      · simp only [List.mem_singleton] at htm
        subst htm
        exact ⟨names_wf _ hx, by dsimp only; omega, by dsimp only; omega, by dsimp only; omega, by dsimp only; omega, by dsimp only; omega, w6, w8⟩
  · obtain ⟨s, kp, lk, ts, nm, ea, eb, ec, ed, rfl, g1, g2, hk, hns, hp, hw⟩ := hI
    rw [rngD_len] at hk hns s
    refine hK _ _ ?_
    clear hK K
    have nd : (ts.map (·.name) ++ nm).Nodup := hp.nodup_iff.mpr names_nd
    have nd1 := (List.nodup_append.mp nd).1
    simp [g2]
    exact q ts _ ((s.set (by omega) _).mono (by omega)) ⟨by simp; omega, fun j hj n => by rw [List.getElem?_set_ne (by omega)]; exact kp j hj n⟩ (by omega) ⟨by omega, hw, nd1⟩ fun t ht => hp.mem_iff.mp (List.mem_append_left _ (List.mem_map_of_mem ht))
end
end HR
set_option Elab.async false
set_option linter.all false
set_option maxRecDepth 20000
set_option exponentiation.threshold 5000
namespace HR
open PySem L2
/-! ### members and records handed in; how long their texts are -/
section
variable {ms : List (Str × Int)} {xs : List (Option Nat)} {h : OH} {ns : List Int} {i c : Nat}
theorem either_ok (hs : Bag ns h i c) (hc : c < 2 ^ 59) {d : D} {l : List D} (ld : (opList false d h) = .ok (.lst l) h) (td : opTuple d h = .ok (.tup l) h) {P : D → OH → Prop} (q : ∀ t h', Bag ns h' i (c + 1) → Chl i h h' → P (sqV t l) h') : (Sh.l_either [.ref i, d] h).W P := by
  have b60 : (2 : Nat) ^ 60 = 2 * 2 ^ 59 := by decide
  unfold Sh.l_either; rw [W_fn]; unfold Sh.l_either_b
  simp [ld, td]
  refine bdrawL hs (by omega) (by decide) (small_64 (by decide)) fun v h2 v0 v1 s2 c2 => ?_
  have : v = 0 ∨ v = 1 := by omega
  rcases this with rfl | rfl
  · simp [atI]
    exact q false _ s2 c2
  · simp [atI]
    exact q true _ s2 c2
theorem rp_nm8 {x : Str} (w : WfN x) : Rp (.str x) 0 82 := by
  refine (rp_str fun c hc => ?_).mono (Nat.le_refl _) ?_
  · have e : ∀ c ∈ ("abcdefghijklmnopqrstuvwxyz" : Str).cps.toList, c < 16 ^ 8 := by decide +kernel
    exact e c (w.2.2 c hc)
  · have := w.2.1
    omega
theorem rp_sqV {t : Bool} {ds : List D} {k n : Nat} (h : ∀ d ∈ ds, Rp d k n) : Rp (sqV t ds) (k + 1) (ds.length * (n + 2) + 3) := by
  cases t
  · exact (rp_lst h).mono (Nat.le_refl _) (by omega)
  · exact rp_tup h
theorem rp_mb (t : Bool) {m : Str × Int} (w : WfN m.1) (h1 : 1 ≤ m.2) (h2 : m.2 ≤ 10) : Rp (mbV t m) 1 171 := by
  have key : ∀ d ∈ [D.str m.1, D.int m.2], Rp d 0 82 := fun d hd => by
    simp only [List.mem_cons, List.not_mem_nil, or_false] at hd
    rcases hd with rfl | rfl
    · exact rp_nm8 w
    · exact (rp_int (k := 7) (by decide) (by decide) (by omega)).mono (Nat.le_refl _) (by decide)
  have := rp_sqV (t := t) key
  cases t <;> exact this.mono (by decide) (by simp)
theorem rp_mv (w : WfM ms) (t : Bool) (f : Nat → Bool) : Rp (mvD t f ms) 2 1800 := by
  have hn := w.len
  refine (rp_sqV (k := 1) (n := 171) fun d hd => ?_).mono (Nat.le_refl _) (by rw [mvL_len]; omega)
  obtain ⟨j, hj, rfl⟩ := List.mem_map.mp hd
  have hj := List.mem_range.mp hj
  have hm : ms.getD j gMb ∈ ms := by simp [hj]
  exact rp_mb _ (w.nm _ hm) (w.rk _ hm).1 (w.rk _ hm).2
theorem rp_rv (r : Rc ms xs) (u : Bool) : Rp (rvD u ms xs) 2 34000 := by
  have hl := r.hl
  refine (rp_sqV (k := 1) (n := 82) fun d hd => ?_).mono (Nat.le_refl _) (by simp; omega)
  obtain ⟨x, hx, rfl⟩ := List.mem_map.mp hd
  obtain ⟨y, hy, rfl⟩ := List.mem_map.mp hx
  cases y with
  | none => exact rp_non.mono (by decide) (by decide)
  | some k =>
    have hk := r.hx _ hy k rfl
    exact (rp_nm8 (r.w.nm _ (by simp [hk]))).mono (by decide) (Nat.le_refl _)
theorem repr_handed (r : Rc ms xs) (t : Bool) (f : Nat → Bool) (u : Bool) : ∃ x, ∀ h PD, (opReprX (.lst [mvD t f ms, rvD u ms xs]) h).W PD = PD (.str x) h := by
  have key : ∀ d ∈ [mvD t f ms, rvD u ms xs], Rp d 2 34000 := fun d hd => by
    simp only [List.mem_cons, List.not_mem_nil, or_false] at hd
    rcases hd with rfl | rfl
    · exact (rp_mv r.w t f).mono (by decide) (by decide)
    · exact rp_rv r u
  obtain ⟨x, hx⟩ := W_reprF (h := []) (d := .lst [mvD t f ms, rvD u ms xs]) rfl (rp_lst key) (by decide) (by simp [big])
  exact ⟨x, hx⟩
end
end HR
set_option Elab.async false
set_option linter.all false
set_option maxRecDepth 20000
set_option exponentiation.threshold 5000
namespace HR
open PySem L2
/-! ### law k43: the fault at a tick, as the law computes it -/
section
variable {ms : List (Str × Int)} {xs : List (Option Nat)} {h : OH}
theorem idx_str : ∀ (A B : List Str) (x : Str), (∀ y ∈ A, y ≠ x) → idxV (.str x) ((A ++ x :: B).map V.str) = some A.length
  | [], B, x, _ => by simp [idxV, eqV]
  | y :: A, B, x, h => by
    have r := idx_str A B x (fun z hz => h z (List.mem_cons_of_mem _ hz))
    have ne : (eqV (.str y) (.str x)) = false := by
      have := h y List.mem_cons_self
      simpa [eqV] using this
    rw [List.map_append, List.map_cons] at r
    simp [idxV, ne, r]
theorem W_idxS {A B : List Str} {x : Str} (hA : ∀ y ∈ A, y ≠ x) (h : OH) {PD : D → OH → Prop} : (opIdx (.lst ((A ++ x :: B).map D.str)) (.str x) h).W PD = PD (.int A.length) h := by
  have fl : ∀ l : List Str, flatsD (l.map D.str) = some (l.map V.str) := fun l => by
    induction l with
    | nil => rfl
    | cons y ys ih => simp [flatsD, flatD, ih]
  have f : ∀ l : List Str, (l.map V.str).all flatV = true := fun l => by simp [flatV]
  unfold opIdx
  simp only [lsqAt, seqAt, Option.bind_some, fl, flatD, f, idx_str A B x hA]
  simp [flatV]
theorem nmIx (w : WfM ms) {j : Nat} (hj : j < ms.length) (h : OH) {PD : D → OH → Prop} : (opIdx (.lst ((ms.map (·.1)).map D.str)) (.str (ms.getD j gMb).1) h).W PD = PD (.int j) h := by
  have e : ms.map (·.1) = (ms.take j).map (·.1) ++ (ms.getD j gMb).1 :: (ms.drop (j + 1)).map (·.1) := by
    have e0 : ms = ms.take j ++ ms.getD j gMb :: ms.drop (j + 1) := by
      have : ms.getD j gMb = ms[j] := by simp [hj]
      rw [this, ← List.drop_eq_getElem_cons hj, List.take_append_drop]
    conv => lhs; rw [e0]
    rw [List.map_append, List.map_cons]
  have nd := w.nd
  rw [e] at nd ⊢
  rw [W_idxS]
  · have : ((ms.take j).map (·.1)).length = j := by simp; omega
    rw [this]
  · intro y hy z
    subst z
    exact (List.nodup_append.mp nd).2.2 _ hy _ List.mem_cons_self rfl
theorem nmMem (w : WfM ms) {j k : Nat} (hj : j < ms.length) (hk : k < ms.length) : decide ((ms.getD k gMb).1 ∈ (ms.drop (j + 1)).map (·.1)) = decide (j < k) := by
  rw [Bool.eq_iff_iff]
  simp only [decide_eq_true_eq]
  have nd := w.nd
  constructor
  · intro z
    obtain ⟨m, hm, e⟩ := List.mem_map.mp z
    obtain ⟨i, hi, ei⟩ := List.getElem_of_mem hm
    rw [List.length_drop] at hi
    rw [List.getElem_drop] at ei
    have a : (ms.map (·.1))[j + 1 + i]? = some m.1 := by rw [List.getElem?_map, List.getElem?_eq_getElem (by omega), ei]; rfl
    have b : (ms.map (·.1))[k]? = some (ms.getD k gMb).1 := by simp [hk]
    have := (List.getElem?_inj (by simp; omega) nd).mp (by rw [a, b, e] : (ms.map (·.1))[j + 1 + i]? = (ms.map (·.1))[k]?)
    omega
  · intro z
    refine List.mem_map.mpr ⟨ms.getD k gMb, ?_, rfl⟩
    refine List.mem_iff_getElem.mpr ⟨k - (j + 1), by simp; omega, ?_⟩
    rw [List.getElem_drop]
    have : j + 1 + (k - (j + 1)) = k := by omega
    simp [this, hk]
/-- _law_fault -/
theorem faultL_ok (r : Rc ms xs) {t : Nat} (ht : t < xs.length) (h : OH) : pureF Sh.l_fault_1 [.lst (ms.map dMb), recD ms xs, .int t] h = .ok (dKd (faultDef (rkM ms) xs t)) h := by
  have hl := r.hl
  have hn := r.w.len
  have dkp : ∀ o, (dKd o).pure = true := fun o => by
    cases o with
    | none => rfl
    | some b => cases b <;> rfl
  refine pure_eq h (by simp) (dkp _) ?_
  obtain ⟨rc, hrc⟩ : ∃ rc, rc = recD ms xs := ⟨_, rfl⟩
  have go := fun (j : Nat) (hj : j < ms.length) h => goesOn_ok r hj (Nat.le_of_lt ht) h
  have lo := fun (j : Nat) (hj : j < ms.length) h => last_ok r hj (Nat.le_of_lt ht) h
  have qo := fun (rank : Int) (a : Nat) (ha : a ≤ t) h => quiet_ok r rank ha (Nat.le_of_lt ht) h
  rw [← hrc] at go lo qo ⊢
  unfold Sh.l_fault_1; rw [W_fn]; unfold Sh.l_fault_1_b
  generalize pureF Sh.l_goes_on = GO at go ⊢
  generalize pureF Sh.l_last = LO at lo ⊢
  generalize pureF Sh.l_quiet = QO at qo ⊢
  refine SW_seqK fun K hK => ?_
  simp [wipeD]
  refine W_lcMap1 ms dMb (fun m => D.tup [.str m.1, .int m.2]) _ (by simp [big]; omega) (fun x hx => ⟨_, rfl, by simp [dMb]⟩) ?_
  rw [W_dictP (rkDict r.w) (rkK_nodup r.w)]
  refine hK _ _ ?_
  clear hK K
  refine SW_seqK fun K hK => ?_
  simp [wipeD]
  refine W_lcMap1 ms dMb (fun m => .str m.1) _ (by simp [big]; omega) (fun x hx => ⟨_, rfl, by simp [dMb]⟩) ?_
  have en : ms.map (fun m => D.str m.1) = (ms.map (·.1)).map D.str := by simp
  rw [en]
  refine hK _ _ ?_
  clear hK K en
  obtain ⟨nl, hnl⟩ : ∃ nl, nl = (ms.map (·.1)).map D.str := ⟨_, rfl⟩
  rw [← hnl]
  have e2 : ∀ {k : Nat} (hk : k < xs.length) h (PD : D → OH → Prop), (opIx rc (.int k) h).W PD = PD (dN (nmM ms (xs.getD k none))) h := fun {k} hk h PD => by
    rw [hrc, recD, W_ixL, recL_at (ms := ms) hk]
    rfl
  refine SW_seqK fun K hK => ?_
  simp [-List.getD_eq_getElem?_getD, e2 ht]
  refine hK _ _ ?_
  clear hK K
  refine SW_seqK fun K hK => ?_
  have fd : faultDef (rkM ms) xs t = match xs.getD t none with
    | none => none
    | some j => if goes (rkM ms) xs j t then none else if qsL (rkM ms) xs (rkM ms j) (lastI xs j t + 1).toNat t = [] then some true else if rivL (rkM ms) xs j t = [] then none else some false := rfl
  cases ex : xs.getD t none with
  | none =>
    rw [ex] at fd
    dsimp only at fd
    simp [nmM, dN, fd, dKd]
  | some j =>
    rw [ex] at fd
    dsimp only at fd
    have hj := getD_hx r t j ex
    have g := rkK_get r.w hj
    have nm0 : dN (nmM ms (some j)) = .str (ms.getD j gMb).1 := rfl
    have go := go j hj
    have lo := lo j hj
    have ixn := fun h (PD : D → OH → Prop) => nmIx r.w hj h (PD := PD)
    rw [nm0]
    rw [← hnl] at ixn
    generalize (ms.getD j gMb).1 = nm at go lo g ixn ⊢
    simp [go]
    cases gg : goes (rkM ms) xs j t with
    | true => simp [fd, gg, dKd]
    | false =>
      rw [gg] at fd
      simp only [Bool.false_eq_true, if_false] at fd ⊢
      refine hK _ _ ?_
      clear hK K
      refine SW_seqK fun K hK => ?_
      simp [lo]
      refine hK _ _ ?_
      clear hK K
      have lt := lastI_lt (w := xs) j t
      obtain ⟨a, ha⟩ : ∃ a : Nat, lastI xs j t + 1 = (a : Int) := ⟨(lastI xs j t + 1).toNat, by omega⟩
      have hat : a ≤ t := by omega
      have q1 := qo (rkM ms j) a hat
      rw [ha, Int.toNat_natCast] at fd
      refine SW_seqK fun K hK => ?_
      simp [W_ixK (keyD_str _) g, ha, q1]
      by_cases z : qsL (rkM ms) xs (rkM ms j) a t = []
      · simp [z, fd, dKd]
      · have zi : (qsL (rkM ms) xs (rkM ms j) a t).isEmpty = false := by simpa using z
        rw [if_neg z] at fd
        simp [z]
        refine hK _ _ ?_
        clear hK K
        have nz : qsL (rkM ms) xs (rkM ms j) 0 t ≠ [] := fun e => by
          refine z ?_
          cases q : qsL (rkM ms) xs (rkM ms j) a t with
          | nil => rfl
          | cons k l =>
            have : k ∈ qsL (rkM ms) xs (rkM ms j) 0 t := by
              have m : k ∈ qsL (rkM ms) xs (rkM ms j) a t := by rw [q]; exact List.mem_cons_self
              rw [qsL_mem] at m ⊢
              exact ⟨Nat.zero_le _, m.2⟩
            rw [e] at this
            cases this
        have q0 := qo (rkM ms j) 0 (Nat.zero_le _)
        obtain ⟨s1, _, _⟩ := since_ok (rkM ms) xs (rkM ms j) t nz
        have rv : rivL (rkM ms) xs j t = ((xs.take t).drop (sinceL (rkM ms) xs (rkM ms j) t + 1)).filter fun x => match x with
          | none => false
          | some m => decide (j < m) && decide (rkM ms m = rkM ms j) := rfl
        have lastq : atI ((qsL (rkM ms) xs (rkM ms j) 0 t).map fun (k : Nat) => D.int (k : Int)) (-1) = some (.int (sinceL (rkM ms) xs (rkM ms j) t : Nat)) := by
          unfold sinceL
          obtain ⟨ys, y, ey⟩ : ∃ ys y, qsL (rkM ms) xs (rkM ms j) 0 t = ys ++ [y] := ⟨_, _, (List.dropLast_concat_getLast nz).symm⟩
          rw [ey, List.map_append, List.map_cons, List.map_nil, atI_last]
          simp
        generalize sinceL (rkM ms) xs (rkM ms j) t = s at s1 rv lastq
        refine SW_seqK fun K hK => ?_
        simp at q0
        simp [W_ixK (keyD_str _) g, q0, lastq]
        refine hK _ _ ?_
        clear hK K
        subst hnl
        have cN : cutD ((ms.map (·.1)).map D.str) (some ((j : Int) + 1)) none = ((ms.drop (j + 1)).map (·.1)).map D.str := by
          rw [cutD_drop _ _ (by omega), show ((j : Int) + 1).toNat = j + 1 from by omega, List.map_drop, List.map_drop]
        have cR : cutD ((xs.map (nmM ms)).map dN) (some ((s : Int) + 1)) (some (t : Int)) = ((xs.take t).drop (s + 1)).map fun x => dN (nmM ms x) := by
          have s2 : ¬ ((s : Int) + 1 < 0) := by omega
          have t2 : ¬ ((t : Int) < 0) := by omega
          simp only [cutD, HT.sIx, s2, t2, if_false, List.length_map, Int.toNat_natCast, show ((s : Int) + 1).toNat = s + 1 from by omega, Nat.min_eq_left (Nat.le_of_lt ht), Nat.min_eq_left (show s + 1 ≤ xs.length from by omega), List.drop_take, List.map_take, List.map_drop, List.map_map]
          rfl
        generalize hB : (ms.map (·.1)).map D.str = NL at ixn cN
        obtain ⟨BD, hBD⟩ : ∃ z, z = ((ms.drop (j + 1)).map (·.1)).map D.str := ⟨_, rfl⟩
        rw [← hBD] at cN
        refine SW_seqK fun K hK => ?_
        have ls : ∀ h, (lsqAt h (.lst NL)).isSome = true := fun h => by simp [lsqAt, seqAt]
        simp [W_sIdx, ls, ixn, cN]
        refine hK _ _ ?_
        clear hK K cN
        have mem := fun {k : Nat} (hk : k < ms.length) => nmMem r.w hj hk
        have nine := fun o h (PD : D → OH → Prop) => W_inN o ((ms.drop (j + 1)).map (·.1)) h (PD := PD)
        have nine0 := nine none
        have nine1 := fun x => nine (some x)
        simp only [dN] at nine0 nine1
        rw [← hBD] at nine0 nine1
        clear hBD
        clear nine
        generalize (ms.drop (j + 1)).map (·.1) = BL at mem nine0 nine1 ⊢
        refine SW_seqK fun K hK => ?_
        have mx : ∀ x ∈ (xs.take t).drop (s + 1), ∀ k, x = some k → k < ms.length := fun x hx k e => r.hx x (List.mem_of_mem_take (List.mem_of_mem_drop hx)) k e
        have ll : ((xs.take t).drop (s + 1)).length ≤ 400 := by simp; omega
        subst hrc
        have ct : ∀ h (PD : D → OH → Prop), (opCut false (recD ms xs) (some ((s : Int) + 1)) (some (t : Int)) h).W PD = PD (.lst (((xs.take t).drop (s + 1)).map fun x => dN (nmM ms x))) h := fun h PD => by
          rw [recD, W_cutL, cR]
          rfl
        generalize recD ms xs = RC at ct ⊢
        generalize (xs.take t).drop (s + 1) = L at rv mx ll ct
        simp [ct, wipeD]
        refine W_lcMap L (fun x => dN (nmM ms x)) (fun x => match x with | none => false | some m => decide (j < m)) (fun x => dN (nmM ms x)) _ (by simp [big]; omega) (fun x hx => ⟨_, rfl, ?_⟩) ?_
        · cases x with
          | none => simp [nine0, nmM, dN]
          | some k => simp [-List.getD_eq_getElem?_getD, nine1, nmM, dN, ← mem (mx _ hx k rfl)]
        refine hK _ _ ?_
        clear hK K
        refine SW_seqK fun K hK => ?_
        simp [wipeD]
        refine W_lcMap (L.filter fun x => match x with | none => false | some m => decide (j < m)) (fun x => dN (nmM ms x)) (fun x => match x with | none => false | some m => decide (rkM ms m = rkM ms j)) (fun x => dN (nmM ms x)) _ (by have := List.length_filter_le (fun x => match x with | none => false | some m => decide (j < m)) L; simp only [big]; omega) (fun x hx => ⟨_, rfl, ?_⟩) ?_
        · rw [List.mem_filter] at hx
          cases x with
          | none => simp at hx
          | some k =>
            have gk := rkK_get r.w (mx _ hx.1 k rfl)
            have e1 : dN (nmM ms (some k)) = .str (ms.getD k gMb).1 := rfl
            rw [e1]
            simp [-List.getD_eq_getElem?_getD, W_ixK (keyD_str _) gk, W_ixK (keyD_str _) g]
            rw [Bool.eq_iff_iff]; simp
        refine hK _ _ ?_
        clear hK K
        have e3 : ((L.filter fun x => match x with | none => false | some m => decide (j < m)).filter fun x => match x with | none => false | some m => decide (rkM ms m = rkM ms j)) = rivL (rkM ms) xs j t := by
          rw [rv, List.filter_filter]
          congr 1
          funext x
          cases x with
          | none => rfl
          | some m => exact Bool.and_comm _ _
        rw [e3]
        by_cases y : rivL (rkM ms) xs j t = []
        · rw [if_pos y] at fd
          simp [y, fd, dKd]
        · rw [if_neg y] at fd
          simp [y, fd, dKd]
/-- _law_due -/
theorem dueL_ok (r : Rc ms xs) (h : OH) : pureF Sh.l_due_8 [.lst (ms.map dMb), recD ms xs] h = .ok (dFlt (endRd (rkM ms) xs 0 S0).1) h := by
  have hl := r.hl
  refine pure_eq h (by simp) (dFlt_pure _) ?_
  have fl := fun {t : Nat} (ht : t < xs.length) h => faultL_ok r ht h
  have lr : ∀ h (PD : D → OH → Prop), (opLen (recD ms xs) h).W PD = PD (.int xs.length) h := fun h PD => by simp [recD]
  have ef := end_first0 (rkM ms) xs
  unfold Sh.l_due_8; rw [W_fn]; unfold Sh.l_due_8_b
  generalize pureF Sh.l_fault_1 = FL at fl ⊢
  generalize (endRd (rkM ms) xs 0 S0).1 = E at ef ⊢
  generalize recD ms xs = RC at fl lr ⊢
  have r2 : rngOk (xs.length : Int) = true := by simp [rngOk]; omega
  refine SW_seqK fun K hK => ?_
  simp [lr, r2, wipeD, rngD0]
  refine W_lcMap1 (List.range xs.length) (fun (k : Nat) => D.int (k : Int)) (fun k => D.tup [.int (k : Int), dKd (faultDef (rkM ms) xs k)]) _ (by simp [big]; omega) (fun k hk => ⟨_, rfl, ?_⟩) ?_
  · simp [fl (List.mem_range.mp hk)]
  refine hK _ _ ?_
  clear hK K
  simp [wipeD]
  refine W_lcMap (List.range xs.length) (fun k => D.tup [.int (k : Int), dKd (faultDef (rkM ms) xs k)]) (fun k => (faultDef (rkM ms) xs k).isSome) (fun k => D.tup [.int (k : Int), dKd (faultDef (rkM ms) xs k)]) _ (by simp [big]; omega) (fun k hk => ⟨_, rfl, ?_⟩) ?_
  · cases q : faultDef (rkM ms) xs k with
    | none => simp [dKd]
    | some b => cases b <;> simp [dKd]
  have e1 : ((List.range xs.length).find? fun t => (faultDef (rkM ms) xs t).isSome) = ((List.range xs.length).filter fun t => (faultDef (rkM ms) xs t).isSome).head? := by
    rw [List.head?_filter]
  rw [e1] at ef
  have al : ∀ t ∈ (List.range xs.length).filter (fun t => (faultDef (rkM ms) xs t).isSome), (faultDef (rkM ms) xs t).isSome = true := fun t ht => (List.mem_filter.mp ht).2
  have fll : ((List.range xs.length).filter (fun t => (faultDef (rkM ms) xs t).isSome)).length ≤ 400 := by
    have := List.length_filter_le (fun t => (faultDef (rkM ms) xs t).isSome) (List.range xs.length)
    rw [List.length_range] at this
    omega
  generalize (List.range xs.length).filter (fun t => (faultDef (rkM ms) xs t).isSome) = FLT at ef al fll
  cases FLT with
  | nil =>
    simp at ef
    simp [ef, dFlt, opAdd]
  | cons t l =>
    have := al t List.mem_cons_self
    obtain ⟨b, hb⟩ := Option.isSome_iff_exists.mp this
    simp [hb] at ef
    simp at fll
    simp [ef, hb, dFlt, opAdd]
    omega
end
end HR
set_option Elab.async false
set_option linter.all false
set_option maxRecDepth 20000
set_option exponentiation.threshold 5000
namespace HR
open PySem L2
/-! ### law k43: the error, a record changed -/
section
variable {ms : List (Str × Int)} {xs : List (Option Nat)} {h : OH}
theorem SW_tryN {xs : List String} {i : Nat} {b s : SS} {e e1 : Env'} {h h1 : OH} {N C B : Env' → OH → Prop} {R : D → OH → Prop} (hb : b e h = .nx e1 h1) (q : N e1 h1) : (sTryS xs i b s e h).W N C B R := by
  unfold sTryS
  rw [hb]
  exact q
theorem SW_tryXX {xs : List String} {i : Nat} {b s : SS} {e e1 : Env'} {h h1 : OH} {C0 : String} {q : String × D} {N C B : Env' → OH → Prop} {R : D → OH → Prop} (hb : b e h = .exc C0 (some q) e1 h1) (hC : C0 ∈ xs)
    (w : (s (e1.set i (some (.excf C0 q.1 q.2))) h1).W (fun e h => N (e.set i none) h) (fun e h => C (e.set i none) h) (fun e h => B (e.set i none) h) R) : (sTryS xs i b s e h).W N C B R := by
  unfold sTryS
  rw [hb]
  dsimp only
  rw [if_pos hC]
  cases z : s (e1.set i (some (.excf C0 q.1 q.2))) h1 <;> rw [z] at w <;> first | exact w | exact w.elim
theorem cutRef {own : Bool} {i : Nat} {xs : List D} {lo hi : Option Int} {h : OH} {PD : D → OH → Prop} (e : h[i]? = some (.lst xs)) : (opCut own (.ref i) lo hi h).W PD = if own then PD (.ref h.length) (h ++ [.lst (cutD xs lo hi)]) else PD (.lst (cutD xs lo hi)) h := by
  simp [opCut, lsqAt, seqAt, e]
theorem cutTake {ξ : Type} (f : ξ → D) (xs : List ξ) (k : Int) (hk : 0 ≤ k) : cutD (xs.map f) none (some k) = (xs.take k.toNat).map f := by
  rw [List.map_take]
  simp only [cutD, HT.sIx, Int.not_lt.mpr hk, if_false, List.length_map, List.drop_zero, Nat.sub_zero]
  by_cases c : k.toNat ≤ xs.length
  · rw [Nat.min_eq_left c]
  · rw [Nat.min_eq_right (by omega), List.take_of_length_le (by simp), List.take_of_length_le (by simp; omega)]
theorem addOLL (xs ys : List D) (h : OH) {PD : D → OH → Prop} : (opAddO (.lst xs) (.lst ys) h).W PD = if xs.length + ys.length ≤ 1000000 then PD (.ref h.length) (h ++ [.lst (xs ++ ys)]) else False := by
  simp [opAddO, lstAt, big]
/-- the tick of a fault, as a value -/
def dTick : Option (Nat × Bool) → D
  | none => .non
  | some p => .int p.1
theorem dTick_pure (o : Option (Nat × Bool)) : (dTick o).pure = true := by cases o <;> rfl
theorem flat_dTick (o : Option (Nat × Bool)) : flatT (dTick o) = true := by cases o <;> rfl
theorem raisedL_ok (r : Rc ms xs) (h : OH) : pureF Sh.l_raised [.lst (ms.map dMb), recD ms xs] h = .ok (dTick (endRd (rkM ms) xs 0 S0).1) h := by
  refine pure_eq h (by simp) (dTick_pure _) ?_
  have so := fun e h => schedulesOf1 r e h
  have sx := fun {t : Nat} {kd : Bool} e h => schedulesX1 r (t := t) (kd := kd) e h
  unfold Sh.l_raised; rw [W_fn]; unfold Sh.l_raised_b
  generalize pureF Sh.schedules_of_1 = SO at so sx ⊢
  refine SW_seqK fun K hK => ?_
  cases q : (endRd (rkM ms) xs 0 S0).1 with
  | none =>
    refine SW_tryN (e1 := [some (.lst (ms.map dMb)), some (recD ms xs), none]) (h1 := []) ?_ ?_
    · simp [sExpr, sCall, sCons, sNil, sVar, withD, so q, Res.toS]
    · refine hK _ _ ?_
      simp [dTick, q]
  | some p =>
    obtain ⟨t, kd⟩ := p
    refine SW_tryXX (C0 := "Inconsistent") (q := ("tick", .int t)) (e1 := [some (.lst (ms.map dMb)), some (recD ms xs), none]) (h1 := []) ?_ (by simp) ?_
    · simp [sExpr, sCall, sCons, sNil, sVar, withD, sx q, Res.toS]
    · simp [sXfl, fieldOf, dTick]
/-- a def that reads the record, lent -/
theorem lendRec {f : FN} {d : D} {j : Nat} (g : h[j]? = some (.lst ((xs.map (nmM ms)).map dN))) (fd : flatT d = true) (q0 : pureF f [.lst (ms.map dMb), recD ms xs] [] = .ok d []) : lendF f [.lst (ms.map dMb), .ref j] h = .ok d h := by
  unfold pureF at q0
  rw [if_pos (by simp)] at q0
  have e : snapGL (snapGet h 5) [.lst (ms.map dMb), .ref j] = some [.lst (ms.map dMb), recD ms xs] := snapRec g
  unfold lendF
  rw [e]
  dsimp only
  cases r : f [.lst (ms.map dMb), recD ms xs] [] with
  | ok d1 h1 =>
    rw [r] at q0
    dsimp only at q0
    split at q0
    · cases q0
      dsimp only
      rw [if_pos fd]
    · cases q0
  | exc C p h1 =>
    rw [r] at q0
    cases p with
    | none => cases q0
    | some z =>
      dsimp only at q0
      split at q0 <;> cases q0
  | bad => rw [r] at q0; cases q0
/-- _law_changed: the record is the law's own -/
theorem changed43 {ns : List Int} {i c f : Nat} (hs : Bag ns h i c) (hc : c < 2 ^ 59) (r : Rc ms xs) (g : h[f]? = some (.lst ((xs.map (nmM ms)).map dN))) (hf : f ≠ i) {P : D → OH → Prop}
    (q : ∀ (ys : List (Option Nat)) (f2 : Nat) h', Bag ns h' i (c + 10) → Rc ms ys → h'[f2]? = some (.lst ((ys.map (nmM ms)).map dN)) → f2 ≠ i → P (.ref f2) h') : (Sh.l_changed_2 [.ref i, .lst ((ms.map (·.1)).map D.str), .ref f] h).W P := by
  have hn := r.w.len
  have hl := r.hl
  have hi := hs.lt
  have b60 : (2 : Nat) ^ 60 = 2 * 2 ^ 59 := by decide
  have b59 : 1000 ≤ (2 : Nat) ^ 59 := by decide
  unfold Sh.l_changed_2; rw [W_fn]; unfold Sh.l_changed_2_b
  refine SW_seqK fun K hK => ?_
  have ol : ∀ (PD : D → OH → Prop), (opList true (.ref f) h).W PD = PD (.ref h.length) (h ++ [.lst ((xs.map (nmM ms)).map dN)]) := fun PD => by simp [opList, seqAt, g, -List.map_map]
  simp [-List.map_map, ol]
  refine hK _ _ ?_
  clear hK K
  refine SW_seqK fun K hK => ?_
  have nl : ∀ h (PD : D → OH → Prop), (opLen (.lst ((ms.map (·.1)).map D.str)) h).W PD = PD (.int ms.length) h := fun h PD => by simp
  obtain ⟨nm, hnm⟩ : ∃ nm, nm = D.lst ((ms.map (·.1)).map D.str) := ⟨_, rfl⟩
  rw [← hnm] at nl ⊢
  simp
  refine bdraw_ok (hs.app _) (by omega) (by decide) (small_64 (by decide)) fun v h2 v0 v1 s2 c2 => ?_
  have g2 : h2[h.length]? = some (.lst ((xs.map (nmM ms)).map dN)) := c2.get (by simp) (by omega)
  have r1 : rngOk (1 + v) = true := by simp [rngOk]; omega
  simp [r1]
  refine W_forL (fun k e h' => (∃ (ys : List (Option Nat)) (f2 : Nat), Bag ns h' i (c + 1 + 3 * k) ∧ Rc ms ys ∧ h'[f2]? = some (.lst ((ys.map (nmM ms)).map dN)) ∧ f2 ≠ i ∧ e[3]? = some (some (.ref f2))) ∧ ∃ a3 a4 a5 a6 : Option D, e = [some (.ref i), some nm, some (.ref f), a3, a4, a5, a6]) _ _ _ ⟨⟨xs, h.length, s2, r, g2, by omega, rfl⟩, _, _, _, _, rfl⟩ (fun k d hd e h' hI => ?_) (fun e h' hI => ?_)
  · obtain ⟨⟨ys, f2, s3, ry, g3, hf2, e3⟩, a3, a4, a5, a6, rfl⟩ := hI
    obtain ⟨hk, rfl⟩ := rngD_at hd
    have hk3 : k < 3 := by omega
    simp at e3
    subst e3
    have hly := ry.hl
    have hi3 := s3.lt
    refine ⟨_, rfl, ?_⟩
    refine SW_seqK fun K2 hK2 => ?_
    have mn : ∃ mv : Int, 1 ≤ mv ∧ mv ≤ 400 ∧ mv ≤ ys.length + 1 ∧ (if ((ys.length : Int) + 1) ≤ 400 then ((ys.length : Int) + 1) else 400) = mv ∧ (if 400 < ((ys.length : Int) + 1) then 400 else ((ys.length : Int) + 1)) = mv := by
      by_cases z : (ys.length : Int) + 1 ≤ 400
      · exact ⟨_, by omega, z, by omega, if_pos z, if_neg (by omega)⟩
      · exact ⟨400, by omega, by omega, by omega, if_neg z, if_pos (by omega)⟩
    obtain ⟨mv, m1, m2, m3, m4, m5⟩ := mn
    simp [-List.map_map, g3, m4, m5]
    refine bdraw_ok s3 (by omega) (by omega) (small_64 (by omega)) fun a h4 a0 a1 s4 c4 => ?_
    have g4 := c4.get g3 hf2
    refine hK2 _ _ ?_
    clear hK2 K2
    refine SW_seqK fun K2 hK2 => ?_
    obtain ⟨a, rfl⟩ : ∃ k : Nat, a = k := ⟨a.toNat, by omega⟩
    have adn : ∀ h (PD : D → OH → Prop), (opAdd (.lst [.non]) nm h).W PD = PD (.lst (D.non :: (ms.map (·.1)).map D.str)) h := fun h PD => by
      have z : 1 + ms.length ≤ big := by simp only [big]; omega
      rw [hnm]
      simp [-List.map_map, opAdd, lstAt, z]
    simp [-List.map_map, adn, nl]
    refine bdraw_ok (n := (ms.length : Int) + 1) s4 (by omega) (by omega) (small_64 (by omega)) fun u h5 u0 u1 s5 c5 => ?_
    obtain ⟨u, rfl⟩ : ∃ k : Nat, u = k := ⟨u.toNat, by omega⟩
    have g5 := c5.get g4 hf2
    obtain ⟨y, hy, ey⟩ : ∃ y : Option Nat, (∀ k, y = some k → k < ms.length) ∧ atI (D.non :: (ms.map (·.1)).map D.str) (u : Int) = some (dN (nmM ms y)) := by
      rw [atI_z (by omega) (by simp; omega), Int.toNat_natCast]
      cases u with
      | zero => exact ⟨none, (fun k z => nomatch z), rfl⟩
      | succ u =>
        have hu : u < ms.length := by omega
        refine ⟨some u, fun k z => by cases z; exact hu, ?_⟩
        rw [List.getElem?_cons_succ, List.map_map, List.getElem?_map, mb_at hu]
        rfl
    simp [-List.map_map, ey]
    refine hK2 _ _ ?_
    clear hK2 K2
    have e1 : cutD ((ys.map (nmM ms)).map dN) none (some (a : Int)) = ((ys.take a).map (nmM ms)).map dN := by
      rw [cutTake _ _ _ (by omega), Int.toNat_natCast, ← List.map_take]
    have e2 : cutD ((ys.map (nmM ms)).map dN) (some ((a : Int) + 1)) none = ((ys.drop (a + 1)).map (nmM ms)).map dN := by
      rw [cutD_drop _ _ (by omega), show ((a : Int) + 1).toNat = a + 1 from by omega, List.map_drop, List.map_drop]
    have lt1 : (ys.take a).length ≤ 400 := by simp; omega
    have lt2 : (ys.drop (a + 1)).length ≤ 400 := by simp; omega
    have eA : ((ys.take a).map (nmM ms)).map dN ++ [dN (nmM ms y)] ++ ((ys.drop (a + 1)).map (nmM ms)).map dN = ((ys.take a ++ [y] ++ ys.drop (a + 1)).map (nmM ms)).map dN := by simp
    have eB : ((ys.take a).map (nmM ms)).map dN ++ ((ys.drop (a + 1)).map (nmM ms)).map dN = ((ys.take a ++ ys.drop (a + 1)).map (nmM ms)).map dN := by simp
    have fl := (List.getElem?_eq_some_iff.mp g5).1
    have g6 : ∀ t : OH, (h5 ++ t)[f2]? = some (.lst ((ys.map (nmM ms)).map dN)) := fun t => by rw [List.getElem?_append_left fl]; exact g5
    have cu0 := fun (lo hi : Option Int) (PD : D → OH → Prop) => cutRef (own := false) (lo := lo) (hi := hi) g5 (PD := PD)
    have cu1 := fun (lo hi : Option Int) (t : OH) (PD : D → OH → Prop) => cutRef (own := false) (lo := lo) (hi := hi) (g6 t) (PD := PD)
    have z1 : (ys.take a).length + 1 + (ys.drop (a + 1)).length ≤ 1000000 := by omega
    have z2 : (ys.take a).length + (ys.drop (a + 1)).length ≤ 1000000 := by omega
    have z3 : (ys.take a).length + 1 ≤ 1000000 := by omega
    generalize (ys.map (nmM ms)).map dN = X at g5 g6 cu0 cu1 e1 e2 ⊢
    obtain ⟨Y1, hY1⟩ : ∃ z, z = ((ys.take a).map (nmM ms)).map dN := ⟨_, rfl⟩
    obtain ⟨Y2, hY2⟩ : ∃ z, z = ((ys.drop (a + 1)).map (nmM ms)).map dN := ⟨_, rfl⟩
    have l1 : Y1.length = (ys.take a).length := by rw [hY1]; simp
    have l2 : Y2.length = (ys.drop (a + 1)).length := by rw [hY2]; simp
    rw [← hY1, ← hY2] at eA eB
    rw [← hY1] at e1
    rw [← hY2] at e2
    clear hY1 hY2
    rw [← l1, ← l2] at z1 z2
    rw [← l1] at z3
    simp only [SW_set, W_sBin, W_sLst, W_sCons, W_sNil, W_sCut, W_varS, W_var0, cu0, Bool.false_eq_true, if_false]
    simp [cu0, e1, e2, z3]
    rw [addOLL, if_pos (by simp; omega), cu1, if_neg (by simp), cu1, if_neg (by simp), e1, e2, addOLL, if_pos (by omega), eA, eB]
    have lA : (ys.take a ++ [y] ++ ys.drop (a + 1)).length ≤ 400 := by simp; omega
    have lB : (ys.take a ++ ys.drop (a + 1)).length ≤ 400 := by simp; omega
    have rA : Rc ms (ys.take a ++ [y] ++ ys.drop (a + 1)) := ⟨r.w, fun x hx => by
      rcases List.mem_append.mp hx with hx | hx
      · rcases List.mem_append.mp hx with hx | hx
        · exact ry.hx x (List.mem_of_mem_take hx)
        · rw [List.mem_singleton.mp hx]; exact hy
      · exact ry.hx x (List.mem_of_mem_drop hx), lA⟩
    have rB : Rc ms (ys.take a ++ ys.drop (a + 1)) := ⟨r.w, fun x hx => by
      rcases List.mem_append.mp hx with hx | hx
      · exact ry.hx x (List.mem_of_mem_take hx)
      · exact ry.hx x (List.mem_of_mem_drop hx), lB⟩
    generalize ys.take a ++ [y] ++ ys.drop (a + 1) = ya at rA ⊢
    generalize ys.take a ++ ys.drop (a + 1) = yb at rB ⊢
    have h5l := s5.lt
    refine bdraw_ok ((s5.app _).app _) (by omega) (by decide) (small_64 (by decide)) fun b h6 b0 b1 s6 c6 => ?_
    have gA : h6[h5.length]? = some (.lst ((ya.map (nmM ms)).map dN)) := c6.get (by simp) (by omega)
    have gB : h6[h5.length + 1]? = some (.lst ((yb.map (nmM ms)).map dN)) := c6.get (by simp) (by omega)
    have : b = 0 ∨ b = 1 := by omega
    rcases this with rfl | rfl
    · simp [atI]
      exact ⟨s6.mono (by omega), ya, rA, by simpa using gA, by omega⟩
    · simp [atI]
      exact ⟨s6.mono (by omega), yb, rB, by simpa using gB, by omega⟩
  · obtain ⟨⟨ys, f2, s3, ry, g3, hf2, e3⟩, a3, a4, a5, a6, rfl⟩ := hI
    refine hK _ _ ?_
    clear hK K
    simp at e3
    subst e3
    simp
    rw [rngD_len] at s3
    exact q ys f2 h' (s3.mono (by omega)) ry g3 hf2
end
end HR
set_option Elab.async false
set_option linter.all false
set_option maxRecDepth 20000
set_option exponentiation.threshold 5000
namespace HR
open PySem L2
theorem VA.mono {a b : Nat} {d : D} (v : VA a d) (h : a ≤ b) : VA b d := ⟨v.sz, v.rp.mono (Nat.le_refl _) h⟩
/-- what stands in the list of values -/
structure VS (vs : List D) (n : Nat) : Prop where
  sz : ∀ v ∈ vs, szD v = true
  rp : Rps 4 vs n
theorem VS.nil : VS [] 0 := ⟨(fun _ h => by cases h), trivial⟩
theorem VS.cons {a n m : Nat} {d : D} {vs : List D} (v : VA a d) (s : VS vs n) (h : a + 2 + n ≤ m) : VS (d :: vs) m := ⟨fun x hx => by
  rcases List.mem_cons.mp hx with rfl | hx
  · exact v.sz
  · exact s.sz x hx, ⟨a, n, v.rp, s.rp, h⟩⟩
/-- repr of any frozen value -/
theorem W_reprZ {d : D} {k n : Nat} (q : Rp d k n) (hk : k ≤ 60) (hn : n ≤ big) : ∃ x, ∀ h PD, (opReprZ d h).W PD = PD (.str x) h := by
  obtain ⟨p, a, b, c, e⟩ := q
  refine ⟨p.shown, fun h PD => ?_⟩
  have ok : reprOkX p = true := by
    simp only [reprOkX, b, Bool.true_and, Bool.and_eq_true, decide_eq_true_eq]
    omega
  unfold opReprZ
  simp [pyRAt, a, ok]
end HR
set_option Elab.async false
set_option linter.all false
set_option maxRecDepth 20000
set_option exponentiation.threshold 5000
namespace HR
open PySem L2
/-! ### law k43 -/
section
variable {ms : List (Str × Int)} {xs : List (Option Nat)} {h : OH} {ns : List Int} {i c f : Nat}
theorem mv_all (ms : List (Str × Int)) : mvL (fun _ => true) ms = ms.map dMb := by
  unfold mvL
  conv => rhs; rw [← map_getD ms]
  rw [List.map_map]
  rfl
theorem rp_flt (o : Option (Nat × Bool)) (ho : ∀ p, o = some p → p.1 ≤ 400) : Rp (dFlt o) 1 171 := by
  cases o with
  | none => exact rp_non.mono (by decide) (by decide)
  | some p =>
    obtain ⟨t, kd⟩ := p
    have ht : t ≤ 400 := ho (t, kd) rfl
    have key : ∀ d ∈ [D.int t, dKd (some kd)], Rp d 0 82 := fun d hd => by
      simp only [List.mem_cons, List.not_mem_nil, or_false] at hd
      rcases hd with rfl | rfl
      · exact (rp_int (k := 9) (by decide) (by decide) (by omega)).mono (Nat.le_refl _) (by decide)
      · cases kd
        · exact (rp_str (fun c hc => by have e : ∀ c ∈ ("order" : Str).cps.toList, c < 16 ^ 8 := by decide +kernel
                                        exact e c hc)).mono (Nat.le_refl _) (by decide)
        · exact (rp_str (fun c hc => by have e : ∀ c ∈ ("silence" : Str).cps.toList, c < 16 ^ 8 := by decide +kernel
                                        exact e c hc)).mono (Nat.le_refl _) (by decide)
    exact (rp_tup key).mono (by decide) (by simp)
theorem isFltF (o : Option (Nat × Bool)) (h : OH) {PD : D → OH → Prop} : (opIs false (dFlt o) .non h).W PD = PD (.bl o.isNone) h := by
  cases o <;> rfl
theorem isTickF (o : Option (Nat × Bool)) (h : OH) {PD : D → OH → Prop} : (opIs false (dTick o) .non h).W PD = PD (.bl o.isNone) h := by
  cases o <;> rfl
def RecAt (ms : List (Str × Int)) (xs : List (Option Nat)) (f n : Nat) (h : OH) : Prop := h[f]? = some (.lst (((xs.take n).map (nmM ms)).map dN))
theorem right16 (r : Rc ms xs) (hs : Bag ns h i c) (hc : c < 2 ^ 58) (g : h[f]? = some (.lst ((xs.map (nmM ms)).map dN))) (hf : f ≠ i) {P : D → OH → Prop}
    (q : ∀ h', Bag ns h' i (c + 10) → P (.bl true) h') : (Sh.l_right_16 [.ref i, .lst (ms.map dMb), .ref f] h).W P := by
  have hl := r.hl
  have b59 : (2 : Nat) ^ 59 = 2 * 2 ^ 58 := by decide
  have due := fun {h : OH} {f : Nat} (g : h[f]? = some (.lst ((xs.map (nmM ms)).map dN))) => lendRec (ms := ms) g (flat_dFlt _) (dueL_ok r [])
  have rai := fun {h : OH} {f : Nat} (g : h[f]? = some (.lst ((xs.map (nmM ms)).map dN))) => lendRec (ms := ms) g (flat_dTick _) (raisedL_ok r [])
  have fo := fun (t : Bool) (fl : Nat → Bool) (u : Bool) (h : OH) => faultOfX r t fl u h
  have fo1 := fun {ys : List (Option Nat)} (r : Rc ms ys) (h : OH) => faultOf r h
  have fo2 := fun {ys : List (Option Nat)} (r : Rc ms ys) {h : OH} {f : Nat} (g : h[f]? = some (.lst ((ys.map (nmM ms)).map dN))) => lendFault r g
  have ei := fun {h : OH} {c : Nat} (hs : Bag ns h i c) (hc : c < 2 ^ 59) {d : D} {l : List D} (ld : (opList false d h) = .ok (.lst l) h) (td : opTuple d h = .ok (.tup l) h) {P : D → OH → Prop} => either_ok (h := h) hs hc ld td (P := P)
  have en := fun {u : Nat} {kd : Bool} => endRd_some (rk := rkM ms) xs 0 S0 u kd
  have hE : ∀ p, (endRd (rkM ms) xs 0 S0).1 = some p → p.1 ≤ 400 := fun p e => by
    obtain ⟨j, e1, e2, _⟩ := en e
    omega
  obtain ⟨tx, htx⟩ := W_reprZ (rp_flt _ hE) (by decide) (by simp [big])
  unfold Sh.l_right_16; rw [W_fn]; unfold Sh.l_right_16_b
  generalize lendF Sh.l_due_8 = LD at due ⊢
  generalize lendF Sh.l_raised = LR at rai ⊢
  generalize pureF Sh.fault_of = FO at fo fo1 ⊢
  generalize lendF Sh.fault_of = FL at fo2 ⊢
  generalize Sh.l_either = EI at ei ⊢
  generalize hEE : (endRd (rkM ms) xs 0 S0).1 = E at due rai fo htx en
  refine SW_seqK fun K hK => ?_
  simp [due g]
  refine hK _ _ ?_
  clear hK K
  refine SW_seqK fun K hK => ?_
  simp only [SW_set, W_sLst, W_sCons, W_sNil, W_sCall, W_varS, W_var0, W_withD, List.append_nil, List.set_cons_succ, List.set_cons_zero]
  refine ei hs (by omega) (l := ms.map dMb) (by simp [opList, seqAt]) (by simp [opTuple, lsqAt, seqAt]) fun t h1 s1 c1 => ?_
  have g1 := c1.get g hf
  refine ei s1 (by omega) (l := (xs.map (nmM ms)).map dN) (by simp [-List.map_map, opList, seqAt, g1]) (by simp [-List.map_map, opTuple, lsqAt, seqAt, g1]) fun u h2 s2 c2 => ?_
  have g2 := c2.get g1 hf
  rw [if_pos (by simp)]
  refine hK _ _ ?_
  clear hK K s1 c1 c2 g1 hs g h1
  have em : sqV t (ms.map dMb) = mvD t (fun _ => true) ms := by rw [← mv_all]; rfl
  have er : sqV u ((xs.map (nmM ms)).map dN) = rvD u ms xs := rfl
  rw [em, er]
  obtain ⟨kt, hkt⟩ := repr_handed r t (fun _ => true) u
  have fo := fo t (fun _ => true) u
  generalize mvD t (fun _ => true) ms = MV at hkt fo ⊢
  generalize rvD u ms xs = RV at hkt fo ⊢
  clear em er
  refine SW_seqK fun K hK => ?_
  simp [hkt]
  refine hK _ _ ?_
  clear hK K
  refine SW_seqK fun K hK => ?_
  have r2 : rngOk 2 = true := by decide
  simp [r2]
  refine W_forL (fun k e h' => h' = h2 ∧ ∃ a6 : Option D, e = [some (.ref i), some (.lst (ms.map dMb)), some (.ref f), some (dFlt E), some (.lst [MV, RV]), some (.str kt), a6]) _ _ _ ⟨rfl, _, rfl⟩ (fun k d hd e h' hI => ?_) (fun e h' hI => ?_)
  · obtain ⟨rfl, a6, rfl⟩ := hI
    refine ⟨_, rfl, ?_⟩
    simp [fo, htx, hkt]
  · obtain ⟨rfl, a6, rfl⟩ := hI
    refine hK _ _ ?_
    clear hK K
    refine SW_seqK fun K hK => ?_
    cases E with
    | none =>
      simp [isFltF, rai g2, isTickF]
      exact q _ (s2.mono (by omega))
    | some p =>
      obtain ⟨t0, kd⟩ := p
      obtain ⟨j, e1, e2, e3, e4⟩ := en rfl
      have e1 : t0 = j := by omega
      subst e1
      simp [isFltF]
      refine hK _ _ ?_
      clear hK K
      refine SW_seqK fun K hK => ?_
      have rt : Rc ms (xs.take t0) := r.sub (fun x hx => List.mem_of_mem_take hx) (by simp; omega)
      have ct : ∀ (PD : D → OH → Prop), (opCut false (.ref f) none (some (t0 : Int)) h').W PD = PD (recD ms (xs.take t0)) h' := fun PD => by
        rw [cutRef g2, if_neg (by simp), cutTake _ _ _ (by omega), Int.toNat_natCast, ← List.map_take]
        rfl
      have fo3 := fo1 rt h'
      rw [e3] at fo3
      simp [dFlt, atI, rai g2, dTick, ct, fo3]
      refine hK _ _ ?_
      clear hK K ct fo3
      refine SW_seqK fun K hK => ?_
      refine W_while (I := fun e h' => Bag ns h' i (c + 1 + 1) ∧ (∃ n : Nat, t0 ≤ n ∧ n ≤ xs.length ∧ RecAt ms xs f n h') ∧ e = [some (.ref i), some (.lst (ms.map dMb)), some (.ref f), some (dFlt (some (t0, kd))), some (.lst [MV, RV]), some (.str kt), a6]) (fun e h' => match h'[f]? with | some (.lst l) => l.length | _ => 0) ⟨s2, ⟨xs.length, by omega, Nat.le_refl _, by unfold RecAt; rw [List.take_length]; exact g2⟩, rfl⟩ (by rw [g2]; simp; omega) (fun e h3 hI => ?_)
      obtain ⟨s3, ⟨n, n1, n2, g3⟩, rfl⟩ := hI
      have g3 : h3[f]? = some (.lst (((xs.take n).map (nmM ms)).map dN)) := g3
      have fl3 := (List.getElem?_eq_some_iff.mp g3).1
      have ln : ∀ (PD : D → OH → Prop), (opLen (.ref f) h3).W PD = PD (.int (n : Nat)) h3 := fun PD => by
        simp [g3, -List.map_map]
        rw [show min n xs.length = n from by omega]
      simp [ln, dFlt, atI]
      by_cases z : t0 < n
      · have z1 : (t0 : Int) < n := by omega
        obtain ⟨m, rfl⟩ : ∃ m, n = m + 1 := ⟨n - 1, by omega⟩
        have ex : ((xs.take (m + 1)).map (nmM ms)).map dN = ((xs.take m).map (nmM ms)).map dN ++ [dN (nmM ms (xs.getD m none))] := by
          have ex0 : xs.take (m + 1) = xs.take m ++ [xs.getD m none] := by
            rw [List.take_succ]
            simp [show m < xs.length from by omega]
          rw [ex0, List.map_append, List.map_append]
          rfl
        rw [ex] at g3
        have po := fun (PD : D → OH → Prop) => popLast (i := f) (l := ((xs.take m).map (nmM ms)).map dN) (x := dN (nmM ms (xs.getD m none))) (h := h3) (PD := PD)
        obtain ⟨L1, hL1⟩ : ∃ z, z = ((xs.take m).map (nmM ms)).map dN := ⟨_, rfl⟩
        have ll : L1.length = m := by rw [hL1]; simp; omega
        rw [← hL1] at g3 po
        generalize dN (nmM ms (xs.getD m none)) = x0 at g3 po
        simp [show t0 < m + 1 from by omega, g3]
        simp only [po]
        refine ⟨⟨s3.set hf _, m, by omega, by omega, by unfold RecAt; rw [List.getElem?_set_self fl3, hL1]⟩, ?_⟩
        rw [List.getElem?_set_self fl3]
        simp
      · have z1 : ¬ ((t0 : Int) < n) := by omega
        have : n = t0 := by omega
        subst this
        simp [z1]
        refine hK _ _ ?_
        clear hK K
        have fo4 := fo2 rt g3
        rw [e3] at fo4
        simp [fo4, dFlt]
        exact q _ (s3.mono (by omega))
end
theorem end_none (rk : Nat → Int) : ∀ (n t : Nat) (S : RdS), (endRd rk (List.replicate n none) t S).1 = none
  | 0, _, _ => rfl
  | n + 1, t, S => by
    rw [List.replicate_succ]
    exact end_none rk n (t + 1) _
theorem SW_par43 {N C B : Env' → OH → Prop} {R : D → OH → Prop} (i j : Nat) (f : SA) (e : Env') (h : OH) : (sPar i j f e h).W N C B R = (f e h).W fun ds h1 => match ds with
  | [x, y] => N ((e.set i (some x)).set j (some y)) h1
  | _ => False := by
  unfold sPar
  rw [W_toS]
  congr
  funext ds h1
  rcases ds with _ | ⟨x, _ | ⟨y, _ | _⟩⟩ <;> rfl
theorem W_eqTick (t : Int) (s : Str) (hs : PyData.strOk s = true) (h : OH) {PD : D → OH → Prop} : (opEq false (.tup [.int t, .str s]) (.tup [.int t, .str s]) h).W PD = PD (.bl true) h := by
  simp [opEq, pyAt, pyG, pyGL, SeqAt.shaped, PyData.canLay0, PyData.canLayAll0, PyData.depth, PyData.depthAll, PyData.eqv, PyData.eqvAll, hs]
theorem mul400 (h : OH) {PD : D → OH → Prop} : (opMul (.lst [.non]) (.int 400) h).W PD = PD (.lst (((List.replicate 400 none).map (nmM [])).map dN)) h := by
  have e : ∀ n : Nat, (List.replicate n [D.non]).flatten = ((List.replicate n none).map (nmM [])).map dN := fun n => by
    induction n with
    | zero => rfl
    | succ n ih => rw [List.replicate_succ, List.flatten_cons, ih]; rfl
  have e1 := e 400
  have : opMul (.lst [.non]) (.int 400) h = .ok (.lst (((List.replicate 400 none).map (nmM [])).map dN)) h := by
    show (match lstAt h (.lst [D.non]) with
    | some xs => if -(2 ^ 63) ≤ (400 : Int) ∧ (400 : Int) < 2 ^ 63 ∧ xs.length * (400 : Int).toNat ≤ big then Res.ok (D.lst (List.replicate (400 : Int).toNat xs).flatten) h else .bad
    | none => .bad) = _
    rw [show lstAt h (.lst [D.non]) = some [D.non] from rfl]
    dsimp only
    rw [if_pos (by simp [big]), ← e1]
    rfl
  rw [this]; rfl
theorem law43 (ns : List Int) (hl : ns.length ≤ 63) : ∃ h', Sh.law_k43 [.scr (ns.map D.int)] [] = .ok (.bl true) h' := by
  have fin : (Sh.law_k43 [.scr (ns.map D.int)] []).W (fun d _ => d = .bl true) := by
    have r16 := fun {ms : List (Str × Int)} {xs : List (Option Nat)} {h : OH} {i c f : Nat} (r : Rc ms xs) (hs : Bag ns h i c) (hc : c < 2 ^ 58) (g : h[f]? = some (.lst ((xs.map (nmM ms)).map dN))) (hf : f ≠ i) {P : D → OH → Prop} => right16 (P := P) r hs hc g hf
    have hd := fun {ts : List Tk} {h : OH} (w : WfHall T30 ts) {m : Nat} {mi : Int} (hmi : mi = m) (hm : m ≤ 2000) {PD : D → OH → Prop} => mdHeard (h := h) w hmi hm (PD := PD)
    have chg := fun {ms : List (Str × Int)} {xs : List (Option Nat)} {h : OH} {i c f : Nat} (hs : Bag ns h i c) (hc : c < 2 ^ 59) (r : Rc ms xs) (g : h[f]? = some (.lst ((xs.map (nmM ms)).map dN))) (hf : f ≠ i) {P : D → OH → Prop} => changed43 (P := P) hs hc r g hf
    have lst1 : ∀ (h : OH), pureF Sh.fault_of [.lst [.tup [.str "a", .int 1], .tup [.str "b", .int 1]], .lst [.non, .str "b", .str "a"]] h = .ok (.tup [.int 2, .str "order"]) h := fun h => by
      have r0 : Rc [("a", 1), ("b", 1)] [none, some 1, some 0] := by
        refine ⟨⟨by decide, fun m hm => ?_, fun m hm => ?_, by decide⟩, fun x hx k hk => ?_, by decide⟩
        · simp at hm
          rcases hm with rfl | rfl <;> decide
        · simp at hm
          rcases hm with rfl | rfl
          · exact names_wf "a" (by simp [NAMES])
          · exact names_wf "b" (by simp [NAMES])
        · subst hk
          simp at hx
          simp
          omega
      exact faultOf r0 h
    have lst2 : ∀ (h : OH), pureF Sh.fault_of [.lst [], .lst (((List.replicate 400 none).map (nmM [])).map dN)] h = .ok .non h := fun h => by
      have r0 : Rc [] (List.replicate 400 none) := ⟨⟨by decide, by simp, by simp, by simp⟩, (fun x hx k hk => by
        rw [List.eq_of_mem_replicate hx] at hk; cases hk), by simp⟩
      have := faultOf r0 h
      rw [end_none] at this
      exact this
    unfold Sh.law_k43; rw [W_fn]; unfold Sh.law_k43_b
    generalize Sh.l_right_16 = R16 at r16
    generalize Sh.l_heard = HD at hd
    generalize Sh.l_changed_2 = CH at chg
    generalize pureF Sh.fault_of = FO at lst1 lst2 ⊢
    refine SW_seqK fun K hK => ?_
    simp
    refine bag_ok ns [] hl fun o s0 => ?_
    refine hK _ _ ?_
    clear hK K
    refine SW_seqK fun K hK => ?_
    have mn : (if (ns.length : Int) < 5 then (ns.length : Int) else 5) ≤ 5 := by split <;> omega
    have mn0 : 0 ≤ (if (ns.length : Int) < 5 then (ns.length : Int) else 5) := by split <;> omega
    simp
    generalize (if (ns.length : Int) < 5 then (ns.length : Int) else 5) = c at mn mn0 ⊢
    have r : rngOk (3 + c) = true := by simp [rngOk]; omega
    refine ⟨r, ?_⟩
    simp only [List.length_nil, List.nil_append] at s0 ⊢
    refine W_forL (fun k e h' => Bag ns h' 0 (30000 * k) ∧ ∃ a2 a3 a4 a5 a6 a7 a8 a9 a10 : Option D, e = [some (.scr (ns.map D.int)), some (.ref 0), a2, a3, a4, a5, a6, a7, a8, a9, a10]) _ _ _ ⟨s0, _, _, _, _, _, _, _, _, _, rfl⟩ (fun k d hd' e h' hI => ?_) (fun e h' hI => ?_)
    · obtain ⟨s, a2, a3, a4, a5, a6, a7, a8, a9, a10, rfl⟩ := hI
      obtain ⟨hk2, rfl⟩ := rngD_at hd'
      have hk3 : k < 8 := by omega
      have b60 : (2 : Nat) ^ 60 = 4 * 2 ^ 58 := by decide
      have b59 : (2 : Nat) ^ 59 = 2 * 2 ^ 58 := by decide
      have b58 : 1000000 ≤ (2 : Nat) ^ 58 := by decide
      refine ⟨_, rfl, ?_⟩
      refine SW_seqK fun K2 hK2 => ?_
      have mostE : ∃ mv sv : Int, (mv = 10 ∨ mv = 6) ∧ (sv = 401 ∨ sv = 61) ∧ atI [D.int 10, D.int 6] (if (k : Int) < 1 then (k : Int) else 1) = some (.int mv) ∧ atI [D.int 401, D.int 61] (if (k : Int) < 1 then (k : Int) else 1) = some (.int sv) := by
        by_cases c0 : k = 0
        · subst c0
          exact ⟨10, 401, .inl rfl, .inl rfl, rfl, rfl⟩
        · rw [if_neg (by omega)]
          exact ⟨6, 61, .inr rfl, .inr rfl, rfl, rfl⟩
      obtain ⟨mv, sv, m1, sv1, m2, sv2⟩ := mostE
      simp [SW_par43, m2, sv2]
      refine hK2 _ _ ?_
      clear hK2 K2 m2 sv2
      refine SW_seqK fun K2 hK2 => ?_
      simp
      refine members_ok s (by omega) (by omega) (by omega) fun ms h2 s2 c2 lm w wN => ?_
      refine hK2 _ _ ?_
      clear hK2 K2
      refine SW_seqK fun K2 hK2 => ?_
      simp [wipeD]
      refine W_lcMap1 ms dMb (fun m => .str m.1) _ (by have := w.len; simp [big]; omega) (fun x hx => ⟨_, rfl, by simp [dMb]⟩) ?_
      have hn := w.len
      refine ⟨by simp; omega, hK2 _ _ ?_⟩
      clear hK2 K2
      have pick : ∀ u : Int, 0 ≤ u → u < (ms.length : Int) + 1 → ∃ y : Option Nat, (∀ k, y = some k → k < ms.length) ∧ atI (D.non :: ms.map fun m => D.str m.1) u = some (dN (nmM ms y)) := fun u u0 u1 => by
        obtain ⟨u, rfl⟩ : ∃ k : Nat, u = k := ⟨u.toNat, by omega⟩
        rw [atI_z (by omega) (by simp; omega), Int.toNat_natCast]
        cases u with
        | zero => exact ⟨none, (fun k z => nomatch z), rfl⟩
        | succ u =>
          have hu : u < ms.length := by omega
          refine ⟨some u, fun k z => by cases z; exact hu, ?_⟩
          rw [List.getElem?_cons_succ, List.getElem?_map, mb_at hu]
          rfl
      have itl : ((D.non :: ms.map fun m => D.str m.1).length : Int) = ms.length + 1 := by simp
      generalize (D.non :: ms.map fun m => D.str m.1) = IT at pick itl ⊢
      refine SW_seqK fun K2 hK2 => ?_
      simp
      refine bdraw_ok s2 (by omega) (by omega) (small_64 (by omega)) fun v h3 v0 v1 s3 c3 => ?_
      have rv : rngOk v = true := by simp [rngOk]; omega
      simp [rv, wipeD, itl]
      refine W_lcGo (fun m acc h' => m ≤ 400 → Bag ns h' 0 (30000 * k + 30 + 1 + m) ∧ ∃ ys : List (Option Nat), acc = (ys.map (nmM ms)).map dN ∧ ys.length = m ∧ ∀ y ∈ ys, ∀ k, y = some k → k < ms.length) _ _ _ (fun _ => ⟨s3, [], rfl, rfl, by simp⟩) (fun m d hd acc h' hI => ?_) (fun acc h' hI => ?_)
      · obtain ⟨hm, rfl⟩ := rngD_at hd
        obtain ⟨s4, ys, rfl, ly, hy⟩ := hI (by omega)
        refine ⟨_, rfl, ?_⟩
        simp [itl]
        refine bdraw_ok s4 (by omega) (by omega) (small_64 (by omega)) fun u h5 u0 u1 s5 c5 => ?_
        obtain ⟨y, hy1, ey⟩ := pick u u0 u1
        simp [ey]
        refine ⟨by omega, fun _ => ⟨s5.mono (by omega), ys ++ [y], by simp, by simp [ly], fun z hz => ?_⟩⟩
        rcases List.mem_append.mp hz with hz | hz
        · exact hy z hz
        · rw [List.mem_singleton.mp hz]; exact hy1
      · rw [rngD_len] at hI
        obtain ⟨s4, ys, rfl, ly, hy⟩ := hI (by omega)
        refine hK2 _ _ ?_
        clear hK2 K2
        have ry : Rc ms ys := ⟨w, hy, by omega⟩
        have l4 := s4.lt
        refine SW_seqK fun K2 hK2 => ?_
        simp only [SW_if, W_sNot, W_sTest, W_sCall, W_sCons, W_sNil, W_varS, W_var0, W_withD, List.append_nil, List.set_cons_succ, List.set_cons_zero]
        refine r16 ry (s4.app _) (by omega) (by simp) (by omega) fun h5 s5 => ?_
        simp
        refine hK2 _ _ ?_
        clear hK2 K2 s4 l4 ry hy ly
        refine SW_seqK fun K2 hK2 => ?_
        simp
        refine bdrawL s5 (by omega) (by decide) (small_64 (by decide)) fun v2 h6 v20 v21 s6 c6 => ?_
        simp
        refine pickI (ns := [2, 6]) v20 v21 fun lg hlg => ?_
        have hlg' : 1 ≤ lg ∧ lg ≤ 20 := by simp at hlg; omega
        refine fhall s6 (by omega) (by omega) (by omega) (by omega) (small_64 (by omega)) fun ts h7 s7 c7 lt w2 wN2 => hK2 _ _ ?_
        clear hK2 K2
        have w2 : WfHall T30 ts := w2.mono (by have : (20 : Int) ≤ T30 := by decide
                                               omega)
        refine SW_seqK fun K2 hK2 => ?_
        simp
        refine bdrawL s7 (by omega) (by omega) (small_64 (by omega)) fun m h8 m0 m1 s8 c8 => ?_
        obtain ⟨m, rfl⟩ : ∃ n : Nat, m = n := ⟨m.toNat, by omega⟩
        refine hd w2 rfl (by omega) fun xs h9 f l9 hx ok I kp hf g => ?_
        have s9 : Bag ns h9 0 (30000 * k + 30 + 1 + 400 + 10 + 1 + 10000 + 1 + 600) := by
          obtain ⟨p, rest, cnt, total, e, z1, z2, z3, z4, z5⟩ := s8
          exact ⟨p, rest, cnt, total, Kept.get (show Kept h8 h9 from kp) e, z1, z2, z3, by omega, z5⟩
        have fl := s8.lt
        refine hK2 _ _ ?_
        clear hK2 K2
        have rr : Rc (ts.map mbT) xs := ⟨mbT_wf w2, fun x hx1 j hj => by simpa using hx x hx1 j hj, by omega⟩
        rw [← mbT_nm] at g
        have hn2 := w2.len
        refine SW_seqK fun K2 hK2 => ?_
        simp [wipeD]
        refine W_lcMap1 ts dTk (fun t => dMb (mbT t)) _ (by simp [big]; omega) (fun t ht => ⟨_, rfl, by simp [dTk, dMb, mbT]⟩) ?_
        have em : ts.map (fun t => dMb (mbT t)) = (ts.map mbT).map dMb := by simp
        rw [em]
        refine hK2 _ _ ?_
        clear hK2 K2 em
        simp only [SW_if, W_sNot, W_sTest, W_sCall, W_sCons, W_sNil, W_varS, W_var0, W_withD, List.append_nil, List.set_cons_succ, List.set_cons_zero]
        simp [wipeD, -List.map_map]
        refine W_lcMap1 ts dTk (fun t => .str (mbT t).1) _ (by simp [big]; omega) (fun t ht => ⟨_, rfl, by simp [dTk, mbT]⟩) ?_
        have en : ts.map (fun t => D.str (mbT t).1) = ((ts.map mbT).map (·.1)).map D.str := by simp
        rw [en]
        refine chg s9 (by omega) rr g (by omega) fun ys2 f2 h10 s10 r10 g10 hf10 => ?_
        refine r16 r10 s10 (by omega) g10 (by omega) fun h11 s11 => ?_
        simp
        exact s11.mono (by omega)
    · obtain ⟨s, a2, a3, a4, a5, a6, a7, a8, a9, a10, rfl⟩ := hI
      refine hK _ _ ?_
      clear hK K
      have m4 := fun h (PD : D → OH → Prop) => mul400 h (PD := PD)
      generalize D.lst (((List.replicate 400 none).map (nmM [])).map dN) = Z at m4 lst2
      simp [lst1, m4, lst2, W_eqTick 2 "order" (by decide +kernel)]
  obtain ⟨d, h', e, rfl⟩ := fin.out
  exact ⟨h', e⟩
end HR
set_option Elab.async false
set_option linter.all false
set_option maxRecDepth 100000
set_option maxHeartbeats 4000000
/-! the text of law_k43_faults_of_records: facts of its head, the derivations -/
namespace HR
open PySem L2
open PyProof.Rows (envOfC)
namespace Tk43
def top (i : Nat) : Stmt := PySem.Challenge.pw_hushranks_k43_faults_of_records.main.body.getD i (.Pass ⟨0, 0, 0, 0⟩)
def d_is_integer : He.DefD := ⟨("is_integer", none), "is_integer", "is_integer", defArgs (top 10), defBody (top 10), defScope (top 10), [.non], []⟩
def d_is_sequence : He.DefD := ⟨("is_sequence", none), "is_sequence", "is_sequence", defArgs (top 11), defBody (top 11), defScope (top 11), [], []⟩
def d_is_name : He.DefD := ⟨("is_name", none), "is_name", "is_name", defArgs (top 12), defBody (top 12), defScope (top 12), [], []⟩
def d_is_member : He.DefD := ⟨("is_member", none), "is_member", "is_member", defArgs (top 17), defBody (top 17), defScope (top 17), [], []⟩
def d_check_members : He.DefD := ⟨("check_members", none), "check_members", "check_members", defArgs (top 18), defBody (top 18), defScope (top 18), [], []⟩
def d_is_item : He.DefD := ⟨("is_item", none), "is_item", "is_item", defArgs (top 19), defBody (top 19), defScope (top 19), [], []⟩
def d_check_record : He.DefD := ⟨("check_record", none), "check_record", "check_record", defArgs (top 20), defBody (top 20), defScope (top 20), [], []⟩
def d_Observed_init : He.DefD := ⟨("Observed", some "__init__"), "__init__", "Observed.__init__", defArgs (inClass (top 21) 0), defBody (inClass (top 21) 0), defScope (inClass (top 21) 0), [], []⟩
def d_Observed_pass_tick : He.DefD := ⟨("Observed", some "pass_tick"), "pass_tick", "Observed.pass_tick", defArgs (inClass (top 21) 1), defBody (inClass (top 21) 1), defScope (inClass (top 21) 1), [], []⟩
def d_Observed_speak_on : He.DefD := ⟨("Observed", some "speak_on"), "speak_on", "Observed.speak_on", defArgs (inClass (top 21) 2), defBody (inClass (top 21) 2), defScope (inClass (top 21) 2), [], []⟩
def d_Reading_init : He.DefD := ⟨("Reading", some "__init__"), "__init__", "Reading.__init__", defArgs (inClass (top 22) 0), defBody (inClass (top 22) 0), defScope (inClass (top 22) 0), [], []⟩
def d_Reading_kind_of_fault : He.DefD := ⟨("Reading", some "kind_of_fault"), "kind_of_fault", "Reading.kind_of_fault", defArgs (inClass (top 22) 1), defBody (inClass (top 22) 1), defScope (inClass (top 22) 1), [], []⟩
def d_Reading_read_tick : He.DefD := ⟨("Reading", some "read_tick"), "read_tick", "Reading.read_tick", defArgs (inClass (top 22) 2), defBody (inClass (top 22) 2), defScope (inClass (top 22) 2), [], []⟩
def d_checked_reading : He.DefD := ⟨("checked_reading", none), "checked_reading", "checked_reading", defArgs (top 23), defBody (top 23), defScope (top 23), [], []⟩
def d_fault_of : He.DefD := ⟨("fault_of", none), "fault_of", "fault_of", defArgs (top 24), defBody (top 24), defScope (top 24), [], []⟩
def d_schedules_of_1 : He.DefD := ⟨("schedules_of", none), "schedules_of", "schedules_of", defArgs (top 25), defBody (top 25), defScope (top 25), [], []⟩
def d_l_bag : He.DefD := ⟨("_law_bag", none), "_law_bag", "_law_bag", defArgs (top 27), defBody (top 27), defScope (top 27), [], []⟩
def d_l_stir : He.DefD := ⟨("_law_stir", none), "_law_stir", "_law_stir", defArgs (top 28), defBody (top 28), defScope (top 28), [], []⟩
def d_l_draw_2 : He.DefD := ⟨("_law_draw", none), "_law_draw", "_law_draw", defArgs (top 29), defBody (top 29), defScope (top 29), [], []⟩
def d_l_shuffled : He.DefD := ⟨("_law_shuffled", none), "_law_shuffled", "_law_shuffled", defArgs (top 30), defBody (top 30), defScope (top 30), [], []⟩
def d_l_talks_2 : He.DefD := ⟨("_law_talks", none), "_law_talks", "_law_talks", defArgs (top 31), defBody (top 31), defScope (top 31), [], []⟩
def d_l_hall_2 : He.DefD := ⟨("_law_hall", none), "_law_hall", "_law_hall", defArgs (top 32), defBody (top 32), defScope (top 32), [], []⟩
def d_l_members : He.DefD := ⟨("_law_members", none), "_law_members", "_law_members", defArgs (top 33), defBody (top 33), defScope (top 33), [], []⟩
def d_l_seat : He.DefD := ⟨("_law_seat", none), "_law_seat", "_law_seat", defArgs (top 34), defBody (top 34), defScope (top 34), [], []⟩
def d_l_model : He.DefD := ⟨("_law_model", none), "_law_model", "_law_model", defArgs (top 35), defBody (top 35), defScope (top 35), [], []⟩
def d_l_talk : He.DefD := ⟨("_law_talk", none), "_law_talk", "_law_talk", defArgs (top 36), defBody (top 36), defScope (top 36), [], []⟩
def d_l_find : He.DefD := ⟨("_law_find", none), "_law_find", "_law_find", defArgs (top 37), defBody (top 37), defScope (top 37), [], []⟩
def d_l_first : He.DefD := ⟨("_law_first", none), "_law_first", "_law_first", defArgs (top 38), defBody (top 38), defScope (top 38), [], []⟩
def d_l_pass : He.DefD := ⟨("_law_pass", none), "_law_pass", "_law_pass", defArgs (top 39), defBody (top 39), defScope (top 39), [], []⟩
def d_l_state : He.DefD := ⟨("_law_state", none), "_law_state", "_law_state", defArgs (top 40), defBody (top 40), defScope (top 40), [], []⟩
def d_l_heard : He.DefD := ⟨("_law_heard", none), "_law_heard", "_law_heard", defArgs (top 41), defBody (top 41), defScope (top 41), [], []⟩
def d_l_quiet : He.DefD := ⟨("_law_quiet", none), "_law_quiet", "_law_quiet", defArgs (top 42), defBody (top 42), defScope (top 42), [], []⟩
def d_l_last : He.DefD := ⟨("_law_last", none), "_law_last", "_law_last", defArgs (top 43), defBody (top 43), defScope (top 43), [], []⟩
def d_l_goes_on : He.DefD := ⟨("_law_goes_on", none), "_law_goes_on", "_law_goes_on", defArgs (top 44), defBody (top 44), defScope (top 44), [], []⟩
def d_l_fault_1 : He.DefD := ⟨("_law_fault", none), "_law_fault", "_law_fault", defArgs (top 45), defBody (top 45), defScope (top 45), [], []⟩
def d_l_schedules_1 : He.DefD := ⟨("_law_schedules", none), "_law_schedules", "_law_schedules", defArgs (top 46), defBody (top 46), defScope (top 46), [], []⟩
def d_l_either : He.DefD := ⟨("_law_either", none), "_law_either", "_law_either", defArgs (top 47), defBody (top 47), defScope (top 47), [], []⟩
def d_l_due_8 : He.DefD := ⟨("_law_due", none), "_law_due", "_law_due", defArgs (top 48), defBody (top 48), defScope (top 48), [], []⟩
def d_l_raised : He.DefD := ⟨("_law_raised", none), "_law_raised", "_law_raised", defArgs (top 49), defBody (top 49), defScope (top 49), [], []⟩
def d_l_right_16 : He.DefD := ⟨("_law_right", none), "_law_right", "_law_right", defArgs (top 50), defBody (top 50), defScope (top 50), [], []⟩
def d_l_changed_2 : He.DefD := ⟨("_law_changed", none), "_law_changed", "_law_changed", defArgs (top 51), defBody (top 51), defScope (top 51), [], []⟩
def d_law_k43 : He.DefD := ⟨("law", none), "law", "law", defArgs (top 52), defBody (top 52), defScope (top 52), [], []⟩
def d_Inconsistent_init : He.DefD := ⟨("Inconsistent", some "__init__"), "__init__", "Inconsistent.__init__", defArgs (inClass (top 2) 0), defBody (inClass (top 2) 0), defScope (inClass (top 2) 0), [], []⟩
def fn : List He.DefD := [d_is_integer, d_is_sequence, d_is_name, d_is_member, d_check_members, d_is_item, d_check_record, d_Observed_init, d_Observed_pass_tick, d_Observed_speak_on, d_Reading_init, d_Reading_kind_of_fault, d_Reading_read_tick, d_checked_reading, d_fault_of, d_schedules_of_1, d_l_bag, d_l_stir, d_l_draw_2, d_l_shuffled, d_l_talks_2, d_l_hall_2, d_l_members, d_l_seat, d_l_model, d_l_talk, d_l_find, d_l_first, d_l_pass, d_l_state, d_l_heard, d_l_quiet, d_l_last, d_l_goes_on, d_l_fault_1, d_l_schedules_1, d_l_either, d_l_due_8, d_l_raised, d_l_right_16, d_l_changed_2, d_law_k43, d_Inconsistent_init]
def fa0 : List He.Fa := [.glo "HushError", .exc "HushError", .glo "Inconsistent", .glo "InvalidMembers", .exc "InvalidMembers", .glo "InvalidRecord", .exc "InvalidRecord", .str "LETTERS" "abcdefghijklmnopqrstuvwxyz", .int "MAX_NAME" (8), .int "MAX_RANK" (10), .int "MAX_TALKERS" (10), .glo "is_integer", .glo "is_sequence", .glo "is_name", .int "MAX_RECORD" (400), .str "SILENCE" "silence", .str "ORDER" "order", .glo "is_member", .glo "check_members", .glo "is_item", .glo "check_record", .glo "Observed", .cls "Observed", .mkr "Observed", .noat "Observed" "position", .noat "Observed" "name", .noat "Observed" "rank", .noat "Observed" "found_talks", .noat "Observed" "quiet_ticks", .noat "Observed" "is_open"]
def fa1 : List He.Fa := [.meth "Observed" "pass_tick", .meth "Observed" "speak_on", .glo "Reading", .cls "Reading", .mkr "Reading", .noat "Reading" "observed", .noat "Reading" "last_position", .noat "Reading" "fault", .meth "Reading" "kind_of_fault", .meth "Reading" "read_tick", .glo "checked_reading", .glo "fault_of", .glo "schedules_of", .glo "_law_bag", .glo "_law_stir", .glo "_law_draw", .glo "_law_shuffled", .glo "_law_talks", .glo "_law_hall", .glo "_law_members", .glo "_law_seat", .glo "_law_model", .glo "_law_talk", .glo "_law_find", .glo "_law_first", .glo "_law_pass", .glo "_law_state", .glo "_law_heard", .glo "_law_quiet", .glo "_law_last"]
def fa2 : List He.Fa := [.glo "_law_goes_on", .glo "_law_fault", .glo "_law_schedules", .glo "_law_either", .glo "_law_due", .glo "_law_raised", .glo "_law_right", .glo "_law_changed", .glo "law", .exm "Inconsistent" "Inconsistent" true, .free "ValueError", .free "all", .free "bool", .free "dict", .free "enumerate", .free "int", .free "isinstance", .free "len", .free "list", .free "max", .free "min", .free "range", .free "repr", .free "set", .free "str", .free "tuple"]
def fa : List He.Fa := fa0 ++ fa1 ++ fa2
def xsL : List String := ["Inconsistent", "InvalidMembers", "InvalidRecord"]
def ysL : List String := []
def esL : List String := ["Observed"]
theorem hu_ {A : Around} {k : Nat} (hr : Room k A) : A.units + 64 < cLine := hr.units
theorem hu1_ {A : Around} {k : Nat} (hr : Room k A) : A.units + 1 < cLine := by have := hr.units; omega
section
variable {P : Program} {w : World} {K : PySem.W.Frag} {mg : Str → Option Value} {base h : Heap}
theorem sc_Inconsistent_init : FnScope ["self", "tick"] ["self", "tick"] (defScope (inClass (top 2) 0)) := ⟨rfl, rfl, rfl, by decide +kernel, rfl, by decide +kernel, by decide +kernel⟩
theorem oki_Inconsistent (c : SaysE fa fn xsL ysL esL K) (X0 : K.In h) (G : h.Ns mainGlobals mg) : DefI P w K mg base 1 "Inconsistent" "tick" := by
  obtain ⟨fd, F⟩ := c.def_ 42 (d := d_Inconsistent_init) rfl
  have T := c.xf.oex "Inconsistent" (by decide) "tick" rfl
  exact ⟨⟨fd, "self", "tick", init_ok (m := "inconsistent record") F sc_Inconsistent_init T (fun cdv A outer s H E => pss_ini T rfl (by first | exact Or.inl rfl | exact Or.inr (Or.inl rfl)) (by first | exact Or.inl rfl | exact Or.inr (Or.inl rfl)) (by rfl) (He.glo_ok X0 G (c.fact 0 (f := .glo "HushError") (by rfl))) (by decide) (by decide) (by decide) (by decide)), F.bindsN fun _ _ _ _ _ _ us hl => match us, hl with | [_, _], _ => rfl⟩, T⟩
theorem sc_l_bag : FnScope ["_law_script", "_law_total", "_law_cell"] ["_law_script"] (defScope (top 27)) := ⟨rfl, rfl, rfl, by decide +kernel, rfl, by decide +kernel, by decide +kernel⟩
theorem okb_l_bag (c : SaysE fa fn xsL ysL esL K) (X0 : K.In h) (G : h.Ns mainGlobals mg) {fd : FuncData} (F : FunD K d_l_bag.name d_l_bag.qual d_l_bag.params d_l_bag.body d_l_bag.scope (d_l_bag.dvs K) (d_l_bag.kws K) (He.ga K "_law_bag") fd) : FnOk P w K mg base CX0 1 (He.ga K "_law_bag") fd ["_law_script"] (spN K 1 Sh.l_bag) := by
  have sc := sc_l_bag
  refine fn_ok F sc (by decide) (fun cdv A outer s H E hr => ?_)
  exact (ds_cons (ds_set 1 sc.nd de_int) (ds_cons (ds_for (vs := [2]) (passes_of rfl) rfl (di_any (de_var 0)) (dg_name 2 sc.nd) (ds_one (ds_set 1 sc.nd (de_mod (de_add (de_add (de_mul (de_var 1) de_int) (de_mod (de_var 2) de_int)) de_int) de_int)))) (ds_one (ds_ret (de_lstO (da_cons (de_list false (by rfl) (He.free_ok X0 G (c.fact 78 (f := .free "list") (by rfl))) (de_var 0)) (da_cons de_int (da_cons de_int (da_cons de_int (da_cons (de_var 1) da_nil))))))))))
theorem ok_l_bag (c : SaysE fa fn xsL ysL esL K) (X0 : K.In h) (G : h.Ns mainGlobals mg) : Def P w K mg base CX0 1 (He.ga K "_law_bag") ["_law_script"] [] Sh.l_bag := by
  obtain ⟨fd, F⟩ := c.def_ 16 (d := d_l_bag) rfl
  exact ⟨⟨fd, [], okb_l_bag c X0 G F, F.bindsN fun _ _ _ _ _ _ us hl => match us, hl with | [_], _ => rfl, .nil⟩, F.kp⟩
theorem sc_l_stir : FnScope ["_law_number", "_law_place", "_law_one", "_law_two"] ["_law_number", "_law_place"] (defScope (top 28)) := ⟨rfl, rfl, rfl, by decide +kernel, rfl, by decide +kernel, by decide +kernel⟩
theorem okb_l_stir (c : SaysE fa fn xsL ysL esL K) (X0 : K.In h) (G : h.Ns mainGlobals mg) {fd : FuncData} (F : FunD K d_l_stir.name d_l_stir.qual d_l_stir.params d_l_stir.body d_l_stir.scope (d_l_stir.dvs K) (d_l_stir.kws K) (He.ga K "_law_stir") fd) : FnOk P w K mg base CX0 1 (He.ga K "_law_stir") fd ["_law_number", "_law_place"] (spN K 2 Sh.l_stir) := by
  have sc := sc_l_stir
  refine fn_ok F sc (by decide) (fun cdv A outer s H E hr => ?_)
  exact (ds_cons (ds_set 2 sc.nd (de_mod (de_add (de_add (de_mul (de_var 0) de_int) (de_mul (de_var 1) de_int)) de_int) de_int)) (ds_cons (ds_set 3 sc.nd (de_mod (de_mul (de_var 2) (de_var 2)) de_int)) (ds_one (ds_ret (de_div (de_mod (de_add (de_add (de_mul (de_var 3) de_int) (de_mul (de_mul (de_var 1) (de_var 1)) de_int)) (de_div (de_var 2) de_int)) de_int) de_int)))))
theorem ok_l_stir (c : SaysE fa fn xsL ysL esL K) (X0 : K.In h) (G : h.Ns mainGlobals mg) : Def P w K mg base CX0 1 (He.ga K "_law_stir") ["_law_number", "_law_place"] [] Sh.l_stir := by
  obtain ⟨fd, F⟩ := c.def_ 17 (d := d_l_stir) rfl
  exact ⟨⟨fd, [], okb_l_stir c X0 G F, F.bindsN fun _ _ _ _ _ _ us hl => match us, hl with | [_, _], _ => rfl, .nil⟩, F.kp⟩
theorem sc_l_draw_2 : FnScope ["_law_bag_here", "_law_bound", "_law_cell", "_law_found"] ["_law_bag_here", "_law_bound"] (defScope (top 29)) := ⟨rfl, rfl, rfl, by decide +kernel, rfl, by decide +kernel, by decide +kernel⟩
theorem okb_l_draw_2 (c : SaysE fa fn xsL ysL esL K) (X0 : K.In h) (G : h.Ns mainGlobals mg) {fd : FuncData} (F : FunD K d_l_draw_2.name d_l_draw_2.qual d_l_draw_2.params d_l_draw_2.body d_l_draw_2.scope (d_l_draw_2.dvs K) (d_l_draw_2.kws K) (He.ga K "_law_draw") fd) : FnOk P w K mg base CX0 2 (He.ga K "_law_draw") fd ["_law_bag_here", "_law_bound"] (spN K 2 Sh.l_draw_2) := by
  have H_l_stir := ok_l_stir (P := P) (w := w) (base := base) c X0 G
  have sc := sc_l_draw_2
  refine fn_ok F sc (by decide) (fun cdv A outer s H E hr => ?_)
  exact (ds_cons (ds_if (dt_eq (hu_ hr) (de_var 1) de_int) (ds_one (ds_ret de_int)) ds_nil) (ds_cons (ds_ix (de_var 0) de_int (de_add (de_ix (de_var 0) de_int) de_int) (pg_sub (de_var 0) de_int set_list)) (ds_cons (ds_if (DW.dt (dw_and (dt_lt (de_ix (de_var 0) de_int) de_int) (dw_and1 (dt_eq (hu_ hr) (de_ix (de_var 0) de_int) (de_len (by rfl) (He.free_ok X0 G (c.fact 77 (f := .free "len") (by rfl))) (de_ix (de_var 0) de_int)))))) (ds_one (ds_ret (de_mod (de_callF [] ((H_l_stir.up (by decide)).pure) hr (He.glo_ok X0 G (c.fact 44 (f := .glo "_law_stir") (by rfl))) (fun _ _ => .nil) (fun _ => passAt0) (da_cons (de_ix (de_var 0) de_int) (da_cons (de_ix (de_var 0) de_int) da_nil)) (sCons_len (sCons_len sNil_len))) (de_var 1)))) ds_nil) (ds_cons (ds_if (dt_lt (de_ix (de_var 0) de_int) de_int) (ds_cons (ds_set 2 sc.nd (de_ix (de_ix (de_var 0) de_int) (de_ix (de_var 0) de_int))) (ds_cons (ds_ix (de_var 0) de_int (de_add (de_ix (de_var 0) de_int) de_int) (pg_sub (de_var 0) de_int set_list)) (ds_cons (ds_if (dt_lt (de_var 2) (de_pow de_int de_int)) (ds_one (ds_ret (de_mod (de_callF [] ((H_l_stir.up (by decide)).pure) hr (He.glo_ok X0 G (c.fact 44 (f := .glo "_law_stir") (by rfl))) (fun _ _ => .nil) (fun _ => passAt0) (da_cons (de_mod (de_var 2) de_int) (da_cons (de_ix (de_var 0) de_int) da_nil)) (sCons_len (sCons_len sNil_len))) (de_var 1)))) ds_nil) (ds_one (ds_ix (de_var 0) de_int (de_sub (de_var 2) (de_pow de_int de_int)) (pg_sub (de_var 0) de_int set_list)))))) ds_nil) (ds_cons (ds_set 3 sc.nd (de_mod (de_ix (de_var 0) de_int) (de_var 1))) (ds_cons (ds_ix (de_var 0) de_int (de_div (de_ix (de_var 0) de_int) (de_var 1)) (pg_sub (de_var 0) de_int set_list)) (ds_one (ds_ret (de_var 3)))))))))
theorem ok_l_draw_2 (c : SaysE fa fn xsL ysL esL K) (X0 : K.In h) (G : h.Ns mainGlobals mg) : Def P w K mg base CX0 2 (He.ga K "_law_draw") ["_law_bag_here", "_law_bound"] [] Sh.l_draw_2 := by
  obtain ⟨fd, F⟩ := c.def_ 18 (d := d_l_draw_2) rfl
  exact ⟨⟨fd, [], okb_l_draw_2 c X0 G F, F.bindsN fun _ _ _ _ _ _ us hl => match us, hl with | [_, _], _ => rfl, .nil⟩, F.kp⟩
theorem sc_l_members : FnScope ["_law_bag_here", "_law_most", "_law_names", "_law_ranks", "_law_count", "_law_step"] ["_law_bag_here", "_law_most"] (defScope (top 33)) := ⟨rfl, rfl, rfl, by decide +kernel, rfl, by decide +kernel, by decide +kernel⟩
theorem okb_l_members (c : SaysE fa fn xsL ysL esL K) (X0 : K.In h) (G : h.Ns mainGlobals mg) {fd : FuncData} (F : FunD K d_l_members.name d_l_members.qual d_l_members.params d_l_members.body d_l_members.scope (d_l_members.dvs K) (d_l_members.kws K) (He.ga K "_law_members") fd) : FnOk P w K mg base CX0 3 (He.ga K "_law_members") fd ["_law_bag_here", "_law_most"] (spN K 2 Sh.l_members) := by
  have H_l_draw_2 := ok_l_draw_2 (P := P) (w := w) (base := base) c X0 G
  have sc := sc_l_members
  refine fn_ok F sc (by decide) (fun cdv A outer s H E hr => ?_)
  exact (ds_cons (ds_set 2 sc.nd (de_lstO (da_cons de_str (da_cons de_str (da_cons de_str (da_cons de_str (da_cons de_str (da_cons de_str (da_cons de_str (da_cons de_str (da_cons de_str (da_cons de_str da_nil)))))))))))) (ds_cons (ds_set 3 sc.nd (de_ix (de_lst (da_cons de_int (da_cons de_int (da_cons de_int (da_cons de_int da_nil))))) (de_callF [] (H_l_draw_2.up (by decide)) hr (He.glo_ok X0 G (c.fact 45 (f := .glo "_law_draw") (by rfl))) (fun _ _ => .nil) (fun _ => passAt0) (da_cons (de_var 0) (da_cons de_int da_nil)) (sCons_len (sCons_len sNil_len))))) (ds_cons (ds_set 4 sc.nd (de_callF [] (H_l_draw_2.up (by decide)) hr (He.glo_ok X0 G (c.fact 45 (f := .glo "_law_draw") (by rfl))) (fun _ _ => .nil) (fun _ => passAt0) (da_cons (de_var 0) (da_cons (de_add (de_var 1) de_int) da_nil)) (sCons_len (sCons_len sNil_len)))) (ds_one (ds_ret (de_lc false [("_law_step", 5)] rfl sc.nd (di_rng1 (by rfl) (He.free_ok X0 G (c.fact 81 (f := .free "range") (by rfl))) (de_var 4)) (blkOk_by (by kernel_rfl)) (fun _ _ _ _ _ => (dg_name 5 sc.nd)) (fun _ _ _ _ _ => dts_nil) (fun _ _ _ _ _ => (de_tup (da_cons (de_popAt (de_var 2) (de_callF [] (H_l_draw_2.up (by decide)) hr (He.glo_ok X0 G (c.fact 45 (f := .glo "_law_draw") (by rfl))) (fun _ _ => .nil) (fun _ => passAt0) (da_cons (de_var 0) (da_cons (de_len (by rfl) (He.free_ok X0 G (c.fact 77 (f := .free "len") (by rfl))) (de_var 2)) da_nil)) (sCons_len (sCons_len sNil_len)))) (da_cons (de_add de_int (de_callF [] (H_l_draw_2.up (by decide)) hr (He.glo_ok X0 G (c.fact 45 (f := .glo "_law_draw") (by rfl))) (fun _ _ => .nil) (fun _ => passAt0) (da_cons (de_var 0) (da_cons (de_var 3) da_nil)) (sCons_len (sCons_len sNil_len)))) da_nil))))))))))
theorem ok_l_members (c : SaysE fa fn xsL ysL esL K) (X0 : K.In h) (G : h.Ns mainGlobals mg) : Def P w K mg base CX0 3 (He.ga K "_law_members") ["_law_bag_here", "_law_most"] [] Sh.l_members := by
  obtain ⟨fd, F⟩ := c.def_ 22 (d := d_l_members) rfl
  exact ⟨⟨fd, [], okb_l_members c X0 G F, F.bindsN fun _ _ _ _ _ _ us hl => match us, hl with | [_, _], _ => rfl, .nil⟩, F.kp⟩
theorem sc_l_talks_2 : FnScope ["_law_bag_here", "_law_least", "_law_more", "_law_longest", "_law_count", "_law_step"] ["_law_bag_here", "_law_least", "_law_more", "_law_longest"] (defScope (top 31)) := ⟨rfl, rfl, rfl, by decide +kernel, rfl, by decide +kernel, by decide +kernel⟩
theorem okb_l_talks_2 (c : SaysE fa fn xsL ysL esL K) (X0 : K.In h) (G : h.Ns mainGlobals mg) {fd : FuncData} (F : FunD K d_l_talks_2.name d_l_talks_2.qual d_l_talks_2.params d_l_talks_2.body d_l_talks_2.scope (d_l_talks_2.dvs K) (d_l_talks_2.kws K) (He.ga K "_law_talks") fd) : FnOk P w K mg base CX0 3 (He.ga K "_law_talks") fd ["_law_bag_here", "_law_least", "_law_more", "_law_longest"] (spN K 4 Sh.l_talks_2) := by
  have H_l_draw_2 := ok_l_draw_2 (P := P) (w := w) (base := base) c X0 G
  have sc := sc_l_talks_2
  refine fn_ok F sc (by decide) (fun cdv A outer s H E hr => ?_)
  exact (ds_cons (ds_set 4 sc.nd (de_add (de_var 1) (de_callF [] (H_l_draw_2.up (by decide)) hr (He.glo_ok X0 G (c.fact 45 (f := .glo "_law_draw") (by rfl))) (fun _ _ => .nil) (fun _ => passAt0) (da_cons (de_var 0) (da_cons (de_var 2) da_nil)) (sCons_len (sCons_len sNil_len))))) (ds_one (ds_ret (de_lc false [("_law_step", 5)] rfl sc.nd (di_rng1 (by rfl) (He.free_ok X0 G (c.fact 81 (f := .free "range") (by rfl))) (de_var 4)) (blkOk_by (by kernel_rfl)) (fun _ _ _ _ _ => (dg_name 5 sc.nd)) (fun _ _ _ _ _ => dts_nil) (fun _ _ _ _ _ => (de_tup (da_cons (de_add de_int (de_callF [] (H_l_draw_2.up (by decide)) hr (He.glo_ok X0 G (c.fact 45 (f := .glo "_law_draw") (by rfl))) (fun _ _ => .nil) (fun _ => passAt0) (da_cons (de_var 0) (da_cons (de_var 3) da_nil)) (sCons_len (sCons_len sNil_len)))) (da_cons (de_add de_int (de_callF [] (H_l_draw_2.up (by decide)) hr (He.glo_ok X0 G (c.fact 45 (f := .glo "_law_draw") (by rfl))) (fun _ _ => .nil) (fun _ => passAt0) (da_cons (de_var 0) (da_cons (de_var 3) da_nil)) (sCons_len (sCons_len sNil_len)))) da_nil))))))))
theorem ok_l_talks_2 (c : SaysE fa fn xsL ysL esL K) (X0 : K.In h) (G : h.Ns mainGlobals mg) : Def P w K mg base CX0 3 (He.ga K "_law_talks") ["_law_bag_here", "_law_least", "_law_more", "_law_longest"] [] Sh.l_talks_2 := by
  obtain ⟨fd, F⟩ := c.def_ 20 (d := d_l_talks_2) rfl
  exact ⟨⟨fd, [], okb_l_talks_2 c X0 G F, F.bindsN fun _ _ _ _ _ _ us hl => match us, hl with | [_, _, _, _], _ => rfl, .nil⟩, F.kp⟩
theorem sc_l_hall_2 : FnScope ["_law_bag_here", "_law_most", "_law_longest", "_law_names", "_law_ranks", "_law_found", "_law_step", "_law_name", "_law_prefix", "_law_cycle"] ["_law_bag_here", "_law_most", "_law_longest"] (defScope (top 32)) := ⟨rfl, rfl, rfl, by decide +kernel, rfl, by decide +kernel, by decide +kernel⟩
theorem okb_l_hall_2 (c : SaysE fa fn xsL ysL esL K) (X0 : K.In h) (G : h.Ns mainGlobals mg) {fd : FuncData} (F : FunD K d_l_hall_2.name d_l_hall_2.qual d_l_hall_2.params d_l_hall_2.body d_l_hall_2.scope (d_l_hall_2.dvs K) (d_l_hall_2.kws K) (He.ga K "_law_hall") fd) : FnOk P w K mg base CX0 4 (He.ga K "_law_hall") fd ["_law_bag_here", "_law_most", "_law_longest"] (spN K 3 Sh.l_hall_2) := by
  have H_l_draw_2 := ok_l_draw_2 (P := P) (w := w) (base := base) c X0 G
  have H_l_talks_2 := ok_l_talks_2 (P := P) (w := w) (base := base) c X0 G
  have sc := sc_l_hall_2
  refine fn_ok F sc (by decide) (fun cdv A outer s H E hr => ?_)
  exact (ds_cons (ds_set 3 sc.nd (de_lstO (da_cons de_str (da_cons de_str (da_cons de_str (da_cons de_str (da_cons de_str (da_cons de_str (da_cons de_str (da_cons de_str (da_cons de_str (da_cons de_str da_nil)))))))))))) (ds_cons (ds_set 4 sc.nd (de_ix (de_lst (da_cons de_int (da_cons de_int (da_cons de_int (da_cons de_int da_nil))))) (de_callF [] (H_l_draw_2.up (by decide)) hr (He.glo_ok X0 G (c.fact 45 (f := .glo "_law_draw") (by rfl))) (fun _ _ => .nil) (fun _ => passAt0) (da_cons (de_var 0) (da_cons de_int da_nil)) (sCons_len (sCons_len sNil_len))))) (ds_cons (ds_set 5 sc.nd (de_lstO da_nil)) (ds_cons (ds_for (vs := [6]) (passes_of rfl) rfl (di_rng1 (by rfl) (He.free_ok X0 G (c.fact 81 (f := .free "range") (by rfl))) (de_callF [] (H_l_draw_2.up (by decide)) hr (He.glo_ok X0 G (c.fact 45 (f := .glo "_law_draw") (by rfl))) (fun _ _ => .nil) (fun _ => passAt0) (da_cons (de_var 0) (da_cons (de_add (de_var 1) de_int) da_nil)) (sCons_len (sCons_len sNil_len)))) (dg_name 6 sc.nd) (ds_cons (ds_set 7 sc.nd (de_popAt (de_var 3) (de_callF [] (H_l_draw_2.up (by decide)) hr (He.glo_ok X0 G (c.fact 45 (f := .glo "_law_draw") (by rfl))) (fun _ _ => .nil) (fun _ => passAt0) (da_cons (de_var 0) (da_cons (de_len (by rfl) (He.free_ok X0 G (c.fact 77 (f := .free "len") (by rfl))) (de_var 3)) da_nil)) (sCons_len (sCons_len sNil_len))))) (ds_cons (ds_set 8 sc.nd (de_callF [] (H_l_talks_2.up (by decide)) hr (He.glo_ok X0 G (c.fact 47 (f := .glo "_law_talks") (by rfl))) (fun _ _ => .nil) (fun _ => passAt0) (da_cons (de_var 0) (da_cons de_int (da_cons (de_ix (de_lst (da_cons de_int (da_cons de_int (da_cons de_int (da_cons de_int da_nil))))) (de_callF [] (H_l_draw_2.up (by decide)) hr (He.glo_ok X0 G (c.fact 45 (f := .glo "_law_draw") (by rfl))) (fun _ _ => .nil) (fun _ => passAt0) (da_cons (de_var 0) (da_cons de_int da_nil)) (sCons_len (sCons_len sNil_len)))) (da_cons (de_var 2) da_nil)))) (sCons_len (sCons_len (sCons_len (sCons_len sNil_len)))))) (ds_cons (ds_set 9 sc.nd (de_callF [] (H_l_talks_2.up (by decide)) hr (He.glo_ok X0 G (c.fact 47 (f := .glo "_law_talks") (by rfl))) (fun _ _ => .nil) (fun _ => passAt0) (da_cons (de_var 0) (da_cons de_int (da_cons (de_ix (de_lst (da_cons de_int (da_cons de_int (da_cons de_int da_nil)))) (de_callF [] (H_l_draw_2.up (by decide)) hr (He.glo_ok X0 G (c.fact 45 (f := .glo "_law_draw") (by rfl))) (fun _ _ => .nil) (fun _ => passAt0) (da_cons (de_var 0) (da_cons de_int da_nil)) (sCons_len (sCons_len sNil_len)))) (da_cons (de_var 2) da_nil)))) (sCons_len (sCons_len (sCons_len (sCons_len sNil_len)))))) (ds_one (ds_expr (de_append (de_var 5) (de_tup (da_cons (de_var 7) (da_cons (de_add de_int (de_callF [] (H_l_draw_2.up (by decide)) hr (He.glo_ok X0 G (c.fact 45 (f := .glo "_law_draw") (by rfl))) (fun _ _ => .nil) (fun _ => passAt0) (da_cons (de_var 0) (da_cons (de_var 4) da_nil)) (sCons_len (sCons_len sNil_len)))) (da_cons (de_var 8) (da_cons (de_var 9) da_nil)))))))))))) (ds_one (ds_ret (de_frz (de_var 5))))))))
theorem ok_l_hall_2 (c : SaysE fa fn xsL ysL esL K) (X0 : K.In h) (G : h.Ns mainGlobals mg) : Def P w K mg base CX0 4 (He.ga K "_law_hall") ["_law_bag_here", "_law_most", "_law_longest"] [] Sh.l_hall_2 := by
  obtain ⟨fd, F⟩ := c.def_ 21 (d := d_l_hall_2) rfl
  exact ⟨⟨fd, [], okb_l_hall_2 c X0 G F, F.bindsN fun _ _ _ _ _ _ us hl => match us, hl with | [_, _, _], _ => rfl, .nil⟩, F.kp⟩
theorem sc_l_seat : FnScope ["_law_talker", "_law_found"] ["_law_talker"] (defScope (top 34)) := ⟨rfl, rfl, rfl, by decide +kernel, rfl, by decide +kernel, by decide +kernel⟩
theorem okb_l_seat (c : SaysE fa fn xsL ysL esL K) (X0 : K.In h) (G : h.Ns mainGlobals mg) {fd : FuncData} (F : FunD K d_l_seat.name d_l_seat.qual d_l_seat.params d_l_seat.body d_l_seat.scope (d_l_seat.dvs K) (d_l_seat.kws K) (He.ga K "_law_seat") fd) : FnOk P w K mg base CX0 1 (He.ga K "_law_seat") fd ["_law_talker"] (spN K 1 Sh.l_seat) := by
  have sc := sc_l_seat
  refine fn_ok F sc (by decide) (fun cdv A outer s H E hr => ?_)
  exact (ds_cons (ds_set 1 sc.nd (de_dispO (dps_cons (de_ix (de_var 0) de_int) (dps_cons (de_ix (de_var 0) de_int) (dps_cons (de_list false (by rfl) (He.free_ok X0 G (c.fact 78 (f := .free "list") (by rfl))) (de_ix (de_var 0) de_int)) (dps_cons (de_list false (by rfl) (He.free_ok X0 G (c.fact 78 (f := .free "list") (by rfl))) (de_ix (de_var 0) de_int)) dps_nil)))))) (ds_cons (ds_expr (de_upd (de_var 1) (de_dispO (dps_cons de_int (dps_cons de_int (dps_cons de_int (dps_cons de_bl (dps_cons de_int dps_nil)))))))) (ds_one (ds_ret (de_var 1)))))
theorem ok_l_seat (c : SaysE fa fn xsL ysL esL K) (X0 : K.In h) (G : h.Ns mainGlobals mg) : Def P w K mg base CX0 1 (He.ga K "_law_seat") ["_law_talker"] [] Sh.l_seat := by
  obtain ⟨fd, F⟩ := c.def_ 23 (d := d_l_seat) rfl
  exact ⟨⟨fd, [], okb_l_seat c X0 G F, F.bindsN fun _ _ _ _ _ _ us hl => match us, hl with | [_], _ => rfl, .nil⟩, F.kp⟩
theorem sc_l_model : FnScope ["_law_hall_here", "_law_queues", "_law_rank", "_law_one"] ["_law_hall_here"] (defScope (top 35)) := ⟨rfl, rfl, rfl, by decide +kernel, rfl, by decide +kernel, by decide +kernel⟩
theorem okb_l_model (c : SaysE fa fn xsL ysL esL K) (X0 : K.In h) (G : h.Ns mainGlobals mg) {fd : FuncData} (F : FunD K d_l_model.name d_l_model.qual d_l_model.params d_l_model.body d_l_model.scope (d_l_model.dvs K) (d_l_model.kws K) (He.ga K "_law_model") fd) : FnOk P w K mg base CX0 2 (He.ga K "_law_model") fd ["_law_hall_here"] (spN K 1 Sh.l_model) := by
  have H_l_seat := ok_l_seat (P := P) (w := w) (base := base) c X0 G
  have sc := sc_l_model
  refine fn_ok F sc (by decide) (fun cdv A outer s H E hr => ?_)
  exact (ds_cons (ds_set 1 sc.nd (de_dictP rfl (by rfl) (He.free_ok X0 G (c.fact 73 (f := .free "dict") (by rfl))) (de_lc false [("_law_rank", 2)] rfl sc.nd (di_rng2 (by rfl) (He.free_ok X0 G (c.fact 81 (f := .free "range") (by rfl))) de_int de_int) (blkOk_by (by kernel_rfl)) (fun _ _ _ _ _ => (dg_name 2 sc.nd)) (fun _ _ _ _ _ => dts_nil) (fun _ _ _ _ _ => (de_tup (da_cons (de_var 2) (da_cons (de_lstO da_nil) da_nil))))))) (ds_one (ds_ret (de_dispO (dps_cons de_int (dps_cons de_int (dps_cons (de_lc false [("_law_one", 3)] rfl sc.nd (di_any (de_var 0)) (blkOk_by (by kernel_rfl)) (fun _ _ _ _ _ => (dg_name 3 sc.nd)) (fun _ _ _ _ _ => dts_nil) (fun _ _ _ _ _ => (de_callF [] (H_l_seat.up (by decide)) hr (He.glo_ok X0 G (c.fact 50 (f := .glo "_law_seat") (by rfl))) (fun _ _ => .nil) (fun _ => passAt0) (da_cons (de_var 3) da_nil) (sCons_len sNil_len)))) (dps_cons (de_var 1) dps_nil))))))))
theorem ok_l_model (c : SaysE fa fn xsL ysL esL K) (X0 : K.In h) (G : h.Ns mainGlobals mg) : Def P w K mg base CX0 2 (He.ga K "_law_model") ["_law_hall_here"] [] Sh.l_model := by
  obtain ⟨fd, F⟩ := c.def_ 24 (d := d_l_model) rfl
  exact ⟨⟨fd, [], okb_l_model c X0 G F, F.bindsN fun _ _ _ _ _ _ us hl => match us, hl with | [_], _ => rfl, .nil⟩, F.kp⟩
theorem sc_l_find : FnScope ["_law_model_here", "_law_name", "_law_one"] ["_law_model_here", "_law_name"] (defScope (top 37)) := ⟨rfl, rfl, rfl, by decide +kernel, rfl, by decide +kernel, by decide +kernel⟩
theorem okb_l_find (c : SaysE fa fn xsL ysL esL K) (X0 : K.In h) (G : h.Ns mainGlobals mg) {fd : FuncData} (F : FunD K d_l_find.name d_l_find.qual d_l_find.params d_l_find.body d_l_find.scope (d_l_find.dvs K) (d_l_find.kws K) (He.ga K "_law_find") fd) : FnOk P w K mg base CX0 1 (He.ga K "_law_find") fd ["_law_model_here", "_law_name"] (spN K 2 Sh.l_find) := by
  have sc := sc_l_find
  refine fn_ok F sc (by decide) (fun cdv A outer s H E hr => ?_)
  exact (ds_one (ds_ret (de_ix (de_lc false [("_law_one", 2)] rfl sc.nd (di_any (de_ixD (hu_ hr) (de_var 0) de_str)) (blkOk_by (by kernel_rfl)) (fun _ _ _ _ _ => (dg_name 2 sc.nd)) (fun _ _ _ _ _ => (dts_one (dt_eq (hu_ hr) (de_ixD (hu_ hr) (de_var 2) de_str) (de_var 1)))) (fun _ _ _ _ _ => (de_var 2))) de_int)))
theorem ok_l_find (c : SaysE fa fn xsL ysL esL K) (X0 : K.In h) (G : h.Ns mainGlobals mg) : Def P w K mg base CX0 1 (He.ga K "_law_find") ["_law_model_here", "_law_name"] [] Sh.l_find := by
  obtain ⟨fd, F⟩ := c.def_ 26 (d := d_l_find) rfl
  exact ⟨⟨fd, [], okb_l_find c X0 G F, F.bindsN fun _ _ _ _ _ _ us hl => match us, hl with | [_, _], _ => rfl, .nil⟩, F.kp⟩
theorem sc_l_first : FnScope ["_law_model_here", "_law_waiting", "_law_rank"] ["_law_model_here"] (defScope (top 38)) := ⟨rfl, rfl, rfl, by decide +kernel, rfl, by decide +kernel, by decide +kernel⟩
theorem okb_l_first (c : SaysE fa fn xsL ysL esL K) (X0 : K.In h) (G : h.Ns mainGlobals mg) {fd : FuncData} (F : FunD K d_l_first.name d_l_first.qual d_l_first.params d_l_first.body d_l_first.scope (d_l_first.dvs K) (d_l_first.kws K) (He.ga K "_law_first") fd) : FnOk P w K mg base CX0 2 (He.ga K "_law_first") fd ["_law_model_here"] (spN K 1 Sh.l_first) := by
  have H_l_find := ok_l_find (P := P) (w := w) (base := base) c X0 G
  have sc := sc_l_first
  refine fn_ok F sc (by decide) (fun cdv A outer s H E hr => ?_)
  exact (ds_cons (ds_setLc (X := _) 1 false [("_law_rank", 2)] rfl sc.nd (di_rng2 (by rfl) (He.free_ok X0 G (c.fact 81 (f := .free "range") (by rfl))) de_int de_int) (blkOk_by (by kernel_rfl)) (fun _ _ _ _ _ => (dg_name 2 sc.nd)) (fun _ _ _ _ _ => (dts_one (dt_neN (hu_ hr) (de_ixD (hu_ hr) (de_ixD (hu_ hr) (de_var 0) de_str) (de_var 2)) (de_lst da_nil)))) (fun _ _ _ _ _ => (de_ix (de_ixD (hu_ hr) (de_ixD (hu_ hr) (de_var 0) de_str) (de_var 2)) de_int)) (sw_true rfl rfl rfl (by decide +kernel))) (ds_one (ds_ret (de_if (dt_neN (hu_ hr) (de_var 1) (de_lst da_nil)) (de_callF [] (H_l_find.up (by decide)) hr (He.glo_ok X0 G (c.fact 53 (f := .glo "_law_find") (by rfl))) (fun _ _ => .nil) (fun _ => passAt0) (da_cons (de_var 0) (da_cons (de_ix (de_var 1) de_int) da_nil)) (sCons_len (sCons_len sNil_len))) de_non))))
theorem ok_l_first (c : SaysE fa fn xsL ysL esL K) (X0 : K.In h) (G : h.Ns mainGlobals mg) : Def P w K mg base CX0 2 (He.ga K "_law_first") ["_law_model_here"] [] Sh.l_first := by
  obtain ⟨fd, F⟩ := c.def_ 27 (d := d_l_first) rfl
  exact ⟨⟨fd, [], okb_l_first c X0 G F, F.bindsN fun _ _ _ _ _ _ us hl => match us, hl with | [_], _ => rfl, .nil⟩, F.kp⟩
theorem sc_l_talk : FnScope ["_law_one", "_law_late"] ["_law_one"] (defScope (top 36)) := ⟨rfl, rfl, rfl, by decide +kernel, rfl, by decide +kernel, by decide +kernel⟩
theorem okb_l_talk (c : SaysE fa fn xsL ysL esL K) (X0 : K.In h) (G : h.Ns mainGlobals mg) {fd : FuncData} (F : FunD K d_l_talk.name d_l_talk.qual d_l_talk.params d_l_talk.body d_l_talk.scope (d_l_talk.dvs K) (d_l_talk.kws K) (He.ga K "_law_talk") fd) : FnOk P w K mg base CX0 1 (He.ga K "_law_talk") fd ["_law_one"] (spN K 1 Sh.l_talk) := by
  have sc := sc_l_talk
  refine fn_ok F sc (by decide) (fun cdv A outer s H E hr => ?_)
  exact (ds_cons (ds_set 1 sc.nd (de_sub (de_ixD (hu_ hr) (de_var 0) de_str) (de_len (by rfl) (He.free_ok X0 G (c.fact 77 (f := .free "len") (by rfl))) (de_ixD (hu_ hr) (de_var 0) de_str)))) (ds_one (ds_ret (de_if (dt_lt (de_var 1) de_int) (de_ix (de_ixD (hu_ hr) (de_var 0) de_str) (de_ixD (hu_ hr) (de_var 0) de_str)) (de_ix (de_ixD (hu_ hr) (de_var 0) de_str) (de_mod (de_var 1) (de_len (by rfl) (He.free_ok X0 G (c.fact 77 (f := .free "len") (by rfl))) (de_ixD (hu_ hr) (de_var 0) de_str))))))))
theorem ok_l_talk (c : SaysE fa fn xsL ysL esL K) (X0 : K.In h) (G : h.Ns mainGlobals mg) : Def P w K mg base CX0 1 (He.ga K "_law_talk") ["_law_one"] [] Sh.l_talk := by
  obtain ⟨fd, F⟩ := c.def_ 25 (d := d_l_talk) rfl
  exact ⟨⟨fd, [], okb_l_talk c X0 G F, F.bindsN fun _ _ _ _ _ _ us hl => match us, hl with | [_], _ => rfl, .nil⟩, F.kp⟩
theorem sc_l_pass : FnScope ["_law_model_here", "_law_loud", "_law_one"] ["_law_model_here"] (defScope (top 39)) := ⟨rfl, rfl, rfl, by decide +kernel, rfl, by decide +kernel, by decide +kernel⟩
theorem okb_l_pass (c : SaysE fa fn xsL ysL esL K) (X0 : K.In h) (G : h.Ns mainGlobals mg) {fd : FuncData} (F : FunD K d_l_pass.name d_l_pass.qual d_l_pass.params d_l_pass.body d_l_pass.scope (d_l_pass.dvs K) (d_l_pass.kws K) (He.ga K "_law_pass") fd) : FnOk P w K mg base CX0 3 (He.ga K "_law_pass") fd ["_law_model_here"] (spN K 1 Sh.l_pass) := by
  have H_l_first := ok_l_first (P := P) (w := w) (base := base) c X0 G
  have H_l_talk := ok_l_talk (P := P) (w := w) (base := base) c X0 G
  have sc := sc_l_pass
  refine fn_ok F sc (by decide) (fun cdv A outer s H E hr => ?_)
  exact (ds_cons (ds_set 1 sc.nd (de_callF [] (H_l_first.up (by decide)) hr (He.glo_ok X0 G (c.fact 54 (f := .glo "_law_first") (by rfl))) (fun _ _ => .nil) (fun _ => passAt0) (da_cons (de_var 0) da_nil) (sCons_len sNil_len))) (ds_cons (ds_for (vs := [2]) (passes_of rfl) rfl (di_any (de_ixD (hu_ hr) (de_var 0) de_str)) (dg_name 2 sc.nd) (ds_one (ds_if (DW.dt (dw_and (dt_not (dt_val (de_ixD (hu_ hr) (de_var 2) de_str))) (dw_and1 (DW.dt (dw_or (dt_is (de_var 1) de_non) (dw_or1 (dt_gt (de_ixD (hu_ hr) (de_var 1) de_str) (de_ixD (hu_ hr) (de_var 2) de_str)))))))) (ds_cons (ds_ixK (hu_ hr) (de_var 2) de_str (de_add (de_ixD (hu_ hr) (de_var 2) de_str) de_int)) (ds_cons (ds_ixK (hu_ hr) (de_var 2) de_str (de_eq (hu_ hr) (de_ixD (hu_ hr) (de_var 2) de_str) (de_ix (de_callF [] (H_l_talk.up (by decide)) hr (He.glo_ok X0 G (c.fact 52 (f := .glo "_law_talk") (by rfl))) (fun _ _ => .nil) (fun _ => passAt0) (da_cons (de_var 2) da_nil) (sCons_len sNil_len)) de_int))) (ds_one (ds_expr (de_extend (de_ixD (hu_ hr) (de_ixD (hu_ hr) (de_var 0) de_str) (de_ixD (hu_ hr) (de_var 2) de_str)) (de_mul (de_lst (da_cons (de_ixD (hu_ hr) (de_var 2) de_str) da_nil)) (de_toint (by rfl) (He.free_ok X0 G (c.fact 75 (f := .free "int") (by rfl))) (de_ixD (hu_ hr) (de_var 2) de_str)))))))) ds_nil))) (ds_cons (ds_ixK (hu_ hr) (de_var 0) de_str (de_add (de_ixD (hu_ hr) (de_var 0) de_str) de_int)) (ds_cons (ds_ixK (hu_ hr) (de_var 0) de_str (de_add (de_ixD (hu_ hr) (de_var 0) de_str) (de_toint (by rfl) (He.free_ok X0 G (c.fact 75 (f := .free "int") (by rfl))) (de_is (de_var 1) de_non)))) (ds_one (ds_if (dt_isnot (de_var 1) de_non) (ds_cons (ds_sub2 (hu_ hr) rfl (de_var 1) de_str (de_var 1) de_str (de_tup (da_cons (de_add (de_ixD (hu_ hr) (de_var 1) de_str) de_int) (da_cons (de_add (de_ixD (hu_ hr) (de_var 1) de_str) de_int) da_nil))) (pg_sub (de_var 1) de_str (set_dict (hu1_ hr))) (pg_sub (de_var 1) de_str (set_dict (hu1_ hr))) (hg := pg_tup rfl (pgs_cons (pg_sub (de_var 1) de_str (set_dict (hu1_ hr))) (pgs_cons (pg_sub (de_var 1) de_str (set_dict (hu1_ hr))) pgs_nil)))) (ds_one (ds_if (dt_eq (hu_ hr) (de_ixD (hu_ hr) (de_var 1) de_str) (de_ix (de_callF [] (H_l_talk.up (by decide)) hr (He.glo_ok X0 G (c.fact 52 (f := .glo "_law_talk") (by rfl))) (fun _ _ => .nil) (fun _ => passAt0) (da_cons (de_var 1) da_nil) (sCons_len sNil_len)) de_int)) (ds_cons (ds_expr (de_remS (de_ixD (hu_ hr) (de_ixD (hu_ hr) (de_var 0) de_str) (de_ixD (hu_ hr) (de_var 1) de_str)) (de_ixD (hu_ hr) (de_var 1) de_str))) (ds_one (ds_expr (de_upd (de_var 1) (de_dispO (dps_cons (de_add (de_ixD (hu_ hr) (de_var 1) de_str) de_int) (dps_cons de_int (dps_cons de_int (dps_cons de_bl dps_nil))))))))) ds_nil))) ds_nil))))))
theorem ok_l_pass (c : SaysE fa fn xsL ysL esL K) (X0 : K.In h) (G : h.Ns mainGlobals mg) : Def P w K mg base CX0 3 (He.ga K "_law_pass") ["_law_model_here"] [] Sh.l_pass := by
  obtain ⟨fd, F⟩ := c.def_ 28 (d := d_l_pass) rfl
  exact ⟨⟨fd, [], okb_l_pass c X0 G F, F.bindsN fun _ _ _ _ _ _ us hl => match us, hl with | [_], _ => rfl, .nil⟩, F.kp⟩
theorem sc_l_heard : FnScope ["_law_hall_here", "_law_count", "_law_model_here", "_law_found", "_law_step", "_law_loud"] ["_law_hall_here", "_law_count"] (defScope (top 41)) := ⟨rfl, rfl, rfl, by decide +kernel, rfl, by decide +kernel, by decide +kernel⟩
theorem okb_l_heard (c : SaysE fa fn xsL ysL esL K) (X0 : K.In h) (G : h.Ns mainGlobals mg) {fd : FuncData} (F : FunD K d_l_heard.name d_l_heard.qual d_l_heard.params d_l_heard.body d_l_heard.scope (d_l_heard.dvs K) (d_l_heard.kws K) (He.ga K "_law_heard") fd) : FnOk P w K mg base CX0 4 (He.ga K "_law_heard") fd ["_law_hall_here", "_law_count"] (spN K 2 Sh.l_heard) := by
  have H_l_model := ok_l_model (P := P) (w := w) (base := base) c X0 G
  have H_l_first := ok_l_first (P := P) (w := w) (base := base) c X0 G
  have H_l_pass := ok_l_pass (P := P) (w := w) (base := base) c X0 G
  have sc := sc_l_heard
  refine fn_ok F sc (by decide) (fun cdv A outer s H E hr => ?_)
  exact (ds_cons (ds_set 2 sc.nd (de_callF [] (H_l_model.up (by decide)) hr (He.glo_ok X0 G (c.fact 51 (f := .glo "_law_model") (by rfl))) (fun _ _ => .nil) (fun _ => passAt0) (da_cons (de_var 0) da_nil) (sCons_len sNil_len))) (ds_cons (ds_set 3 sc.nd (de_lstO da_nil)) (ds_cons (ds_for (vs := [4]) (passes_of rfl) rfl (di_rng1 (by rfl) (He.free_ok X0 G (c.fact 81 (f := .free "range") (by rfl))) (de_var 1)) (dg_name 4 sc.nd) (ds_cons (ds_set 5 sc.nd (de_callF [] (H_l_first.up (by decide)) hr (He.glo_ok X0 G (c.fact 54 (f := .glo "_law_first") (by rfl))) (fun _ _ => .nil) (fun _ => passAt0) (da_cons (de_var 2) da_nil) (sCons_len sNil_len))) (ds_cons (ds_expr (de_append (de_var 3) (de_if (dt_is (de_var 5) de_non) de_non (de_ixD (hu_ hr) (de_var 5) de_str)))) (ds_one (ds_expr (de_callF [] (H_l_pass.up (by decide)) hr (He.glo_ok X0 G (c.fact 55 (f := .glo "_law_pass") (by rfl))) (fun _ _ => .nil) (fun _ => passAt0) (da_cons (de_var 2) da_nil) (sCons_len sNil_len))))))) (ds_one (ds_ret (de_var 3))))))
theorem ok_l_heard (c : SaysE fa fn xsL ysL esL K) (X0 : K.In h) (G : h.Ns mainGlobals mg) : Def P w K mg base CX0 4 (He.ga K "_law_heard") ["_law_hall_here", "_law_count"] [] Sh.l_heard := by
  obtain ⟨fd, F⟩ := c.def_ 30 (d := d_l_heard) rfl
  exact ⟨⟨fd, [], okb_l_heard c X0 G F, F.bindsN fun _ _ _ _ _ _ us hl => match us, hl with | [_, _], _ => rfl, .nil⟩, F.kp⟩
theorem sc_l_last : FnScope ["_law_record", "_law_name", "_law_stop", "_law_found", "_law_at"] ["_law_record", "_law_name", "_law_stop"] (defScope (top 43)) := ⟨rfl, rfl, rfl, by decide +kernel, rfl, by decide +kernel, by decide +kernel⟩
theorem okb_l_last (c : SaysE fa fn xsL ysL esL K) (X0 : K.In h) (G : h.Ns mainGlobals mg) {fd : FuncData} (F : FunD K d_l_last.name d_l_last.qual d_l_last.params d_l_last.body d_l_last.scope (d_l_last.dvs K) (d_l_last.kws K) (He.ga K "_law_last") fd) : FnOk P w K mg base CX0 1 (He.ga K "_law_last") fd ["_law_record", "_law_name", "_law_stop"] (spN K 3 Sh.l_last) := by
  have sc := sc_l_last
  refine fn_ok F sc (by decide) (fun cdv A outer s H E hr => ?_)
  exact (ds_cons (ds_setLc (X := _) 3 false [("_law_at", 4)] rfl sc.nd (di_rng1 (by rfl) (He.free_ok X0 G (c.fact 81 (f := .free "range") (by rfl))) (de_var 2)) (blkOk_by (by kernel_rfl)) (fun _ _ _ _ _ => (dg_name 4 sc.nd)) (fun _ _ _ _ _ => (dts_one (dt_eq (hu_ hr) (de_ix (de_var 0) (de_var 4)) (de_var 1)))) (fun _ _ _ _ _ => (de_var 4)) (sw_true rfl rfl rfl (by decide +kernel))) (ds_one (ds_ret (de_if (dt_neN (hu_ hr) (de_var 3) (de_lst da_nil)) (de_ix (de_var 3) (de_neg de_int)) (de_neg de_int)))))
theorem ok_l_last (c : SaysE fa fn xsL ysL esL K) (X0 : K.In h) (G : h.Ns mainGlobals mg) : Def P w K mg base CX0 1 (He.ga K "_law_last") ["_law_record", "_law_name", "_law_stop"] [] Sh.l_last := by
  obtain ⟨fd, F⟩ := c.def_ 32 (d := d_l_last) rfl
  exact ⟨⟨fd, [], okb_l_last c X0 G F, F.bindsN fun _ _ _ _ _ _ us hl => match us, hl with | [_, _, _], _ => rfl, .nil⟩, F.kp⟩
theorem sc_l_goes_on : FnScope ["_law_ranks", "_law_record", "_law_name", "_law_stop", "_law_last_here", "_law_at"] ["_law_ranks", "_law_record", "_law_name", "_law_stop"] (defScope (top 44)) := ⟨rfl, rfl, rfl, by decide +kernel, rfl, by decide +kernel, by decide +kernel⟩
theorem okb_l_goes_on (c : SaysE fa fn xsL ysL esL K) (X0 : K.In h) (G : h.Ns mainGlobals mg) {fd : FuncData} (F : FunD K d_l_goes_on.name d_l_goes_on.qual d_l_goes_on.params d_l_goes_on.body d_l_goes_on.scope (d_l_goes_on.dvs K) (d_l_goes_on.kws K) (He.ga K "_law_goes_on") fd) : FnOk P w K mg base CX0 2 (He.ga K "_law_goes_on") fd ["_law_ranks", "_law_record", "_law_name", "_law_stop"] (spN K 4 Sh.l_goes_on) := by
  have H_l_last := ok_l_last (P := P) (w := w) (base := base) c X0 G
  have sc := sc_l_goes_on
  refine fn_ok F sc (by decide) (fun cdv A outer s H E hr => ?_)
  exact (ds_cons (ds_set 4 sc.nd (de_callF [] ((H_l_last.up (by decide)).pure) hr (He.glo_ok X0 G (c.fact 59 (f := .glo "_law_last") (by rfl))) (fun _ _ => .nil) (fun _ => passAt0) (da_cons (de_var 1) (da_cons (de_var 2) (da_cons (de_var 3) da_nil))) (sCons_len (sCons_len (sCons_len sNil_len))))) (ds_cons (ds_for (vs := [5]) (passes_of rfl) rfl (di_rng2 (by rfl) (He.free_ok X0 G (c.fact 81 (f := .free "range") (by rfl))) (de_add (de_var 4) de_int) (de_var 3)) (dg_name 5 sc.nd) (ds_one (ds_if (DW.dt (dw_or (dt_is (de_ix (de_var 1) (de_var 5)) de_non) (dw_or1 (dt_ge (de_ixK (hu_ hr) (de_var 0) (de_ix (de_var 1) (de_var 5))) (de_ixK (hu_ hr) (de_var 0) (de_var 2)))))) (ds_one (ds_ret de_bl)) ds_nil))) (ds_one (ds_ret (de_ge (de_var 4) de_int)))))
theorem ok_l_goes_on (c : SaysE fa fn xsL ysL esL K) (X0 : K.In h) (G : h.Ns mainGlobals mg) : Def P w K mg base CX0 2 (He.ga K "_law_goes_on") ["_law_ranks", "_law_record", "_law_name", "_law_stop"] [] Sh.l_goes_on := by
  obtain ⟨fd, F⟩ := c.def_ 33 (d := d_l_goes_on) rfl
  exact ⟨⟨fd, [], okb_l_goes_on c X0 G F, F.bindsN fun _ _ _ _ _ _ us hl => match us, hl with | [_, _, _, _], _ => rfl, .nil⟩, F.kp⟩
theorem sc_l_quiet : FnScope ["_law_ranks", "_law_record", "_law_rank", "_law_start", "_law_stop", "_law_at"] ["_law_ranks", "_law_record", "_law_rank", "_law_start", "_law_stop"] (defScope (top 42)) := ⟨rfl, rfl, rfl, by decide +kernel, rfl, by decide +kernel, by decide +kernel⟩
theorem okb_l_quiet (c : SaysE fa fn xsL ysL esL K) (X0 : K.In h) (G : h.Ns mainGlobals mg) {fd : FuncData} (F : FunD K d_l_quiet.name d_l_quiet.qual d_l_quiet.params d_l_quiet.body d_l_quiet.scope (d_l_quiet.dvs K) (d_l_quiet.kws K) (He.ga K "_law_quiet") fd) : FnOk P w K mg base CX0 1 (He.ga K "_law_quiet") fd ["_law_ranks", "_law_record", "_law_rank", "_law_start", "_law_stop"] (spN K 5 Sh.l_quiet) := by
  have sc := sc_l_quiet
  refine fn_ok F sc (by decide) (fun cdv A outer s H E hr => ?_)
  exact (ds_one (ds_ret (de_lc false [("_law_at", 5)] rfl sc.nd (di_rng2 (by rfl) (He.free_ok X0 G (c.fact 81 (f := .free "range") (by rfl))) (de_var 3) (de_var 4)) (blkOk_by (by kernel_rfl)) (fun _ _ _ _ _ => (dg_name 5 sc.nd)) (fun _ _ _ _ _ => (dts_one (DW.dt (dw_or (dt_is (de_ix (de_var 1) (de_var 5)) de_non) (dw_or1 (dt_gt (de_ixK (hu_ hr) (de_var 0) (de_ix (de_var 1) (de_var 5))) (de_var 2))))))) (fun _ _ _ _ _ => (de_var 5)))))
theorem ok_l_quiet (c : SaysE fa fn xsL ysL esL K) (X0 : K.In h) (G : h.Ns mainGlobals mg) : Def P w K mg base CX0 1 (He.ga K "_law_quiet") ["_law_ranks", "_law_record", "_law_rank", "_law_start", "_law_stop"] [] Sh.l_quiet := by
  obtain ⟨fd, F⟩ := c.def_ 31 (d := d_l_quiet) rfl
  exact ⟨⟨fd, [], okb_l_quiet c X0 G F, F.bindsN fun _ _ _ _ _ _ us hl => match us, hl with | [_, _, _, _, _], _ => rfl, .nil⟩, F.kp⟩
theorem sc_l_fault_1 : FnScope ["_law_members_here", "_law_record", "_law_stop", "_law_ranks", "_law_one", "_law_names", "_law_name", "_law_last_here", "_law_since", "_law_behind", "_law_later", "_law_other", "_law_rivals"] ["_law_members_here", "_law_record", "_law_stop"] (defScope (top 45)) := ⟨rfl, rfl, rfl, by decide +kernel, rfl, by decide +kernel, by decide +kernel⟩
theorem okb_l_fault_1 (c : SaysE fa fn xsL ysL esL K) (X0 : K.In h) (G : h.Ns mainGlobals mg) {fd : FuncData} (F : FunD K d_l_fault_1.name d_l_fault_1.qual d_l_fault_1.params d_l_fault_1.body d_l_fault_1.scope (d_l_fault_1.dvs K) (d_l_fault_1.kws K) (He.ga K "_law_fault") fd) : FnOk P w K mg base CX0 3 (He.ga K "_law_fault") fd ["_law_members_here", "_law_record", "_law_stop"] (spN K 3 Sh.l_fault_1) := by
  have H_l_goes_on := ok_l_goes_on (P := P) (w := w) (base := base) c X0 G
  have H_l_last := ok_l_last (P := P) (w := w) (base := base) c X0 G
  have H_l_quiet := ok_l_quiet (P := P) (w := w) (base := base) c X0 G
  have sc := sc_l_fault_1
  refine fn_ok F sc (by decide) (fun cdv A outer s H E hr => ?_)
  exact (ds_cons (ds_set 3 sc.nd (de_dictP rfl (by rfl) (He.free_ok X0 G (c.fact 73 (f := .free "dict") (by rfl))) (de_lc false [("_law_one", 4)] rfl sc.nd (di_any (de_var 0)) (blkOk_by (by kernel_rfl)) (fun _ _ _ _ _ => (dg_name 4 sc.nd)) (fun _ _ _ _ _ => dts_nil) (fun _ _ _ _ _ => (de_tup (da_cons (de_ix (de_var 4) de_int) (da_cons (de_ix (de_var 4) de_int) da_nil))))))) (ds_cons (ds_setLc (X := _) 5 false [("_law_one", 4)] rfl sc.nd (di_any (de_var 0)) (blkOk_by (by kernel_rfl)) (fun _ _ _ _ _ => (dg_name 4 sc.nd)) (fun _ _ _ _ _ => dts_nil) (fun _ _ _ _ _ => (de_ix (de_var 4) de_int)) (sw_true rfl rfl rfl (by decide +kernel))) (ds_cons (ds_set 6 sc.nd (de_ix (de_var 1) (de_var 2))) (ds_cons (ds_if (DW.dt (dw_or (dt_is (de_var 6) de_non) (dw_or1 (dt_val (de_callF [] ((H_l_goes_on.up (by decide)).pure) hr (He.glo_ok X0 G (c.fact 60 (f := .glo "_law_goes_on") (by rfl))) (fun _ _ => .nil) (fun _ => passAt0) (da_cons (de_var 3) (da_cons (de_var 1) (da_cons (de_var 6) (da_cons (de_var 2) da_nil)))) (sCons_len (sCons_len (sCons_len (sCons_len sNil_len))))))))) (ds_one (ds_ret de_non)) ds_nil) (ds_cons (ds_set 7 sc.nd (de_callF [] ((H_l_last.up (by decide)).pure) hr (He.glo_ok X0 G (c.fact 59 (f := .glo "_law_last") (by rfl))) (fun _ _ => .nil) (fun _ => passAt0) (da_cons (de_var 1) (da_cons (de_var 6) (da_cons (de_var 2) da_nil))) (sCons_len (sCons_len (sCons_len sNil_len))))) (ds_cons (ds_if (dt_eqN (hu_ hr) (de_callF [] ((H_l_quiet.up (by decide)).pure) hr (He.glo_ok X0 G (c.fact 58 (f := .glo "_law_quiet") (by rfl))) (fun _ _ => .nil) (fun _ => passAt0) (da_cons (de_var 3) (da_cons (de_var 1) (da_cons (de_ixK (hu_ hr) (de_var 3) (de_var 6)) (da_cons (de_add (de_var 7) de_int) (da_cons (de_var 2) da_nil))))) (sCons_len (sCons_len (sCons_len (sCons_len (sCons_len sNil_len)))))) (de_lst da_nil)) (ds_one (ds_ret de_str)) ds_nil) (ds_cons (ds_set 8 sc.nd (de_ix (de_callF [] ((H_l_quiet.up (by decide)).pure) hr (He.glo_ok X0 G (c.fact 58 (f := .glo "_law_quiet") (by rfl))) (fun _ _ => .nil) (fun _ => passAt0) (da_cons (de_var 3) (da_cons (de_var 1) (da_cons (de_ixK (hu_ hr) (de_var 3) (de_var 6)) (da_cons de_int (da_cons (de_var 2) da_nil))))) (sCons_len (sCons_len (sCons_len (sCons_len (sCons_len sNil_len)))))) (de_neg de_int))) (ds_cons (ds_set 9 sc.nd (de_cut false (de_var 5) (do_some (de_add (de_index (de_var 5) (de_var 6)) de_int)) do_none)) (ds_cons (ds_setLc (X := _) 10 false [("_law_other", 11)] rfl sc.nd (di_any (de_cut false (de_var 1) (do_some (de_add (de_var 8) de_int)) (do_some (de_var 2)))) (blkOk_by (by kernel_rfl)) (fun _ _ _ _ _ => (dg_name 11 sc.nd)) (fun _ _ _ _ _ => (dts_one (dt_inL (de_var 11) (de_var 9)))) (fun _ _ _ _ _ => (de_var 11)) (sw_true rfl rfl rfl (by decide +kernel))) (ds_cons (ds_setLc (X := _) 12 false [("_law_other", 11)] rfl sc.nd (di_any (de_var 10)) (blkOk_by (by kernel_rfl)) (fun _ _ _ _ _ => (dg_name 11 sc.nd)) (fun _ _ _ _ _ => (dts_one (dt_eq (hu_ hr) (de_ixK (hu_ hr) (de_var 3) (de_var 11)) (de_ixK (hu_ hr) (de_var 3) (de_var 6))))) (fun _ _ _ _ _ => (de_var 11)) (sw_true rfl rfl rfl (by decide +kernel))) (ds_one (ds_ret (de_if (dt_neN (hu_ hr) (de_var 12) (de_lst da_nil)) de_str de_non)))))))))))))
theorem ok_l_fault_1 (c : SaysE fa fn xsL ysL esL K) (X0 : K.In h) (G : h.Ns mainGlobals mg) : Def P w K mg base CX0 3 (He.ga K "_law_fault") ["_law_members_here", "_law_record", "_law_stop"] [] Sh.l_fault_1 := by
  obtain ⟨fd, F⟩ := c.def_ 34 (d := d_l_fault_1) rfl
  exact ⟨⟨fd, [], okb_l_fault_1 c X0 G F, F.bindsN fun _ _ _ _ _ _ us hl => match us, hl with | [_, _, _], _ => rfl, .nil⟩, F.kp⟩
theorem sc_l_due_8 : FnScope ["_law_members_here", "_law_record", "_law_kinds", "_law_at", "_law_pair"] ["_law_members_here", "_law_record"] (defScope (top 48)) := ⟨rfl, rfl, rfl, by decide +kernel, rfl, by decide +kernel, by decide +kernel⟩
theorem okb_l_due_8 (c : SaysE fa fn xsL ysL esL K) (X0 : K.In h) (G : h.Ns mainGlobals mg) {fd : FuncData} (F : FunD K d_l_due_8.name d_l_due_8.qual d_l_due_8.params d_l_due_8.body d_l_due_8.scope (d_l_due_8.dvs K) (d_l_due_8.kws K) (He.ga K "_law_due") fd) : FnOk P w K mg base CX0 4 (He.ga K "_law_due") fd ["_law_members_here", "_law_record"] (spN K 2 Sh.l_due_8) := by
  have H_l_fault_1 := ok_l_fault_1 (P := P) (w := w) (base := base) c X0 G
  have sc := sc_l_due_8
  refine fn_ok F sc (by decide) (fun cdv A outer s H E hr => ?_)
  exact (ds_cons (ds_setLc (X := _) 2 false [("_law_at", 3)] rfl sc.nd (di_rng1 (by rfl) (He.free_ok X0 G (c.fact 81 (f := .free "range") (by rfl))) (de_len (by rfl) (He.free_ok X0 G (c.fact 77 (f := .free "len") (by rfl))) (de_var 1))) (blkOk_by (by kernel_rfl)) (fun _ _ _ _ _ => (dg_name 3 sc.nd)) (fun _ _ _ _ _ => dts_nil) (fun _ _ _ _ _ => (de_tup (da_cons (de_var 3) (da_cons (de_callF [] ((H_l_fault_1.up (by decide)).pure) hr (He.glo_ok X0 G (c.fact 61 (f := .glo "_law_fault") (by rfl))) (fun _ _ => .nil) (fun _ => passAt0) (da_cons (de_var 0) (da_cons (de_var 1) (da_cons (de_var 3) da_nil))) (sCons_len (sCons_len (sCons_len sNil_len)))) da_nil)))) (sw_true rfl rfl rfl (by decide +kernel))) (ds_one (ds_ret (de_ix (de_add (de_lc false [("_law_pair", 4)] rfl sc.nd (di_any (de_var 2)) (blkOk_by (by kernel_rfl)) (fun _ _ _ _ _ => (dg_name 4 sc.nd)) (fun _ _ _ _ _ => (dts_one (dt_isnot (de_ix (de_var 4) de_int) de_non))) (fun _ _ _ _ _ => (de_var 4))) (de_lst (da_cons de_non da_nil))) de_int))))
theorem ok_l_due_8 (c : SaysE fa fn xsL ysL esL K) (X0 : K.In h) (G : h.Ns mainGlobals mg) : Def P w K mg base CX0 4 (He.ga K "_law_due") ["_law_members_here", "_law_record"] [] Sh.l_due_8 := by
  obtain ⟨fd, F⟩ := c.def_ 37 (d := d_l_due_8) rfl
  exact ⟨⟨fd, [], okb_l_due_8 c X0 G F, F.bindsN fun _ _ _ _ _ _ us hl => match us, hl with | [_, _], _ => rfl, .nil⟩, F.kp⟩
theorem sc_l_either : FnScope ["_law_bag_here", "_law_items"] ["_law_bag_here", "_law_items"] (defScope (top 47)) := ⟨rfl, rfl, rfl, by decide +kernel, rfl, by decide +kernel, by decide +kernel⟩
theorem okb_l_either (c : SaysE fa fn xsL ysL esL K) (X0 : K.In h) (G : h.Ns mainGlobals mg) {fd : FuncData} (F : FunD K d_l_either.name d_l_either.qual d_l_either.params d_l_either.body d_l_either.scope (d_l_either.dvs K) (d_l_either.kws K) (He.ga K "_law_either") fd) : FnOk P w K mg base CX0 3 (He.ga K "_law_either") fd ["_law_bag_here", "_law_items"] (spN K 2 Sh.l_either) := by
  have H_l_draw_2 := ok_l_draw_2 (P := P) (w := w) (base := base) c X0 G
  have sc := sc_l_either
  refine fn_ok F sc (by decide) (fun cdv A outer s H E hr => ?_)
  exact (ds_one (ds_ret (de_ix (de_lst (da_cons (de_list false (by rfl) (He.free_ok X0 G (c.fact 78 (f := .free "list") (by rfl))) (de_var 1)) (da_cons (de_tuple (by rfl) (He.free_ok X0 G (c.fact 85 (f := .free "tuple") (by rfl))) (de_var 1)) da_nil))) (de_callF [] (H_l_draw_2.up (by decide)) hr (He.glo_ok X0 G (c.fact 45 (f := .glo "_law_draw") (by rfl))) (fun _ _ => .nil) (fun _ => passAt0) (da_cons (de_var 0) (da_cons de_int da_nil)) (sCons_len (sCons_len sNil_len))))))
theorem ok_l_either (c : SaysE fa fn xsL ysL esL K) (X0 : K.In h) (G : h.Ns mainGlobals mg) : Def P w K mg base CX0 3 (He.ga K "_law_either") ["_law_bag_here", "_law_items"] [] Sh.l_either := by
  obtain ⟨fd, F⟩ := c.def_ 36 (d := d_l_either) rfl
  exact ⟨⟨fd, [], okb_l_either c X0 G F, F.bindsN fun _ _ _ _ _ _ us hl => match us, hl with | [_, _], _ => rfl, .nil⟩, F.kp⟩
theorem sc_is_sequence : FnScope ["value"] ["value"] (defScope (top 11)) := ⟨rfl, rfl, rfl, by decide +kernel, rfl, by decide +kernel, by decide +kernel⟩
theorem okb_is_sequence (c : SaysE fa fn xsL ysL esL K) (X0 : K.In h) (G : h.Ns mainGlobals mg) {fd : FuncData} (F : FunD K d_is_sequence.name d_is_sequence.qual d_is_sequence.params d_is_sequence.body d_is_sequence.scope (d_is_sequence.dvs K) (d_is_sequence.kws K) (He.ga K "is_sequence") fd) : FnOk P w K mg base CX0 1 (He.ga K "is_sequence") fd ["value"] (spN K 1 Sh.is_sequence) := by
  have sc := sc_is_sequence
  refine fn_ok F sc (by decide) (fun cdv A outer s H E hr => ?_)
  exact (ds_one (ds_ret (de_isi2 (T1 := "list") (T2 := "tuple") (by simp) (by simp) (by rfl) (He.free_ok X0 G (c.fact 76 (f := .free "isinstance") (by rfl))) (by rfl) (He.free_ok X0 G (c.fact 78 (f := .free "list") (by rfl))) (by decide +kernel) (by rfl) (He.free_ok X0 G (c.fact 85 (f := .free "tuple") (by rfl))) (by decide +kernel) (de_var 0))))
theorem ok_is_sequence (c : SaysE fa fn xsL ysL esL K) (X0 : K.In h) (G : h.Ns mainGlobals mg) : Def P w K mg base CX0 1 (He.ga K "is_sequence") ["value"] [] Sh.is_sequence := by
  obtain ⟨fd, F⟩ := c.def_ 1 (d := d_is_sequence) rfl
  exact ⟨⟨fd, [], okb_is_sequence c X0 G F, F.bindsN fun _ _ _ _ _ _ us hl => match us, hl with | [_], _ => rfl, .nil⟩, F.kp⟩
theorem sc_is_name : FnScope ["value", "sign"] ["value"] (defScope (top 12)) := ⟨rfl, rfl, rfl, by decide +kernel, rfl, by decide +kernel, by decide +kernel⟩
theorem okb_is_name (c : SaysE fa fn xsL ysL esL K) (X0 : K.In h) (G : h.Ns mainGlobals mg) {fd : FuncData} (F : FunD K d_is_name.name d_is_name.qual d_is_name.params d_is_name.body d_is_name.scope (d_is_name.dvs K) (d_is_name.kws K) (He.ga K "is_name") fd) : FnOk P w K mg base CX0 1 (He.ga K "is_name") fd ["value"] (spN K 1 Sh.is_name) := by
  have sc := sc_is_name
  refine fn_ok F sc (by decide) (fun cdv A outer s H E hr => ?_)
  exact (ds_one (ds_ret (de_and (de_isi (T := "str") (by simp) (by rfl) (He.free_ok X0 G (c.fact 76 (f := .free "isinstance") (by rfl))) (by rfl) (He.free_ok X0 G (c.fact 84 (f := .free "str") (by rfl))) (by decide +kernel) (de_var 0)) (de_and (de_lele de_int (de_len (by rfl) (He.free_ok X0 G (c.fact 77 (f := .free "len") (by rfl))) (de_var 0)) (de_globI (by rfl) (He.int_ok X0 G (c.fact 8 (f := .int "MAX_NAME" (8)) (by rfl))))) (de_one (de_all rfl (by rfl) (He.free_ok X0 G (c.fact 71 (f := .free "all") (by rfl))) (de_lc false [("sign", 1)] rfl sc.nd (di_any (de_var 0)) (blkOk_by (by kernel_rfl)) (fun _ _ _ _ _ => (dg_name 1 sc.nd)) (fun _ _ _ _ _ => dts_nil) (fun _ _ _ _ _ => (de_inS (de_var 1) (de_globS (by rfl) (He.str_ok X0 G (c.fact 7 (f := .str "LETTERS" "abcdefghijklmnopqrstuvwxyz") (by rfl)))))))))))))
theorem ok_is_name (c : SaysE fa fn xsL ysL esL K) (X0 : K.In h) (G : h.Ns mainGlobals mg) : Def P w K mg base CX0 1 (He.ga K "is_name") ["value"] [] Sh.is_name := by
  obtain ⟨fd, F⟩ := c.def_ 2 (d := d_is_name) rfl
  exact ⟨⟨fd, [], okb_is_name c X0 G F, F.bindsN fun _ _ _ _ _ _ us hl => match us, hl with | [_], _ => rfl, .nil⟩, F.kp⟩
theorem sc_is_integer : FnScope ["value", "low", "high"] ["value", "low", "high"] (defScope (top 10)) := ⟨rfl, rfl, rfl, by decide +kernel, rfl, by decide +kernel, by decide +kernel⟩
theorem okb_is_integer (c : SaysE fa fn xsL ysL esL K) (X0 : K.In h) (G : h.Ns mainGlobals mg) {fd : FuncData} (F : FunD K d_is_integer.name d_is_integer.qual d_is_integer.params d_is_integer.body d_is_integer.scope (d_is_integer.dvs K) (d_is_integer.kws K) (He.ga K "is_integer") fd) : FnOk P w K mg base CX0 1 (He.ga K "is_integer") fd ["value", "low", "high"] (spN K 3 Sh.is_integer) := by
  have sc := sc_is_integer
  refine fn_ok F sc (by decide) (fun cdv A outer s H E hr => ?_)
  exact (ds_cons (ds_if (DW.dt (dw_or (dt_not (dt_val (de_isi (T := "int") (by simp) (by rfl) (He.free_ok X0 G (c.fact 76 (f := .free "isinstance") (by rfl))) (by rfl) (He.free_ok X0 G (c.fact 75 (f := .free "int") (by rfl))) (by decide +kernel) (de_var 0)))) (dw_or1 (dt_val (de_isi (T := "bool") (by simp) (by rfl) (He.free_ok X0 G (c.fact 76 (f := .free "isinstance") (by rfl))) (by rfl) (He.free_ok X0 G (c.fact 72 (f := .free "bool") (by rfl))) (by decide +kernel) (de_var 0)))))) (ds_one (ds_ret de_bl)) ds_nil) (ds_one (ds_ret (de_and (de_ge (de_var 0) (de_var 1)) (de_one (de_or (de_is (de_var 2) de_non) (de_one (de_le (de_var 0) (de_var 2)))))))))
theorem ok_is_integer (c : SaysE fa fn xsL ysL esL K) (X0 : K.In h) (G : h.Ns mainGlobals mg) : Def P w K mg base CX0 1 (He.ga K "is_integer") ["value", "low", "high"] [.non] Sh.is_integer := by
  obtain ⟨fd, F⟩ := c.def_ 0 (d := d_is_integer) rfl
  obtain ⟨dus, hd, hb⟩ := F.binds1 (ps := ["value", "low", "high"]) 2 0 (by simp [He.DefD.dvs, d_is_integer]) (by rfl) (fun T kV doc pm an cdv ct us its l1 l2 => match us, its, l1, l2 with | [_, _], [_], _, _ => ⟨_, rfl, rfl⟩)
  exact ⟨⟨fd, dus, okb_is_integer c X0 G F, hb, hd⟩, F.kp⟩
theorem ok_is_integer_all (c : SaysE fa fn xsL ysL esL K) (X0 : K.In h) (G : h.Ns mainGlobals mg) : Def P w K mg base CX0 1 (He.ga K "is_integer") ["value", "low", "high"] [] Sh.is_integer := by
  obtain ⟨fd, F⟩ := c.def_ 0 (d := d_is_integer) rfl
  obtain ⟨dus, hd, hb⟩ := F.binds1 (ps := ["value", "low", "high"]) 3 1 (by simp [He.DefD.dvs, d_is_integer]) (by rfl) (fun T kV doc pm an cdv ct us its l1 l2 => match us, its, l1, l2 with | [_, _, _], [_], _, _ => ⟨_, rfl, rfl⟩)
  exact ⟨⟨fd, dus, okb_is_integer c X0 G F, hb, hd⟩, F.kp⟩
theorem sc_is_member : FnScope ["value"] ["value"] (defScope (top 17)) := ⟨rfl, rfl, rfl, by decide +kernel, rfl, by decide +kernel, by decide +kernel⟩
theorem okb_is_member (c : SaysE fa fn xsL ysL esL K) (X0 : K.In h) (G : h.Ns mainGlobals mg) {fd : FuncData} (F : FunD K d_is_member.name d_is_member.qual d_is_member.params d_is_member.body d_is_member.scope (d_is_member.dvs K) (d_is_member.kws K) (He.ga K "is_member") fd) : FnOk P w K mg base CX0 2 (He.ga K "is_member") fd ["value"] (spN K 1 Sh.is_member) := by
  have H_is_integer := ok_is_integer (P := P) (w := w) (base := base) c X0 G
  have H_is_integer_all := ok_is_integer_all (P := P) (w := w) (base := base) c X0 G
  have H_is_name := ok_is_name (P := P) (w := w) (base := base) c X0 G
  have H_is_sequence := ok_is_sequence (P := P) (w := w) (base := base) c X0 G
  have sc := sc_is_member
  refine fn_ok F sc (by decide) (fun cdv A outer s H E hr => ?_)
  exact (ds_one (ds_ret (de_and (de_callF [] ((H_is_sequence.up (by decide)).pure) hr (He.glo_ok X0 G (c.fact 12 (f := .glo "is_sequence") (by rfl))) (fun _ _ => .nil) (fun _ => passAt0) (da_cons (de_var 0) da_nil) (sCons_len sNil_len)) (de_and (de_eq (hu_ hr) (de_len (by rfl) (He.free_ok X0 G (c.fact 77 (f := .free "len") (by rfl))) (de_var 0)) de_int) (de_and (de_callF [] ((H_is_name.up (by decide)).pure) hr (He.glo_ok X0 G (c.fact 13 (f := .glo "is_name") (by rfl))) (fun _ _ => .nil) (fun _ => passAt0) (da_cons (de_ix (de_var 0) de_int) da_nil) (sCons_len sNil_len)) (de_one (de_callF [] ((H_is_integer_all.up (by decide)).pure) hr (He.glo_ok X0 G (c.fact 11 (f := .glo "is_integer") (by rfl))) (fun _ _ => .nil) (fun _ => passAt0) (da_cons (de_ix (de_var 0) de_int) (da_cons de_int (da_cons (de_globI (by rfl) (He.int_ok X0 G (c.fact 9 (f := .int "MAX_RANK" (10)) (by rfl)))) da_nil))) (sCons_len (sCons_len (sCons_len sNil_len))))))))))
theorem ok_is_member (c : SaysE fa fn xsL ysL esL K) (X0 : K.In h) (G : h.Ns mainGlobals mg) : Def P w K mg base CX0 2 (He.ga K "is_member") ["value"] [] Sh.is_member := by
  obtain ⟨fd, F⟩ := c.def_ 3 (d := d_is_member) rfl
  exact ⟨⟨fd, [], okb_is_member c X0 G F, F.bindsN fun _ _ _ _ _ _ us hl => match us, hl with | [_], _ => rfl, .nil⟩, F.kp⟩
theorem sc_check_members : FnScope ["members", "one"] ["members"] (defScope (top 18)) := ⟨rfl, rfl, rfl, by decide +kernel, rfl, by decide +kernel, by decide +kernel⟩
theorem okb_check_members (c : SaysE fa fn xsL ysL esL K) (X0 : K.In h) (G : h.Ns mainGlobals mg) {fd : FuncData} (F : FunD K d_check_members.name d_check_members.qual d_check_members.params d_check_members.body d_check_members.scope (d_check_members.dvs K) (d_check_members.kws K) (He.ga K "check_members") fd) : FnOk P w K mg base (L2.CX P w) 3 (He.ga K "check_members") fd ["members"] (spN K 1 Sh.check_members) := by
  have H_is_member := ok_is_member (P := P) (w := w) (base := base) c X0 G
  have H_is_sequence := ok_is_sequence (P := P) (w := w) (base := base) c X0 G
  have sc := sc_check_members
  refine fn_ok F sc (by decide) (fun cdv A outer s H E hr => ?_)
  exact (ds_cons (ds_if (DW.dt (dw_or (dt_not (dt_val (de_callF [] ((H_is_sequence.up (by decide)).pure) hr (He.glo_ok X0 G (c.fact 12 (f := .glo "is_sequence") (by rfl))) (fun _ _ => .nil) (fun _ => passAt0) (da_cons (de_var 0) da_nil) (sCons_len sNil_len)))) (dw_or (dt_gt (de_len (by rfl) (He.free_ok X0 G (c.fact 77 (f := .free "len") (by rfl))) (de_var 0)) (de_globI (by rfl) (He.int_ok X0 G (c.fact 10 (f := .int "MAX_TALKERS" (10)) (by rfl))))) (dw_or1 (dt_not (dt_val (de_all rfl (by rfl) (He.free_ok X0 G (c.fact 71 (f := .free "all") (by rfl))) (de_lc false [("one", 1)] rfl sc.nd (di_any (de_var 0)) (blkOk_by (by kernel_rfl)) (fun _ _ _ _ _ => (dg_name 1 sc.nd)) (fun _ _ _ _ _ => dts_nil) (fun _ _ _ _ _ => (de_callF [] ((H_is_member.up (by decide)).pure) hr (He.glo_ok X0 G (c.fact 17 (f := .glo "is_member") (by rfl))) (fun _ _ => .nil) (fun _ => passAt0) (da_cons (de_var 1) da_nil) (sCons_len sNil_len))))))))))) (ds_one (ds_raise (C := "InvalidMembers") (takes_of rfl rfl rfl rfl) rfl (He.exc_ok (c.fact 4 (f := .exc "InvalidMembers") (by rfl))).1 (He.exc_ok (c.fact 4 (f := .exc "InvalidMembers") (by rfl))).2.1 (He.exc_ok (c.fact 4 (f := .exc "InvalidMembers") (by rfl))).2.2.1 (He.exc_ok (c.fact 4 (f := .exc "InvalidMembers") (by rfl))).2.2.2 (He.glo_ok X0 G (c.fact 3 (f := .glo "InvalidMembers") (by rfl))) (by rfl))) ds_nil) (ds_one (ds_if (dt_lt (de_lenset rfl (by rfl) (He.free_ok X0 G (c.fact 77 (f := .free "len") (by rfl))) (by rfl) (He.free_ok X0 G (c.fact 83 (f := .free "set") (by rfl))) (de_lc false [("one", 1)] rfl sc.nd (di_any (de_var 0)) (blkOk_by (by kernel_rfl)) (fun _ _ _ _ _ => (dg_name 1 sc.nd)) (fun _ _ _ _ _ => dts_nil) (fun _ _ _ _ _ => (de_ix (de_var 1) de_int)))) (de_len (by rfl) (He.free_ok X0 G (c.fact 77 (f := .free "len") (by rfl))) (de_var 0))) (ds_one (ds_raise (C := "InvalidMembers") (takes_of rfl rfl rfl rfl) rfl (He.exc_ok (c.fact 4 (f := .exc "InvalidMembers") (by rfl))).1 (He.exc_ok (c.fact 4 (f := .exc "InvalidMembers") (by rfl))).2.1 (He.exc_ok (c.fact 4 (f := .exc "InvalidMembers") (by rfl))).2.2.1 (He.exc_ok (c.fact 4 (f := .exc "InvalidMembers") (by rfl))).2.2.2 (He.glo_ok X0 G (c.fact 3 (f := .glo "InvalidMembers") (by rfl))) (by rfl))) ds_nil)))
theorem ok_check_members (c : SaysE fa fn xsL ysL esL K) (X0 : K.In h) (G : h.Ns mainGlobals mg) : Def P w K mg base (L2.CX P w) 3 (He.ga K "check_members") ["members"] [] Sh.check_members := by
  obtain ⟨fd, F⟩ := c.def_ 4 (d := d_check_members) rfl
  exact ⟨⟨fd, [], okb_check_members c X0 G F, F.bindsN fun _ _ _ _ _ _ us hl => match us, hl with | [_], _ => rfl, .nil⟩, F.kp⟩
theorem sc_is_item : FnScope ["value", "names"] ["value", "names"] (defScope (top 19)) := ⟨rfl, rfl, rfl, by decide +kernel, rfl, by decide +kernel, by decide +kernel⟩
theorem okb_is_item (c : SaysE fa fn xsL ysL esL K) (X0 : K.In h) (G : h.Ns mainGlobals mg) {fd : FuncData} (F : FunD K d_is_item.name d_is_item.qual d_is_item.params d_is_item.body d_is_item.scope (d_is_item.dvs K) (d_is_item.kws K) (He.ga K "is_item") fd) : FnOk P w K mg base CX0 1 (He.ga K "is_item") fd ["value", "names"] (spN K 2 Sh.is_item) := by
  have sc := sc_is_item
  refine fn_ok F sc (by decide) (fun cdv A outer s H E hr => ?_)
  exact (ds_one (ds_ret (de_or (de_is (de_var 0) de_non) (de_one (de_and (de_isi (T := "str") (by simp) (by rfl) (He.free_ok X0 G (c.fact 76 (f := .free "isinstance") (by rfl))) (by rfl) (He.free_ok X0 G (c.fact 84 (f := .free "str") (by rfl))) (by decide +kernel) (de_var 0)) (de_one (de_inL (de_var 0) (de_var 1))))))))
theorem ok_is_item (c : SaysE fa fn xsL ysL esL K) (X0 : K.In h) (G : h.Ns mainGlobals mg) : Def P w K mg base CX0 1 (He.ga K "is_item") ["value", "names"] [] Sh.is_item := by
  obtain ⟨fd, F⟩ := c.def_ 5 (d := d_is_item) rfl
  exact ⟨⟨fd, [], okb_is_item c X0 G F, F.bindsN fun _ _ _ _ _ _ us hl => match us, hl with | [_, _], _ => rfl, .nil⟩, F.kp⟩
theorem sc_check_record : FnScope ["record", "names", "value"] ["record", "names"] (defScope (top 20)) := ⟨rfl, rfl, rfl, by decide +kernel, rfl, by decide +kernel, by decide +kernel⟩
theorem okb_check_record (c : SaysE fa fn xsL ysL esL K) (X0 : K.In h) (G : h.Ns mainGlobals mg) {fd : FuncData} (F : FunD K d_check_record.name d_check_record.qual d_check_record.params d_check_record.body d_check_record.scope (d_check_record.dvs K) (d_check_record.kws K) (He.ga K "check_record") fd) : FnOk P w K mg base (L2.CX P w) 2 (He.ga K "check_record") fd ["record", "names"] (spN K 2 Sh.check_record) := by
  have H_is_sequence := ok_is_sequence (P := P) (w := w) (base := base) c X0 G
  have H_is_item := ok_is_item (P := P) (w := w) (base := base) c X0 G
  have sc := sc_check_record
  refine fn_ok F sc (by decide) (fun cdv A outer s H E hr => ?_)
  exact (ds_cons (ds_if (DW.dt (dw_or (dt_not (dt_val (de_callF [] ((H_is_sequence.up (by decide)).pure) hr (He.glo_ok X0 G (c.fact 12 (f := .glo "is_sequence") (by rfl))) (fun _ _ => .nil) (fun _ => passAt0) (da_cons (de_var 0) da_nil) (sCons_len sNil_len)))) (dw_or1 (dt_gt (de_len (by rfl) (He.free_ok X0 G (c.fact 77 (f := .free "len") (by rfl))) (de_var 0)) (de_globI (by rfl) (He.int_ok X0 G (c.fact 14 (f := .int "MAX_RECORD" (400)) (by rfl)))))))) (ds_one (ds_raise (C := "InvalidRecord") (takes_of rfl rfl rfl rfl) rfl (He.exc_ok (c.fact 6 (f := .exc "InvalidRecord") (by rfl))).1 (He.exc_ok (c.fact 6 (f := .exc "InvalidRecord") (by rfl))).2.1 (He.exc_ok (c.fact 6 (f := .exc "InvalidRecord") (by rfl))).2.2.1 (He.exc_ok (c.fact 6 (f := .exc "InvalidRecord") (by rfl))).2.2.2 (He.glo_ok X0 G (c.fact 5 (f := .glo "InvalidRecord") (by rfl))) (by rfl))) ds_nil) (ds_one (ds_if (dt_not (dt_val (de_all rfl (by rfl) (He.free_ok X0 G (c.fact 71 (f := .free "all") (by rfl))) (de_lc false [("value", 2)] rfl sc.nd (di_any (de_var 0)) (blkOk_by (by kernel_rfl)) (fun _ _ _ _ _ => (dg_name 2 sc.nd)) (fun _ _ _ _ _ => dts_nil) (fun _ _ _ _ _ => (de_callF [] ((H_is_item.up (by decide)).pure) hr (He.glo_ok X0 G (c.fact 19 (f := .glo "is_item") (by rfl))) (fun _ _ => .nil) (fun _ => passAt0) (da_cons (de_var 2) (da_cons (de_var 1) da_nil)) (sCons_len (sCons_len sNil_len)))))))) (ds_one (ds_raise (C := "InvalidRecord") (takes_of rfl rfl rfl rfl) rfl (He.exc_ok (c.fact 6 (f := .exc "InvalidRecord") (by rfl))).1 (He.exc_ok (c.fact 6 (f := .exc "InvalidRecord") (by rfl))).2.1 (He.exc_ok (c.fact 6 (f := .exc "InvalidRecord") (by rfl))).2.2.1 (He.exc_ok (c.fact 6 (f := .exc "InvalidRecord") (by rfl))).2.2.2 (He.glo_ok X0 G (c.fact 5 (f := .glo "InvalidRecord") (by rfl))) (by rfl))) ds_nil)))
theorem ok_check_record (c : SaysE fa fn xsL ysL esL K) (X0 : K.In h) (G : h.Ns mainGlobals mg) : Def P w K mg base (L2.CX P w) 2 (He.ga K "check_record") ["record", "names"] [] Sh.check_record := by
  obtain ⟨fd, F⟩ := c.def_ 6 (d := d_check_record) rfl
  exact ⟨⟨fd, [], okb_check_record c X0 G F, F.bindsN fun _ _ _ _ _ _ us hl => match us, hl with | [_, _], _ => rfl, .nil⟩, F.kp⟩
theorem sc_Observed_init : FnScope ["self", "position", "name", "rank"] ["self", "position", "name", "rank"] (defScope (inClass (top 21) 0)) := ⟨rfl, rfl, rfl, by decide +kernel, rfl, by decide +kernel, by decide +kernel⟩
theorem okb_Observed_init (c : SaysE fa fn xsL ysL esL K) (X0 : K.In h) (G : h.Ns mainGlobals mg) {fd : FuncData} (F : FunD K d_Observed_init.name d_Observed_init.qual d_Observed_init.params d_Observed_init.body d_Observed_init.scope (d_Observed_init.dvs K) (d_Observed_init.kws K) (He.ma K (He.ga K "Observed") "__init__") fd) : FnOk P w K mg base CX0 1 (He.ma K (He.ga K "Observed") "__init__") fd ["self", "position", "name", "rank"] (spN K 4 Sh.Observed_init) := by
  have sc := sc_Observed_init
  refine fn_ok F sc (by decide) (fun cdv A outer s H E hr => ?_)
  exact (ds_cons (ds_fld (C := "Observed") (f := "position") (He.noat_ok (c.fact 24 (f := .noat "Observed" "position") (by rfl))) (de_var 0) (de_var 1)) (ds_cons (ds_fld (C := "Observed") (f := "name") (He.noat_ok (c.fact 25 (f := .noat "Observed" "name") (by rfl))) (de_var 0) (de_var 2)) (ds_cons (ds_fld (C := "Observed") (f := "rank") (He.noat_ok (c.fact 26 (f := .noat "Observed" "rank") (by rfl))) (de_var 0) (de_var 3)) (ds_cons (ds_fld (C := "Observed") (f := "found_talks") (He.noat_ok (c.fact 27 (f := .noat "Observed" "found_talks") (by rfl))) (de_var 0) (de_lstO da_nil)) (ds_cons (ds_fld (C := "Observed") (f := "quiet_ticks") (He.noat_ok (c.fact 28 (f := .noat "Observed" "quiet_ticks") (by rfl))) (de_var 0) de_int) (ds_one (ds_fld (C := "Observed") (f := "is_open") (He.noat_ok (c.fact 29 (f := .noat "Observed" "is_open") (by rfl))) (de_var 0) de_bl)))))))
theorem ok_Observed_init (c : SaysE fa fn xsL ysL esL K) (X0 : K.In h) (G : h.Ns mainGlobals mg) : Def P w K mg base CX0 1 (He.ma K (He.ga K "Observed") "__init__") ["self", "position", "name", "rank"] [] Sh.Observed_init := by
  obtain ⟨fd, F⟩ := c.def_ 7 (d := d_Observed_init) rfl
  exact ⟨⟨fd, [], okb_Observed_init c X0 G F, F.bindsN fun _ _ _ _ _ _ us hl => match us, hl with | [_, _, _, _], _ => rfl, .nil⟩, F.kp⟩
theorem sc_Observed_speak_on : FnScope ["self", "silence", "length"] ["self"] (defScope (inClass (top 21) 2)) := ⟨rfl, rfl, rfl, by decide +kernel, rfl, by decide +kernel, by decide +kernel⟩
theorem okb_Observed_speak_on (c : SaysE fa fn xsL ysL esL K) (X0 : K.In h) (G : h.Ns mainGlobals mg) {fd : FuncData} (F : FunD K d_Observed_speak_on.name d_Observed_speak_on.qual d_Observed_speak_on.params d_Observed_speak_on.body d_Observed_speak_on.scope (d_Observed_speak_on.dvs K) (d_Observed_speak_on.kws K) (He.ma K (He.ga K "Observed") "speak_on") fd) : FnOk P w K mg base CX0 1 (He.ma K (He.ga K "Observed") "speak_on") fd ["self"] (spN K 1 Sh.Observed_speak_on) := by
  have sc := sc_Observed_speak_on
  refine fn_ok F sc (by decide) (fun cdv A outer s H E hr => ?_)
  exact (ds_cons (ds_if (dt_val (de_fld (f := "is_open") (de_var 0))) (ds_cons (ds_asg (vs := [1, 2]) (de_ix (de_fld (f := "found_talks") (de_var 0)) (de_neg de_int)) (dg_tup (n := 2) rfl (dg_cons (dg_name 1 sc.nd) (dg_cons (dg_name 2 sc.nd) dg_nil)) rfl (pg_tup rfl (dg_cons (dg_name 1 sc.nd) (dg_cons (dg_name 2 sc.nd) dg_nil))) (pg_lst rfl (dg_cons (dg_name 1 sc.nd) (dg_cons (dg_name 2 sc.nd) dg_nil))))) (ds_one (ds_ix (de_fld (f := "found_talks") (de_var 0)) (de_neg de_int) (de_tup (da_cons (de_var 1) (da_cons (de_add (de_var 2) de_int) da_nil))) (pg_sub (de_fld (f := "found_talks") (de_var 0)) (de_neg de_int) set_list)))) (ds_one (ds_expr (de_append (de_fld (f := "found_talks") (de_var 0)) (de_tup (da_cons (de_fld (f := "quiet_ticks") (de_var 0)) (da_cons de_int da_nil))))))) (ds_cons (ds_fld (C := "Observed") (f := "quiet_ticks") (He.noat_ok (c.fact 28 (f := .noat "Observed" "quiet_ticks") (by rfl))) (de_var 0) de_int) (ds_one (ds_fld (C := "Observed") (f := "is_open") (He.noat_ok (c.fact 29 (f := .noat "Observed" "is_open") (by rfl))) (de_var 0) de_bl))))
theorem ok_Observed_speak_on (c : SaysE fa fn xsL ysL esL K) (X0 : K.In h) (G : h.Ns mainGlobals mg) : Def P w K mg base CX0 1 (He.ma K (He.ga K "Observed") "speak_on") ["self"] [] Sh.Observed_speak_on := by
  obtain ⟨fd, F⟩ := c.def_ 9 (d := d_Observed_speak_on) rfl
  exact ⟨⟨fd, [], okb_Observed_speak_on c X0 G F, F.bindsN fun _ _ _ _ _ _ us hl => match us, hl with | [_], _ => rfl, .nil⟩, F.kp⟩
theorem sc_Observed_pass_tick : FnScope ["self", "speaker"] ["self", "speaker"] (defScope (inClass (top 21) 1)) := ⟨rfl, rfl, rfl, by decide +kernel, rfl, by decide +kernel, by decide +kernel⟩
theorem okb_Observed_pass_tick (c : SaysE fa fn xsL ysL esL K) (X0 : K.In h) (G : h.Ns mainGlobals mg) {fd : FuncData} (F : FunD K d_Observed_pass_tick.name d_Observed_pass_tick.qual d_Observed_pass_tick.params d_Observed_pass_tick.body d_Observed_pass_tick.scope (d_Observed_pass_tick.dvs K) (d_Observed_pass_tick.kws K) (He.ma K (He.ga K "Observed") "pass_tick") fd) : FnOk P w K mg base CX0 1 (He.ma K (He.ga K "Observed") "pass_tick") fd ["self", "speaker"] (spN K 2 Sh.Observed_pass_tick) := by
  have sc := sc_Observed_pass_tick
  refine fn_ok F sc (by decide) (fun cdv A outer s H E hr => ?_)
  exact (ds_cons (ds_if (DW.dt (dw_or (dt_is (de_var 1) de_non) (dw_or1 (dt_gt (de_fld (f := "rank") (de_var 1)) (de_fld (f := "rank") (de_var 0)))))) (ds_one (ds_fldA (C := "Observed") (f := "quiet_ticks") (He.noat_ok (c.fact 28 (f := .noat "Observed" "quiet_ticks") (by rfl))) (de_var 0) de_int)) ds_nil) (ds_one (ds_if (DW.dt (dw_or (dt_is (de_var 1) de_non) (dw_or1 (dt_ge (de_fld (f := "rank") (de_var 1)) (de_fld (f := "rank") (de_var 0)))))) (ds_one (ds_fld (C := "Observed") (f := "is_open") (He.noat_ok (c.fact 29 (f := .noat "Observed" "is_open") (by rfl))) (de_var 0) de_bl)) ds_nil)))
theorem ok_Observed_pass_tick (c : SaysE fa fn xsL ysL esL K) (X0 : K.In h) (G : h.Ns mainGlobals mg) : Def P w K mg base CX0 1 (He.ma K (He.ga K "Observed") "pass_tick") ["self", "speaker"] [] Sh.Observed_pass_tick := by
  obtain ⟨fd, F⟩ := c.def_ 8 (d := d_Observed_pass_tick) rfl
  exact ⟨⟨fd, [], okb_Observed_pass_tick c X0 G F, F.bindsN fun _ _ _ _ _ _ us hl => match us, hl with | [_, _], _ => rfl, .nil⟩, F.kp⟩
theorem sc_Reading_read_tick : FnScope ["self", "speaker", "one", "rank"] ["self", "speaker"] (defScope (inClass (top 22) 2)) := ⟨rfl, rfl, rfl, by decide +kernel, rfl, by decide +kernel, by decide +kernel⟩
theorem okb_Reading_read_tick (c : SaysE fa fn xsL ysL esL K) (X0 : K.In h) (G : h.Ns mainGlobals mg) {fd : FuncData} (F : FunD K d_Reading_read_tick.name d_Reading_read_tick.qual d_Reading_read_tick.params d_Reading_read_tick.body d_Reading_read_tick.scope (d_Reading_read_tick.dvs K) (d_Reading_read_tick.kws K) (He.ma K (He.ga K "Reading") "read_tick") fd) : FnOk P w K mg base CX0 2 (He.ma K (He.ga K "Reading") "read_tick") fd ["self", "speaker"] (spN K 2 Sh.Reading_read_tick) := by
  have H_Observed_speak_on := ok_Observed_speak_on (P := P) (w := w) (base := base) c X0 G
  have H_Observed_pass_tick := ok_Observed_pass_tick (P := P) (w := w) (base := base) c X0 G
  have sc := sc_Reading_read_tick
  refine fn_ok F sc (by decide) (fun cdv A outer s H E hr => ?_)
  exact (ds_cons (ds_for (vs := [2]) (passes_of rfl) rfl (di_any (de_fld (f := "observed") (de_var 0))) (dg_name 2 sc.nd) (ds_one (ds_if (dt_eqI (hu_ hr) c.eq (de_var 2) (de_var 1)) (ds_one (ds_expr (de_methF0 (C := "Observed") (mt := "speak_on") _ (He.cls_ok (c.fact 22 (f := .cls "Observed") (by rfl))) (He.meth_ok (c.fact 31 (f := .meth "Observed" "speak_on") (by rfl))) (H_Observed_speak_on.up (by decide)) hr (de_var 2)))) (ds_one (ds_expr (de_methF (C := "Observed") (mt := "pass_tick") _ (He.cls_ok (c.fact 22 (f := .cls "Observed") (by rfl))) (He.meth_ok (c.fact 30 (f := .meth "Observed" "pass_tick") (by rfl))) (H_Observed_pass_tick.up (by decide)) hr (de_var 2) (da_cons (de_var 1) da_nil) (sCons_len sNil_len))))))) (ds_cons (ds_for (vs := [3]) (passes_of rfl) rfl (di_rng2 (by rfl) (He.free_ok X0 G (c.fact 81 (f := .free "range") (by rfl))) de_int (de_add (de_globI (by rfl) (He.int_ok X0 G (c.fact 9 (f := .int "MAX_RANK" (10)) (by rfl)))) de_int)) (dg_name 3 sc.nd) (ds_one (ds_if (DW.dt (dw_or (dt_is (de_var 1) de_non) (dw_or1 (dt_gt (de_fld (f := "rank") (de_var 1)) (de_var 3))))) (ds_one (ds_ixK (hu_ hr) (de_fld (f := "last_position") (de_var 0)) (de_var 3) (de_neg de_int))) ds_nil))) (ds_one (ds_if (dt_isnot (de_var 1) de_non) (ds_one (ds_ixK (hu_ hr) (de_fld (f := "last_position") (de_var 0)) (de_fld (f := "rank") (de_var 1)) (de_max2 rfl (by rfl) (He.free_ok X0 G (c.fact 79 (f := .free "max") (by rfl))) (de_ixD (hu_ hr) (de_fld (f := "last_position") (de_var 0)) (de_fld (f := "rank") (de_var 1))) (de_fld (f := "position") (de_var 1))))) ds_nil))))
theorem ok_Reading_read_tick (c : SaysE fa fn xsL ysL esL K) (X0 : K.In h) (G : h.Ns mainGlobals mg) : Def P w K mg base CX0 2 (He.ma K (He.ga K "Reading") "read_tick") ["self", "speaker"] [] Sh.Reading_read_tick := by
  obtain ⟨fd, F⟩ := c.def_ 12 (d := d_Reading_read_tick) rfl
  exact ⟨⟨fd, [], okb_Reading_read_tick c X0 G F, F.bindsN fun _ _ _ _ _ _ us hl => match us, hl with | [_, _], _ => rfl, .nil⟩, F.kp⟩
theorem sc_Reading_kind_of_fault : FnScope ["self", "speaker"] ["self", "speaker"] (defScope (inClass (top 22) 1)) := ⟨rfl, rfl, rfl, by decide +kernel, rfl, by decide +kernel, by decide +kernel⟩
theorem okb_Reading_kind_of_fault (c : SaysE fa fn xsL ysL esL K) (X0 : K.In h) (G : h.Ns mainGlobals mg) {fd : FuncData} (F : FunD K d_Reading_kind_of_fault.name d_Reading_kind_of_fault.qual d_Reading_kind_of_fault.params d_Reading_kind_of_fault.body d_Reading_kind_of_fault.scope (d_Reading_kind_of_fault.dvs K) (d_Reading_kind_of_fault.kws K) (He.ma K (He.ga K "Reading") "kind_of_fault") fd) : FnOk P w K mg base CX0 1 (He.ma K (He.ga K "Reading") "kind_of_fault") fd ["self", "speaker"] (spN K 2 Sh.Reading_kind_of_fault) := by
  have sc := sc_Reading_kind_of_fault
  refine fn_ok F sc (by decide) (fun cdv A outer s H E hr => ?_)
  exact (ds_cons (ds_if (dt_val (de_fld (f := "is_open") (de_var 1))) (ds_one (ds_ret de_non)) ds_nil) (ds_cons (ds_if (dt_eq (hu_ hr) (de_fld (f := "quiet_ticks") (de_var 1)) de_int) (ds_one (ds_ret (de_globS (by rfl) (He.str_ok X0 G (c.fact 15 (f := .str "SILENCE" "silence") (by rfl)))))) ds_nil) (ds_one (ds_ret (de_if (dt_gt (de_ixD (hu_ hr) (de_fld (f := "last_position") (de_var 0)) (de_fld (f := "rank") (de_var 1))) (de_fld (f := "position") (de_var 1))) (de_globS (by rfl) (He.str_ok X0 G (c.fact 16 (f := .str "ORDER" "order") (by rfl)))) de_non)))))
theorem ok_Reading_kind_of_fault (c : SaysE fa fn xsL ysL esL K) (X0 : K.In h) (G : h.Ns mainGlobals mg) : Def P w K mg base CX0 1 (He.ma K (He.ga K "Reading") "kind_of_fault") ["self", "speaker"] [] Sh.Reading_kind_of_fault := by
  obtain ⟨fd, F⟩ := c.def_ 11 (d := d_Reading_kind_of_fault) rfl
  exact ⟨⟨fd, [], okb_Reading_kind_of_fault c X0 G F, F.bindsN fun _ _ _ _ _ _ us hl => match us, hl with | [_, _], _ => rfl, .nil⟩, F.kp⟩
theorem sc_Reading_init : FnScope ["self", "members", "record", "position", "one", "rank", "tick", "name", "speaker", "kind"] ["self", "members", "record"] (defScope (inClass (top 22) 0)) := ⟨rfl, rfl, rfl, by decide +kernel, rfl, by decide +kernel, by decide +kernel⟩
theorem okb_Reading_init (c : SaysE fa fn xsL ysL esL K) (X0 : K.In h) (G : h.Ns mainGlobals mg) {fd : FuncData} (F : FunD K d_Reading_init.name d_Reading_init.qual d_Reading_init.params d_Reading_init.body d_Reading_init.scope (d_Reading_init.dvs K) (d_Reading_init.kws K) (He.ma K (He.ga K "Reading") "__init__") fd) : FnOk P w K mg base CX0 3 (He.ma K (He.ga K "Reading") "__init__") fd ["self", "members", "record"] (spN K 3 Sh.Reading_init) := by
  have H_Observed_init := ok_Observed_init (P := P) (w := w) (base := base) c X0 G
  have H_Reading_kind_of_fault := ok_Reading_kind_of_fault (P := P) (w := w) (base := base) c X0 G
  have H_Reading_read_tick := ok_Reading_read_tick (P := P) (w := w) (base := base) c X0 G
  have sc := sc_Reading_init
  refine fn_ok F sc (by decide) (fun cdv A outer s H E hr => ?_)
  exact (ds_cons (ds_fld (C := "Reading") (f := "observed") (He.noat_ok (c.fact 35 (f := .noat "Reading" "observed") (by rfl))) (de_var 0) (de_lc false [("position", 3), ("one", 4)] rfl sc.nd (di_enumX (by rfl) (He.free_ok X0 G (c.fact 74 (f := .free "enumerate") (by rfl))) (de_var 1)) (blkOk_by (by kernel_rfl)) (fun _ _ _ _ _ => (dg_tup (n := 2) rfl (dg_cons (dg_name 3 sc.nd) (dg_cons (dg_name 4 sc.nd) dg_nil)) rfl (pg_tup rfl (dg_cons (dg_name 3 sc.nd) (dg_cons (dg_name 4 sc.nd) dg_nil))) (pg_lst rfl (dg_cons (dg_name 3 sc.nd) (dg_cons (dg_name 4 sc.nd) dg_nil))))) (fun _ _ _ _ _ => dts_nil) (fun _ _ _ _ _ => (de_makeO (C := "Observed") (He.mkr_ok (c.fact 23 (f := .mkr "Observed") (by rfl))) (He.cls_ok (c.fact 22 (f := .cls "Observed") (by rfl))) H_Observed_init (hr.mono (by decide)) (He.glo_ok X0 G (c.fact 21 (f := .glo "Observed") (by rfl))) (da_cons (de_var 3) (da_cons (de_ix (de_var 4) de_int) (da_cons (de_ix (de_var 4) de_int) da_nil))) (sCons_len (sCons_len (sCons_len sNil_len))))))) (ds_cons (ds_fld (C := "Reading") (f := "last_position") (He.noat_ok (c.fact 36 (f := .noat "Reading" "last_position") (by rfl))) (de_var 0) (de_dcO [("rank", 5)] rfl sc.nd (di_rng2 (by rfl) (He.free_ok X0 G (c.fact 81 (f := .free "range") (by rfl))) de_int (de_add (de_globI (by rfl) (He.int_ok X0 G (c.fact 9 (f := .int "MAX_RANK" (10)) (by rfl)))) de_int)) (blkOk_by (by kernel_rfl)) (fun _ _ _ _ _ => (dg_name 5 sc.nd)) (fun _ _ _ _ _ => dts_nil) (fun _ _ _ _ _ => (de_var 5)) (fun _ _ _ _ _ => (de_neg de_int)))) (ds_cons (ds_fld (C := "Reading") (f := "fault") (He.noat_ok (c.fact 37 (f := .noat "Reading" "fault") (by rfl))) (de_var 0) de_non) (ds_one (ds_for (vs := [6, 7]) (passes_of rfl) rfl (di_enumX (by rfl) (He.free_ok X0 G (c.fact 74 (f := .free "enumerate") (by rfl))) (de_var 2)) (dg_tup (n := 2) rfl (dg_cons (dg_name 6 sc.nd) (dg_cons (dg_name 7 sc.nd) dg_nil)) rfl (pg_tup rfl (dg_cons (dg_name 6 sc.nd) (dg_cons (dg_name 7 sc.nd) dg_nil))) (pg_lst rfl (dg_cons (dg_name 6 sc.nd) (dg_cons (dg_name 7 sc.nd) dg_nil)))) (ds_cons (ds_set 8 sc.nd (de_if (dt_is (de_var 7) de_non) de_non (de_ix (de_lc false [("one", 4)] rfl sc.nd (di_any (de_fld (f := "observed") (de_var 0))) (blkOk_by (by kernel_rfl)) (fun _ _ _ _ _ => (dg_name 4 sc.nd)) (fun _ _ _ _ _ => (dts_one (dt_eq (hu_ hr) (de_fld (f := "name") (de_var 4)) (de_var 7)))) (fun _ _ _ _ _ => (de_var 4))) de_int))) (ds_cons (ds_set 9 sc.nd (de_if (dt_is (de_var 8) de_non) de_non (de_methF (C := "Reading") (mt := "kind_of_fault") _ (He.cls_ok (c.fact 33 (f := .cls "Reading") (by rfl))) (He.meth_ok (c.fact 38 (f := .meth "Reading" "kind_of_fault") (by rfl))) (H_Reading_kind_of_fault.up (by decide)) hr (de_var 0) (da_cons (de_var 8) da_nil) (sCons_len sNil_len)))) (ds_cons (ds_if (dt_isnot (de_var 9) de_non) (ds_cons (ds_fld (C := "Reading") (f := "fault") (He.noat_ok (c.fact 37 (f := .noat "Reading" "fault") (by rfl))) (de_var 0) (de_tup (da_cons (de_var 6) (da_cons (de_var 9) da_nil)))) (ds_one ds_break)) ds_nil) (ds_one (ds_expr (de_methF (C := "Reading") (mt := "read_tick") _ (He.cls_ok (c.fact 33 (f := .cls "Reading") (by rfl))) (He.meth_ok (c.fact 39 (f := .meth "Reading" "read_tick") (by rfl))) (H_Reading_read_tick.up (by decide)) hr (de_var 0) (da_cons (de_var 8) da_nil) (sCons_len sNil_len))))))))))))
theorem ok_Reading_init (c : SaysE fa fn xsL ysL esL K) (X0 : K.In h) (G : h.Ns mainGlobals mg) : Def P w K mg base CX0 3 (He.ma K (He.ga K "Reading") "__init__") ["self", "members", "record"] [] Sh.Reading_init := by
  obtain ⟨fd, F⟩ := c.def_ 10 (d := d_Reading_init) rfl
  exact ⟨⟨fd, [], okb_Reading_init c X0 G F, F.bindsN fun _ _ _ _ _ _ us hl => match us, hl with | [_, _, _], _ => rfl, .nil⟩, F.kp⟩
theorem sc_checked_reading : FnScope ["members", "record", "one"] ["members", "record"] (defScope (top 23)) := ⟨rfl, rfl, rfl, by decide +kernel, rfl, by decide +kernel, by decide +kernel⟩
theorem okb_checked_reading (c : SaysE fa fn xsL ysL esL K) (X0 : K.In h) (G : h.Ns mainGlobals mg) {fd : FuncData} (F : FunD K d_checked_reading.name d_checked_reading.qual d_checked_reading.params d_checked_reading.body d_checked_reading.scope (d_checked_reading.dvs K) (d_checked_reading.kws K) (He.ga K "checked_reading") fd) : FnOk P w K mg base (L2.CX P w) 5 (He.ga K "checked_reading") fd ["members", "record"] (spN K 2 Sh.checked_reading) := by
  have H_check_members := ok_check_members (P := P) (w := w) (base := base) c X0 G
  have H_check_record := ok_check_record (P := P) (w := w) (base := base) c X0 G
  have H_Reading_init := ok_Reading_init (P := P) (w := w) (base := base) c X0 G
  have sc := sc_checked_reading
  refine fn_ok F sc (by decide) (fun cdv A outer s H E hr => ?_)
  exact (ds_cons (ds_expr (de_callF [] ((H_check_members.up (by decide)).pure) hr (He.glo_ok X0 G (c.fact 18 (f := .glo "check_members") (by rfl))) (fun _ _ => .nil) (fun s_ => passAt (takes_of rfl rfl rfl rfl) s_) (da_cons (de_var 0) da_nil) (sCons_len sNil_len))) (ds_cons (ds_expr (de_callF [] ((H_check_record.up (by decide)).pure) hr (He.glo_ok X0 G (c.fact 20 (f := .glo "check_record") (by rfl))) (fun _ _ => .nil) (fun s_ => passAt (takes_of rfl rfl rfl rfl) s_) (da_cons (de_var 1) (da_cons (de_lc false [("one", 2)] rfl sc.nd (di_any (de_var 0)) (blkOk_by (by kernel_rfl)) (fun _ _ _ _ _ => (dg_name 2 sc.nd)) (fun _ _ _ _ _ => dts_nil) (fun _ _ _ _ _ => (de_ix (de_var 2) de_int))) da_nil)) (sCons_len (sCons_len sNil_len)))) (ds_one (ds_ret (de_makeO (C := "Reading") (He.mkr_ok (c.fact 34 (f := .mkr "Reading") (by rfl))) (He.cls_ok (c.fact 33 (f := .cls "Reading") (by rfl))) H_Reading_init (hr.mono (by decide)) (He.glo_ok X0 G (c.fact 32 (f := .glo "Reading") (by rfl))) (da_cons (de_var 0) (da_cons (de_var 1) da_nil)) (sCons_len (sCons_len sNil_len)))))))
theorem ok_checked_reading (c : SaysE fa fn xsL ysL esL K) (X0 : K.In h) (G : h.Ns mainGlobals mg) : Def P w K mg base (L2.CX P w) 5 (He.ga K "checked_reading") ["members", "record"] [] Sh.checked_reading := by
  obtain ⟨fd, F⟩ := c.def_ 13 (d := d_checked_reading) rfl
  exact ⟨⟨fd, [], okb_checked_reading c X0 G F, F.bindsN fun _ _ _ _ _ _ us hl => match us, hl with | [_, _], _ => rfl, .nil⟩, F.kp⟩
theorem sc_fault_of : FnScope ["members", "record"] ["members", "record"] (defScope (top 24)) := ⟨rfl, rfl, rfl, by decide +kernel, rfl, by decide +kernel, by decide +kernel⟩
theorem okb_fault_of (c : SaysE fa fn xsL ysL esL K) (X0 : K.In h) (G : h.Ns mainGlobals mg) {fd : FuncData} (F : FunD K d_fault_of.name d_fault_of.qual d_fault_of.params d_fault_of.body d_fault_of.scope (d_fault_of.dvs K) (d_fault_of.kws K) (He.ga K "fault_of") fd) : FnOk P w K mg base (L2.CX P w) 6 (He.ga K "fault_of") fd ["members", "record"] (spN K 2 Sh.fault_of) := by
  have H_checked_reading := ok_checked_reading (P := P) (w := w) (base := base) c X0 G
  have sc := sc_fault_of
  refine fn_ok F sc (by decide) (fun cdv A outer s H E hr => ?_)
  exact (ds_one (ds_ret (de_fld (f := "fault") (de_callF [] (H_checked_reading.up (by decide)) hr (He.glo_ok X0 G (c.fact 40 (f := .glo "checked_reading") (by rfl))) (fun _ _ => .nil) (fun s_ => passAt (takes_of rfl rfl rfl rfl) s_) (da_cons (de_var 0) (da_cons (de_var 1) da_nil)) (sCons_len (sCons_len sNil_len))))))
theorem ok_fault_of (c : SaysE fa fn xsL ysL esL K) (X0 : K.In h) (G : h.Ns mainGlobals mg) : Def P w K mg base (L2.CX P w) 6 (He.ga K "fault_of") ["members", "record"] [] Sh.fault_of := by
  obtain ⟨fd, F⟩ := c.def_ 14 (d := d_fault_of) rfl
  exact ⟨⟨fd, [], okb_fault_of c X0 G F, F.bindsN fun _ _ _ _ _ _ us hl => match us, hl with | [_, _], _ => rfl, .nil⟩, F.kp⟩
theorem sc_schedules_of_1 : FnScope ["members", "record", "found", "one"] ["members", "record"] (defScope (top 25)) := ⟨rfl, rfl, rfl, by decide +kernel, rfl, by decide +kernel, by decide +kernel⟩
theorem okb_schedules_of_1 (c : SaysE fa fn xsL ysL esL K) (X0 : K.In h) (G : h.Ns mainGlobals mg) {fd : FuncData} (F : FunD K d_schedules_of_1.name d_schedules_of_1.qual d_schedules_of_1.params d_schedules_of_1.body d_schedules_of_1.scope (d_schedules_of_1.dvs K) (d_schedules_of_1.kws K) (He.ga K "schedules_of") fd) : FnOk P w K mg base (L2.CX P w) 6 (He.ga K "schedules_of") fd ["members", "record"] (spN K 2 Sh.schedules_of_1) := by
  have H_checked_reading := ok_checked_reading (P := P) (w := w) (base := base) c X0 G
  have I_Inconsistent := oki_Inconsistent (P := P) (w := w) (base := base) c X0 G
  have sc := sc_schedules_of_1
  refine fn_ok F sc (by decide) (fun cdv A outer s H E hr => ?_)
  exact (ds_cons (ds_set 2 sc.nd (de_callF [] (H_checked_reading.up (by decide)) hr (He.glo_ok X0 G (c.fact 40 (f := .glo "checked_reading") (by rfl))) (fun _ _ => .nil) (fun s_ => passAt (takes_of rfl rfl rfl rfl) s_) (da_cons (de_var 0) (da_cons (de_var 1) da_nil)) (sCons_len (sCons_len sNil_len)))) (ds_cons (ds_if (dt_isnot (de_fld (f := "fault") (de_var 2)) de_non) (ds_one (ds_raiseF (takes_of rfl rfl rfl rfl) rfl I_Inconsistent (hr.mono (by decide)) (He.glo_ok X0 G (c.fact 2 (f := .glo "Inconsistent") (by rfl))) (by rfl) (de_ix (de_fld (f := "fault") (de_var 2)) de_int))) ds_nil) (ds_one (ds_ret (de_lc false [("one", 3)] rfl sc.nd (di_any (de_fld (f := "observed") (de_var 2))) (blkOk_by (by kernel_rfl)) (fun _ _ _ _ _ => (dg_name 3 sc.nd)) (fun _ _ _ _ _ => dts_nil) (fun _ _ _ _ _ => (de_tup (da_cons (de_list false (by rfl) (He.free_ok X0 G (c.fact 78 (f := .free "list") (by rfl))) (de_fld (f := "found_talks") (de_var 3))) (da_cons (de_fld (f := "is_open") (de_var 3)) (da_cons (de_fld (f := "quiet_ticks") (de_var 3)) da_nil))))))))))
theorem ok_schedules_of_1 (c : SaysE fa fn xsL ysL esL K) (X0 : K.In h) (G : h.Ns mainGlobals mg) : Def P w K mg base (L2.CX P w) 6 (He.ga K "schedules_of") ["members", "record"] [] Sh.schedules_of_1 := by
  obtain ⟨fd, F⟩ := c.def_ 15 (d := d_schedules_of_1) rfl
  exact ⟨⟨fd, [], okb_schedules_of_1 c X0 G F, F.bindsN fun _ _ _ _ _ _ us hl => match us, hl with | [_, _], _ => rfl, .nil⟩, F.kp⟩
theorem sc_l_raised : FnScope ["_law_members_here", "_law_record", "caught"] ["_law_members_here", "_law_record"] (defScope (top 49)) := ⟨rfl, rfl, rfl, by decide +kernel, rfl, by decide +kernel, by decide +kernel⟩
theorem okb_l_raised (c : SaysE fa fn xsL ysL esL K) (X0 : K.In h) (G : h.Ns mainGlobals mg) {fd : FuncData} (F : FunD K d_l_raised.name d_l_raised.qual d_l_raised.params d_l_raised.body d_l_raised.scope (d_l_raised.dvs K) (d_l_raised.kws K) (He.ga K "_law_raised") fd) : FnOk P w K mg base CX0 7 (He.ga K "_law_raised") fd ["_law_members_here", "_law_record"] (spN K 2 Sh.l_raised) := by
  have H_schedules_of_1 := ok_schedules_of_1 (P := P) (w := w) (base := base) c X0 G
  have sc := sc_l_raised
  refine fn_ok F sc (by decide) (fun cdv A outer s H E hr => ?_)
  exact (ds_cons (ds_tryS (B := "Inconsistent") 2 rfl rfl rfl sc.nd rfl rfl rfl ⟨rfl, by decide, .inl (He.glo_ok X0 G (c.fact 2 (f := .glo "Inconsistent") (by rfl)))⟩ (fun C hC => by have e := List.mem_singleton.mp hC; subst e; exact exm_ok (x := "Inconsistent") (y := "Inconsistent") (c.fact 69 (f := .exm "Inconsistent" "Inconsistent" true) (by rfl))) (fun W pn xe tk hp => (ds_one (ds_expr (de_callF [] ((H_schedules_of_1.up (by decide)).pure) hr (He.glo_ok X0 G (c.fact 42 (f := .glo "schedules_of") (by rfl))) (fun _ _ => .nil) (fun s_ => passAt tk s_) (da_cons (de_var 0) (da_cons (de_var 1) da_nil)) (sCons_len (sCons_len sNil_len)))))) (fun a pn => (ds_one (ds_ret (de_xfl (f := "tick") c.xf (de_var 2)))))) (ds_one (ds_ret de_non)))
theorem ok_l_raised (c : SaysE fa fn xsL ysL esL K) (X0 : K.In h) (G : h.Ns mainGlobals mg) : Def P w K mg base CX0 7 (He.ga K "_law_raised") ["_law_members_here", "_law_record"] [] Sh.l_raised := by
  obtain ⟨fd, F⟩ := c.def_ 38 (d := d_l_raised) rfl
  exact ⟨⟨fd, [], okb_l_raised c X0 G F, F.bindsN fun _ _ _ _ _ _ us hl => match us, hl with | [_, _], _ => rfl, .nil⟩, F.kp⟩
theorem sc_l_right_16 : FnScope ["_law_bag_here", "_law_members_here", "_law_record", "_law_due_here", "_law_passed", "_law_kept", "_law_step"] ["_law_bag_here", "_law_members_here", "_law_record"] (defScope (top 50)) := ⟨rfl, rfl, rfl, by decide +kernel, rfl, by decide +kernel, by decide +kernel⟩
theorem okb_l_right_16 (c : SaysE fa fn xsL ysL esL K) (X0 : K.In h) (G : h.Ns mainGlobals mg) {fd : FuncData} (F : FunD K d_l_right_16.name d_l_right_16.qual d_l_right_16.params d_l_right_16.body d_l_right_16.scope (d_l_right_16.dvs K) (d_l_right_16.kws K) (He.ga K "_law_right") fd) : FnOkG P w K mg base CX0 8 (He.ga K "_law_right") fd ["_law_bag_here", "_law_members_here", "_law_record"] (spN K 3 Sh.l_right_16) := by
  have H_l_due_8 := ok_l_due_8 (P := P) (w := w) (base := base) c X0 G
  have H_l_either := ok_l_either (P := P) (w := w) (base := base) c X0 G
  have H_fault_of := ok_fault_of (P := P) (w := w) (base := base) c X0 G
  have H_l_raised := ok_l_raised (P := P) (w := w) (base := base) c X0 G
  have sc := sc_l_right_16
  refine fn_okG F sc (by decide) (fun cdv A outer s H E hr hgd => ?_)
  exact (ds_cons (ds_set 3 sc.nd (de_callF [] ((H_l_due_8.up (by decide)).lend) hr (He.glo_ok X0 G (c.fact 64 (f := .glo "_law_due") (by rfl))) (fun _ _ => .nil) (fun _ => passAt0) (da_cons (de_var 1) (da_cons (de_var 2) da_nil)) (sCons_len (sCons_len sNil_len)))) (ds_cons (ds_set 4 sc.nd (de_lst (da_cons (de_callF [] (H_l_either.up (by decide)) hr (He.glo_ok X0 G (c.fact 63 (f := .glo "_law_either") (by rfl))) (fun _ _ => .nil) (fun _ => passAt0) (da_cons (de_var 0) (da_cons (de_var 1) da_nil)) (sCons_len (sCons_len sNil_len))) (da_cons (de_callF [] (H_l_either.up (by decide)) hr (He.glo_ok X0 G (c.fact 63 (f := .glo "_law_either") (by rfl))) (fun _ _ => .nil) (fun _ => passAt0) (da_cons (de_var 0) (da_cons (de_var 2) da_nil)) (sCons_len (sCons_len sNil_len))) da_nil)))) (ds_cons (ds_set 5 sc.nd (de_reprX c.sm (hu_ hr) hgd (by rfl) (He.free_ok X0 G (c.fact 82 (f := .free "repr") (by rfl))) (de_var 4))) (ds_cons (ds_for (vs := [6]) (passes_of rfl) rfl (di_rng1 (by rfl) (He.free_ok X0 G (c.fact 81 (f := .free "range") (by rfl))) de_int) (dg_name 6 sc.nd) (ds_one (ds_if (DW.dt (dw_or (dt_neT (hu_ hr) (de_reprZ c.sm (hu_ hr) hgd (by rfl) (He.free_ok X0 G (c.fact 82 (f := .free "repr") (by rfl))) (de_callF [] (((H_fault_of.up (by decide)).pure).shut) hr (He.glo_ok X0 G (c.fact 41 (f := .glo "fault_of") (by rfl))) (fun _ _ => .nil) (fun _ => passAt0) (da_cons (de_ix (de_var 4) de_int) (da_cons (de_ix (de_var 4) de_int) da_nil)) (sCons_len (sCons_len sNil_len)))) (de_reprZ c.sm (hu_ hr) hgd (by rfl) (He.free_ok X0 G (c.fact 82 (f := .free "repr") (by rfl))) (de_var 3))) (dw_or1 (dt_neT (hu_ hr) (de_reprX c.sm (hu_ hr) hgd (by rfl) (He.free_ok X0 G (c.fact 82 (f := .free "repr") (by rfl))) (de_var 4)) (de_var 5))))) (ds_one (ds_ret de_bl)) ds_nil))) (ds_cons (ds_if (dt_is (de_var 3) de_non) (ds_one (ds_ret (de_is (de_callF [] ((H_l_raised.up (by decide)).lend) hr (He.glo_ok X0 G (c.fact 65 (f := .glo "_law_raised") (by rfl))) (fun _ _ => .nil) (fun _ => passAt0) (da_cons (de_var 1) (da_cons (de_var 2) da_nil)) (sCons_len (sCons_len sNil_len))) de_non))) ds_nil) (ds_cons (ds_if (DW.dt (dw_or (dt_ne (hu_ hr) (de_callF [] ((H_l_raised.up (by decide)).lend) hr (He.glo_ok X0 G (c.fact 65 (f := .glo "_law_raised") (by rfl))) (fun _ _ => .nil) (fun _ => passAt0) (da_cons (de_var 1) (da_cons (de_var 2) da_nil)) (sCons_len (sCons_len sNil_len))) (de_ix (de_var 3) de_int)) (dw_or1 (dt_isnot (de_callF [] (((H_fault_of.up (by decide)).pure).shut) hr (He.glo_ok X0 G (c.fact 41 (f := .glo "fault_of") (by rfl))) (fun _ _ => .nil) (fun _ => passAt0) (da_cons (de_var 1) (da_cons (de_cut false (de_var 2) do_none (do_some (de_ix (de_var 3) de_int))) da_nil)) (sCons_len (sCons_len sNil_len))) de_non)))) (ds_one (ds_ret de_bl)) ds_nil) (ds_cons (ds_whileA (passes_of rfl) (dt_gt (de_len (by rfl) (He.free_ok X0 G (c.fact 77 (f := .free "len") (by rfl))) (de_var 2)) (de_ix (de_var 3) de_int)) (ds_one (ds_expr (de_pop (de_var 2))))) (ds_one (ds_ret (de_is (de_callF [] (((H_fault_of.up (by decide)).lend).shut) hr (He.glo_ok X0 G (c.fact 41 (f := .glo "fault_of") (by rfl))) (fun _ _ => .nil) (fun _ => passAt0) (da_cons (de_var 1) (da_cons (de_var 2) da_nil)) (sCons_len (sCons_len sNil_len))) de_non))))))))))
theorem ok_l_right_16 (c : SaysE fa fn xsL ysL esL K) (X0 : K.In h) (G : h.Ns mainGlobals mg) : DefG P w K mg base CX0 8 (He.ga K "_law_right") ["_law_bag_here", "_law_members_here", "_law_record"] [] Sh.l_right_16 := by
  obtain ⟨fd, F⟩ := c.def_ 39 (d := d_l_right_16) rfl
  exact ⟨⟨fd, [], okb_l_right_16 c X0 G F, F.bindsN fun _ _ _ _ _ _ us hl => match us, hl with | [_, _, _], _ => rfl, .nil⟩, F.kp⟩
theorem sc_l_changed_2 : FnScope ["_law_bag_here", "_law_names", "_law_record", "_law_found", "_law_step", "_law_at", "_law_item"] ["_law_bag_here", "_law_names", "_law_record"] (defScope (top 51)) := ⟨rfl, rfl, rfl, by decide +kernel, rfl, by decide +kernel, by decide +kernel⟩
theorem okb_l_changed_2 (c : SaysE fa fn xsL ysL esL K) (X0 : K.In h) (G : h.Ns mainGlobals mg) {fd : FuncData} (F : FunD K d_l_changed_2.name d_l_changed_2.qual d_l_changed_2.params d_l_changed_2.body d_l_changed_2.scope (d_l_changed_2.dvs K) (d_l_changed_2.kws K) (He.ga K "_law_changed") fd) : FnOk P w K mg base CX0 3 (He.ga K "_law_changed") fd ["_law_bag_here", "_law_names", "_law_record"] (spN K 3 Sh.l_changed_2) := by
  have H_l_draw_2 := ok_l_draw_2 (P := P) (w := w) (base := base) c X0 G
  have sc := sc_l_changed_2
  refine fn_ok F sc (by decide) (fun cdv A outer s H E hr => ?_)
  exact (ds_cons (ds_set 3 sc.nd (de_list true (by rfl) (He.free_ok X0 G (c.fact 78 (f := .free "list") (by rfl))) (de_var 2))) (ds_cons (ds_for (vs := [4]) (passes_of rfl) rfl (di_rng1 (by rfl) (He.free_ok X0 G (c.fact 81 (f := .free "range") (by rfl))) (de_add de_int (de_callF [] (H_l_draw_2.up (by decide)) hr (He.glo_ok X0 G (c.fact 45 (f := .glo "_law_draw") (by rfl))) (fun _ _ => .nil) (fun _ => passAt0) (da_cons (de_var 0) (da_cons de_int da_nil)) (sCons_len (sCons_len sNil_len))))) (dg_name 4 sc.nd) (ds_cons (ds_set 5 sc.nd (de_callF [] (H_l_draw_2.up (by decide)) hr (He.glo_ok X0 G (c.fact 45 (f := .glo "_law_draw") (by rfl))) (fun _ _ => .nil) (fun _ => passAt0) (da_cons (de_var 0) (da_cons (de_min2 rfl (by rfl) (He.free_ok X0 G (c.fact 80 (f := .free "min") (by rfl))) (de_add (de_len (by rfl) (He.free_ok X0 G (c.fact 77 (f := .free "len") (by rfl))) (de_var 3)) de_int) de_int) da_nil)) (sCons_len (sCons_len sNil_len)))) (ds_cons (ds_set 6 sc.nd (de_ix (de_add (de_lst (da_cons de_non da_nil)) (de_var 1)) (de_callF [] (H_l_draw_2.up (by decide)) hr (He.glo_ok X0 G (c.fact 45 (f := .glo "_law_draw") (by rfl))) (fun _ _ => .nil) (fun _ => passAt0) (da_cons (de_var 0) (da_cons (de_add (de_len (by rfl) (He.free_ok X0 G (c.fact 77 (f := .free "len") (by rfl))) (de_var 1)) de_int) da_nil)) (sCons_len (sCons_len sNil_len))))) (ds_one (ds_set 3 sc.nd (de_ix (de_lst (da_cons (de_addO (de_add (de_cut false (de_var 3) do_none (do_some (de_var 5))) (de_lst (da_cons (de_var 6) da_nil))) (de_cut false (de_var 3) (do_some (de_add (de_var 5) de_int)) do_none)) (da_cons (de_addO (de_cut false (de_var 3) do_none (do_some (de_var 5))) (de_cut false (de_var 3) (do_some (de_add (de_var 5) de_int)) do_none)) da_nil))) (de_callF [] (H_l_draw_2.up (by decide)) hr (He.glo_ok X0 G (c.fact 45 (f := .glo "_law_draw") (by rfl))) (fun _ _ => .nil) (fun _ => passAt0) (da_cons (de_var 0) (da_cons de_int da_nil)) (sCons_len (sCons_len sNil_len))))))))) (ds_one (ds_ret (de_var 3)))))
theorem ok_l_changed_2 (c : SaysE fa fn xsL ysL esL K) (X0 : K.In h) (G : h.Ns mainGlobals mg) : Def P w K mg base CX0 3 (He.ga K "_law_changed") ["_law_bag_here", "_law_names", "_law_record"] [] Sh.l_changed_2 := by
  obtain ⟨fd, F⟩ := c.def_ 40 (d := d_l_changed_2) rfl
  exact ⟨⟨fd, [], okb_l_changed_2 c X0 G F, F.bindsN fun _ _ _ _ _ _ us hl => match us, hl with | [_, _, _], _ => rfl, .nil⟩, F.kp⟩
theorem sc_law_k43 : FnScope ["_law_script", "_law_bag_here", "_law_turn", "_law_most", "_law_size", "_law_members_here", "_law_items", "_law_one", "_law_record", "_law_step", "_law_hall_here"] ["_law_script"] (defScope (top 52)) := ⟨rfl, rfl, rfl, by decide +kernel, rfl, by decide +kernel, by decide +kernel⟩
theorem okb_law_k43 (c : SaysE fa fn xsL ysL esL K) (X0 : K.In h) (G : h.Ns mainGlobals mg) {fd : FuncData} (F : FunD K d_law_k43.name d_law_k43.qual d_law_k43.params d_law_k43.body d_law_k43.scope (d_law_k43.dvs K) (d_law_k43.kws K) (He.ga K "law") fd) : FnOkG P w K mg base CX0 9 (He.ga K "law") fd ["_law_script"] (spN K 1 Sh.law_k43) := by
  have H_l_bag := ok_l_bag (P := P) (w := w) (base := base) c X0 G
  have H_l_members := ok_l_members (P := P) (w := w) (base := base) c X0 G
  have H_l_draw_2 := ok_l_draw_2 (P := P) (w := w) (base := base) c X0 G
  have H_l_right_16 := ok_l_right_16 (P := P) (w := w) (base := base) c X0 G
  have H_l_hall_2 := ok_l_hall_2 (P := P) (w := w) (base := base) c X0 G
  have H_l_heard := ok_l_heard (P := P) (w := w) (base := base) c X0 G
  have H_l_changed_2 := ok_l_changed_2 (P := P) (w := w) (base := base) c X0 G
  have H_fault_of := ok_fault_of (P := P) (w := w) (base := base) c X0 G
  have sc := sc_law_k43
  refine fn_okG F sc (by decide) (fun cdv A outer s H E hr hgd => ?_)
  exact (ds_cons (ds_set 1 sc.nd (de_callF [] (H_l_bag.up (by decide)) hr (He.glo_ok X0 G (c.fact 43 (f := .glo "_law_bag") (by rfl))) (fun _ _ => .nil) (fun _ => passAt0) (da_cons (de_var 0) da_nil) (sCons_len sNil_len))) (ds_cons (ds_for (vs := [2]) (passes_of rfl) rfl (di_rng1 (by rfl) (He.free_ok X0 G (c.fact 81 (f := .free "range") (by rfl))) (de_add de_int (de_min2 rfl (by rfl) (He.free_ok X0 G (c.fact 80 (f := .free "min") (by rfl))) de_int (de_len (by rfl) (He.free_ok X0 G (c.fact 77 (f := .free "len") (by rfl))) (de_var 0))))) (dg_name 2 sc.nd) (ds_cons (ds_par (i := 3) (j := 4) rfl sc.nd (da_cons (de_ix (de_lst (da_cons de_int (da_cons de_int da_nil))) (de_min2 rfl (by rfl) (He.free_ok X0 G (c.fact 80 (f := .free "min") (by rfl))) de_int (de_var 2))) (da_cons (de_ix (de_lst (da_cons de_int (da_cons de_int da_nil))) (de_min2 rfl (by rfl) (He.free_ok X0 G (c.fact 80 (f := .free "min") (by rfl))) de_int (de_var 2))) da_nil))) (ds_cons (ds_set 5 sc.nd (de_callF [] (H_l_members.up (by decide)) hr (He.glo_ok X0 G (c.fact 49 (f := .glo "_law_members") (by rfl))) (fun _ _ => .nil) (fun _ => passAt0) (da_cons (de_var 1) (da_cons (de_var 3) da_nil)) (sCons_len (sCons_len sNil_len)))) (ds_cons (ds_set 6 sc.nd (de_add (de_lst (da_cons de_non da_nil)) (de_lc false [("_law_one", 7)] rfl sc.nd (di_any (de_var 5)) (blkOk_by (by kernel_rfl)) (fun _ _ _ _ _ => (dg_name 7 sc.nd)) (fun _ _ _ _ _ => dts_nil) (fun _ _ _ _ _ => (de_ix (de_var 7) de_int))))) (ds_cons (ds_setLc (X := _) 8 true [("_law_step", 9)] rfl sc.nd (di_rng1 (by rfl) (He.free_ok X0 G (c.fact 81 (f := .free "range") (by rfl))) (de_callF [] (H_l_draw_2.up (by decide)) hr (He.glo_ok X0 G (c.fact 45 (f := .glo "_law_draw") (by rfl))) (fun _ _ => .nil) (fun _ => passAt0) (da_cons (de_var 1) (da_cons (de_var 4) da_nil)) (sCons_len (sCons_len sNil_len)))) (blkOk_by (by kernel_rfl)) (fun _ _ _ _ _ => (dg_name 9 sc.nd)) (fun _ _ _ _ _ => dts_nil) (fun _ _ _ _ _ => (de_ix (de_var 6) (de_callF [] (H_l_draw_2.up (by decide)) hr (He.glo_ok X0 G (c.fact 45 (f := .glo "_law_draw") (by rfl))) (fun _ _ => .nil) (fun _ => passAt0) (da_cons (de_var 1) (da_cons (de_len (by rfl) (He.free_ok X0 G (c.fact 77 (f := .free "len") (by rfl))) (de_var 6)) da_nil)) (sCons_len (sCons_len sNil_len))))) (sw_true rfl rfl rfl (by decide +kernel))) (ds_cons (ds_if (dt_not (dt_val (de_callGF [] (H_l_right_16.up (by decide)) hr hgd (He.glo_ok X0 G (c.fact 66 (f := .glo "_law_right") (by rfl))) (fun _ _ => .nil) (fun _ => passAt0) (da_cons (de_var 1) (da_cons (de_var 5) (da_cons (de_var 8) da_nil))) (sCons_len (sCons_len (sCons_len sNil_len)))))) (ds_one (ds_ret de_bl)) ds_nil) (ds_cons (ds_set 10 sc.nd (de_callF [] (H_l_hall_2.up (by decide)) hr (He.glo_ok X0 G (c.fact 48 (f := .glo "_law_hall") (by rfl))) (fun _ _ => .nil) (fun _ => passAt0) (da_cons (de_var 1) (da_cons (de_var 3) (da_cons (de_ix (de_lst (da_cons de_int (da_cons de_int da_nil))) (de_callF [] (H_l_draw_2.up (by decide)) hr (He.glo_ok X0 G (c.fact 45 (f := .glo "_law_draw") (by rfl))) (fun _ _ => .nil) (fun _ => passAt0) (da_cons (de_var 1) (da_cons de_int da_nil)) (sCons_len (sCons_len sNil_len)))) da_nil))) (sCons_len (sCons_len (sCons_len sNil_len))))) (ds_cons (ds_set 8 sc.nd (de_callF [] (H_l_heard.up (by decide)) hr (He.glo_ok X0 G (c.fact 57 (f := .glo "_law_heard") (by rfl))) (fun _ _ => .nil) (fun _ => passAt0) (da_cons (de_var 10) (da_cons (de_callF [] (H_l_draw_2.up (by decide)) hr (He.glo_ok X0 G (c.fact 45 (f := .glo "_law_draw") (by rfl))) (fun _ _ => .nil) (fun _ => passAt0) (da_cons (de_var 1) (da_cons (de_var 4) da_nil)) (sCons_len (sCons_len sNil_len))) da_nil)) (sCons_len (sCons_len sNil_len)))) (ds_cons (ds_setLc (X := _) 5 false [("_law_one", 7)] rfl sc.nd (di_any (de_var 10)) (blkOk_by (by kernel_rfl)) (fun _ _ _ _ _ => (dg_name 7 sc.nd)) (fun _ _ _ _ _ => dts_nil) (fun _ _ _ _ _ => (de_tup (da_cons (de_ix (de_var 7) de_int) (da_cons (de_ix (de_var 7) de_int) da_nil)))) (sw_true rfl rfl rfl (by decide +kernel))) (ds_one (ds_if (dt_not (dt_val (de_callGF [] (H_l_right_16.up (by decide)) hr hgd (He.glo_ok X0 G (c.fact 66 (f := .glo "_law_right") (by rfl))) (fun _ _ => .nil) (fun _ => passAt0) (da_cons (de_var 1) (da_cons (de_var 5) (da_cons (de_callF [] (H_l_changed_2.up (by decide)) hr (He.glo_ok X0 G (c.fact 67 (f := .glo "_law_changed") (by rfl))) (fun _ _ => .nil) (fun _ => passAt0) (da_cons (de_var 1) (da_cons (de_lc false [("_law_one", 7)] rfl sc.nd (di_any (de_var 10)) (blkOk_by (by kernel_rfl)) (fun _ _ _ _ _ => (dg_name 7 sc.nd)) (fun _ _ _ _ _ => dts_nil) (fun _ _ _ _ _ => (de_ix (de_var 7) de_int))) (da_cons (de_var 8) da_nil))) (sCons_len (sCons_len (sCons_len sNil_len)))) da_nil))) (sCons_len (sCons_len (sCons_len sNil_len)))))) (ds_one (ds_ret de_bl)) ds_nil))))))))))) (ds_one (ds_ret (de_and (de_eq (hu_ hr) (de_callF [] (((H_fault_of.up (by decide)).pure).shut) hr (He.glo_ok X0 G (c.fact 41 (f := .glo "fault_of") (by rfl))) (fun _ _ => .nil) (fun _ => passAt0) (da_cons (de_lst (da_cons (de_tup (da_cons de_str (da_cons de_int da_nil))) (da_cons (de_tup (da_cons de_str (da_cons de_int da_nil))) da_nil))) (da_cons (de_lst (da_cons de_non (da_cons de_str (da_cons de_str da_nil)))) da_nil)) (sCons_len (sCons_len sNil_len))) (de_tup (da_cons de_int (da_cons de_str da_nil)))) (de_one (de_is (de_callF [] (((H_fault_of.up (by decide)).pure).shut) hr (He.glo_ok X0 G (c.fact 41 (f := .glo "fault_of") (by rfl))) (fun _ _ => .nil) (fun _ => passAt0) (da_cons (de_lst da_nil) (da_cons (de_mul (de_lst (da_cons de_non da_nil)) de_int) da_nil)) (sCons_len (sCons_len sNil_len))) de_non)))))))
end
def nm0 : List Str := ["HushError", "Inconsistent", "InvalidMembers", "InvalidRecord", "LETTERS", "MAX_NAME", "MAX_RANK", "MAX_TALKERS", "is_integer", "is_sequence", "is_name", "MAX_RECORD", "SILENCE", "ORDER", "is_member", "check_members", "is_item", "check_record", "Observed", "Reading", "checked_reading", "fault_of", "schedules_of", "_law_bag", "_law_stir", "_law_draw", "_law_shuffled", "_law_talks", "_law_hall", "_law_members"]
def nm1 : List Str := ["_law_seat", "_law_model", "_law_talk", "_law_find", "_law_first", "_law_pass", "_law_state", "_law_heard", "_law_quiet", "_law_last", "_law_goes_on", "_law_fault", "_law_schedules", "_law_either", "_law_due", "_law_raised", "_law_right", "_law_changed"]
def nm : List Str := nm0 ++ nm1
abbrev R : PySem.W.OpenRow := PySem.W.OpenLaw.row PySem.Challenge.rw_hushranks_k43_faults_of_records
abbrev hk : PySem.W.Hook := hookE 5 fa fn xsL ysL esL
def ob (s : PySem.W.SharedT) : (He.AlD × Bool) × Bool := obsEG 5 fa fn xsL ysL esL (HandSHeadRun.getT s)
theorem ob_eq (s : PySem.W.SharedT) : ob s = hk.obs s.abs := obsEG_eq (HandSHeadRun.getT_eq s)
set_option maxHeartbeats 0 in
theorem run (w : World) : HandSHeadRun.RunEq R (PySem.W.view R.prog [52]) hk ob 9000 nm w := by
  intro os
  kernel_rfl
theorem facts {P : Program} {w : World} {K : PySem.W.Frag} {h : Heap} {mg : Str → Option Value} {f : Addr} (X : K.In h) (G : h.Ns mainGlobals mg) (hfa : mg ("law" : Str) = some (.ref f)) (c : SaysE fa fn xsL ysL esL K) :
    ∃ fd : FuncData, (∀ (s : Shared) (v : Value), BindsTo s fd ⟨[v], []⟩ [("_law_script", v)]) ∧ ∀ base : Heap, K.In base → base.Ns mainGlobals mg → FnOkG P w K mg base CX0 9 f fd ["_law_script"] (spN K 1 Sh.law_k43) := by
  obtain ⟨fd, F⟩ := c.def_ 41 (d := d_law_k43) rfl
  have e := hfa.symm.trans (He.glo_ok X G (c.fact 68 (f := .glo "law") (by rfl)))
  cases e
  have b := FunD.bindsA (ps := ["_law_script"]) F (fun _ _ _ _ _ _ us hl => (match us, hl with | [_], _ => rfl))
  exact ⟨fd, (fun s v => b s [v] rfl), fun base KB GB => okb_law_k43 c KB GB F⟩
theorem holds_of (hg : ∀ ns : List Int, ns.length ≤ 63 → ∃ h', Sh.law_k43 [.scr (ns.map D.int)] [] = .ok (.bl true) h') : PySem.Challenge.rw_hushranks_k43_faults_of_records.Holds := by
  open PySem PySem.W PySem.Calls PyProof.Rows in
  w_on; o_law
  refine HandSHeadRun.head_any (r := R) (q := PySem.W.view R.prog [52]) (H := hk) (ob := ob) (M := 9000) (loose := nm) (d := HandSHeadRun.topDef R.prog 52) (kwd := []) ob_eq
    (by kernel_rfl) (fun s => by kernel_rfl) run (by kernel_rfl) (by kernel_rfl) (by kernel_rfl) (by rfl) (by first | assumption | decide +kernel) (by decide +kernel) ⟨rfl, rfl, rfl, rfl, rfl, by decide +kernel⟩ ?hw ?hc
  case hw => w_witness2
  case hc =>
    refine walk_ofG (l := PySem.Challenge.rw_hushranks_k43_faults_of_records) (n := 63) (k := 9) (x := "_law_script") (CX := CX0) rfl (by decide) (by kernel_rfl) ⟨rfl, by decide, by decide⟩ ?F (fun _ _ _ _ z => z)
    intro w mg fa h Y G hmg0
    obtain ⟨K, KX, c⟩ := Y
    have hmg : mg ("law" : PySem.Str) = some (.ref fa) := by
      have e : (HandSHeadRun.topDef R.prog 52).name = ("law" : PySem.Str) := by kernel_rfl
      rw [← e]
      exact hmg0
    obtain ⟨fd, hb, hF⟩ := facts (P := (PySem.Challenge.rw_hushranks_k43_faults_of_records).prog) (w := w) KX G hmg c
    exact ⟨K, fd, spN K 1 Sh.law_k43, KX, hb, (fun H a ns hl hO hS => law_sp hg H a ns hl hO hS), hF⟩
end Tk43
end HR
theorem PySem.Challenge.cw_hushranks_k43_faults_of_records_holds : PySem.Challenge.rw_hushranks_k43_faults_of_records.Holds := by
  exact HR.Tk43.holds_of HR.law43
