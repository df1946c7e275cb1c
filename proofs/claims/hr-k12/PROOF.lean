import PyProof.Rows.All
import HandS.ForMost
import HandS.Defaults
import HandS.IsInst
import HandS.Wide
import HandS.Zip
import HandS.Flow
import HandS.Exc
import HandS.CallSlots
import HandS.TryOnly
import HandS.ExcOwn
import HandS.WordsExc
import HandS.HeadHook1
import HandS.HeadHook2
import HandS.WideBits
import HandS.HeadEnd
import HandS.Head0
import HandS.Head1
import HandS.Head2
import PyProof.Rows.SetFrom
import PyProof.Rows.SetObj
import HandS.Text
import HandS.Iter
import PyProof.ReprRoads
import HandS.ExcIs
import HandS.ExcInit
import HandS.ExcField
import KE.KExcIs
import HandS.Codes
import HandS.ExcValue
import PyProof.LongRange
import HandS.RaiseMore
import HandS.More
import HandS.SetFor
import HandS.Strs
import KE.DataMinMax
import HandS.SortKw
import HandS.Dict
import HandS.Deep
import HandS.DictComp
import PyProof.InstEq
import HandS.Small
import KE.GoesMore
import HandS.HotCalls
import HandS.ExcCtx
import HandS.SortInts
import HandS.Conv
import KE.KDictZip
import PyProof.ListNew
import KE.KTurns
import HandS.TupSets
import HandS.NoneIn
import KE.KStateDown
import PyProof.FitsInt
import PyProof.StrLawsRepr
import PySem.Challenge.RW_hushranks_k12_distant_clocks
set_option Elab.async false
set_option linter.all false
set_option maxRecDepth 100000
set_option maxHeartbeats 2000000
/-! LayA: plain values, the own heap, results, and how they stand for HandS's values and heap. -/
namespace HR
open PySem L2
/-- plain values; ref: an object of the own heap; scr: a list that is only read (the script); exc: a caught exception without fields; excf: with one field -/
inductive D where
  | non | bl (b : Bool) | int (i : Int) | str (x : Str)
  | lst (xs : List D) | tup (xs : List D) | dct (kvs : List (Key × D)) | obj (C : String) (fs : List (String × D)) | ref (i : Nat) | scr (xs : List D) | exc (C : String) | excf (C f : String) (d : D)
/-- objects of the own heap -/
inductive OO where
  | lst (xs : List D) | ins (C : String) (fs : List (String × D)) | dct (kvs : List (Key × D)) | dead
abbrev OH := List OO
abbrev Env' := List (Option D)
abbrev Pay := Option (String × D)
inductive Res (α : Type) where
  | ok (a : α) (h : OH) | exc (C : String) (p : Pay) (h : OH) | bad
def Res.bind {α β : Type} (r : Res α) (f : α → OH → Res β) : Res β := match r with
  | .ok a h => f a h
  | .exc C p h => .exc C p h
  | .bad => .bad
@[simp] theorem Res.bind_ok {α β : Type} (a : α) (h : OH) (f : α → OH → Res β) : (Res.ok a h).bind f = f a h := rfl
@[simp] theorem Res.bind_exc {α β : Type} (C : String) (p : Pay) (h : OH) (f : α → OH → Res β) : (Res.exc C p h : Res α).bind f = .exc C p h := rfl
@[simp] theorem Res.bind_bad {α β : Type} (f : α → OH → Res β) : (Res.bad : Res α).bind f = .bad := rfl
inductive SRes where
  | nx (σ : Env') (h : OH) | rt (d : D) (h : OH) | bk (σ : Env') (h : OH) | ct (σ : Env') (h : OH) | exc (C : String) (p : Pay) (σ : Env') (h : OH) | bad
abbrev SE := Env' → OH → Res D
abbrev ST := Env' → OH → Res Bool
abbrev SA := Env' → OH → Res (List D)
abbrev SS := Env' → OH → SRes
abbrev FN := List D → OH → Res D
/-- what the class of an object must be, for its fields -/
def ObT (K : PySem.W.Frag) (C : String) (fs : List (String × D)) : Prop :=
  Cls K (He.ga K (Str.ofString C)) ∧ ∀ q ∈ fs, NoAttr K (He.ga K (Str.ofString C)) (Str.ofString q.1)
/-- a caught exception of the class cls, kept at a -/
def HexO (cls : Value) (a : Addr) : HO := .ext fun hp => ∃ (ob : Obj) (ws : Array Value), hp.get? a = some ob ∧ Zc cls none ob ∧ ob.data = .fields ws
/-- an exception of the class cls with a dict at dx, kept at a -/
def HexP (cls : Value) (dx : Addr) (a : Addr) : HO := .ext fun hp => ∃ (ob : Obj) (ws : Array Value), hp.get? a = some ob ∧ Zc cls (some dx) ob ∧ ob.data = .fields ws
mutual
/-- v stands for d: F the frozen part of the heap, m the addresses of the own objects -/
inductive Den (K : PySem.W.Frag) (F : Hp) (m : List Addr) : V → D → Prop
  | non : Den K F m .non .non
  | bl (b : Bool) : Den K F m (.bl b) (.bl b)
  | int (i : Int) : Den K F m (.int i) (.int i)
  | str (x : Str) : Den K F m (.str x) (.str x)
  | lst {a : Addr} {vs : List V} {ds : List D} (q : F a = some (.lst vs)) (r : DenL K F m vs ds) : Den K F m (.ref a) (.lst ds)
  | scr {a : Addr} {vs : List V} {ds : List D} (q : SqL K F a vs) (r : DenL K F m vs ds) : Den K F m (.ref a) (.scr ds)
  | tup {a : Addr} {vs : List V} {ds : List D} (q : F a = some (.tup vs)) (r : DenL K F m vs ds) : Den K F m (.ref a) (.tup ds)
  | dct {a : Addr} {kvs : List (Key × V)} {ks : List (Key × D)} (q : F a = some (.dK kvs)) (r : DenK K F m kvs ks) : Den K F m (.ref a) (.dct ks)
  | obj {a dx : Addr} {C : String} {fv : List (Str × V)} {fs : List (String × D)} (q : F a = some (.ins (He.ga K (Str.ofString C)) dx fv)) (t : ObT K C fs) (r : DenF K F m fv fs) : Den K F m (.ref a) (.obj C fs)
  | ref {a : Addr} {i : Nat} (q : m[i]? = some a) : Den K F m (.ref a) (.ref i)
  | exc {a : Addr} {C : String} (q : Rd F a (HexO (.ref (He.ga K (Str.ofString C))) a)) : Den K F m (.ref a) (.exc C)
  | excf {a dx : Addr} {C f : String} {v : V} {d : D} (q : Rd F a (HexP (.ref (He.ga K (Str.ofString C))) dx a)) (q2 : F dx = some (.xd [(Str.ofString f, v)])) (r : Den K F m v d) : Den K F m (.ref a) (.excf C f d)
inductive DenL (K : PySem.W.Frag) (F : Hp) (m : List Addr) : List V → List D → Prop
  | nil : DenL K F m [] []
  | cons {v : V} {d : D} {vs : List V} {ds : List D} (h : Den K F m v d) (t : DenL K F m vs ds) : DenL K F m (v :: vs) (d :: ds)
inductive DenK (K : PySem.W.Frag) (F : Hp) (m : List Addr) : List (Key × V) → List (Key × D) → Prop
  | nil : DenK K F m [] []
  | cons {k : Key} {v : V} {d : D} {vs : List (Key × V)} {ds : List (Key × D)} (h : Den K F m v d) (t : DenK K F m vs ds) : DenK K F m ((k, v) :: vs) ((k, d) :: ds)
inductive DenF (K : PySem.W.Frag) (F : Hp) (m : List Addr) : List (Str × V) → List (String × D) → Prop
  | nil : DenF K F m [] []
  | cons {f : String} {v : V} {d : D} {vs : List (Str × V)} {ds : List (String × D)} (h : Den K F m v d) (t : DenF K F m vs ds) : DenF K F m ((Str.ofString f, v) :: vs) ((f, d) :: ds)
end
section
variable {K : PySem.W.Frag} {F F' : Hp} {m m' : List Addr}
theorem Same.sqT {H H' : Hp} {a : Addr} {xs : List V} (e : Same H H') (h : SqT K H a xs) : SqT K H' a xs := by
  rcases h with (h | ⟨o, h⟩) | h
  · exact .inl (.inl (e _ _ h))
  · exact .inl (.inr ⟨o, e _ _ h⟩)
  · exact .inr h
theorem pre_get {i : Nat} {a : Addr} (p : m <+: m') (e : m[i]? = some a) : m'[i]? = some a := by
  obtain ⟨t, rfl⟩ := p
  rw [List.getElem?_append_left (List.getElem?_eq_some_iff.mp e).1]
  exact e
/-- the frozen part grows, the own objects' list grows -/
structure Ext (F : Hp) (m : List Addr) (F' : Hp) (m' : List Addr) : Prop where
  s : Same F F'
  p : m <+: m'
theorem Ext.refl : Ext F m F m := ⟨Same.refl _, List.prefix_rfl⟩
theorem Ext.trans {F2 : Hp} {m2 : List Addr} (a : Ext F m F' m') (b : Ext F' m' F2 m2) : Ext F m F2 m2 := ⟨a.s.trans b.s, a.p.trans b.p⟩
theorem rd_same {G G' : Hp} {a : Addr} {u : HO} (x : Same G G') (q : Rd G a u) : Rd G' a u := q.imp (x _ _) fun ⟨o, z⟩ => ⟨o, x _ _ z⟩
theorem Den.mono {v : V} {d : D} (x : Ext F m F' m') (h : Den K F m v d) : Den K F' m' v d :=
  Den.rec (motive_1 := fun v d _ => Den K F' m' v d) (motive_2 := fun v d _ => DenL K F' m' v d) (motive_3 := fun v d _ => DenK K F' m' v d) (motive_4 := fun v d _ => DenF K F' m' v d)
    .non .bl .int .str (fun q _ r => .lst (x.s _ _ q) r) (fun q _ r => .scr (x.s.seq q) r) (fun q _ r => .tup (x.s _ _ q) r) (fun q _ r => .dct (x.s _ _ q) r) (fun q t _ r => .obj (x.s _ _ q) t r) (fun q => .ref (pre_get x.p q)) (fun q => .exc (rd_same x.s q)) (fun q q2 _ r => .excf (rd_same x.s q) (x.s _ _ q2) r)
    .nil (fun _ _ a b => .cons a b) .nil (fun _ _ a b => .cons a b) .nil (fun _ _ a b => .cons a b) h
theorem DenL.mono (x : Ext F m F' m') : ∀ {vs : List V} {ds : List D}, DenL K F m vs ds → DenL K F' m' vs ds
  | _, _, .nil => .nil
  | _, _, .cons h t => .cons (h.mono x) (DenL.mono x t)
theorem DenK.mono (x : Ext F m F' m') : ∀ {vs : List (Key × V)} {ds : List (Key × D)}, DenK K F m vs ds → DenK K F' m' vs ds
  | _, _, .nil => .nil
  | _, _, .cons h t => .cons (h.mono x) (DenK.mono x t)
theorem DenF.mono (x : Ext F m F' m') : ∀ {vs : List (Str × V)} {ds : List (String × D)}, DenF K F m vs ds → DenF K F' m' vs ds
  | _, _, .nil => .nil
  | _, _, .cons h t => .cons (h.mono x) (DenF.mono x t)
theorem DenL.length : ∀ {vs : List V} {ds : List D}, DenL K F m vs ds → vs.length = ds.length
  | _, _, .nil => rfl
  | _, _, .cons _ t => by rw [List.length_cons, List.length_cons, DenL.length t]
theorem DenL.get : ∀ {vs : List V} {ds : List D} {i : Nat} {d : D}, DenL K F m vs ds → ds[i]? = some d → ∃ v, vs[i]? = some v ∧ Den K F m v d
  | _, _, _, _, .nil, e => by simp at e
  | _, _, 0, _, .cons h _, e => by
    simp at e
    subst e
    exact ⟨_, by simp, h⟩
  | _, _, i + 1, d, .cons _ t, e => by
    obtain ⟨v, e1, r⟩ := DenL.get (i := i) (d := d) t (by simpa using e)
    exact ⟨v, by simpa using e1, r⟩
theorem DenL.getV : ∀ {vs : List V} {ds : List D} {i : Nat} {v : V}, DenL K F m vs ds → vs[i]? = some v → ∃ d, ds[i]? = some d ∧ Den K F m v d
  | _, _, _, _, .nil, e => by simp at e
  | _, _, 0, _, .cons h _, e => by
    simp at e
    subst e
    exact ⟨_, by simp, h⟩
  | _, _, i + 1, v, .cons _ t, e => by
    obtain ⟨d, e1, r⟩ := DenL.getV (i := i) (v := v) t (by simpa using e)
    exact ⟨d, by simpa using e1, r⟩
theorem DenL.append : ∀ {vs ws : List V} {ds es : List D}, DenL K F m vs ds → DenL K F m ws es → DenL K F m (vs ++ ws) (ds ++ es)
  | _, _, _, _, .nil, s => s
  | _, _, _, _, .cons h t, s => .cons h (DenL.append t s)
theorem DenL.take : ∀ {vs : List V} {ds : List D} (n : Nat), DenL K F m vs ds → DenL K F m (vs.take n) (ds.take n)
  | _, _, 0, _ => .nil
  | _, _, _ + 1, .nil => .nil
  | _, _, n + 1, .cons h t => .cons h (DenL.take n t)
theorem DenL.drop : ∀ {vs : List V} {ds : List D} (n : Nat), DenL K F m vs ds → DenL K F m (vs.drop n) (ds.drop n)
  | _, _, 0, r => r
  | _, _, _ + 1, .nil => .nil
  | _, _, n + 1, .cons _ t => DenL.drop n t
theorem DenL.set {v : V} {d : D} (r : Den K F m v d) : ∀ {vs : List V} {ds : List D} (i : Nat), DenL K F m vs ds → DenL K F m (vs.set i v) (ds.set i d)
  | _, _, _, .nil => .nil
  | _, _, 0, .cons _ t => .cons r t
  | _, _, i + 1, .cons h t => .cons h (DenL.set r i t)
theorem DenL.eraseIdx : ∀ {vs : List V} {ds : List D} (i : Nat), DenL K F m vs ds → DenL K F m (vs.eraseIdx i) (ds.eraseIdx i)
  | _, _, _, .nil => .nil
  | _, _, 0, .cons _ t => t
  | _, _, i + 1, .cons h t => .cons h (DenL.eraseIdx i t)
theorem DenL.rep {vs : List V} {ds : List D} (h : DenL K F m vs ds) : ∀ k : Nat, DenL K F m (List.replicate k vs).flatten (List.replicate k ds).flatten
  | 0 => .nil
  | k + 1 => by
    rw [List.replicate_succ, List.replicate_succ, List.flatten_cons, List.flatten_cons]
    exact h.append (h.rep k)
theorem DenL.ints : ∀ (ns : List Int), DenL K F m (ns.map V.int) (ns.map D.int)
  | [] => .nil
  | n :: ns => .cons (.int n) (DenL.ints ns)
/-- what stands at an own object's address -/
def OOk (K : PySem.W.Frag) (F : Hp) (m : List Addr) (H : Hp) (a : Addr) : OO → Prop
  | .lst xs => ∃ vs, H a = some (.lst vs) ∧ DenL K F m vs xs ∧ F a = none
  | .ins C fs => ∃ dx fv, H a = some (.ins (He.ga K (Str.ofString C)) dx fv) ∧ ObT K C fs ∧ DenF K F m fv fs ∧ F a = none
  | .dct kvs => ∃ ks, H a = some (.dK ks) ∧ DenK K F m ks kvs ∧ F a = none
  | .dead => True
abbrev Pins := List (Addr × HO)
/-- the own heap h stands in H; P: hidden objects, which stay -/
structure Sim (K : PySem.W.Frag) (P : Pins) (F : Hp) (m : List Addr) (h : OH) (H : Hp) : Prop where
  sub : Same F H
  len : m.length = h.length
  nd : m.Nodup
  live : ∀ a ∈ m, ∃ o, H a = some o
  at_ : ∀ (i : Nat) (a : Addr) (o : OO), m[i]? = some a → h[i]? = some o → OOk K F m H a o
  pin : ∀ p ∈ P, H p.1 = some p.2 ∧ F p.1 = none ∧ p.1 ∉ m
  pnd : (P.map (·.1)).Nodup
theorem OOk.mono {H H' : Hp} {a : Addr} {o : OO} (x : Ext F m F' m') (e : H' a = H a) (f : F a = none → F' a = none) (h : OOk K F m H a o) : OOk K F' m' H' a o := by
  cases o with
  | lst xs =>
    obtain ⟨vs, h1, h2, h3⟩ := h
    exact ⟨vs, e.trans h1, h2.mono x, f h3⟩
  | ins C fs =>
    obtain ⟨dx, fv, h1, h2, h3, h4⟩ := h
    exact ⟨dx, fv, e.trans h1, h2, h3.mono x, f h4⟩
  | dct kvs =>
    obtain ⟨ks, h1, h2, h3⟩ := h
    exact ⟨ks, e.trans h1, h2.mono x, f h3⟩
  | dead => trivial
end
section
variable {K : PySem.W.Frag} {P : Pins} {F : Hp} {m : List Addr} {h : OH} {H : Hp}
theorem nodup_at {i j : Nat} {a : Addr} (hn : m.Nodup) (e1 : m[i]? = some a) (e2 : m[j]? = some a) : i = j := by
  obtain ⟨h1, q1⟩ := List.getElem?_eq_some_iff.mp e1
  obtain ⟨h2, q2⟩ := List.getElem?_eq_some_iff.mp e2
  exact (List.getElem_inj hn).mp (q1.trans q2.symm)
theorem Sim.notMem (S : Sim K P F m h H) {p : Addr} (hp : H p = none) : p ∉ m := fun z => by
  obtain ⟨o, e⟩ := S.live p z
  rw [hp] at e
  cases e
theorem Sim.free (S : Sim K P F m h H) {p : Addr} (hp : H p = none) : F p = none := S.sub.free hp
theorem Sim.notPin (S : Sim K P F m h H) {p : Addr} (hp : H p = none) : ∀ q ∈ P, q.1 ≠ p := fun q hq z => by
  have e := (S.pin q hq).1
  rw [z, hp] at e
  cases e
theorem same_new {p : Addr} {o : HO} (hp : H p = none) : Same H (upd H p o) := fun b u e => by
  rw [upd_ne (ne_of_none e hp)]
  exact e
/-- what is laid and stays out of sight -/
theorem Sim.other (S : Sim K P F m h H) {p : Addr} {o : HO} (hp : H p = none) : Sim K P F m h (upd H p o) where
  sub := S.sub.trans (same_new hp)
  len := S.len
  nd := S.nd
  live := fun a ha => let ⟨u, e⟩ := S.live a ha; ⟨u, same_new hp _ _ e⟩
  at_ := fun i a u e1 e2 => (S.at_ i a u e1 e2).mono .refl (upd_ne fun z => S.notMem hp (z ▸ List.mem_of_getElem? e1)) id
  pin := fun q hq => ⟨same_new hp _ _ (S.pin q hq).1, (S.pin q hq).2⟩
  pnd := S.pnd
/-- a new frozen object -/
theorem Sim.frozen (S : Sim K P F m h H) {p : Addr} {o : HO} (hp : H p = none) : Sim K P (upd F p o) m h (upd H p o) := by
  have x : Ext F m (upd F p o) m := ⟨same_new (S.free hp), List.prefix_rfl⟩
  refine ⟨fun b u e => ?_, S.len, S.nd, (S.other hp).live, fun i a u e1 e2 => ?_, fun q hq => ?_, S.pnd⟩
  · by_cases hb : b = p
    · subst hb
      rw [upd_same] at e ⊢
      exact e
    · rw [upd_ne hb] at e ⊢
      exact S.sub b u e
  · have ne : a ≠ p := fun z => S.notMem hp (z ▸ List.mem_of_getElem? e1)
    exact (S.at_ i a u e1 e2).mono x (upd_ne ne) fun z => (upd_ne ne).trans z
  · have ne : q.1 ≠ p := S.notPin hp q hq
    exact ⟨same_new hp _ _ (S.pin q hq).1, (upd_ne ne).trans (S.pin q hq).2.1, (S.pin q hq).2.2⟩
theorem Sim.extF (S : Sim K P F m h H) {p : Addr} {o : HO} (hp : H p = none) : Ext F m (upd F p o) m := ⟨same_new (S.free hp), List.prefix_rfl⟩
theorem ext_new {a : Addr} : Ext F m F (m ++ [a]) := ⟨Same.refl _, List.prefix_append _ _⟩
/-- a new own object -/
theorem Sim.alloc (S : Sim K P F m h H) {p : Addr} {ho : HO} {o : OO} (hp : H p = none) (ok : OOk K F (m ++ [p]) (upd H p ho) p o) : Sim K P F (m ++ [p]) (h ++ [o]) (upd H p ho) where
  sub := (S.other hp).sub
  len := by simp [S.len]
  nd := List.nodup_append.mpr ⟨S.nd, by simp, fun a ha b hb => by
    rw [List.mem_singleton] at hb
    subst hb
    exact fun z => S.notMem hp (z ▸ ha)⟩
  live := fun a ha => by
    rcases List.mem_append.mp ha with ha | ha
    · exact (S.other hp).live a ha
    · rw [List.mem_singleton] at ha
      subst ha
      exact ⟨_, upd_same⟩
  at_ := fun i a u e1 e2 => by
    by_cases hi : i < m.length
    · rw [List.getElem?_append_left hi] at e1
      rw [List.getElem?_append_left (by rw [← S.len]; exact hi)] at e2
      exact (S.at_ i a u e1 e2).mono ext_new (upd_ne fun z => S.notMem hp (z ▸ List.mem_of_getElem? e1)) id
    · have hi2 : i = m.length := by
        have := (List.getElem?_eq_some_iff.mp e1).1
        simp at this
        omega
      subst hi2
      rw [S.len] at e2
      simp at e1 e2
      subst e1 e2
      exact ok
  pin := fun q hq => by
    obtain ⟨h1, h2, h3⟩ := (S.other (o := ho) hp).pin q hq
    refine ⟨h1, h2, fun z => ?_⟩
    rcases List.mem_append.mp z with z | z
    · exact h3 z
    · rw [List.mem_singleton] at z
      exact S.notPin hp q hq z
  pnd := S.pnd
/-- an own object is written -/
theorem Sim.write (S : Sim K P F m h H) {i : Nat} {a : Addr} {ho : HO} {o o' : OO} (e : m[i]? = some a) (e2 : h[i]? = some o') (nf : F a = none) (ok : OOk K F m (upd H a ho) a o) : Sim K P F m (h.set i o) (upd H a ho) where
  sub := fun b u q => by
    have ne : b ≠ a := fun z => by
      rw [z, nf] at q
      cases q
    rw [upd_ne ne]
    exact S.sub b u q
  len := by simp [S.len]
  nd := S.nd
  live := fun b hb => by
    by_cases hba : b = a
    · subst hba
      exact ⟨_, upd_same⟩
    · obtain ⟨u, q⟩ := S.live b hb
      exact ⟨u, (upd_ne hba).trans q⟩
  at_ := fun j b u q1 q2 => by
    by_cases hji : j = i
    · subst hji
      rw [e] at q1
      cases q1
      rw [List.getElem?_set_self (List.getElem?_eq_some_iff.mp e2).1] at q2
      cases q2
      exact ok
    · rw [List.getElem?_set_ne (Ne.symm hji)] at q2
      exact (S.at_ j b u q1 q2).mono .refl (upd_ne fun z => hji (nodup_at S.nd (z ▸ q1) e)) id
  pin := fun q hq => by
    obtain ⟨h1, h2, h3⟩ := S.pin q hq
    exact ⟨(upd_ne fun z => h3 (by rw [z]; exact List.mem_of_getElem? e)).trans h1, h2, h3⟩
  pnd := S.pnd
/-- an own object is frozen -/
theorem Sim.freeze (S : Sim K P F m h H) {i : Nat} {a : Addr} {ho : HO} (e : m[i]? = some a) (nf : F a = none) (he : H a = some ho) : Sim K P (upd F a ho) m (h.set i .dead) H := by
  have x : Ext F m (upd F a ho) m := ⟨same_new nf, List.prefix_rfl⟩
  refine ⟨fun b u q => ?_, by simp [S.len], S.nd, S.live, fun j b u q1 q2 => ?_, fun q hq => ?_, S.pnd⟩
  · by_cases hb : b = a
    · subst hb
      rw [upd_same] at q
      cases q
      exact he
    · rw [upd_ne hb] at q
      exact S.sub b u q
  · by_cases hji : j = i
    · subst hji
      rw [List.getElem?_set] at q2
      simp at q2
      obtain ⟨_, q2⟩ := q2
      subst q2
      trivial
    · rw [List.getElem?_set_ne (Ne.symm hji)] at q2
      have ne : b ≠ a := fun z => hji (nodup_at S.nd (z ▸ q1) e)
      exact (S.at_ j b u q1 q2).mono x rfl fun z => (upd_ne ne).trans z
  · obtain ⟨h1, h2, h3⟩ := S.pin q hq
    exact ⟨h1, (upd_ne fun z => h3 (by rw [z]; exact List.mem_of_getElem? e)).trans h2, h3⟩
theorem ext_frz {a : Addr} {ho : HO} (nf : F a = none) : Ext F m (upd F a ho) m := ⟨same_new nf, List.prefix_rfl⟩
/-- a new hidden object -/
theorem Sim.hid (S : Sim K P F m h H) {p : Addr} {o : HO} (hp : H p = none) : Sim K ((p, o) :: P) F m h (upd H p o) := by
  have S2 := S.other (o := o) hp
  refine ⟨S2.sub, S2.len, S2.nd, S2.live, S2.at_, fun q hq => ?_, ?_⟩
  · rcases List.mem_cons.mp hq with rfl | hq
    · exact ⟨upd_same, S.free hp, S.notMem hp⟩
    · exact S2.pin q hq
  · rw [List.map_cons, List.nodup_cons]
    refine ⟨fun z => ?_, S.pnd⟩
    obtain ⟨q, hq, e⟩ := List.mem_map.mp z
    exact S.notPin hp q hq e
/-- a hidden object is written -/
theorem Sim.hidSet {p : Addr} {o o' : HO} (S : Sim K ((p, o) :: P) F m h H) : Sim K ((p, o') :: P) F m h (upd H p o') := by
  obtain ⟨h1, h2, h3⟩ := S.pin (p, o) List.mem_cons_self
  have nm : ∀ a, a ∈ m → a ≠ p := fun a ha z => h3 (z ▸ ha)
  have pn := S.pnd
  rw [List.map_cons, List.nodup_cons] at pn
  refine ⟨fun b u q => ?_, S.len, S.nd, fun a ha => ?_, fun i a u e1 e2 => ?_, fun q hq => ?_, by rw [List.map_cons, List.nodup_cons]; exact pn⟩
  · have ne : b ≠ p := fun z => by
      rw [z, h2] at q
      cases q
    rw [upd_ne ne]
    exact S.sub b u q
  · obtain ⟨u, q⟩ := S.live a ha
    exact ⟨u, (upd_ne (nm a ha)).trans q⟩
  · exact (S.at_ i a u e1 e2).mono .refl (upd_ne (nm a (List.mem_of_getElem? e1))) id
  · rcases List.mem_cons.mp hq with rfl | hq
    · exact ⟨upd_same, h2, h3⟩
    · obtain ⟨q1, q2, q3⟩ := S.pin q (List.mem_cons_of_mem _ hq)
      have ne : q.1 ≠ p := fun z => pn.1 (List.mem_map.mpr ⟨q, hq, z⟩)
      exact ⟨(upd_ne ne).trans q1, q2, q3⟩
/-- a hidden object is frozen -/
theorem Sim.hidFrz {p : Addr} {o : HO} (S : Sim K ((p, o) :: P) F m h H) : Sim K P (upd F p o) m h H := by
  obtain ⟨h1, h2, h3⟩ := S.pin (p, o) List.mem_cons_self
  have x : Ext F m (upd F p o) m := ext_frz h2
  have pn := S.pnd
  rw [List.map_cons, List.nodup_cons] at pn
  refine ⟨fun b u q => ?_, S.len, S.nd, S.live, fun i a u e1 e2 => ?_, fun q hq => ?_, pn.2⟩
  · by_cases hb : b = p
    · subst hb
      rw [upd_same] at q
      cases q
      exact h1
    · rw [upd_ne hb] at q
      exact S.sub b u q
  · have ne : a ≠ p := fun z => h3 (z ▸ List.mem_of_getElem? e1)
    exact (S.at_ i a u e1 e2).mono x rfl fun z => (upd_ne ne).trans z
  · obtain ⟨q1, q2, q3⟩ := S.pin q (List.mem_cons_of_mem _ hq)
    have ne : q.1 ≠ p := fun z => pn.1 (List.mem_map.mpr ⟨q, hq, z⟩)
    exact ⟨q1, (upd_ne ne).trans q2, q3⟩
/-- a hidden list becomes an own object -/
theorem Sim.hidOwn {p : Addr} {vs : List V} {xs : List D} (S : Sim K ((p, .lst vs) :: P) F m h H) (r : DenL K F m vs xs) : Sim K P F (m ++ [p]) (h ++ [.lst xs]) H := by
  obtain ⟨h1, h2, h3⟩ := S.pin (p, .lst vs) List.mem_cons_self
  have pn := S.pnd
  rw [List.map_cons, List.nodup_cons] at pn
  refine ⟨S.sub, by simp [S.len], ?_, fun a ha => ?_, fun i a u e1 e2 => ?_, fun q hq => ?_, pn.2⟩
  · refine List.nodup_append.mpr ⟨S.nd, by simp, fun a ha b hb => ?_⟩
    rw [List.mem_singleton] at hb
    subst hb
    exact fun z => h3 (z ▸ ha)
  · rcases List.mem_append.mp ha with ha | ha
    · exact S.live a ha
    · rw [List.mem_singleton] at ha
      subst ha
      exact ⟨_, h1⟩
  · by_cases hi : i < m.length
    · rw [List.getElem?_append_left hi] at e1
      rw [List.getElem?_append_left (by rw [← S.len]; exact hi)] at e2
      exact (S.at_ i a u e1 e2).mono ext_new rfl id
    · have hi2 : i = m.length := by
        have := (List.getElem?_eq_some_iff.mp e1).1
        simp at this
        omega
      subst hi2
      rw [S.len] at e2
      simp at e1 e2
      subst e1 e2
      exact ⟨vs, h1, r.mono ext_new, h2⟩
  · obtain ⟨q1, q2, q3⟩ := S.pin q (List.mem_cons_of_mem _ hq)
    refine ⟨q1, q2, fun z => ?_⟩
    rcases List.mem_append.mp z with z | z
    · exact q3 z
    · rw [List.mem_singleton] at z
      exact pn.1 (List.mem_map.mpr ⟨q, hq, z⟩)
/-- the whole own heap hidden, for a call that sees nothing of it -/
def hidP (F : Hp) (m : List Addr) (H : Hp) : Pins := m.filterMap fun a => if (F a).isNone then (H a).map fun o => (a, o) else none
theorem mem_hidP {q : Addr × HO} : q ∈ hidP F m H ↔ q.1 ∈ m ∧ F q.1 = none ∧ H q.1 = some q.2 := by
  unfold hidP
  rw [List.mem_filterMap]
  constructor
  · rintro ⟨a, ha, e⟩
    split at e
    · rename_i hf
      obtain ⟨o, ho, e2⟩ := Option.map_eq_some_iff.mp e
      subst e2
      exact ⟨ha, by simpa using hf, ho⟩
    · cases e
  · rintro ⟨h1, h2, h3⟩
    exact ⟨q.1, h1, by simp [h2, h3]⟩
theorem hidP_nodup : ∀ {m : List Addr}, m.Nodup → ((hidP F m H).map (·.1)).Nodup
  | [], _ => by simp [hidP]
  | a :: m, hn => by
    rw [List.nodup_cons] at hn
    have ih := hidP_nodup hn.2
    have key : hidP F (a :: m) H = (if (F a).isNone then (H a).map fun o => (a, o) else none).toList ++ hidP F m H := by
      unfold hidP
      rw [List.filterMap_cons]
      split <;> rename_i e <;> rw [e] <;> rfl
    rw [key]
    split
    · cases e : H a with
      | none => simpa using ih
      | some o =>
        simp only [Option.map_some, Option.toList_some, List.singleton_append, List.map_cons, List.nodup_cons]
        refine ⟨fun z => ?_, ih⟩
        obtain ⟨q, hq, e2⟩ := List.mem_map.mp z
        exact hn.1 (e2 ▸ (mem_hidP.mp hq).1)
    · simpa using ih
theorem Sim.hide (S : Sim K P F m h H) : Sim K (hidP F m H ++ P) F [] [] H where
  sub := S.sub
  len := rfl
  nd := List.nodup_nil
  live := fun _ z => by simp at z
  at_ := fun _ _ _ z => by simp at z
  pin := fun q hq => by
    rcases List.mem_append.mp hq with hq | hq
    · obtain ⟨_, h2, h3⟩ := mem_hidP.mp hq
      exact ⟨h3, h2, by simp⟩
    · exact ⟨(S.pin q hq).1, (S.pin q hq).2.1, by simp⟩
  pnd := by
    rw [List.map_append]
    refine List.nodup_append.mpr ⟨hidP_nodup S.nd, S.pnd, fun a ha b hb z => ?_⟩
    obtain ⟨q, hq, e⟩ := List.mem_map.mp ha
    obtain ⟨r, hr, e2⟩ := List.mem_map.mp hb
    exact (S.pin r hr).2.2 (by rw [e2, ← z, ← e]; exact (mem_hidP.mp hq).1)
theorem Sim.unhide {F' : Hp} {m' : List Addr} {h' : OH} {H' : Hp} (S : Sim K P F m h H) (s : Same F F') (S' : Sim K (hidP F m H ++ P) F' m' h' H') : Sim K P F' m h H' where
  sub := S'.sub
  len := S.len
  nd := S.nd
  live := fun a ha => by
    cases e : F a with
    | some o => exact ⟨o, S'.sub a o (s a o e)⟩
    | none =>
      obtain ⟨o, q⟩ := S.live a ha
      exact ⟨o, (S'.pin (a, o) (List.mem_append_left _ (mem_hidP.mpr ⟨ha, e, q⟩))).1⟩
  at_ := fun i a o e1 e2 => by
    have ha := List.mem_of_getElem? e1
    have key : ∀ u, H a = some u → F a = none → H' a = some u ∧ F' a = none := fun u q z =>
      let t := S'.pin (a, u) (List.mem_append_left _ (mem_hidP.mpr ⟨ha, z, q⟩)); ⟨t.1, t.2.1⟩
    have x : Ext F m F' m := ⟨s, List.prefix_rfl⟩
    have ok := S.at_ i a o e1 e2
    cases o with
    | lst xs =>
      obtain ⟨vs, h1, h2, h3⟩ := ok
      obtain ⟨k1, k2⟩ := key _ h1 h3
      exact ⟨vs, k1, h2.mono x, k2⟩
    | ins C fs =>
      obtain ⟨dx, fv, h1, h2, h3, h4⟩ := ok
      obtain ⟨k1, k2⟩ := key _ h1 h4
      exact ⟨dx, fv, k1, h2, h3.mono x, k2⟩
    | dct kvs =>
      obtain ⟨ks, h1, h2, h3⟩ := ok
      obtain ⟨k1, k2⟩ := key _ h1 h3
      exact ⟨ks, k1, h2.mono x, k2⟩
    | dead => trivial
  pin := fun q hq => by
    obtain ⟨h1, h2, _⟩ := S'.pin q (List.mem_append_right _ hq)
    exact ⟨h1, h2, (S.pin q hq).2.2⟩
  pnd := S.pnd
end
/-! ### values without own objects -/
mutual
def D.pure : D → Bool
  | .non | .bl _ | .int _ | .str _ => true
  | .lst xs | .tup xs | .scr xs => D.pureL xs
  | .dct kvs => D.pureK kvs
  | .obj _ fs => D.pureF fs
  | .ref _ => false
  | .exc _ => true
  | .excf _ _ d => d.pure
def D.pureL : List D → Bool
  | [] => true
  | x :: xs => x.pure && D.pureL xs
def D.pureK : List (Key × D) → Bool
  | [] => true
  | x :: xs => x.2.pure && D.pureK xs
def D.pureF : List (String × D) → Bool
  | [] => true
  | x :: xs => x.2.pure && D.pureF xs
end
theorem and2 {a b : Bool} (h : (a && b) = true) : a = true ∧ b = true := Bool.and_eq_true_iff.mp h
theorem Den.pureM {K : PySem.W.Frag} {F : Hp} {m m' : List Addr} {v : V} {d : D} (h : Den K F m v d) : d.pure = true → Den K F m' v d :=
  Den.rec (motive_1 := fun v d _ => d.pure = true → Den K F m' v d) (motive_2 := fun v d _ => D.pureL d = true → DenL K F m' v d) (motive_3 := fun v d _ => D.pureK d = true → DenK K F m' v d) (motive_4 := fun v d _ => D.pureF d = true → DenF K F m' v d)
    (fun _ => .non) (fun b _ => .bl b) (fun i _ => .int i) (fun x _ => .str x)
    (fun q _ r e => .lst q (r (by simpa [D.pure] using e))) (fun q _ r e => .scr q (r (by simpa [D.pure] using e))) (fun q _ r e => .tup q (r (by simpa [D.pure] using e))) (fun q _ r e => .dct q (r (by simpa [D.pure] using e))) (fun q t _ r e => .obj q t (r (by simpa [D.pure] using e)))
    (fun _ e => by simp [D.pure] at e) (fun q _ => .exc q) (fun q q2 _ r e => .excf q q2 (r (by simpa [D.pure] using e)))
    (fun _ => .nil) (fun _ _ a b e => by
      have e' := and2 (by simpa only [D.pureL] using e)
      exact .cons (a e'.1) (b e'.2))
    (fun _ => .nil) (fun _ _ a b e => by
      have e' := and2 (by simpa only [D.pureK] using e)
      exact .cons (a e'.1) (b e'.2))
    (fun _ => .nil) (fun _ _ a b e => by
      have e' := and2 (by simpa only [D.pureF] using e)
      exact .cons (a e'.1) (b e'.2)) h
theorem DenL.pureM {K : PySem.W.Frag} {F : Hp} {m m' : List Addr} : ∀ {vs : List V} {ds : List D}, DenL K F m vs ds → D.pureL ds = true → DenL K F m' vs ds
  | _, _, .nil, _ => .nil
  | _, _, .cons h t, e => by
    have e' := and2 (by simpa only [D.pureL] using e)
    exact .cons (h.pureM e'.1) (DenL.pureM t e'.2)
end HR
set_option Elab.async false
set_option linter.all false
set_option maxRecDepth 100000
set_option maxHeartbeats 2000000
/-! LayB: the judgements over plain functions; names, constants, operators, displays. -/
namespace HR
open PySem L2
/-- an exception's own dict -/
def PayD (K : PySem.W.Frag) (F : Hp) (m : List Addr) : Pay → Option Addr → Prop
  | none, od => od = none
  | some q, od => ∃ a v, od = some a ∧ F a = some (.xd [(Str.ofString q.1, v)]) ∧ Den K F m v q.2
/-- the slots -/
structure EnvR (K : PySem.W.Frag) (F : Hp) (m : List Addr) (σ : St) (e : Env') : Prop where
  len : σ.length = e.length
  at_ : ∀ (i : Nat) (d : D), e[i]? = some (some d) → ∃ v, σ[i]? = some (some v) ∧ Den K F m v d
abbrev Rel (β α : Type) := Hp → List Addr → β → α → Prop
def FinG {α β : Type} (K : PySem.W.Frag) (P : Pins) (W : WX) (σ : St) (rel : Rel β α) (Q : β → Hp → Prop) (F : Hp) (m : List Addr) : Res α → Prop
  | .ok d h' => ∀ v F' m' H', Ext F m F' m' → Sim K P F' m' h' H' → rel F' m' v d → Q v H'
  | .exc C p h' => ∀ od F' m' H', Ext F m F' m' → Sim K P F' m' h' H' → PayD K F' m' p od → W (.ref (He.ga K (Str.ofString C))) od σ H'
  | .bad => False
/-- the reading of a plain function -/
def rdG {α β : Type} (K : PySem.W.Frag) (W : WX) (rel : Rel β α) (f : Env' → OH → Res α) (σ : St) (H : Hp) (Q : β → Hp → Prop) : Prop :=
  ∃ P F m e h, Sim K P F m h H ∧ EnvR K F m σ e ∧ FinG K P W σ rel Q F m (f e h)
abbrev relB : Rel Bool Bool := fun _ _ b c => b = c
abbrev DE (X : Cx) (W : WX) (e : Expr) (f : SE) : Prop := PE X e (rdG X.K W (Den X.K) f)
abbrev DT (X : Cx) (W : WX) (e : Expr) (f : ST) : Prop := PT X e (rdG X.K W relB f)
abbrev DW (X : Cx) (W : WX) (e : Expr) (f : ST) : Prop := PW X e (rdG X.K W relB f)
abbrev DA (X : Cx) (W : WX) (es : List Expr) (f : SA) : Prop := PA X es (rdG X.K W (DenL X.K) f)
section
variable {K : PySem.W.Frag} {P : Pins} {W : WX} {σ : St} {F F' : Hp} {m m' : List Addr} {h : OH} {H : Hp} {e : Env'}
theorem EnvR.mono (x : Ext F m F' m') (E : EnvR K F m σ e) : EnvR K F' m' σ e :=
  ⟨E.len, fun i d q => let ⟨v, a, b⟩ := E.at_ i d q; ⟨v, a, b.mono x⟩⟩
theorem FinG.weak {α β : Type} {rel : Rel β α} {Q : β → Hp → Prop} (x : Ext F m F' m') : ∀ {r : Res α}, FinG K P W σ rel Q F m r → FinG K P W σ rel Q F' m' r
  | .ok _ _, q => fun v F2 m2 H2 y S d => q v F2 m2 H2 (x.trans y) S d
  | .exc _ _ _, q => fun od F2 m2 H2 y S d => q od F2 m2 H2 (x.trans y) S d
  | .bad, q => q
theorem FinG.ok {α β : Type} {rel : Rel β α} {Q : β → Hp → Prop} {a : α} {v : β} (q : FinG K P W σ rel Q F m (.ok a h)) (S : Sim K P F m h H) (r : rel F m v a) : Q v H := q v F m H .refl S r
theorem FinG.okX {α β : Type} {rel : Rel β α} {Q : β → Hp → Prop} {a : α} {v : β} (q : FinG K P W σ rel Q F m (.ok a h)) (x : Ext F m F' m') (S : Sim K P F' m' h H) (r : rel F' m' v a) : Q v H := q v F' m' H x S r
/-- one step -/
theorem rd_seq {α β γ δ : Type} {rel1 : Rel β α} {rel2 : Rel δ γ} {f : Env' → OH → Res α} {g : α → OH → Res γ} {Q : δ → Hp → Prop} {R : β → Hp → Prop} (S : Sim K P F m h H) (E : EnvR K F m σ e)
    (fin : FinG K P W σ rel2 Q F m ((f e h).bind g))
    (k : ∀ F' m' h' H' v a, Ext F m F' m' → Sim K P F' m' h' H' → EnvR K F' m' σ e → rel1 F' m' v a → FinG K P W σ rel2 Q F' m' (g a h') → R v H') : rdG K W rel1 f σ H R := by
  refine ⟨P, F, m, e, h, S, E, ?_⟩
  cases q : f e h with
  | ok a h1 =>
    rw [q] at fin
    exact fun v F1 m1 H1 x S1 r => k F1 m1 h1 H1 v a x S1 (E.mono x) r (FinG.weak x fin)
  | exc C p h1 =>
    rw [q] at fin
    exact fin
  | bad =>
    rw [q] at fin
    exact fin.elim
end
section
variable {X : Cx} {W : WX}
theorem PE.of {e : Expr} {t t' : TE} (h : PE X e t) (w : ∀ σ H Q, t' σ H Q → t σ H Q) : PE X e t' := ⟨fun pins s σ H Q I q => h.run pins s σ H Q I (w σ H Q q)⟩
theorem PT.of {e : Expr} {t t' : TT} (h : PT X e t) (w : ∀ σ H Q, t' σ H Q → t σ H Q) : PT X e t' := ⟨fun pins s σ H Q I q => h.run pins s σ H Q I (w σ H Q q)⟩
theorem PA.of {es : List Expr} {t t' : TA} (h : PA X es t) (w : ∀ σ H Q, t' σ H Q → t σ H Q) : PA X es t' := ⟨fun pos pins s σ H Q I q => h.run pos pins s σ H Q I (w σ H Q q)⟩
/-! ### names, constants -/
def sVar (i : Nat) : SE := fun e h => match e[i]? with
  | some (some d) => .ok d h
  | _ => .bad
def sC (d : D) : SE := fun _ h => .ok d h
theorem de_of_var {x : Expr} {i : Nat} (hx : PE X x (tVar i)) : DE X W x (sVar i) := PE.of hx fun σ H Q => by
  rintro ⟨P, F, m, e, h, S, E, fin⟩
  unfold sVar at fin
  cases q : e[i]? with
  | none => rw [q] at fin; exact fin.elim
  | some o =>
    cases o with
    | none => rw [q] at fin; exact fin.elim
    | some d =>
      rw [q] at fin
      obtain ⟨v, e1, r⟩ := E.at_ i d q
      exact ⟨v, e1, fin.ok S r⟩
theorem de_var (i : Nat) {x : Str} {pos : Pos} (hN : X.N[i]? = some x := by rfl) (hv : Vis X.env.scope x := by first | exact Or.inl rfl | exact Or.inr (Or.inl rfl) | exact Or.inr (Or.inr rfl)) (hd : (x == ("__debug__" : Str)) = false := by decide)
    (hcd : (x == ("__classdict__" : Str)) = false := by decide) : DE X W (.Name x pos) (sVar i) := de_of_var (pe_var hN hv hd hcd)
theorem de_of_const {x : Expr} {v : V} {d : D} (hx : PE X x (tC v)) (r : ∀ F m, Den X.K F m v d) : DE X W x (sC d) := PE.of hx fun σ H Q => by
  rintro ⟨P, F, m, e, h, S, E, fin⟩
  exact fin.ok S (r F m)
theorem de_int {i : Int} {j : Nat} {pos : Pos} : DE X W (.Constant (.int i) j pos) (sC (.int i)) := de_of_const pe_int fun _ _ => .int i
theorem de_bl {b : Bool} {j : Nat} {pos : Pos} : DE X W (.Constant (.bool b) j pos) (sC (.bl b)) := de_of_const pe_bl fun _ _ => .bl b
theorem de_non {j : Nat} {pos : Pos} : DE X W (.Constant .none j pos) (sC .non) := de_of_const pe_non fun _ _ => .non
theorem de_str {x : Str} {j : Nat} {pos : Pos} : DE X W (.Constant (.str x) j pos) (sC (.str x)) := de_of_const pe_str fun _ _ => .str x
theorem de_globI {x : Str} {i : Int} {pos : Pos} (hg : Gl X x) (hm : ∃ t, X.mg x = some (.int i t)) (hd : (x == ("__debug__" : Str)) = false := by decide) : DE X W (.Name x pos) (sC (.int i)) := by
  obtain ⟨t, e⟩ := hm
  exact de_of_const (pe_glob (v := .int i) hg e ⟨t, rfl⟩ hd) fun _ _ => .int i
theorem de_globS {x z : Str} {pos : Pos} (hg : Gl X x) (hm : ∃ t, X.mg x = some (.str z t)) (hd : (x == ("__debug__" : Str)) = false := by decide) : DE X W (.Name x pos) (sC (.str z)) := by
  obtain ⟨t, e⟩ := hm
  exact de_of_const (pe_glob (v := .str z) hg e ⟨t, rfl⟩ hd) fun _ _ => .str z
/-! ### two operands, one operand -/
def sBin (g : D → D → OH → Res D) (a b : SE) : SE := fun e h => (a e h).bind fun x h1 => (b e h1).bind fun y h2 => g x y h2
def sUn (g : D → OH → Res D) (a : SE) : SE := fun e h => (a e h).bind g
def OpH (K : PySem.W.Frag) (W : WX) (g : D → D → OH → Res D) (r : R2) : Prop :=
  ∀ (P : Pins) (F : Hp) (m : List Addr) (h : OH) (H : Hp) (σ : St) (Q : VK) (x y : V) (dx dy : D), Sim K P F m h H → Den K F m x dx → Den K F m y dy → FinG K P W σ (Den K) Q F m (g dx dy h) → r x y H Q
theorem rd_op {g : D → D → OH → Res D} {r : R2} (hg : OpH X.K W g r) {fa fb : SE} {σ : St} {H : Hp} {Q : VK} (q : rdG X.K W (Den X.K) (sBin g fa fb) σ H Q) : tOp r (rdG X.K W (Den X.K) fa) (rdG X.K W (Den X.K) fb) σ H Q := by
  obtain ⟨P, F, m, e, h, S, E, fin⟩ := q
  refine rd_seq S E fin fun F1 m1 h1 H1 x dx x1 S1 E1 r1 fin1 => ?_
  refine rd_seq S1 E1 fin1 fun F2 m2 h2 H2 y dy x2 S2 E2 r2 fin2 => ?_
  exact hg P F2 m2 h2 H2 σ Q x y dx dy S2 (r1.mono x2) r2 fin2
theorem de_op {a b : Expr} {op : Operator} {pos : Pos} {g : D → D → OH → Res D} {r : R2} {fa fb : SE} (ho : OpR X (binaryOp op) r) (hg : OpH X.K W g r) (ha : DE X W a fa) (hb : DE X W b fb) : DE X W (.BinOp a op b pos) (sBin g fa fb) :=
  PE.of (pe_op ho ha hb) fun _ _ _ => rd_op hg
theorem de_cmp {a b : Expr} {op : CmpOp} {pos : Pos} {g : D → D → OH → Res D} {r : R2} {fa fb : SE} (ho : OpR X (compareOp op) r) (hg : OpH X.K W g r) (hm : behindInMarks op b = false) (ha : DE X W a fa) (hb : DE X W b fb) : DE X W (.Compare a [op] [b] pos) (sBin g fa fb) :=
  PE.of (pe_cmpR ho ha hb hm) fun _ _ _ => rd_op hg
theorem de_un {a : Expr} {op : UnaryOp} {pos : Pos} {g : D → OH → Res D} {r : V → Hp → VK → Prop} {fa : SE} (ho : UnR X (unaryOp op) r)
    (hg : ∀ (P : Pins) (F : Hp) (m : List Addr) (h : OH) (H : Hp) (σ : St) (Q : VK) (x : V) (dx : D), Sim X.K P F m h H → Den X.K F m x dx → FinG X.K P W σ (Den X.K) Q F m (g dx h) → r x H Q) (ha : DE X W a fa) : DE X W (.UnaryOp op a pos) (sUn g fa) :=
  PE.of (pe_un ho ha) fun σ H Q => by
    rintro ⟨P, F, m, e, h, S, E, fin⟩
    exact rd_seq S E fin fun F1 m1 h1 H1 x dx x1 S1 E1 r1 fin1 => hg P F1 m1 h1 H1 σ Q x dx S1 r1 fin1
/-! ### what is read as a sequence -/
/-- lists that may be read by every rule -/
def lstAt (h : OH) : D → Option (List D)
  | .lst xs => some xs
  | .ref i => (match h[i]? with
    | some (.lst xs) => some xs
    | _ => none)
  | _ => none
def tupAt : D → Option (List D)
  | .tup xs => some xs
  | _ => none
def seqAt (h : OH) : D → Option (List D)
  | .lst xs => some xs
  | .tup xs => some xs
  | .scr xs => some xs
  | .ref i => (match h[i]? with
    | some (.lst xs) => some xs
    | _ => none)
  | _ => none
section
variable {K : PySem.W.Frag} {P : Pins} {F : Hp} {m : List Addr} {h : OH} {H : Hp} {v : V} {d : D} {xs : List D}
theorem Sim.own (S : Sim K P F m h H) {i : Nat} {a : Addr} (e : m[i]? = some a) : ∃ o, h[i]? = some o ∧ OOk K F m H a o := by
  have hi : i < h.length := by rw [← S.len]; exact (List.getElem?_eq_some_iff.mp e).1
  exact ⟨h[i], List.getElem?_eq_getElem hi, S.at_ i a _ e (List.getElem?_eq_getElem hi)⟩
theorem lstAt_ok (S : Sim K P F m h H) (r : Den K F m v d) (q : lstAt h d = some xs) : ∃ a vs, v = .ref a ∧ H a = some (.lst vs) ∧ DenL K F m vs xs := by
  cases r with
  | lst e t => cases q; exact ⟨_, _, rfl, S.sub _ _ e, t⟩
  | ref e =>
    obtain ⟨o, h1, h2⟩ := S.own e
    dsimp only [lstAt] at q
    rw [h1] at q
    cases o with
    | lst ys =>
      cases q
      obtain ⟨vs, k1, k2, _⟩ := h2
      exact ⟨_, vs, rfl, k1, k2⟩
    | _ => cases q
  | _ => cases q
theorem tupAt_ok (S : Sim K P F m h H) (r : Den K F m v d) (q : tupAt d = some xs) : ∃ a vs, v = .ref a ∧ H a = some (.tup vs) ∧ DenL K F m vs xs := by
  cases r with
  | tup e t => cases q; exact ⟨_, _, rfl, S.sub _ _ e, t⟩
  | _ => cases q
theorem seqAt_ok (S : Sim K P F m h H) (r : Den K F m v d) (q : seqAt h d = some xs) : ∃ a vs, v = .ref a ∧ (SqL K H a vs ∨ SqT K H a vs) ∧ DenL K F m vs xs := by
  cases r with
  | lst e t => cases q; exact ⟨_, _, rfl, .inl (.inl (.inl (S.sub _ _ e))), t⟩
  | scr e t => cases q; exact ⟨_, _, rfl, .inl (S.sub.seq e), t⟩
  | tup e t => cases q; exact ⟨_, _, rfl, .inr (.inl (.inl (S.sub _ _ e))), t⟩
  | ref e =>
    obtain ⟨o, h1, h2⟩ := S.own e
    dsimp only [seqAt] at q
    rw [h1] at q
    cases o with
    | lst ys =>
      cases q
      obtain ⟨vs, k1, k2, _⟩ := h2
      exact ⟨_, vs, rfl, .inl (.inl (.inl k1)), k2⟩
    | _ => cases q
  | _ => cases q
/-- lists alone -/
def lsqAt (h : OH) : D → Option (List D)
  | .tup _ => none
  | d => seqAt h d
theorem lsqAt_ok (S : Sim K P F m h H) (r : Den K F m v d) (q : lsqAt h d = some xs) : ∃ a vs, v = .ref a ∧ SqL K H a vs ∧ DenL K F m vs xs := by
  cases r with
  | lst e t => cases q; exact ⟨_, _, rfl, .inl (.inl (S.sub _ _ e)), t⟩
  | scr e t => cases q; exact ⟨_, _, rfl, S.sub.seq e, t⟩
  | ref e =>
    obtain ⟨a, vs, e1, e2, e3⟩ := lstAt_ok S (.ref e) (show lstAt h _ = some xs from q)
    exact ⟨a, vs, e1, .inl (.inl e2), e3⟩
  | _ => cases q
theorem FinG.bad_elim {α β : Type} {rel : Rel β α} {W : WX} {σ : St} {Q : β → Hp → Prop} {p : Prop} (q : FinG K P W σ rel Q F m (.bad : Res α)) : p := False.elim q
theorem den_int {i : Int} (r : Den K F m v (.int i)) : v = .int i := by cases r; rfl
theorem den_str {x : Str} (r : Den K F m v (.str x)) : v = .str x := by cases r; rfl
theorem den_bl {b : Bool} (r : Den K F m v (.bl b)) : v = .bl b := by cases r; rfl
end
/-- a new list -/
theorem FinG.newL {K : PySem.W.Frag} {P : Pins} {F : Hp} {m : List Addr} {h : OH} {H : Hp} {σ : St} {Q : VK} {vs : List V} {xs : List D} {p : Addr} (fin : FinG K P W σ (Den K) Q F m (.ok (.lst xs) h)) (S : Sim K P F m h H) (r : DenL K F m vs xs) (hp : H p = none) : Q (.ref p) (upd H p (.lst vs)) :=
  fin.okX (S.extF hp) (S.frozen hp) (.lst upd_same (r.mono (S.extF hp)))
theorem FinG.newT {K : PySem.W.Frag} {P : Pins} {F : Hp} {m : List Addr} {h : OH} {H : Hp} {σ : St} {Q : VK} {vs : List V} {xs : List D} {p : Addr} (fin : FinG K P W σ (Den K) Q F m (.ok (.tup xs) h)) (S : Sim K P F m h H) (r : DenL K F m vs xs) (hp : H p = none) : Q (.ref p) (upd H p (.tup vs)) :=
  fin.okX (S.extF hp) (S.frozen hp) (.tup upd_same (r.mono (S.extF hp)))
/-! ### arithmetic -/
def opI2 (f : Int → Int → D) (c : Int → Int → Bool) : D → D → OH → Res D
  | .int i, .int j, h => if c i j then .ok (f i j) h else .bad
  | _, _, _ => .bad
theorem opI2_h {f : Int → Int → D} {g : Int → Int → V} {c : Int → Int → Bool} {C : Int → Int → Prop} (hc : ∀ i j, c i j = true → C i j) (hf : ∀ (F : Hp) (m : List Addr) i j, Den X.K F m (g i j) (f i j)) : OpH X.K W (opI2 f c) (rI C g) := by
  intro P F m h H σ Q x y dx dy S r1 r2 fin
  cases r1 with
  | int i =>
    cases r2 with
    | int j =>
      dsimp only [opI2] at fin
      by_cases hh : c i j = true
      · rw [if_pos hh] at fin
        exact ⟨i, j, rfl, rfl, hc i j hh, fin.ok S (hf F m i j)⟩
      · rw [if_neg hh] at fin
        exact fin.bad_elim
    | _ => exact fin.bad_elim
  | _ => exact fin.bad_elim
theorem opI2_h0 {f : Int → Int → D} {g : Int → Int → V} (hf : ∀ (F : Hp) (m : List Addr) i j, Den X.K F m (g i j) (f i j)) : OpH X.K W (opI2 f fun _ _ => true) (rI0 g) := by
  intro P F m h H σ Q x y dx dy S r1 r2 fin
  obtain ⟨i, j, e1, e2, _, q⟩ := opI2_h (C := fun _ _ => True) (fun _ _ _ => trivial) hf P F m h H σ Q x y dx dy S r1 r2 fin
  exact ⟨i, j, e1, e2, q⟩
abbrev big : Nat := 1000000
/-- a + b -/
def opAdd : D → D → OH → Res D
  | .int i, .int j, h => .ok (.int (i + j)) h
  | .str x, .str y, h => if x.length + y.length ≤ big then .ok (.str (x ++ y)) h else .bad
  | .tup xs, .tup ys, h => if xs ≠ [] ∧ xs.length + ys.length ≤ big then .ok (.tup (xs ++ ys)) h else .bad
  | a, b, h => (match lstAt h a, lstAt h b with
    | some xs, some ys => if xs.length + ys.length ≤ big then .ok (.lst (xs ++ ys)) h else .bad
    | _, _ => .bad)
theorem big_line {n : Nat} (h : n ≤ big) : n ≤ sizeLine := Nat.le_trans h (by decide)
theorem big_lt {n : Nat} (h : n < big) : n < sizeLine := Nat.lt_of_lt_of_le h (by decide)
abbrev rAddU (K : PySem.W.Frag) : R2 := fun x y H Q => rI0 (fun i j => .int (i + j)) x y H Q ∨ ((∃ i j, x = .str i ∧ y = .str j ∧ i.length + j.length ≤ sizeLine ∧ Q (.str (i ++ j)) H) ∨ (rCat x y H Q ∨ rCatT K x y H Q))
theorem opAdd_h : OpH X.K W opAdd (rAddU X.K) := by
  intro P F m h H σ Q x y dx dy S r1 r2 fin
  have lists : ∀ {a b : D}, Den X.K F m x a → Den X.K F m y b → FinG X.K P W σ (Den X.K) Q F m (match lstAt h a, lstAt h b with
    | some xs, some ys => if xs.length + ys.length ≤ big then .ok (.lst (xs ++ ys)) h else .bad
    | _, _ => .bad) → rAddU X.K x y H Q := by
    intro a b q1 q2 fin
    cases e1 : lstAt h a with
    | none => rw [e1] at fin; exact fin.bad_elim
    | some xs =>
      cases e2 : lstAt h b with
      | none => rw [e1, e2] at fin; exact fin.bad_elim
      | some ys =>
        rw [e1, e2] at fin
        dsimp only at fin
        obtain ⟨l, vs, rfl, hl, rl⟩ := lstAt_ok S q1 e1
        obtain ⟨l2, ws, rfl, hl2, rl2⟩ := lstAt_ok S q2 e2
        by_cases hz : xs.length + ys.length ≤ big
        · rw [if_pos hz] at fin
          exact .inr (.inr (.inl ⟨l, l2, vs, ws, rfl, rfl, hl, hl2, by rw [rl.length, rl2.length]; exact big_line hz, fun p hp => fin.newL S (rl.append rl2) hp⟩))
        · rw [if_neg hz] at fin
          exact fin.bad_elim
  cases dx with
  | int i =>
    cases dy with
    | int j =>
      cases den_int r1
      cases den_int r2
      exact .inl ⟨i, j, rfl, rfl, fin.ok S (.int _)⟩
    | _ => exact lists r1 r2 fin
  | str a =>
    cases dy with
    | str b =>
      cases den_str r1
      cases den_str r2
      dsimp only [opAdd] at fin
      by_cases hz : a.length + b.length ≤ big
      · rw [if_pos hz] at fin
        exact .inr (.inl ⟨a, b, rfl, rfl, big_line hz, fin.ok S (.str _)⟩)
      · rw [if_neg hz] at fin
        exact fin.bad_elim
    | _ => exact lists r1 r2 fin
  | tup xs =>
    cases dy with
    | tup ys =>
      dsimp only [opAdd] at fin
      by_cases hz : xs ≠ [] ∧ xs.length + ys.length ≤ big
      · rw [if_pos hz] at fin
        obtain ⟨l, vs, rfl, hl, rl⟩ := tupAt_ok S r1 (rfl : tupAt (.tup xs) = some xs)
        obtain ⟨l2, ws, rfl, hl2, rl2⟩ := tupAt_ok S r2 (rfl : tupAt (.tup ys) = some ys)
        refine .inr (.inr (.inr ⟨l, l2, vs, ws, rfl, rfl, .inl (.inl hl), .inl (.inl hl2), fun z => hz.1 ?_, by rw [rl.length, rl2.length]; exact big_line hz.2, ?_⟩))
        · subst z
          cases rl
          rfl
        · refine ⟨fun z => ?_, fun _ p hp => fin.newT S (rl.append rl2) hp⟩
          subst z
          cases rl2
          rw [List.append_nil] at fin
          exact fin.ok S r1
      · rw [if_neg hz] at fin
        exact fin.bad_elim
    | _ => exact lists r1 r2 fin
  | _ => exact lists r1 r2 fin
theorem or_add : OpR X (binaryOp .Add) (rAddU X.K) := op_add.or (op_add_str.or (op_cat.or op_catT))
theorem de_add {a b : Expr} {pos : Pos} {fa fb : SE} (ha : DE X W a fa) (hb : DE X W b fb) : DE X W (.BinOp a .Add b pos) (sBin opAdd fa fb) := de_op or_add opAdd_h ha hb
abbrev opSub := opI2 (fun i j => .int (i - j)) fun _ _ => true
theorem de_sub {a b : Expr} {pos : Pos} {fa fb : SE} (ha : DE X W a fa) (hb : DE X W b fb) : DE X W (.BinOp a .Sub b pos) (sBin opSub fa fb) := de_op op_sub (opI2_h0 fun _ _ _ _ => .int _) ha hb
/-- a product: one side below 2^64, or both not too large -/
def mulOk (i j : Int) : Bool := decide (i.natAbs < 2 ^ 64) || decide (j.natAbs < 2 ^ 64) || decide (i.natAbs.log2 + j.natAbs.log2 < 1000000)
def opMul : D → D → OH → Res D
  | .int i, .int j, h => if mulOk i j then .ok (.int (i * j)) h else .bad
  | a, .int k, h => (match lstAt h a with
    | some xs => if -(2 ^ 63) ≤ k ∧ k < 2 ^ 63 ∧ xs.length * k.toNat ≤ big then .ok (.lst (List.replicate k.toNat xs).flatten) h else .bad
    | none => .bad)
  | _, _, _ => .bad
theorem mulOk_c {i j : Int} (h : mulOk i j = true) : CMul i j ∨ CMulW i j := by
  unfold mulOk at h
  simp only [Bool.or_eq_true, decide_eq_true_eq] at h
  rcases h with (h | h) | h
  · exact .inl (.inl (by constructor <;> omega))
  · exact .inl (.inr (by constructor <;> omega))
  · exact .inr h
abbrev rMulU : R2 := fun x y H Q => rI CMul (fun i j => .int (i * j)) x y H Q ∨ (rI CMulW (fun i j => .int (i * j)) x y H Q ∨ rRep x y H Q)
theorem opMul_h : OpH X.K W opMul rMulU := by
  intro P F m h H σ Q x y dx dy S r1 r2 fin
  have lists : ∀ {a : D} {k : Int}, Den X.K F m x a → y = .int k → FinG X.K P W σ (Den X.K) Q F m (match lstAt h a with
    | some xs => if -(2 ^ 63) ≤ k ∧ k < 2 ^ 63 ∧ xs.length * k.toNat ≤ big then .ok (.lst (List.replicate k.toNat xs).flatten) h else .bad
    | none => .bad) → rMulU x y H Q := by
    intro a k q1 ey fin
    cases e1 : lstAt h a with
    | none => rw [e1] at fin; exact fin.bad_elim
    | some xs =>
      rw [e1] at fin
      dsimp only at fin
      obtain ⟨l, vs, rfl, hl, rl⟩ := lstAt_ok S q1 e1
      by_cases hz : -(2 ^ 63) ≤ k ∧ k < 2 ^ 63 ∧ xs.length * k.toNat ≤ big
      · rw [if_pos hz] at fin
        exact .inr (.inr ⟨l, k, vs, rfl, ey, hl, hz.1, hz.2.1, by rw [rl.length]; exact big_line hz.2.2, fun p hp => fin.newL S (rl.rep _) hp⟩)
      · rw [if_neg hz] at fin
        exact fin.bad_elim
  cases dy with
  | int j =>
    cases den_int r2
    cases dx with
    | int i =>
      cases den_int r1
      dsimp only [opMul] at fin
      by_cases hm : mulOk i j = true
      · rw [if_pos hm] at fin
        rcases mulOk_c hm with c | c
        · exact .inl ⟨i, j, rfl, rfl, c, fin.ok S (.int _)⟩
        · exact .inr (.inl ⟨i, j, rfl, rfl, c, fin.ok S (.int _)⟩)
      · rw [if_neg hm] at fin
        exact fin.bad_elim
    | _ => exact lists r1 rfl fin
  | _ => cases dx <;> exact fin.bad_elim
theorem de_mul {a b : Expr} {pos : Pos} {fa fb : SE} (ha : DE X W a fa) (hb : DE X W b fb) : DE X W (.BinOp a .Mult b pos) (sBin opMul fa fb) := de_op (op_mul.or (op_mulW.or op_rep)) opMul_h ha hb
def divOk (_ j : Int) : Bool := decide (0 < j) && decide (j.natAbs.log2 < 9000)
abbrev opDiv := opI2 (fun i j => .int (i / j)) divOk
abbrev opMod := opI2 (fun i j => .int (i % j)) fun _ j => decide (0 < j)
theorem de_div {a b : Expr} {pos : Pos} {fa fb : SE} (ha : DE X W a fa) (hb : DE X W b fb) : DE X W (.BinOp a .FloorDiv b pos) (sBin opDiv fa fb) :=
  de_op op_fdivW (opI2_h (fun i j h => by
    unfold divOk at h
    simp only [Bool.and_eq_true, decide_eq_true_eq] at h
    exact h) fun _ _ _ _ => .int _) ha hb
theorem de_mod {a b : Expr} {pos : Pos} {fa fb : SE} (ha : DE X W a fa) (hb : DE X W b fb) : DE X W (.BinOp a .Mod b pos) (sBin opMod fa fb) := de_op op_mod (opI2_h (fun i j h => of_decide_eq_true h) fun _ _ _ _ => .int _) ha hb
abbrev opPow := opI2 (fun i j => .int (i ^ j.toNat)) fun i j => decide (0 ≤ j) && decide (j ≤ 1000000) && decide (i.natAbs < 2 ^ 64)
theorem de_pow {a b : Expr} {pos : Pos} {fa fb : SE} (ha : DE X W a fa) (hb : DE X W b fb) : DE X W (.BinOp a .Pow b pos) (sBin opPow fa fb) :=
  de_op op_pow (opI2_h (fun i j h => by
    simp only [Bool.and_eq_true, decide_eq_true_eq] at h
    exact ⟨h.1.1, h.1.2, h.2⟩) fun _ _ _ _ => .int _) ha hb
def opNeg : D → OH → Res D
  | .int i, h => .ok (.int (-i)) h
  | _, _ => .bad
theorem de_neg {a : Expr} {pos : Pos} {fa : SE} (ha : DE X W a fa) : DE X W (.UnaryOp .USub a pos) (sUn opNeg fa) := de_un un_neg (fun P F m h H σ Q x dx S r fin => by
  cases r with
  | int i => exact ⟨i, rfl, fin.ok S (.int _)⟩
  | _ => exact fin.bad_elim) ha
/-! ### order -/
abbrev opLt := opI2 (fun i j => .bl (decide (i < j))) fun _ _ => true
abbrev opLe := opI2 (fun i j => .bl (decide (i ≤ j))) fun _ _ => true
abbrev opGt := opI2 (fun i j => .bl (decide (j < i))) fun _ _ => true
abbrev opGe := opI2 (fun i j => .bl (decide (j ≤ i))) fun _ _ => true
theorem de_le {a b : Expr} {pos : Pos} {fa fb : SE} (ha : DE X W a fa) (hb : DE X W b fb) : DE X W (.Compare a [.LtE] [b] pos) (sBin opLe fa fb) := de_cmp op_le (opI2_h0 fun _ _ _ _ => .bl _) (nomark _) ha hb
theorem de_ge {a b : Expr} {pos : Pos} {fa fb : SE} (ha : DE X W a fa) (hb : DE X W b fb) : DE X W (.Compare a [.GtE] [b] pos) (sBin opGe fa fb) := de_cmp op_ge (opI2_h0 fun _ _ _ _ => .bl _) (nomark _) ha hb
/-- a op b op' c -/
def sChain (g g' : D → D → OH → Res D) (a b c : SE) : SE := fun e h => (a e h).bind fun x h1 => (b e h1).bind fun y h2 => (g x y h2).bind fun z h3 => match z with
  | .bl true => (c e h3).bind fun u h4 => g' y u h4
  | .bl false => .ok (.bl false) h3
  | _ => .bad
/-! ### is None, is a bool -/
def opIs (neg : Bool) : D → D → OH → Res D
  | a, .non, h => .ok (.bl (match a with
    | .non => !neg
    | _ => neg)) h
  | _, _, _ => .bad
theorem den_is {K : PySem.W.Frag} {F : Hp} {m : List Addr} {v : V} {d : D} (r : Den K F m v d) : decide (v = .non) = (match d with
    | .non => true
    | _ => false) := by
  cases r <;> simp
theorem opIs_h : OpH X.K W (opIs false) (fun x y H Q => y = .non ∧ Q (.bl (decide (x = .non))) H) := by
  intro P F m h H σ Q x y dx dy S r1 r2 fin
  cases r2 with
  | non =>
    refine ⟨rfl, ?_⟩
    rw [den_is r1]
    cases dx <;> exact FinG.ok fin S (.bl _)
  | _ => cases dx <;> exact fin.bad_elim
theorem opIsNot_h : OpH X.K W (opIs true) (fun x y H Q => y = .non ∧ Q (.bl (!decide (x = .non))) H) := by
  intro P F m h H σ Q x y dx dy S r1 r2 fin
  cases r2 with
  | non =>
    refine ⟨rfl, ?_⟩
    rw [den_is r1]
    cases dx <;> exact FinG.ok fin S (.bl _)
  | _ => cases dx <;> exact fin.bad_elim
theorem de_is {a b : Expr} {pos : Pos} {fa fb : SE} (ha : DE X W a fa) (hb : DE X W b fb) : DE X W (.Compare a [.Is] [b] pos) (sBin (opIs false) fa fb) := de_cmp op_isN opIs_h (nomark _) ha hb
/-! ### arguments, displays -/
def sNil : SA := fun _ h => .ok [] h
def sCons (a : SE) (r : SA) : SA := fun e h => (a e h).bind fun x h1 => (r e h1).bind fun xs h2 => .ok (x :: xs) h2
theorem da_nil : DA X W [] sNil := PA.of pa_nil fun σ H Q => by
  rintro ⟨P, F, m, e, h, S, E, fin⟩
  exact fin.ok S .nil
theorem da_cons {a : Expr} {es : List Expr} {fa : SE} {fr : SA} (ha : DE X W a fa) (hr : DA X W es fr) (hs : starEach (a :: es) X.env = (false, eval a X.env) :: starEach es X.env := by rfl) : DA X W (a :: es) (sCons fa fr) :=
  PA.of (pa_cons ha hr hs) fun σ H Q => by
    rintro ⟨P, F, m, e, h, S, E, fin⟩
    refine rd_seq S E fin fun F1 m1 h1 H1 x dx x1 S1 E1 r1 fin1 => ?_
    refine rd_seq S1 E1 fin1 fun F2 m2 h2 H2 y dy x2 S2 E2 r2 fin2 => ?_
    exact fin2.ok S2 (.cons (r1.mono x2) r2)
def sTup (a : SA) : SE := fun e h => (a e h).bind fun xs h1 => if xs.length ≤ big then .ok (.tup xs) h1 else .bad
def sLst (a : SA) : SE := fun e h => (a e h).bind fun xs h1 => if xs.length ≤ big then .ok (.lst xs) h1 else .bad
/-- .. as an own object -/
def sLstO (a : SA) : SE := fun e h => (a e h).bind fun xs h1 => if xs.length ≤ big then .ok (.ref h1.length) (h1 ++ [.lst xs]) else .bad
theorem de_tup {es : List Expr} {j : Nat} {pos : Pos} {fa : SA} (ha : DA X W es fa) : DE X W (.Tuple es j pos) (sTup fa) := PE.of (pe_tup ha) fun σ H Q => by
  rintro ⟨P, F, m, e, h, S, E, fin⟩
  refine rd_seq S E fin fun F1 m1 h1 H1 x dx x1 S1 E1 r1 fin1 => ?_
  by_cases hz : dx.length ≤ big
  · rw [if_pos hz] at fin1
    exact ⟨by rw [r1.length]; exact big_line hz, fun p hp => fin1.newT S1 r1 hp⟩
  · rw [if_neg hz] at fin1
    exact fin1.bad_elim
theorem de_lst {es : List Expr} {pos : Pos} {fa : SA} (ha : DA X W es fa) : DE X W (.List es pos) (sLst fa) := PE.of (pe_lst ha) fun σ H Q => by
  rintro ⟨P, F, m, e, h, S, E, fin⟩
  refine rd_seq S E fin fun F1 m1 h1 H1 x dx x1 S1 E1 r1 fin1 => ?_
  by_cases hz : dx.length ≤ big
  · rw [if_pos hz] at fin1
    exact ⟨by rw [r1.length]; exact big_line hz, fun p hp => fin1.newL S1 r1 hp⟩
  · rw [if_neg hz] at fin1
    exact fin1.bad_elim
/-- a new own list -/
theorem FinG.ownL {K : PySem.W.Frag} {P : Pins} {F : Hp} {m : List Addr} {h : OH} {H : Hp} {σ : St} {Q : VK} {vs : List V} {xs : List D} {p : Addr} (fin : FinG K P W σ (Den K) Q F m (.ok (.ref h.length) (h ++ [.lst xs]))) (S : Sim K P F m h H) (r : DenL K F m vs xs) (hp : H p = none) : Q (.ref p) (upd H p (.lst vs)) :=
  fin.okX ext_new (S.alloc hp ⟨vs, upd_same, r.mono ext_new, S.free hp⟩) (.ref (by rw [← S.len]; simp))
theorem de_lstO {es : List Expr} {pos : Pos} {fa : SA} (ha : DA X W es fa) : DE X W (.List es pos) (sLstO fa) := PE.of (pe_lst ha) fun σ H Q => by
  rintro ⟨P, F, m, e, h, S, E, fin⟩
  refine rd_seq S E fin fun F1 m1 h1 H1 x dx x1 S1 E1 r1 fin1 => ?_
  by_cases hz : dx.length ≤ big
  · rw [if_pos hz] at fin1
    exact ⟨by rw [r1.length]; exact big_line hz, fun p hp => fin1.ownL S1 r1 hp⟩
  · rw [if_neg hz] at fin1
    exact fin1.bad_elim
end
end HR
set_option Elab.async false
set_option linter.all false
set_option maxRecDepth 100000
set_option maxHeartbeats 2000000
/-! LayC: tests, equality, subscripts, slices, calls of built-ins, attributes, methods of lists. -/
namespace HR
open PySem L2
/-! ### data as a whole -/
mutual
def pyG (get : Nat → Option (List PyData)) : D → Option PyData
  | .non => some .none
  | .bl b => some (.bool b)
  | .int i => some (.int i)
  | .str x => some (.str x)
  | .lst xs => (pyGL get xs).map .list
  | .scr xs => (pyGL get xs).map .list
  | .tup xs => (pyGL get xs).map .tuple
  | .ref i => (get i).map .list
  | .dct _ => none
  | .obj _ _ => none
  | .exc _ => none
  | .excf _ _ _ => none
def pyGL (get : Nat → Option (List PyData)) : List D → Option (List PyData)
  | [] => some []
  | x :: xs => match pyG get x, pyGL get xs with
    | some d, some ds => some (d :: ds)
    | _, _ => none
end
def pyGet (h : OH) : Nat → Nat → Option (List PyData)
  | 0, _ => none
  | n + 1, i => match h[i]? with
    | some (.lst xs) => pyGL (pyGet h n) xs
    | _ => none
/-- what a value is to == and repr -/
def pyAt (h : OH) (d : D) : Option PyData := pyG (pyGet h 4) d
section
variable {K : PySem.W.Frag} {P : Pins} {F : Hp} {m : List Addr} {h : OH} {H : Hp}
theorem dp_of (S : Sim K P F m h H) {get : Nat → Option (List PyData)} (hg : ∀ i a ds, m[i]? = some a → get i = some ds → ∃ vs, H a = some (.lst vs) ∧ DpAll K H vs ds) {v : V} {d : D} (r : Den K F m v d) : ∀ p, pyG get d = some p → Dp K H v p :=
  Den.rec (motive_1 := fun v d _ => ∀ p, pyG get d = some p → Dp K H v p) (motive_2 := fun vs ds _ => ∀ ps, pyGL get ds = some ps → DpAll K H vs ps) (motive_3 := fun _ _ _ => True) (motive_4 := fun _ _ _ => True)
    (fun p e => by simp only [pyG, Option.some.injEq] at e; subst e; exact .non) (fun b p e => by simp only [pyG, Option.some.injEq] at e; subst e; exact .bl b)
    (fun i p e => by simp only [pyG, Option.some.injEq] at e; subst e; exact .int i) (fun x p e => by simp only [pyG, Option.some.injEq] at e; subst e; exact .str x)
    (fun q _ ih p e => by
      simp only [pyG, Option.map_eq_some_iff] at e
      obtain ⟨ps, e1, e2⟩ := e
      subst e2
      exact .lst (.inl (.inl (S.sub _ _ q))) (ih ps e1))
    (fun q _ ih p e => by
      simp only [pyG, Option.map_eq_some_iff] at e
      obtain ⟨ps, e1, e2⟩ := e
      subst e2
      exact .lst (S.sub.seq q) (ih ps e1))
    (fun q _ ih p e => by
      simp only [pyG, Option.map_eq_some_iff] at e
      obtain ⟨ps, e1, e2⟩ := e
      subst e2
      exact .tup (.inl (.inl (S.sub _ _ q))) (ih ps e1))
    (fun _ _ _ p e => by simp only [pyG] at e; cases e) (fun _ _ _ _ p e => by simp only [pyG] at e; cases e)
    (fun {a i} q p e => by
      simp only [pyG, Option.map_eq_some_iff] at e
      obtain ⟨ps, e1, e2⟩ := e
      subst e2
      obtain ⟨vs, k1, k2⟩ := hg i a ps q e1
      exact .lst (.inl (.inl k1)) k2)
    (fun _ p e => by simp only [pyG] at e; cases e) (fun _ _ _ _ p e => by simp only [pyG] at e; cases e)
    (fun ps e => by simp only [pyGL, Option.some.injEq] at e; subst e; exact .nil)
    (fun {v d vs ds} _ _ ih1 ih2 ps e => by
      simp only [pyGL] at e
      cases e1 : pyG get d with
      | none => rw [e1] at e; simp at e
      | some p =>
        cases e2 : pyGL get ds with
        | none => rw [e1, e2] at e; simp at e
        | some qs =>
          rw [e1, e2] at e
          simp only [Option.some.injEq] at e
          subst e
          exact .cons (ih1 p e1) (ih2 qs e2))
    trivial (fun _ _ _ _ => trivial) trivial (fun _ _ _ _ => trivial) r
theorem dpL_of (S : Sim K P F m h H) {get : Nat → Option (List PyData)} (hg : ∀ i a ds, m[i]? = some a → get i = some ds → ∃ vs, H a = some (.lst vs) ∧ DpAll K H vs ds) : ∀ {vs : List V} {ds : List D}, DenL K F m vs ds → ∀ ps, pyGL get ds = some ps → DpAll K H vs ps
  | _, _, .nil, ps, e => by simp only [pyGL, Option.some.injEq] at e; subst e; exact .nil
  | _, d :: ds, .cons a b, ps, e => by
    simp only [pyGL] at e
    cases e1 : pyG get d with
    | none => rw [e1] at e; simp at e
    | some p =>
      cases e2 : pyGL get ds with
      | none => rw [e1, e2] at e; simp at e
      | some qs =>
        rw [e1, e2] at e
        simp only [Option.some.injEq] at e
        subst e
        exact .cons (dp_of S hg a p e1) (dpL_of S hg b qs e2)
theorem pyGet_ok (S : Sim K P F m h H) : ∀ n i a ds, m[i]? = some a → pyGet h n i = some ds → ∃ vs, H a = some (.lst vs) ∧ DpAll K H vs ds
  | 0, _, _, _, _, e => by simp [pyGet] at e
  | n + 1, i, a, ds, e1, e => by
    obtain ⟨o, h1, h2⟩ := S.own e1
    simp only [pyGet, h1] at e
    cases o with
    | lst xs =>
      obtain ⟨vs, k1, k2, _⟩ := h2
      exact ⟨vs, k1, dpL_of S (fun j b es q1 q2 => pyGet_ok S n j b es q1 q2) k2 ds e⟩
    | _ => cases e
theorem pyAt_ok (S : Sim K P F m h H) {v : V} {d : D} {p : PyData} (r : Den K F m v d) (e : pyAt h d = some p) : Dp K H v p := dp_of S (fun i a ds q1 q2 => pyGet_ok S 4 i a ds q1 q2) r p e
end
@[simp] theorem pyAt_int {h : OH} {i : Int} : pyAt h (.int i) = some (.int i) := by simp [pyAt, pyG]
@[simp] theorem pyAt_bl {h : OH} {b : Bool} : pyAt h (.bl b) = some (.bool b) := by simp [pyAt, pyG]
@[simp] theorem pyAt_str {h : OH} {x : Str} : pyAt h (.str x) = some (.str x) := by simp [pyAt, pyG]
@[simp] theorem pyAt_non {h : OH} : pyAt h .non = some .none := by simp [pyAt, pyG]
section
variable {X : Cx} {W : WX}
def opEq (neg : Bool) : D → D → OH → Res D := fun a b h => match pyAt h a, pyAt h b with
  | some p, some q => if SeqAt.shaped p && SeqAt.shaped q then .ok (.bl (if neg then !PyData.eqv p q else PyData.eqv p q)) h else .bad
  | _, _ => .bad
theorem opEq_h (neg : Bool) : OpH X.K W (opEq neg) (if neg then rNeD X.K else rEqD X.K) := by
  intro P F m h H σ Q x y dx dy S r1 r2 fin
  dsimp only [opEq] at fin
  cases e1 : pyAt h dx with
  | none => rw [e1] at fin; exact fin.bad_elim
  | some p =>
    cases e2 : pyAt h dy with
    | none => rw [e1, e2] at fin; exact fin.bad_elim
    | some q =>
      rw [e1, e2] at fin
      dsimp only at fin
      by_cases hs : (SeqAt.shaped p && SeqAt.shaped q) = true
      · rw [if_pos hs] at fin
        obtain ⟨s1, s2⟩ := and2 hs
        cases neg with
        | true => exact ⟨p, q, pyAt_ok S r1 e1, pyAt_ok S r2 e2, s1, s2, fin.ok S (.bl _)⟩
        | false => exact ⟨p, q, pyAt_ok S r1 e1, pyAt_ok S r2 e2, s1, s2, fin.ok S (.bl _)⟩
      · rw [if_neg hs] at fin
        exact fin.bad_elim
theorem de_eq {a b : Expr} {pos : Pos} {fa fb : SE} (hu : X.A.units + 64 < cLine) (ha : DE X W a fa) (hb : DE X W b fb) : DE X W (.Compare a [.Eq] [b] pos) (sBin (opEq false) fa fb) := de_cmp (op_eqD hu) (opEq_h false) (nomark _) ha hb
/-! ### in -/
end
/-! ### tests -/
def sTest (f : SE) : ST := fun e h => (f e h).bind fun d h1 => match d with
  | .bl b => .ok b h1
  | _ => .bad
def sAnd (a b : ST) : ST := fun e h => (a e h).bind fun c h1 => if c then b e h1 else .ok false h1
def sOr (a b : ST) : ST := fun e h => (a e h).bind fun c h1 => if c then .ok true h1 else b e h1
def sNot (a : ST) : ST := fun e h => (a e h).bind fun c h1 => .ok (!c) h1
/-- a test as a value -/
def sVal (a : ST) : SE := fun e h => (a e h).bind fun c h1 => .ok (.bl c) h1
def sIf (c : ST) (a b : SE) : SE := fun e h => (c e h).bind fun t h1 => if t then a e h1 else b e h1
section
variable {X : Cx} {W : WX}
theorem rd_test {f : SE} {σ : St} {H : Hp} {Q : Bool → Hp → Prop} (q : rdG X.K W relB (sTest f) σ H Q) : tTest (rdG X.K W (Den X.K) f) σ H Q := by
  obtain ⟨P, F, m, e, h, S, E, fin⟩ := q
  refine rd_seq S E fin fun F1 m1 h1 H1 x dx x1 S1 E1 r1 fin1 => ?_
  cases r1 with
  | bl b => exact ⟨b, rfl, fin1.ok S1 rfl⟩
  | _ => exact fin1.bad_elim
/-- a call, a name, an attribute, an item as a test -/
theorem dt_val {a : Expr} {f : SE} (ha : DE X W a f) (he : ∀ whole, isTrue a X.env whole = (do let v ← whole; standAt a.pos; holding [v] (truthy v)) := by intro _; rfl) : DT X W a (sTest f) := PT.of (pt_val ha he) fun _ _ _ => rd_test
theorem dt_cmp {a b : Expr} {op : CmpOp} {pos : Pos} {g : D → D → OH → Res D} {r : R2} {fa fb : SE} (ho : OpR X (compareOp op) r) (hg : OpH X.K W g r) (hm : behindInMarks op b = false) (ha : DE X W a fa) (hb : DE X W b fb) : DT X W (.Compare a [op] [b] pos) (sTest (sBin g fa fb)) :=
  PT.of (pt_cmpR ho ha hb hm) fun σ H Q q => by
    obtain ⟨P, F, m, e, h, S, E, fin⟩ := q
    have key : rdG X.K W (Den X.K) (sBin g fa fb) σ H (fun x H' => ∃ k, x = .bl k ∧ Q k H') := rd_test ⟨P, F, m, e, h, S, E, fin⟩
    exact rd_op hg key
theorem dt_eq {a b : Expr} {pos : Pos} {fa fb : SE} (hu : X.A.units + 64 < cLine) (ha : DE X W a fa) (hb : DE X W b fb) : DT X W (.Compare a [.Eq] [b] pos) (sTest (sBin (opEq false) fa fb)) := dt_cmp (op_eqD hu) (opEq_h false) (nomark _) ha hb
theorem dt_ne {a b : Expr} {pos : Pos} {fa fb : SE} (hu : X.A.units + 64 < cLine) (ha : DE X W a fa) (hb : DE X W b fb) : DT X W (.Compare a [.NotEq] [b] pos) (sTest (sBin (opEq true) fa fb)) := dt_cmp (op_neD hu) (opEq_h true) (nomark _) ha hb
theorem dt_lt {a b : Expr} {pos : Pos} {fa fb : SE} (ha : DE X W a fa) (hb : DE X W b fb) : DT X W (.Compare a [.Lt] [b] pos) (sTest (sBin opLt fa fb)) := dt_cmp op_lt (opI2_h0 fun _ _ _ _ => .bl _) (nomark _) ha hb
theorem dt_le {a b : Expr} {pos : Pos} {fa fb : SE} (ha : DE X W a fa) (hb : DE X W b fb) : DT X W (.Compare a [.LtE] [b] pos) (sTest (sBin opLe fa fb)) := dt_cmp op_le (opI2_h0 fun _ _ _ _ => .bl _) (nomark _) ha hb
theorem dt_gt {a b : Expr} {pos : Pos} {fa fb : SE} (ha : DE X W a fa) (hb : DE X W b fb) : DT X W (.Compare a [.Gt] [b] pos) (sTest (sBin opGt fa fb)) := dt_cmp op_gt (opI2_h0 fun _ _ _ _ => .bl _) (nomark _) ha hb
theorem dt_ge {a b : Expr} {pos : Pos} {fa fb : SE} (ha : DE X W a fa) (hb : DE X W b fb) : DT X W (.Compare a [.GtE] [b] pos) (sTest (sBin opGe fa fb)) := dt_cmp op_ge (opI2_h0 fun _ _ _ _ => .bl _) (nomark _) ha hb
theorem dt_is {a b : Expr} {pos : Pos} {fa fb : SE} (ha : DE X W a fa) (hb : DE X W b fb) : DT X W (.Compare a [.Is] [b] pos) (sTest (sBin (opIs false) fa fb)) := dt_cmp op_isN opIs_h (nomark _) ha hb
theorem dt_isnot {a b : Expr} {pos : Pos} {fa fb : SE} (ha : DE X W a fa) (hb : DE X W b fb) : DT X W (.Compare a [.IsNot] [b] pos) (sTest (sBin (opIs true) fa fb)) := dt_cmp op_notN opIsNot_h (nomark _) ha hb
theorem DW.dt {a : Expr} {f : ST} (h : DW X W a f) : DT X W a f := PW.pt h
theorem PW.of {e : Expr} {t t' : TT} (h : PW X e t) (w : ∀ σ H Q, t' σ H Q → t σ H Q) : PW X e t' := ⟨fun wh pins s σ H Q I q => h.run wh pins s σ H Q I (w σ H Q q)⟩
theorem dw_and1 {a : Expr} {f : ST} {pos : Pos} (ha : DT X W a f) : DW X W (.BoolOp .And [a] pos) f := pw_and1 ha
theorem dw_or1 {a : Expr} {f : ST} {pos : Pos} (ha : DT X W a f) : DW X W (.BoolOp .Or [a] pos) f := pw_or1 ha
theorem dw_and {a b : Expr} {rest : List Expr} {f g : ST} {pos : Pos} (ha : DT X W a f) (hb : DW X W (.BoolOp .And (b :: rest) pos) g) : DW X W (.BoolOp .And (a :: b :: rest) pos) (sAnd f g) := PW.of (pw_and ha hb) fun σ H Q => by
  rintro ⟨P, F, m, e, h, S, E, fin⟩
  refine rd_seq S E fin fun F1 m1 h1 H1 x dx x1 S1 E1 r1 fin1 => ?_
  have r1 : x = dx := r1
  subst r1
  cases x with
  | true => exact ⟨P, F1, m1, e, h1, S1, E1, fin1⟩
  | false => exact fin1.ok S1 rfl
theorem dw_or {a b : Expr} {rest : List Expr} {f g : ST} {pos : Pos} (ha : DT X W a f) (hb : DW X W (.BoolOp .Or (b :: rest) pos) g) : DW X W (.BoolOp .Or (a :: b :: rest) pos) (sOr f g) := PW.of (pw_or ha hb) fun σ H Q => by
  rintro ⟨P, F, m, e, h, S, E, fin⟩
  refine rd_seq S E fin fun F1 m1 h1 H1 x dx x1 S1 E1 r1 fin1 => ?_
  have r1 : x = dx := r1
  subst r1
  cases x with
  | true => exact fin1.ok S1 rfl
  | false => exact ⟨P, F1, m1, e, h1, S1, E1, fin1⟩
theorem dt_not {a : Expr} {f : ST} {pos : Pos} (ha : DT X W a f) : DT X W (.UnaryOp .Not a pos) (sNot f) := PT.of (pt_not ha) fun σ H Q => by
  rintro ⟨P, F, m, e, h, S, E, fin⟩
  refine rd_seq S E fin fun F1 m1 h1 H1 x dx x1 S1 E1 r1 fin1 => ?_
  have r1 : x = dx := r1
  subst r1
  exact fin1.ok S1 rfl
/-- and, or, not as values -/
theorem de_one {a : Expr} {op : BoolOp} {f : SE} {pos : Pos} (ha : DE X W a f) : DE X W (.BoolOp op [a] pos) f := pe_one ha
def sAndV (a b : SE) : SE := fun e h => (a e h).bind fun d h1 => match d with
  | .bl true => b e h1
  | .bl false => .ok (.bl false) h1
  | _ => .bad
def sOrV (a b : SE) : SE := fun e h => (a e h).bind fun d h1 => match d with
  | .bl true => .ok (.bl true) h1
  | .bl false => b e h1
  | _ => .bad
def sNotV (a : SE) : SE := fun e h => (a e h).bind fun d h1 => match d with
  | .bl b => .ok (.bl (!b)) h1
  | _ => .bad
theorem de_and {a b : Expr} {rest : List Expr} {f g : SE} {pos : Pos} (ha : DE X W a f) (hb : DE X W (.BoolOp .And (b :: rest) pos) g) : DE X W (.BoolOp .And (a :: b :: rest) pos) (sAndV f g) := PE.of (pe_and ha hb) fun σ H Q => by
  rintro ⟨P, F, m, e, h, S, E, fin⟩
  refine rd_seq S E fin fun F1 m1 h1 H1 x dx x1 S1 E1 r1 fin1 => ?_
  cases r1 with
  | bl b =>
    cases b with
    | true => exact ⟨true, rfl, P, F1, m1, e, h1, S1, E1, fin1⟩
    | false => exact ⟨false, rfl, fin1.ok S1 (.bl _)⟩
  | _ => exact fin1.bad_elim
theorem de_or {a b : Expr} {rest : List Expr} {f g : SE} {pos : Pos} (ha : DE X W a f) (hb : DE X W (.BoolOp .Or (b :: rest) pos) g) : DE X W (.BoolOp .Or (a :: b :: rest) pos) (sOrV f g) := PE.of (pe_or ha hb) fun σ H Q => by
  rintro ⟨P, F, m, e, h, S, E, fin⟩
  refine rd_seq S E fin fun F1 m1 h1 H1 x dx x1 S1 E1 r1 fin1 => ?_
  cases r1 with
  | bl b =>
    cases b with
    | true => exact ⟨true, rfl, fin1.ok S1 (.bl _)⟩
    | false => exact ⟨false, rfl, P, F1, m1, e, h1, S1, E1, fin1⟩
  | _ => exact fin1.bad_elim
theorem de_if {c a b : Expr} {fc : ST} {fa fb : SE} {pos : Pos} (hc : DT X W c fc) (ha : DE X W a fa) (hb : DE X W b fb) : DE X W (.IfExp c a b pos) (sIf fc fa fb) := PE.of (pe_ifExp hc ha hb) fun σ H Q => by
  rintro ⟨P, F, m, e, h, S, E, fin⟩
  refine rd_seq S E fin fun F1 m1 h1 H1 x dx x1 S1 E1 r1 fin1 => ?_
  have r1 : x = dx := r1
  subst r1
  cases x with
  | true => exact ⟨P, F1, m1, e, h1, S1, E1, fin1⟩
  | false => exact ⟨P, F1, m1, e, h1, S1, E1, fin1⟩
theorem rd_chain {g g' : D → D → OH → Res D} {r r' : R2} (hg : OpH X.K W g r) (hg' : OpH X.K W g' r') {fa fb fc : SE} {σ : St} {H : Hp} {Q : VK} (q : rdG X.K W (Den X.K) (sChain g g' fa fb fc) σ H Q) :
    tChain r r' (rdG X.K W (Den X.K) fa) (rdG X.K W (Den X.K) fb) (rdG X.K W (Den X.K) fc) σ H Q := by
  obtain ⟨P, F, m, e, h, S, E, fin⟩ := q
  refine rd_seq S E fin fun F1 m1 h1 H1 x dx x1 S1 E1 r1 fin1 => ?_
  refine rd_seq S1 E1 fin1 fun F2 m2 h2 H2 y dy x2 S2 E2 r2 fin2 => ?_
  refine hg P F2 m2 h2 H2 σ _ x y dx dy S2 (r1.mono x2) r2 ?_
  cases q : g dx dy h2 with
  | bad => rw [q] at fin2; exact fin2
  | exc C p h3 => rw [q] at fin2; exact fin2
  | ok z h3 =>
    rw [q] at fin2
    intro v F3 m3 H3 x3 S3 r3
    cases r3 with
    | bl b =>
      refine ⟨b, rfl, ?_⟩
      cases b with
      | true =>
        rw [if_pos rfl]
        refine rd_seq S3 ((E2.mono x3)) (FinG.weak x3 fin2) fun F4 m4 h4 H4 u du x4 S4 E4 r4 fin4 => ?_
        exact hg' P F4 m4 h4 H4 σ Q y u dy du S4 (r2.mono (x3.trans x4)) r4 fin4
      | false =>
        rw [if_neg Bool.false_ne_true]
        exact FinG.okX fin2 x3 S3 (.bl _)
    | _ => exact FinG.bad_elim fin2
theorem de_chain {a b c : Expr} {op op' : CmpOp} {pos : Pos} {g g' : D → D → OH → Res D} {r r' : R2} {fa fb fc : SE} (ho : OpR X (compareOp op) r) (ho' : OpR X (compareOp op') r') (hg : OpH X.K W g r) (hg' : OpH X.K W g' r') (ha : DE X W a fa) (hb : DE X W b fb) (hc : DE X W c fc)
    (hm : lastMarks [op, op'] [b, c] = false := by with_unfolding_all rfl) : DE X W (.Compare a [op, op'] [b, c] pos) (sChain g g' fa fb fc) := PE.of (pe_chain ho ho' ha hb hc hm) fun _ _ _ => rd_chain hg hg'
theorem de_lele {a b c : Expr} {pos : Pos} {fa fb fc : SE} (ha : DE X W a fa) (hb : DE X W b fb) (hc : DE X W c fc) (hm : lastMarks [.LtE, .LtE] [b, c] = false := by with_unfolding_all rfl) : DE X W (.Compare a [.LtE, .LtE] [b, c] pos) (sChain opLe opLe fa fb fc) :=
  de_chain op_le op_le (opI2_h0 fun _ _ _ _ => .bl _) (opI2_h0 fun _ _ _ _ => .bl _) ha hb hc hm
/-! ### subscripts, slices -/
def opIx : D → D → OH → Res D := fun a b h => match b with
  | .int i => (match a with
    | .str z => if z.length ≤ big then (match atI z.cps.toList i with
      | some c => .ok (.str ⟨#[c]⟩) h
      | none => .bad) else .bad
    | a => match seqAt h a with
      | some xs => (match atI xs i with
        | some d => .ok d h
        | none => .bad)
      | none => .bad)
  | _ => .bad
theorem atI_den {K : PySem.W.Frag} {F : Hp} {m : List Addr} {vs : List V} {ds : List D} {i : Int} {d : D} (r : DenL K F m vs ds) (e : atI ds i = some d) : ∃ v, atI vs i = some v ∧ Den K F m v d := by
  unfold atI at e ⊢
  rw [r.length]
  cases q : ixN ds.length i with
  | none => rw [q] at e; simp at e
  | some j =>
    rw [q] at e
    simp only [Option.bind_some] at e ⊢
    exact r.get e
theorem opIx_h : OpH X.K W opIx (rIx X.K) := by
  intro P F m h H σ Q x y dx dy S r1 r2 fin
  cases r2 with
  | int i =>
    have seqs : ∀ {a : D}, Den X.K F m x a → FinG X.K P W σ (Den X.K) Q F m (match seqAt h a with
      | some xs => (match atI xs i with
        | some d => .ok d h
        | none => .bad)
      | none => .bad) → rIx X.K x (.int i) H Q := by
      intro a q fin
      cases e : seqAt h a with
      | none => rw [e] at fin; exact fin.bad_elim
      | some xs =>
        rw [e] at fin
        dsimp only at fin
        obtain ⟨l, vs, rfl, hl, rl⟩ := seqAt_ok S q e
        cases e2 : atI xs i with
        | none => rw [e2] at fin; exact fin.bad_elim
        | some d =>
          rw [e2] at fin
          obtain ⟨v, e3, r3⟩ := atI_den rl e2
          rcases hl with hl | hl
          · exact .inl ⟨l, vs, i, v, rfl, rfl, hl, e3, fin.ok S r3⟩
          · exact .inr (.inl ⟨l, vs, i, v, rfl, rfl, hl, e3, fin.ok S r3⟩)
    cases dx with
    | str z =>
      cases den_str r1
      dsimp only [opIx] at fin
      by_cases hz : z.length ≤ big
      · rw [if_pos hz] at fin
        cases e : atI z.cps.toList i with
        | none => rw [e] at fin; exact fin.bad_elim
        | some c =>
          rw [e] at fin
          exact .inr (.inr ⟨z, i, c, rfl, rfl, big_line hz, e, fin.ok S (.str _)⟩)
      · rw [if_neg hz] at fin
        exact fin.bad_elim
    | _ => exact seqs r1 fin
  | _ => exact fin.bad_elim
theorem de_ix {a b : Expr} {pos : Pos} {fa fb : SE} (ha : DE X W a fa) (hb : DE X W b fb) (hs : PlainIx b := by exact fun _ _ => rfl) : DE X W (.Subscript a b pos) (sBin opIx fa fb) := PE.of (pe_ix ix_seq ha hb hs) fun _ _ _ => rd_op opIx_h
abbrev SO := Env' → OH → Res (Option Int)
abbrev relO : Rel (Option Int) (Option Int) := fun _ _ b c => b = c
abbrev DO (X : Cx) (W : WX) (e : Option Expr) (f : SO) : Prop := PO X e (rdG X.K W relO f)
def sNoPart : SO := fun _ h => .ok none h
def sPart (f : SE) : SO := fun e h => (f e h).bind fun d h1 => match d with
  | .int i => .ok (some i) h1
  | _ => .bad
theorem PO.of {e : Option Expr} {t t' : TO} (h : PO X e t) (w : ∀ σ H Q, t' σ H Q → t σ H Q) : PO X e t' := by
  obtain ⟨h⟩ := h
  constructor
  intros
  first
    | (apply h <;> first | assumption | (apply w; assumption))
theorem do_none : DO X W none sNoPart := PO.of po_none fun σ H Q => by
  rintro ⟨P, F, m, e, h, S, E, fin⟩
  exact fin.ok S rfl
theorem do_some {a : Expr} {f : SE} (ha : DE X W a f) : DO X W (some a) (sPart f) := PO.of (po_some ha) fun σ H Q => by
  rintro ⟨P, F, m, e, h, S, E, fin⟩
  refine rd_seq S E fin fun F1 m1 h1 H1 x dx x1 S1 E1 r1 fin1 => ?_
  cases r1 with
  | int i => exact ⟨i, rfl, fin1.ok S1 rfl⟩
  | _ => exact fin1.bad_elim
def cutD (xs : List D) (lo hi : Option Int) : List D := (xs.drop (HT.sIx xs.length 0 lo)).take (HT.sIx xs.length xs.length hi - HT.sIx xs.length 0 lo)
theorem cut_den {K : PySem.W.Frag} {F : Hp} {m : List Addr} {vs : List V} {ds : List D} (r : DenL K F m vs ds) (lo hi : Option Int) : DenL K F m (cutV vs lo hi) (cutD ds lo hi) := by
  unfold cutV cutD
  rw [r.length]
  exact (r.drop _).take _
def opCut (own : Bool) (a : D) (lo hi : Option Int) (h : OH) : Res D := match lsqAt h a with
  | some xs => if own then .ok (.ref h.length) (h ++ [.lst (cutD xs lo hi)]) else .ok (.lst (cutD xs lo hi)) h
  | none => (match a with
    | .tup xs => if ¬ (HT.sIx xs.length 0 lo = 0 ∧ HT.sIx xs.length xs.length hi = xs.length) then .ok (.tup (cutD xs lo hi)) h else .bad
    | _ => .bad)
def sCut (own : Bool) (a : SE) (lo hi : SO) : SE := fun e h => (a e h).bind fun x h1 => (lo e h1).bind fun l h2 => (hi e h2).bind fun u h3 => opCut own x l u h3
theorem de_cut {a : Expr} {lo hi : Option Expr} {p2 pos : Pos} {fa : SE} {fl fu : SO} (own : Bool) (ha : DE X W a fa) (hl : DO X W lo fl) (hh : DO X W hi fu) : DE X W (.Subscript a (.Slice lo hi none p2) pos) (sCut own fa fl fu) :=
  PE.of (pe_slice (sl_list.or sl_tup) ha hl hh) fun σ H Q => by
    rintro ⟨P, F, m, e, h, S, E, fin⟩
    refine rd_seq S E fin fun F1 m1 h1 H1 x dx x1 S1 E1 r1 fin1 => ?_
    refine rd_seq S1 E1 fin1 fun F2 m2 h2 H2 l dl x2 S2 E2 r2 fin2 => ?_
    refine rd_seq S2 E2 fin2 fun F3 m3 h3 H3 u du x3 S3 E3 r3 fin3 => ?_
    have r2 : l = dl := r2
    have r3 : u = du := r3
    subst r2 r3
    have r4 := r1.mono (x2.trans x3)
    unfold opCut at fin3
    cases q : lsqAt h3 dx with
    | some xs =>
      rw [q] at fin3
      obtain ⟨c, vs, rfl, hc, rc⟩ := lsqAt_ok S3 r4 q
      refine .inl ⟨c, vs, rfl, hc, fun p hp => ?_⟩
      cases own with
      | true => exact FinG.ownL fin3 S3 (cut_den rc l u) hp
      | false => exact FinG.newL fin3 S3 (cut_den rc l u) hp
    | none =>
      rw [q] at fin3
      cases r4 with
      | tup ct tt =>
        dsimp only at fin3
        rename_i c vs ds
        by_cases hz : HT.sIx ds.length 0 l = 0 ∧ HT.sIx ds.length ds.length u = ds.length
        · rw [if_neg fun z => z hz] at fin3
          exact fin3.bad_elim
        · rw [if_pos hz] at fin3
          refine .inr ⟨c, vs, rfl, .inl (.inl (S3.sub _ _ ct)), ?_, fun p hp => fin3.newT S3 (cut_den tt l u) hp⟩
          rw [tt.length]
          exact hz
      | _ => exact fin3.bad_elim
/-! ### calls of built-ins -/
def sCall (g : List D → OH → Res D) (a : SA) : SE := fun e h => (a e h).bind g
def ClH (K : PySem.W.Frag) (W : WX) (g : List D → OH → Res D) (r : List V → Hp → VK → Prop) : Prop :=
  ∀ (P : Pins) (F : Hp) (m : List Addr) (h : OH) (H : Hp) (σ : St) (Q : VK) (vs : List V) (ds : List D), Sim K P F m h H → DenL K F m vs ds → FinG K P W σ (Den K) Q F m (g ds h) → r vs H Q
theorem rd_call {g : List D → OH → Res D} {r : List V → Hp → VK → Prop} (hg : ClH X.K W g r) {fa : SA} {σ : St} {H : Hp} {Q : VK} (q : rdG X.K W (Den X.K) (sCall g fa) σ H Q) : tCB r (rdG X.K W (DenL X.K) fa) σ H Q := by
  obtain ⟨P, F, m, e, h, S, E, fin⟩ := q
  exact rd_seq S E fin fun F1 m1 h1 H1 x dx x1 S1 E1 r1 fin1 => hg P F1 m1 h1 H1 σ Q x dx S1 r1 fin1
theorem de_blt {id : String} {g : List D → OH → Res D} {r : List V → Hp → VK → Prop} {x : Str} {p pos : Pos} {a : Expr} {es : List Expr} {fa : SA} (hc : CallR X (.builtin id) r) (hg : ClH X.K W g r) (hx : Gl X x) (hm : X.mg x = none) (hv : bootBuiltins x = some (.builtin id)) (ha : DA X W (a :: es) fa)
    (hn : x ≠ "__name__" := by decide) (hdb : (x == ("__debug__" : Str)) = false := by decide) (he : starEach (a :: es) X.env = (false, eval a X.env) :: starEach es X.env := by rfl) (hpl : (backTo pos (starEach es X.env)).any (·.1) = false := by rfl) : DE X W (.Call (.Name x p) (a :: es) [] pos) (sCall g fa) :=
  PE.of (pe_callB hc hx hm hv ha hn hdb he hpl) fun _ _ _ => rd_call hg
theorem de_bty {T : String} {g : List D → OH → Res D} {r : List V → Hp → VK → Prop} {x : Str} {p pos : Pos} {a : Expr} {es : List Expr} {fa : SA} (hc : CallR X (.type T) r) (hg : ClH X.K W g r) (hx : Gl X x) (hm : X.mg x = none) (hv : bootBuiltins x = some (.type T)) (ha : DA X W (a :: es) fa)
    (hn : x ≠ "__name__" := by decide) (hdb : (x == ("__debug__" : Str)) = false := by decide) (he : starEach (a :: es) X.env = (false, eval a X.env) :: starEach es X.env := by rfl) (hpl : (backTo pos (starEach es X.env)).any (·.1) = false := by rfl) : DE X W (.Call (.Name x p) (a :: es) [] pos) (sCall g fa) :=
  PE.of (pe_callTy hc hx hm hv ha hn hdb he hpl) fun _ _ _ => rd_call hg
theorem denL1 {K : PySem.W.Frag} {F : Hp} {m : List Addr} {vs : List V} {d : D} (r : DenL K F m vs [d]) : ∃ v, vs = [v] ∧ Den K F m v d := by
  cases r with
  | cons a b =>
    cases b
    exact ⟨_, rfl, a⟩
theorem denL2 {K : PySem.W.Frag} {F : Hp} {m : List Addr} {vs : List V} {d d2 : D} (r : DenL K F m vs [d, d2]) : ∃ v v2, vs = [v, v2] ∧ Den K F m v d ∧ Den K F m v2 d2 := by
  cases r with
  | cons a b =>
    obtain ⟨v2, rfl, r2⟩ := denL1 b
    exact ⟨_, v2, rfl, a, r2⟩
def b1 (f : D → OH → Res D) : List D → OH → Res D
  | [d], h => f d h
  | _, _ => .bad
def b2 (f : D → D → OH → Res D) : List D → OH → Res D
  | [d, d2], h => f d d2 h
  | _, _ => .bad
theorem b1_inv {f : D → OH → Res D} {P : Pins} {F : Hp} {m : List Addr} {h : OH} {σ : St} {Q : VK} {vs : List V} {ds : List D} (r : DenL X.K F m vs ds) (fin : FinG X.K P W σ (Den X.K) Q F m (b1 f ds h)) : ∃ v d, vs = [v] ∧ Den X.K F m v d ∧ FinG X.K P W σ (Den X.K) Q F m (f d h) := by
  unfold b1 at fin
  split at fin
  · obtain ⟨v, rfl, r1⟩ := denL1 r
    exact ⟨v, _, rfl, r1, fin⟩
  · exact fin.bad_elim
theorem b2_inv {f : D → D → OH → Res D} {P : Pins} {F : Hp} {m : List Addr} {h : OH} {σ : St} {Q : VK} {vs : List V} {ds : List D} (r : DenL X.K F m vs ds) (fin : FinG X.K P W σ (Den X.K) Q F m (b2 f ds h)) : ∃ v v2 d d2, vs = [v, v2] ∧ Den X.K F m v d ∧ Den X.K F m v2 d2 ∧ FinG X.K P W σ (Den X.K) Q F m (f d d2 h) := by
  unfold b2 at fin
  split at fin
  · obtain ⟨v, v2, rfl, r1, r2⟩ := denL2 r
    exact ⟨v, v2, _, _, rfl, r1, r2, fin⟩
  · exact fin.bad_elim
def opLen : D → OH → Res D
  | .str z, h => if z.length ≤ big then .ok (.int z.length) h else .bad
  | d, h => (match seqAt h d with
    | some xs => .ok (.int xs.length) h
    | none => .bad)
abbrev bLen := b1 opLen
theorem bLen_h : ClH X.K W bLen (fun xs H Q => ∃ x n, xs = [x] ∧ LenV X.K x H n ∧ Q (.int n) H) := by
  intro P F m h H σ Q vs ds S r fin
  obtain ⟨v, d, rfl, r1, fin⟩ := b1_inv r fin
  have seqs : FinG X.K P W σ (Den X.K) Q F m (match seqAt h d with
    | some xs => .ok (.int xs.length) h
    | none => .bad) → ∃ x n, [v] = [x] ∧ LenV X.K x H n ∧ Q (.int n) H := by
    intro fin
    cases e : seqAt h d with
    | none => rw [e] at fin; exact fin.bad_elim
    | some xs =>
      rw [e] at fin
      obtain ⟨a, ws, rfl, ha, rl⟩ := seqAt_ok S r1 e
      refine ⟨_, xs.length, rfl, ?_, fin.ok S (.int _)⟩
      rcases ha with ha | ha
      · exact .inl ⟨ws, ha, rl.length.symm⟩
      · exact .inr ⟨ws, ha, rl.length.symm⟩
  cases d with
  | str z =>
    cases den_str r1
    dsimp only [opLen] at fin
    by_cases hz : z.length ≤ big
    · rw [if_pos hz] at fin
      exact ⟨.str z, z.length, rfl, ⟨big_line hz, rfl⟩, fin.ok S (.int _)⟩
    · rw [if_neg hz] at fin
      exact fin.bad_elim
  | _ => exact seqs fin
theorem de_len {p pos : Pos} {a : Expr} {fa : SE} (hx : Gl X "len") (hm : X.mg "len" = none) (ha : DE X W a fa) (he : starEach [a] X.env = (false, eval a X.env) :: starEach [] X.env := by rfl) : DE X W (.Call (.Name "len" p) [a] [] pos) (sCall bLen (sCons fa sNil)) :=
  de_blt call_len bLen_h hx hm PySem.boot_len (da_cons ha da_nil he) (he := he)
def opAbs : D → OH → Res D
  | .int i, h => .ok (.int (if i < 0 then -i else i)) h
  | _, _ => .bad
abbrev bAbs := b1 opAbs
theorem bAbs_h : ClH X.K W bAbs (fun xs H Q => ∃ i, xs = [.int i] ∧ Q (.int (if i < 0 then -i else i)) H) := by
  intro P F m h H σ Q vs ds S r fin
  obtain ⟨v, d, rfl, r1, fin⟩ := b1_inv r fin
  cases r1 with
  | int i => exact ⟨i, rfl, fin.ok S (.int _)⟩
  | _ => exact fin.bad_elim
theorem de_abs {p pos : Pos} {a : Expr} {fa : SE} (hx : Gl X "abs") (hm : X.mg "abs" = none) (ha : DE X W a fa) (he : starEach [a] X.env = (false, eval a X.env) :: starEach [] X.env := by rfl) : DE X W (.Call (.Name "abs" p) [a] [] pos) (sCall bAbs (sCons fa sNil)) :=
  de_blt call_abs bAbs_h hx hm (by decide +kernel) (da_cons ha da_nil he) (he := he)
theorem bI2_inv {f : Int → Int → Int} {P : Pins} {F : Hp} {m : List Addr} {h : OH} {H : Hp} {σ : St} {Q : VK} {vs : List V} {ds : List D} (S : Sim X.K P F m h H) (r : DenL X.K F m vs ds) (fin : FinG X.K P W σ (Den X.K) Q F m (b2 (opI2 (fun i j => .int (f i j)) fun _ _ => true) ds h)) : ∃ i j, vs = [.int i, .int j] ∧ Q (.int (f i j)) H := by
  obtain ⟨v, v2, d, d2, rfl, r1, r2, fin⟩ := b2_inv r fin
  obtain ⟨i, j, rfl, rfl, q⟩ := opI2_h0 (X := X) (W := W) (g := fun i j => V.int (f i j)) (fun _ _ _ _ => .int _) P F m h H σ Q v v2 d d2 S r1 r2 fin
  exact ⟨i, j, rfl, q⟩
abbrev bMax := b2 (opI2 (fun i j => .int (if j > i then j else i)) fun _ _ => true)
abbrev bMin := b2 (opI2 (fun i j => .int (if j < i then j else i)) fun _ _ => true)
theorem de_max2 {p pos : Pos} {a b : Expr} {fa fb : SE} (hc : X.calm = true) (hx : Gl X "max") (hm : X.mg "max" = none) (ha : DE X W a fa) (hb : DE X W b fb) (he : starEach [a, b] X.env = (false, eval a X.env) :: starEach [b] X.env := by rfl) (he2 : starEach [b] X.env = (false, eval b X.env) :: starEach [] X.env := by rfl)
    (hpl : (backTo pos (starEach [b] X.env)).any (·.1) = false := by rfl) : DE X W (.Call (.Name "max" p) [a, b] [] pos) (sCall bMax (sCons fa (sCons fb sNil))) :=
  de_blt (call_max2 hc) (fun P F m h H σ Q vs ds S r fin => bI2_inv S r fin) hx hm (by decide +kernel) (da_cons ha (da_cons hb da_nil he2) he) (he := he) (hpl := hpl)
theorem de_min2 {p pos : Pos} {a b : Expr} {fa fb : SE} (hc : X.calm = true) (hx : Gl X "min") (hm : X.mg "min" = none) (ha : DE X W a fa) (hb : DE X W b fb) (he : starEach [a, b] X.env = (false, eval a X.env) :: starEach [b] X.env := by rfl) (he2 : starEach [b] X.env = (false, eval b X.env) :: starEach [] X.env := by rfl)
    (hpl : (backTo pos (starEach [b] X.env)).any (·.1) = false := by rfl) : DE X W (.Call (.Name "min" p) [a, b] [] pos) (sCall bMin (sCons fa (sCons fb sNil))) :=
  de_blt (call_min2 hc) (fun P F m h H σ Q vs ds S r fin => bI2_inv S r fin) hx hm (by decide +kernel) (da_cons ha (da_cons hb da_nil he2) he) (he := he) (hpl := hpl)
def opDivmod : D → D → OH → Res D
  | .int i, .int j, h => if divOk i j then .ok (.tup [.int (i / j), .int (i % j)]) h else .bad
  | _, _, _ => .bad
abbrev bDivmod := b2 opDivmod
theorem bDivmod_h : ClH X.K W bDivmod (fun xs H Q => ∃ i j, xs = [.int i, .int j] ∧ CDivP i j ∧ ∀ p, H p = none → Q (.ref p) (upd H p (.tup [.int (i / j), .int (i % j)]))) := by
  intro P F m h H σ Q vs ds S r fin
  obtain ⟨v, v2, d, d2, rfl, r1, r2, fin⟩ := b2_inv r fin
  unfold opDivmod at fin
  split at fin
  · rename_i i j
    cases den_int r1
    cases den_int r2
    by_cases hd : divOk i j = true
    · rw [if_pos hd] at fin
      unfold divOk at hd
      simp only [Bool.and_eq_true, decide_eq_true_eq] at hd
      exact ⟨i, j, rfl, ⟨hd.1, PyProof.noPylong_of_log2 hd.2⟩, fun p hp => fin.newT S (.cons (.int _) (.cons (.int _) .nil)) hp⟩
    · rw [if_neg hd] at fin
      exact fin.bad_elim
  · exact fin.bad_elim
theorem de_divmod {p pos : Pos} {a b : Expr} {fa fb : SE} (hx : Gl X "divmod") (hm : X.mg "divmod" = none) (ha : DE X W a fa) (hb : DE X W b fb) (he : starEach [a, b] X.env = (false, eval a X.env) :: starEach [b] X.env := by rfl) (he2 : starEach [b] X.env = (false, eval b X.env) :: starEach [] X.env := by rfl)
    (hpl : (backTo pos (starEach [b] X.env)).any (·.1) = false := by rfl) : DE X W (.Call (.Name "divmod" p) [a, b] [] pos) (sCall bDivmod (sCons fa (sCons fb sNil))) :=
  de_blt call_divmodW bDivmod_h hx hm (by decide +kernel) (da_cons ha (da_cons hb da_nil he2) he) (he := he) (hpl := hpl)
end
end HR
set_option Elab.async false
set_option linter.all false
set_option maxRecDepth 100000
set_option maxHeartbeats 2000000
/-! LayD: further built-ins, isinstance, attributes, methods of lists. -/
namespace HR
open PySem L2
section
variable {X : Cx} {W : WX}
/-! ### int, sum, all, any, list, tuple -/
def opInt : D → OH → Res D
  | .int i, h => .ok (.int i) h
  | .bl b, h => .ok (.int (if b then 1 else 0)) h
  | _, _ => .bad
theorem bInt_h : ClH X.K W (b1 opInt) (fun xs H Q => (∃ i, xs = [.int i] ∧ Q (.int i) H) ∨ ∃ k, xs = [.bl k] ∧ Q (.int (if k then 1 else 0)) H) := by
  intro P F m h H σ Q vs ds S r fin
  obtain ⟨v, d, rfl, r1, fin⟩ := b1_inv r fin
  cases r1 with
  | int i => exact .inl ⟨i, rfl, fin.ok S (.int _)⟩
  | bl b => exact .inr ⟨b, rfl, fin.ok S (.int _)⟩
  | _ => exact fin.bad_elim
theorem de_toint {p pos : Pos} {a : Expr} {fa : SE} (hx : Gl X "int") (hm : X.mg "int" = none) (ha : DE X W a fa) (he : starEach [a] X.env = (false, eval a X.env) :: starEach [] X.env := by rfl) : DE X W (.Call (.Name "int" p) [a] [] pos) (sCall (b1 opInt) (sCons fa sNil)) :=
  de_bty call_int1 bInt_h hx hm (by decide +kernel) (da_cons ha da_nil he) (he := he)
/-- the ints of a list, if it holds no more -/
def intsOf : List D → Option (List Int)
  | [] => some []
  | .int i :: r => (intsOf r).map (i :: ·)
  | _ => none
def bsOf : List D → Option (List Bool)
  | [] => some []
  | .bl b :: r => (bsOf r).map (b :: ·)
  | _ => none
theorem intsOf_ok {K : PySem.W.Frag} {F : Hp} {m : List Addr} : ∀ {vs : List V} {ds : List D} {ns : List Int}, DenL K F m vs ds → intsOf ds = some ns → vs = ns.map V.int
  | _, _, _, .nil, e => by simp only [intsOf, Option.some.injEq] at e; subst e; rfl
  | _, _, _, .cons (.int i) t, e => by
    simp only [intsOf, Option.map_eq_some_iff] at e
    obtain ⟨ns, e1, e2⟩ := e
    subst e2
    rw [intsOf_ok t e1]
    rfl
  | _, _, _, .cons (.non) _, e | _, _, _, .cons (.bl _) _, e | _, _, _, .cons (.str _) _, e | _, _, _, .cons (.lst _ _) _, e | _, _, _, .cons (.scr _ _) _, e | _, _, _, .cons (.tup _ _) _, e | _, _, _, .cons (.dct _ _) _, e | _, _, _, .cons (.obj _ _ _) _, e | _, _, _, .cons (.ref _) _, e | _, _, _, .cons (.exc _) _, e | _, _, _, .cons (.excf _ _ _) _, e => by simp [intsOf] at e
theorem bsOf_ok {K : PySem.W.Frag} {F : Hp} {m : List Addr} : ∀ {vs : List V} {ds : List D} {ns : List Bool}, DenL K F m vs ds → bsOf ds = some ns → vs = ns.map V.bl
  | _, _, _, .nil, e => by simp only [bsOf, Option.some.injEq] at e; subst e; rfl
  | _, _, _, .cons (.bl b) t, e => by
    simp only [bsOf, Option.map_eq_some_iff] at e
    obtain ⟨ns, e1, e2⟩ := e
    subst e2
    rw [bsOf_ok t e1]
    rfl
  | _, _, _, .cons (.non) _, e | _, _, _, .cons (.int _) _, e | _, _, _, .cons (.str _) _, e | _, _, _, .cons (.lst _ _) _, e | _, _, _, .cons (.scr _ _) _, e | _, _, _, .cons (.tup _ _) _, e | _, _, _, .cons (.dct _ _) _, e | _, _, _, .cons (.obj _ _ _) _, e | _, _, _, .cons (.ref _) _, e | _, _, _, .cons (.exc _) _, e | _, _, _, .cons (.excf _ _ _) _, e => by simp [bsOf] at e
@[simp] theorem intsOf_map (ns : List Int) : intsOf (ns.map D.int) = some ns := by
  induction ns with
  | nil => rfl
  | cons n r ih => simp [intsOf, ih]
@[simp] theorem bsOf_map (ns : List Bool) : bsOf (ns.map D.bl) = some ns := by
  induction ns with
  | nil => rfl
  | cons n r ih => simp [bsOf, ih]
def opSum : D → OH → Res D := fun d h => match (lsqAt h d).bind intsOf with
  | some ns => .ok (.int ns.sum) h
  | none => .bad
theorem lints_inv {P : Pins} {F : Hp} {m : List Addr} {h : OH} {H : Hp} {v : V} {d : D} {ns : List Int} (S : Sim X.K P F m h H) (r : Den X.K F m v d) (e : (lsqAt h d).bind intsOf = some ns) : ∃ a, v = .ref a ∧ SqL X.K H a (ns.map V.int) := by
  cases q : lsqAt h d with
  | none => rw [q] at e; simp at e
  | some xs =>
    rw [q] at e
    simp only [Option.bind_some] at e
    obtain ⟨a, vs, rfl, ha, rl⟩ := lsqAt_ok S r q
    rw [intsOf_ok rl e] at ha
    exact ⟨a, rfl, ha⟩
theorem lbls_inv {P : Pins} {F : Hp} {m : List Addr} {h : OH} {H : Hp} {v : V} {d : D} {ns : List Bool} (S : Sim X.K P F m h H) (r : Den X.K F m v d) (e : (lsqAt h d).bind bsOf = some ns) : ∃ a, v = .ref a ∧ SqL X.K H a (ns.map V.bl) := by
  cases q : lsqAt h d with
  | none => rw [q] at e; simp at e
  | some xs =>
    rw [q] at e
    simp only [Option.bind_some] at e
    obtain ⟨a, vs, rfl, ha, rl⟩ := lsqAt_ok S r q
    rw [bsOf_ok rl e] at ha
    exact ⟨a, rfl, ha⟩
theorem bSum_h : ClH X.K W (b1 opSum) (rSum X.K) := by
  intro P F m h H σ Q vs ds S r fin
  obtain ⟨v, d, rfl, r1, fin⟩ := b1_inv r fin
  unfold opSum at fin
  split at fin
  · rename_i ns e
    obtain ⟨a, rfl, ha⟩ := lints_inv S r1 e
    exact ⟨a, ns, rfl, ha, fin.ok S (.int _)⟩
  · exact fin.bad_elim
theorem de_sum {p pos : Pos} {a : Expr} {fa : SE} (hc : X.calm = true) (hx : Gl X "sum") (hm : X.mg "sum" = none) (ha : DE X W a fa) (he : starEach [a] X.env = (false, eval a X.env) :: starEach [] X.env := by rfl) : DE X W (.Call (.Name "sum" p) [a] [] pos) (sCall (b1 opSum) (sCons fa sNil)) :=
  de_blt (cr_sum hc) bSum_h hx hm (by decide +kernel) (da_cons ha da_nil he) (he := he)
def opAll : D → OH → Res D := fun d h => match (lsqAt h d).bind bsOf with
  | some ns => .ok (.bl (ns.all id)) h
  | none => .bad
def opAny : D → OH → Res D := fun d h => match (lsqAt h d).bind bsOf with
  | some ns => .ok (.bl (ns.any id)) h
  | none => .bad
theorem bAll_h : ClH X.K W (b1 opAll) (rAll X.K) := by
  intro P F m h H σ Q vs ds S r fin
  obtain ⟨v, d, rfl, r1, fin⟩ := b1_inv r fin
  unfold opAll at fin
  split at fin
  · rename_i ns e
    obtain ⟨a, rfl, ha⟩ := lbls_inv S r1 e
    exact ⟨a, ns, rfl, ha, fin.ok S (.bl _)⟩
  · exact fin.bad_elim
theorem de_all {p pos : Pos} {a : Expr} {fa : SE} (hc : X.calm = true) (hx : Gl X "all") (hm : X.mg "all" = none) (ha : DE X W a fa) (he : starEach [a] X.env = (false, eval a X.env) :: starEach [] X.env := by rfl) : DE X W (.Call (.Name "all" p) [a] [] pos) (sCall (b1 opAll) (sCons fa sNil)) :=
  de_blt (cr_all hc) bAll_h hx hm (by decide +kernel) (da_cons ha da_nil he) (he := he)
/-- list(x), a new list, frozen or own -/
def opList (own : Bool) : D → OH → Res D := fun d h => match seqAt h d with
  | some xs => if own then .ok (.ref h.length) (h ++ [.lst xs]) else .ok (.lst xs) h
  | none => .bad
theorem bList_h (own : Bool) : ClH X.K W (b1 (opList own)) (fun xs H Q => ∃ p ys, xs = [.ref p] ∧ (SqL X.K H p ys ∨ SqT X.K H p ys) ∧ ∀ l, H l = none → Q (.ref l) (upd H l (.lst ys))) := by
  intro P F m h H σ Q vs ds S r fin
  obtain ⟨v, d, rfl, r1, fin⟩ := b1_inv r fin
  unfold opList at fin
  cases e : seqAt h d with
  | none => rw [e] at fin; exact fin.bad_elim
  | some xs =>
    rw [e] at fin
    obtain ⟨a, ws, rfl, ha, rl⟩ := seqAt_ok S r1 e
    refine ⟨a, ws, rfl, ha, fun l hl => ?_⟩
    cases own with
    | true => exact FinG.ownL fin S rl hl
    | false => exact FinG.newL fin S rl hl
theorem de_list {p pos : Pos} {a : Expr} {fa : SE} (own : Bool) (hx : Gl X "list") (hm : X.mg "list" = none) (ha : DE X W a fa) (he : starEach [a] X.env = (false, eval a X.env) :: starEach [] X.env := by rfl) : DE X W (.Call (.Name "list" p) [a] [] pos) (sCall (b1 (opList own)) (sCons fa sNil)) :=
  de_bty call_list_of (bList_h own) hx hm (by decide +kernel) (da_cons ha da_nil he) (he := he)
def opTuple : D → OH → Res D := fun d h => match d with
  | .tup xs => .ok (.tup xs) h
  | d => (match lsqAt h d with
    | some xs => .ok (.tup xs) h
    | none => .bad)
theorem bTuple_h : ClH X.K W (b1 opTuple) (fun xs H Q => ∃ p ys, xs = [.ref p] ∧ ((SqL X.K H p ys ∧ ∀ l, H l = none → Q (.ref l) (upd H l (.tup ys))) ∨ (SqT X.K H p ys ∧ Q (.ref p) H))) := by
  intro P F m h H σ Q vs ds S r fin
  obtain ⟨v, d, rfl, r1, fin⟩ := b1_inv r fin
  have lists : FinG X.K P W σ (Den X.K) Q F m (match lsqAt h d with
    | some xs => .ok (.tup xs) h
    | none => .bad) → ∃ p ys, [v] = [.ref p] ∧ ((SqL X.K H p ys ∧ ∀ l, H l = none → Q (.ref l) (upd H l (.tup ys))) ∨ (SqT X.K H p ys ∧ Q (.ref p) H)) := by
    intro fin
    cases e : lsqAt h d with
    | none => rw [e] at fin; exact fin.bad_elim
    | some xs =>
      rw [e] at fin
      obtain ⟨a, ws, rfl, ha, rl⟩ := lsqAt_ok S r1 e
      exact ⟨a, ws, rfl, .inl ⟨ha, fun l hl => FinG.newT fin S rl hl⟩⟩
  cases d with
  | tup xs =>
    obtain ⟨a, ws, rfl, ha, rl⟩ := tupAt_ok S r1 (rfl : tupAt (.tup xs) = some xs)
    exact ⟨a, ws, rfl, .inr ⟨.inl (.inl ha), FinG.ok fin S r1⟩⟩
  | _ => exact lists fin
theorem de_tuple {p pos : Pos} {a : Expr} {fa : SE} (hx : Gl X "tuple") (hm : X.mg "tuple" = none) (ha : DE X W a fa) (he : starEach [a] X.env = (false, eval a X.env) :: starEach [] X.env := by rfl) : DE X W (.Call (.Name "tuple" p) [a] [] pos) (sCall (b1 opTuple) (sCons fa sNil)) :=
  de_bty call_tuple_of bTuple_h hx hm (by decide +kernel) (da_cons ha da_nil he) (he := he)
/-! ### isinstance of built-in types -/
def tyAt (h : OH) : D → Option String
  | .non => some "NoneType"
  | .bl _ => some "bool"
  | .int _ => some "int"
  | .str _ => some "str"
  | .lst _ => some "list"
  | .scr _ => some "list"
  | .tup _ => some "tuple"
  | .dct _ => some "dict"
  | .obj _ _ => none
  | .exc _ => none
  | .excf _ _ _ => none
  | .ref i => (match h[i]? with
    | some (.lst _) => some "list"
    | some (.dct _) => some "dict"
    | _ => none)
def isiB (a b : String) : Bool := a == b || (a == "bool" && b == "int")
theorem kit_tab : (["NoneType", "bool", "int", "str", "list", "tuple", "dict"].all fun a => ["bool", "int", "str", "list", "tuple", "dict"].all fun b => kitB a b == some (isiB a b)) = true := by decide +kernel
theorem kit_at {a b : String} (ha : a ∈ ["NoneType", "bool", "int", "str", "list", "tuple", "dict"]) (hb : b ∈ ["bool", "int", "str", "list", "tuple", "dict"]) : kitB a b = some (isiB a b) := by
  have h := List.all_eq_true.mp kit_tab a ha
  have h2 := List.all_eq_true.mp h b hb
  exact eq_of_beq h2
theorem tyAt_mem {h : OH} {d : D} {t : String} (e : tyAt h d = some t) : t ∈ ["NoneType", "bool", "int", "str", "list", "tuple", "dict"] := by
  unfold tyAt at e
  split at e
  all_goals (try (simp only [Option.some.injEq] at e; subst e; decide))
  · cases e
  · cases e
  · cases e
  · split at e
    all_goals (try (simp only [Option.some.injEq] at e; subst e; decide))
    cases e
theorem tyAt_ok {P : Pins} {F : Hp} {m : List Addr} {h : OH} {H : Hp} {v : V} {d : D} {t : String} (S : Sim X.K P F m h H) (r : Den X.K F m v d) (e : tyAt h d = some t) : TyX X.K H v (.type t) := by
  cases r with
  | non => cases e; exact .base .non
  | bl b => cases e; exact .base (.bl b)
  | int i => cases e; exact .base (.int i)
  | str x => cases e; exact .base (.str x)
  | lst q _ => cases e; exact .base (.lst (S.sub _ _ q))
  | scr q _ =>
    cases e
    rcases S.sub.seq q with (q | ⟨o, q⟩) | ⟨o, its, n, q, c, _⟩
    · exact .base (.lst q)
    · exact .base (.frz q)
    · exact .kList q c
  | tup q _ => cases e; exact .base (.tup (S.sub _ _ q))
  | dct q _ => cases e; exact .base (.dK (S.sub _ _ q))
  | obj _ _ _ => cases e
  | exc _ => cases e
  | excf _ _ _ => cases e
  | ref q =>
    obtain ⟨o, h1, h2⟩ := S.own q
    unfold tyAt at e
    simp only [h1] at e
    cases o with
    | lst xs =>
      cases e
      obtain ⟨vs, k1, _⟩ := h2
      exact .base (.lst k1)
    | dct kvs =>
      cases e
      obtain ⟨ks, k1, _⟩ := h2
      exact .base (.dK k1)
    | ins _ _ => cases e
    | dead => cases e
/-- isinstance(e, T) -/
def sIsi (ts : List String) (f : SE) : SE := fun e h => (f e h).bind fun d h1 => match tyAt h1 d with
  | some t => .ok (.bl (ts.any fun T => isiB t T)) h1
  | none => .bad
theorem de_isi {T : String} {x : Str} {p p2 pos : Pos} {a : Expr} {fa : SE} (hT : T ∈ ["bool", "int", "str", "list", "tuple", "dict"]) (hx : Gl X "isinstance") (hm : X.mg "isinstance" = none) (hx2 : Gl X x) (hm2 : X.mg x = none) (hv2 : bootBuiltins x = some (.type T)) (ha : DE X W a fa) (hn : x ≠ "__name__" := by decide) (hd : (x == ("__debug__" : Str)) = false := by decide)
    (he : starEach [a, .Name x p2] X.env = (false, eval a X.env) :: starEach [.Name x p2] X.env := by rfl) (he2 : starEach [.Name x p2] X.env = (false, eval (.Name x p2) X.env) :: starEach [] X.env := by rfl)
    (hpl : (backTo pos (starEach [.Name x p2] X.env)).any (·.1) = false := by rfl) : DE X W (.Call (.Name "isinstance" p) [a, .Name x p2] [] pos) (sIsi [T] fa) :=
  PE.of (pe_callB call_isi hx hm (by decide +kernel) (pa_cons ha (pa_cons (pe_bltn (v := .ty T) hx2 hm2 hv2 rfl hn hd) pa_nil he2) he) (he := he) (hpl := hpl)) fun σ H Q => by
    rintro ⟨P, F, m, e, h, S, E, fin⟩
    refine rd_seq S E fin fun F1 m1 h1 H1 x dx x1 S1 E1 r1 fin1 => ?_
    cases q : tyAt h1 dx with
    | none => rw [q] at fin1; exact fin1.bad_elim
    | some t =>
      rw [q] at fin1
      exact ⟨x, .ty T, .type t, .type T, isiB t T, rfl, .ty T, tyAt_ok S1 r1 q, kit_ty (kit_at (tyAt_mem q) hT), fin1.ok S1 (by simp only [List.any_cons, List.any_nil, Bool.or_false]; exact .bl _)⟩
theorem kitAny_two {K : PySem.W.Frag} {t T1 T2 : String} (h1 : kitB t T1 = some (isiB t T1)) (h2 : kitB t T2 = some (isiB t T2)) : PySem.W.kitAny K (.type t) [.type T1, .type T2] = some (isiB t T1 || isiB t T2) := by
  refine kitAny_cons (kit_ty h1) (fun e => ?_) (fun e => by rw [e, Bool.true_or])
  rw [e, Bool.false_or]
  refine kitAny_cons (kit_ty h2) (fun e2 => ?_) (fun e2 => e2)
  rw [e2]
  exact kitAny_nil
/-- isinstance(e, (T1, T2)) -/
theorem de_isi2 {T1 T2 : String} {x y : Str} {p p2 p3 p4 pos : Pos} {j : Nat} {a : Expr} {fa : SE} (hT1 : T1 ∈ ["bool", "int", "str", "list", "tuple", "dict"]) (hT2 : T2 ∈ ["bool", "int", "str", "list", "tuple", "dict"]) (hx : Gl X "isinstance") (hm : X.mg "isinstance" = none)
    (hx2 : Gl X x) (hm2 : X.mg x = none) (hv2 : bootBuiltins x = some (.type T1)) (hx3 : Gl X y) (hm3 : X.mg y = none) (hv3 : bootBuiltins y = some (.type T2)) (ha : DE X W a fa) (hn : x ≠ "__name__" := by decide) (hd : (x == ("__debug__" : Str)) = false := by decide) (hn3 : y ≠ "__name__" := by decide) (hd3 : (y == ("__debug__" : Str)) = false := by decide)
    (he : starEach [a, .Tuple [.Name x p2, .Name y p3] j p4] X.env = (false, eval a X.env) :: starEach [.Tuple [.Name x p2, .Name y p3] j p4] X.env := by rfl) (he2 : starEach [.Tuple [.Name x p2, .Name y p3] j p4] X.env = (false, eval (.Tuple [.Name x p2, .Name y p3] j p4) X.env) :: starEach [] X.env := by rfl)
    (he3 : starEach [.Name x p2, .Name y p3] X.env = (false, eval (.Name x p2) X.env) :: starEach [.Name y p3] X.env := by rfl) (he4 : starEach [.Name y p3] X.env = (false, eval (.Name y p3) X.env) :: starEach [] X.env := by rfl)
    (hpl : (backTo pos (starEach [.Tuple [.Name x p2, .Name y p3] j p4] X.env)).any (·.1) = false := by rfl) : DE X W (.Call (.Name "isinstance" p) [a, .Tuple [.Name x p2, .Name y p3] j p4] [] pos) (sIsi [T1, T2] fa) :=
  PE.of (pe_callB call_isiT hx hm (by decide +kernel) (pa_cons ha (pa_cons (pe_tup (pa_cons (pe_bltn (v := .ty T1) hx2 hm2 hv2 rfl hn hd) (pa_cons (pe_bltn (v := .ty T2) hx3 hm3 hv3 rfl hn3 hd3) pa_nil he4) he3)) pa_nil he2) he) (he := he) (hpl := hpl)) fun σ H Q => by
    rintro ⟨P, F, m, e, h, S, E, fin⟩
    refine rd_seq S E fin fun F1 m1 h1 H1 x dx x1 S1 E1 r1 fin1 => ?_
    refine ⟨by show 2 ≤ sizeLine; decide, fun tp hp => ?_⟩
    cases q : tyAt h1 dx with
    | none => rw [q] at fin1; exact fin1.bad_elim
    | some t =>
      rw [q] at fin1
      have S2 := S1.other (o := .tup [.ty T1, .ty T2]) hp
      refine ⟨x, tp, [.ty T1, .ty T2], .type t, [.type T1, .type T2], isiB t T1 || isiB t T2, rfl, upd_same, .cons (.ty _) (.cons (.ty _) .nil), tyAt_ok S2 r1 q, kitAny_two (kit_at (tyAt_mem q) hT1) (kit_at (tyAt_mem q) hT2), fin1.ok S2 ?_⟩
      simp only [List.any_cons, List.any_nil, Bool.or_false]
      exact .bl _
/-! ### attributes -/
theorem ofString_inj {a b : String} (h : Str.ofString a = Str.ofString b) : a = b := by
  rw [Str.ofString_eq_toList, Str.ofString_eq_toList] at h
  have h2 : (a.toList.map Char.toNat) = (b.toList.map Char.toNat) := by simpa using h
  have h3 : a.toList = b.toList := by
    have inj : ∀ (l l' : List Char), l.map Char.toNat = l'.map Char.toNat → l = l' := by
      intro l
      induction l with
      | nil => intro l' e; cases l' with
        | nil => rfl
        | cons _ _ => simp at e
      | cons c l ih => intro l' e; cases l' with
        | nil => simp at e
        | cons c' l' =>
          simp only [List.map_cons, List.cons.injEq] at e
          rw [Char.toNat_inj.mp e.1, ih l' e.2]
    exact inj _ _ h2
  exact String.toList_inj.mp h3
theorem ofString_beq (a b : String) : (Str.ofString a == Str.ofString b) = (a == b) := by
  by_cases e : a = b
  · subst e; simp
  · have e2 : Str.ofString a ≠ Str.ofString b := fun z => e (ofString_inj z)
    rw [beq_eq_false_iff_ne.mpr e, beq_eq_false_iff_ne.mpr e2]
theorem DenF.look {K : PySem.W.Frag} {F : Hp} {m : List Addr} {f : String} {d : D} : ∀ {fv : List (Str × V)} {fs : List (String × D)}, DenF K F m fv fs → fs.lookup f = some d → ∃ v, fv.lookup (Str.ofString f) = some v ∧ Den K F m v d
  | _, _, .nil, e => by simp at e
  | _, _, .cons (f := g) h t, e => by
    rw [List.lookup_cons] at e ⊢
    rw [ofString_beq]
    cases q : (f == g) with
    | true =>
      rw [q] at e
      simp only [Option.some.injEq] at e
      subst e
      exact ⟨_, rfl, h⟩
    | false =>
      rw [q] at e
      exact DenF.look t e
theorem DenF.none {K : PySem.W.Frag} {F : Hp} {m : List Addr} {f : String} : ∀ {fv : List (Str × V)} {fs : List (String × D)}, DenF K F m fv fs → fs.lookup f = none → fv.lookup (Str.ofString f) = none
  | _, _, .nil, _ => rfl
  | _, _, .cons (f := g) h t, e => by
    rw [List.lookup_cons] at e ⊢
    rw [ofString_beq]
    cases q : (f == g) with
    | true => rw [q] at e; cases e
    | false => rw [q] at e; exact DenF.none t e
def putS (f : String) (d : D) : List (String × D) → List (String × D)
  | [] => [(f, d)]
  | (g, x) :: r => if g = f then (g, d) :: r else (g, x) :: putS f d r
/-- the fields of an instance -/
def insAt (h : OH) : D → Option (String × List (String × D))
  | .obj C fs => some (C, fs)
  | .ref i => (match h[i]? with
    | some (.ins C fs) => some (C, fs)
    | _ => none)
  | _ => none
theorem insAt_ok {K : PySem.W.Frag} {P : Pins} {F : Hp} {m : List Addr} {h : OH} {H : Hp} {v : V} {d : D} {C : String} {fs : List (String × D)} (S : Sim K P F m h H) (r : Den K F m v d) (q : insAt h d = some (C, fs)) : ∃ a dx fv, v = .ref a ∧ H a = some (.ins (He.ga K (Str.ofString C)) dx fv) ∧ ObT K C fs ∧ DenF K F m fv fs := by
  cases r with
  | obj e t r => cases q; exact ⟨_, _, _, rfl, S.sub _ _ e, t, r⟩
  | ref e =>
    obtain ⟨o, h1, h2⟩ := S.own e
    unfold insAt at q
    simp only [h1] at q
    cases o with
    | ins C' fs' =>
      cases q
      obtain ⟨dx, fv, k1, k2, k3, _⟩ := h2
      exact ⟨_, dx, fv, rfl, k1, k2, k3⟩
    | _ => cases q
  | _ => cases q
theorem mem_of_lookup {f : String} {d : D} : ∀ {fs : List (String × D)}, fs.lookup f = some d → ∃ q ∈ fs, q.1 = f
  | [], e => by simp at e
  | (g, x) :: r, e => by
    rw [List.lookup_cons] at e
    cases q : (f == g) with
    | true => exact ⟨(g, x), List.mem_cons_self, (eq_of_beq q).symm⟩
    | false =>
      rw [q] at e
      obtain ⟨p, hp, e2⟩ := mem_of_lookup e
      exact ⟨p, List.mem_cons_of_mem _ hp, e2⟩
def opFld (f : String) : D → OH → Res D := fun d h => match insAt h d with
  | some q => (match q.2.lookup f with
    | some x => .ok x h
    | none => .bad)
  | none => .bad
theorem de_fld {a : Expr} {f : String} {pos : Pos} {fa : SE} (ha : DE X W a fa) (hb : attributeBase a (Str.ofString f) X.env (eval a X.env) = eval a X.env := by rfl) : DE X W (.Attribute a (Str.ofString f) pos) (sUn (opFld f) fa) := PE.of (pe_fld ha hb) fun σ H Q => by
  rintro ⟨P, F, m, e, h, S, E, fin⟩
  refine rd_seq S E fin fun F1 m1 h1 H1 x dx x1 S1 E1 r1 fin1 => ?_
  unfold opFld at fin1
  cases q : insAt h1 dx with
  | none => rw [q] at fin1; exact fin1.bad_elim
  | some z =>
    obtain ⟨C, fs⟩ := z
    rw [q] at fin1
    dsimp only at fin1
    obtain ⟨b, dxx, fv, rfl, hb2, ob, rf⟩ := insAt_ok S1 r1 q
    cases q2 : fs.lookup f with
    | none => rw [q2] at fin1; exact fin1.bad_elim
    | some d =>
      rw [q2] at fin1
      obtain ⟨v, l, rv⟩ := rf.look q2
      obtain ⟨p, hp, e2⟩ := mem_of_lookup q2
      subst e2
      exact ⟨b, _, dxx, fv, v, rfl, hb2, ob.1, ob.2 p hp, l, fin1.ok S1 rv⟩
/-! ### methods of own lists -/
/-- the receiver must be an own list all along -/
def isOwn (h : OH) : D → Bool
  | .ref i => (match h[i]? with
    | some (.lst _) => true
    | _ => false)
  | _ => false
def sMtO (g : Nat → List D → List D → OH → Res D) (o : SE) (a : SA) : SE := fun e h => (o e h).bind fun x h1 => if isOwn h1 x then (a e h1).bind fun ys h2 => (match x with
    | .ref i => (match h2[i]? with
      | some (.lst xs) => g i xs ys h2
      | _ => .bad)
    | _ => .bad) else .bad
theorem rd_mt {g : Nat → List D → List D → OH → Res D} {r : V → List V → Hp → VK → Prop} {fo : SE} {fa : SA} {σ : St} {H : Hp} {Q : VK}
    (hg : ∀ (P : Pins) (F : Hp) (m : List Addr) (h : OH) (H : Hp) (i : Nat) (a : Addr) (vs ws : List V) (xs ys : List D), Sim X.K P F m h H → m[i]? = some a → h[i]? = some (.lst xs) → H a = some (.lst vs) → DenL X.K F m vs xs → F a = none → DenL X.K F m ws ys → FinG X.K P W σ (Den X.K) Q F m (g i xs ys h) → r (.ref a) ws H Q)
    (q : rdG X.K W (Den X.K) (sMtO g fo fa) σ H Q) : rdG X.K W (Den X.K) fo σ H (fun x H1 => tyV X.K "list" x H1 ∧ rdG X.K W (DenL X.K) fa σ H1 fun xs H2 => r x xs H2 Q) := by
  obtain ⟨P, F, m, e, h, S, E, fin⟩ := q
  refine rd_seq S E fin fun F1 m1 h1 H1 x dx x1 S1 E1 r1 fin1 => ?_
  by_cases ho : isOwn h1 dx = true
  · rw [if_pos ho] at fin1
    cases r1 with
    | @ref a i e1 =>
      have ty : tyV X.K "list" (.ref a) H1 := by
        obtain ⟨o, k1, k2⟩ := S1.own e1
        simp only [isOwn, k1] at ho
        cases o with
        | lst xs =>
          obtain ⟨vs, k3, _⟩ := k2
          exact .inl ⟨rfl, vs, .inl (.inl k3)⟩
        | _ => cases ho
      refine ⟨ty, ?_⟩
      refine rd_seq S1 E1 fin1 fun F2 m2 h2 H2 ws ys x2 S2 E2 r2 fin2 => ?_
      have e2 := pre_get x2.p e1
      obtain ⟨o, k1, k2⟩ := S2.own e2
      dsimp only at fin2
      rw [k1] at fin2
      cases o with
      | lst xs =>
        obtain ⟨vs, k3, k4, k5⟩ := k2
        exact hg P F2 m2 h2 H2 i a vs ws xs ys S2 e2 k1 k3 k4 k5 r2 fin2
      | _ => exact fin2.bad_elim
    | _ => simp [isOwn] at ho
  · rw [if_neg ho] at fin1
    exact fin1.bad_elim
def gAppend (i : Nat) (xs ys : List D) (h : OH) : Res D := match ys with
  | [y] => if xs.length < big then .ok .non (h.set i (.lst (xs ++ [y]))) else .bad
  | _ => .bad
theorem de_append {o a : Expr} {fo fa : SE} {apos cpos : Pos} (ho : DE X W o fo) (ha : DE X W a fa) (hbase : attributeBase o "append" X.env (eval o X.env) = eval o X.env := by rfl)
    (hfew : ((backTo cpos (starEach [a] X.env)).all (fun x => !x.1) && (backToKw cpos (keywordEach [] X.env)).all (fun x => x.1.isSome) && decide (([a] : List Expr).length + ([] : List Keyword).length + (if ([] : List Keyword).isEmpty then 0 else 1) < 30)) = true := by rfl)
    (hline : (apos.endLine == cpos.line) = true := by rfl) (hs : starEach [a] X.env = (false, eval a X.env) :: starEach [] X.env := by rfl) (hplain : (backTo cpos (starEach [] X.env)).any (·.1) = false := by rfl) : DE X W (.Call (.Attribute o "append" apos) [a] [] cpos) (sMtO gAppend fo (sCons fa sNil)) :=
  PE.of (pe_bm PySem.F.plainAttrs_list PySem.F.slot_list_append PySem.F.type_list_append mt_append ho (da_cons ha da_nil hs) hbase hfew hline hs hplain) fun σ H Q => rd_mt (r := rAppend) fun P F m h H i a vs ws xs ys S e1 e2 ha rl nf rw fin => by
    unfold gAppend at fin
    split at fin
    · rename_i y
      obtain ⟨w, rfl, ry⟩ := denL1 rw
      by_cases hz : xs.length < big
      · rw [if_pos hz] at fin
        refine ⟨a, vs, w, rfl, rfl, ha, by rw [rl.length]; exact big_lt hz, fin.ok (S.write e1 e2 nf ⟨_, upd_same, rl.append (.cons ry .nil), nf⟩) .non⟩
      · rw [if_neg hz] at fin
        exact fin.bad_elim
    · exact fin.bad_elim
def gPopAt (i : Nat) (xs ys : List D) (h : OH) : Res D := match ys with
  | [.int k] => if -(2 ^ 63) ≤ k ∧ k < 2 ^ 63 then (match seqIndex? k xs.length with
    | some j => (match xs[j]? with
      | some y => .ok y (h.set i (.lst (xs.eraseIdx j)))
      | none => .bad)
    | none => .bad) else .bad
  | _ => .bad
theorem de_popAt {o a : Expr} {fo fa : SE} {apos cpos : Pos} (ho : DE X W o fo) (ha : DE X W a fa) (hbase : attributeBase o "pop" X.env (eval o X.env) = eval o X.env := by rfl)
    (hfew : ((backTo cpos (starEach [a] X.env)).all (fun x => !x.1) && (backToKw cpos (keywordEach [] X.env)).all (fun x => x.1.isSome) && decide (([a] : List Expr).length + ([] : List Keyword).length + (if ([] : List Keyword).isEmpty then 0 else 1) < 30)) = true := by rfl)
    (hline : (apos.endLine == cpos.line) = true := by rfl) (hs : starEach [a] X.env = (false, eval a X.env) :: starEach [] X.env := by rfl) (hplain : (backTo cpos (starEach [] X.env)).any (·.1) = false := by rfl) : DE X W (.Call (.Attribute o "pop" apos) [a] [] cpos) (sMtO gPopAt fo (sCons fa sNil)) :=
  PE.of (pe_bm PySem.F.plainAttrs_list PySem.F.slot_list_pop PySem.F.type_list_pop mt_popAt ho (da_cons ha da_nil hs) hbase hfew hline hs hplain) fun σ H Q => rd_mt (r := rPopAt) fun P F m h H i a vs ws xs ys S e1 e2 ha rl nf rw fin => by
    unfold gPopAt at fin
    split at fin
    · rename_i k
      obtain ⟨w, rfl, ry⟩ := denL1 rw
      cases den_int ry
      by_cases hz : -(2 ^ 63) ≤ k ∧ k < 2 ^ 63
      · rw [if_pos hz] at fin
        cases q : seqIndex? k xs.length with
        | none => rw [q] at fin; exact fin.bad_elim
        | some j =>
          rw [q] at fin
          dsimp only at fin
          cases q2 : xs[j]? with
          | none => rw [q2] at fin; exact fin.bad_elim
          | some y =>
            rw [q2] at fin
            obtain ⟨v, e3, rv⟩ := rl.get q2
            exact ⟨a, vs, k, j, v, rfl, rfl, ha, hz.1, hz.2, by rw [rl.length]; exact q, e3, fin.ok (S.write e1 e2 nf ⟨_, upd_same, rl.eraseIdx j, nf⟩) rv⟩
      · rw [if_neg hz] at fin
        exact fin.bad_elim
    · exact fin.bad_elim
end
end HR
set_option Elab.async false
set_option linter.all false
set_option maxRecDepth 100000
set_option maxHeartbeats 2000000
/-! LayE: statements, targets, loops, comprehensions. -/
namespace HR
open PySem L2
def FinS (K : PySem.W.Frag) (P : Pins) (W : WX) (Dn : Ends) (F : Hp) (m : List Addr) : SRes → Prop
  | .nx e h' => ∀ σ F' m' H', Ext F m F' m' → Sim K P F' m' h' H' → EnvR K F' m' σ e → Dn.nx σ H'
  | .bk e h' => ∀ σ F' m' H', Ext F m F' m' → Sim K P F' m' h' H' → EnvR K F' m' σ e → Dn.bk σ H'
  | .ct e h' => ∀ σ F' m' H', Ext F m F' m' → Sim K P F' m' h' H' → EnvR K F' m' σ e → Dn.ct σ H'
  | .rt d h' => ∀ v F' m' H', Ext F m F' m' → Sim K P F' m' h' H' → Den K F' m' v d → Dn.rt v H'
  | .exc C p e h' => ∀ od σ F' m' H', Ext F m F' m' → Sim K P F' m' h' H' → PayD K F' m' p od → EnvR K F' m' σ e → W (.ref (He.ga K (Str.ofString C))) od σ H'
  | .bad => False
def rdS (K : PySem.W.Frag) (W : WX) (f : SS) : TS := fun Dn σ H => ∃ P F m e h, Sim K P F m h H ∧ EnvR K F m σ e ∧ FinS K P W Dn F m (f e h)
abbrev DS (X : Cx) (W : WX) (st : Stmt) (f : SS) : Prop := PS X st (rdS X.K W f)
abbrev DSs (X : Cx) (W : WX) (sts : List Stmt) (f : SS) : Prop := PSs X sts (rdS X.K W f)
/-- behind an expression -/
def Res.toS {α : Type} (r : Res α) (e : Env') (g : α → OH → SRes) : SRes := match r with
  | .ok a h => g a h
  | .exc C p h => .exc C p e h
  | .bad => .bad
@[simp] theorem Res.toS_ok {α : Type} (a : α) (h : OH) (e : Env') (g : α → OH → SRes) : (Res.ok a h).toS e g = g a h := rfl
@[simp] theorem Res.toS_bad {α : Type} (e : Env') (g : α → OH → SRes) : (Res.bad : Res α).toS e g = .bad := rfl
@[simp] theorem Res.toS_exc {α : Type} (C : String) (p : Pay) (h : OH) (e : Env') (g : α → OH → SRes) : (Res.exc C p h : Res α).toS e g = .exc C p e h := rfl
section
variable {K : PySem.W.Frag} {P : Pins} {W : WX} {σ : St} {F F' : Hp} {m m' : List Addr} {h : OH} {H : Hp} {e : Env'} {Dn : Ends}
theorem FinS.weak (x : Ext F m F' m') : ∀ {r : SRes}, FinS K P W Dn F m r → FinS K P W Dn F' m' r
  | .nx _ _, q => fun σ F2 m2 H2 y => q σ F2 m2 H2 (x.trans y)
  | .bk _ _, q => fun σ F2 m2 H2 y => q σ F2 m2 H2 (x.trans y)
  | .ct _ _, q => fun σ F2 m2 H2 y => q σ F2 m2 H2 (x.trans y)
  | .rt _ _, q => fun v F2 m2 H2 y => q v F2 m2 H2 (x.trans y)
  | .exc _ _ _ _, q => fun od σ F2 m2 H2 y => q od σ F2 m2 H2 (x.trans y)
  | .bad, q => q
/-- an expression, then more -/
theorem st_seq {α β : Type} {rel : Rel β α} {f : Env' → OH → Res α} {g : α → OH → SRes} {R : β → Hp → Prop} (S : Sim K P F m h H) (E : EnvR K F m σ e) (fin : FinS K P W Dn F m ((f e h).toS e g))
    (k : ∀ F' m' h' H' v a, Ext F m F' m' → Sim K P F' m' h' H' → EnvR K F' m' σ e → rel F' m' v a → FinS K P W Dn F' m' (g a h') → R v H') : rdG K W rel f σ H R := by
  refine ⟨P, F, m, e, h, S, E, ?_⟩
  cases q : f e h with
  | ok a h1 =>
    rw [q] at fin
    exact fun v F1 m1 H1 x S1 r => k F1 m1 h1 H1 v a x S1 (E.mono x) r (FinS.weak x fin)
  | exc C p h1 =>
    rw [q] at fin
    exact fun od F1 m1 H1 x S1 pd => fin od σ F1 m1 H1 x S1 pd (E.mono x)
  | bad =>
    rw [q] at fin
    exact fin.elim
theorem EnvR.set (E : EnvR K F m σ e) (i : Nat) {v : V} {d : D} (r : Den K F m v d) : EnvR K F m (σ.set i (some v)) (e.set i (some d)) := by
  refine ⟨by simp [E.len], fun j c q => ?_⟩
  by_cases hj : i = j
  · subst hj
    rw [List.getElem?_set] at q
    simp only [if_true] at q
    by_cases hi : i < e.length
    · rw [if_pos hi] at q
      simp only [Option.some.injEq] at q
      subst q
      exact ⟨v, by rw [List.getElem?_set_self (by rw [E.len]; exact hi)], r⟩
    · rw [if_neg hi] at q
      cases q
  · rw [List.getElem?_set_ne hj] at q
    obtain ⟨w, a, b⟩ := E.at_ j c q
    exact ⟨w, by rw [List.getElem?_set_ne hj]; exact a, b⟩
theorem EnvR.clr (E : EnvR K F m σ e) (i : Nat) : EnvR K F m (σ.set i none) (e.set i none) := by
  refine ⟨by simp [E.len], fun j c q => ?_⟩
  by_cases hj : i = j
  · subst hj
    rw [List.getElem?_set] at q
    simp only [if_true] at q
    split at q <;> cases q
  · rw [List.getElem?_set_ne hj] at q
    obtain ⟨w, a, b⟩ := E.at_ j c q
    exact ⟨w, by rw [List.getElem?_set_ne hj]; exact a, b⟩
def wipeD (e : Env') : List Nat → Env'
  | [] => e
  | v :: vs => (wipeD e vs).set v none
theorem EnvR.wipe (E : EnvR K F m σ e) : ∀ vs : List Nat, EnvR K F m (L2.wipe σ vs) (wipeD e vs)
  | [] => E
  | v :: vs => (E.wipe vs).clr v
end
theorem wipe_set {σ : St} {i : Nat} {x : Option V} : ∀ {vs : List Nat}, i ∈ vs → L2.wipe (σ.set i x) vs = L2.wipe σ vs
  | [], h => by simp at h
  | v :: vs, h => by
    show (L2.wipe (σ.set i x) vs).set v none = (L2.wipe σ vs).set v none
    by_cases hi : i ∈ vs
    · rw [wipe_set hi]
    · have hv : i = v := by
        rcases List.mem_cons.mp h with h | h
        · exact h
        · exact absurd h hi
      subst hv
      have comm : ∀ (ws : List Nat), i ∉ ws → L2.wipe (σ.set i x) ws = (L2.wipe σ ws).set i x := by
        intro ws
        induction ws with
        | nil => intro _; rfl
        | cons w ws ih =>
          intro hw
          simp only [List.mem_cons, not_or] at hw
          show (L2.wipe (σ.set i x) ws).set w none = ((L2.wipe σ ws).set w none).set i x
          rw [ih hw.2, List.set_comm _ _ (fun z => hw.1 z)]
      rw [comm vs hi, List.set_set]
section
variable {X : Cx} {W : WX}
theorem PS.of {st : Stmt} {t t' : TS} (h : PS X st t) (w : ∀ Dn σ H, t' Dn σ H → t Dn σ H) : PS X st t' := ⟨fun pins s σ H Dn I q => h.run pins s σ H Dn I (w Dn σ H q)⟩
theorem PSs.of {st : List Stmt} {t t' : TS} (h : PSs X st t) (w : ∀ Dn σ H, t' Dn σ H → t Dn σ H) : PSs X st t' := ⟨fun pins s σ H Dn I q => h.run pins s σ H Dn I (w Dn σ H q)⟩
def sNext : SS := fun e h => .nx e h
def sSeq (f g : SS) : SS := fun e h => match f e h with
  | .nx e1 h1 => g e1 h1
  | r => r
def sBreak : SS := fun e h => .bk e h
def sCont : SS := fun e h => .ct e h
def sExpr (f : SE) : SS := fun e h => (f e h).toS e fun _ h1 => .nx e h1
def sRet (f : SE) : SS := fun e h => (f e h).toS e fun d h1 => .rt d h1
def sRetN : SS := fun _ h => .rt .non h
def sSet (i : Nat) (f : SE) : SS := fun e h => (f e h).toS e fun d h1 => .nx (e.set i (some d)) h1
def sIfS (c : ST) (a b : SS) : SS := fun e h => (c e h).toS e fun t h1 => if t then a e h1 else b e h1
theorem ds_nil : DSs X W [] sNext := PSs.of pss_nil fun Dn σ H => by
  rintro ⟨P, F, m, e, h, S, E, fin⟩
  exact fin σ F m H .refl S E
theorem ds_cons {st : Stmt} {rest : List Stmt} {f g : SS} (h1 : DS X W st f) (h2 : DSs X W rest g) : DSs X W (st :: rest) (sSeq f g) := PSs.of (pss_cons h1 h2) fun Dn σ H => by
  rintro ⟨P, F, m, e, h, S, E, fin⟩
  refine ⟨P, F, m, e, h, S, E, ?_⟩
  unfold sSeq at fin
  cases q : f e h with
  | nx e1 h1 =>
    rw [q] at fin
    exact fun σ' F1 m1 H1 x S1 E1 => ⟨P, F1, m1, e1, h1, S1, E1, FinS.weak x fin⟩
  | bk e1 h1 => rw [q] at fin; exact fin
  | ct e1 h1 => rw [q] at fin; exact fin
  | rt d h1 => rw [q] at fin; exact fin
  | exc C p e1 h1 => rw [q] at fin; exact fin
  | bad => rw [q] at fin; exact fin
theorem ds_one {st : Stmt} {f : SS} (h1 : DS X W st f) : DSs X W [st] f := PSs.of (pss_one h1) fun Dn σ H q => q
theorem ds_expr {a : Expr} {f : SE} {pos : Pos} (ha : DE X W a f) (hs : swapsWith a none pos.line X.env = pure false := by rfl) : DS X W (.Expr a pos) (sExpr f) := PS.of (ps_expr ha hs) fun Dn σ H => by
  rintro ⟨P, F, m, e, h, S, E, fin⟩
  exact st_seq S E fin fun F1 m1 h1 H1 v d x S1 E1 r fin1 => fin1 σ F1 m1 H1 .refl S1 E1
theorem ds_ret {a : Expr} {f : SE} {pos : Pos} (ha : DE X W a f) : DS X W (.Return (some a) pos) (sRet f) := PS.of (ps_ret ha) fun Dn σ H => by
  rintro ⟨P, F, m, e, h, S, E, fin⟩
  exact st_seq S E fin fun F1 m1 h1 H1 v d x S1 E1 r fin1 => fin1 v F1 m1 H1 .refl S1 r
theorem ds_set (i : Nat) {x : Str} {a : Expr} {f : SE} {pos pos' : Pos} (hN : X.N.Nodup) (ha : DE X W a f) (hi : X.N[i]? = some x := by rfl) (hx : Loc X.env.scope x := by first | exact Or.inl rfl | exact Or.inr rfl) (hs : swapsWith a (some (.Name x pos')) pos.line X.env = pure false := by rfl)
    (hf : X.fn x = true ∨ X.env.scope.names.lookup x = some .local := by first | exact .inl rfl | exact .inr rfl | assumption) : DS X W (.Assign [.Name x pos'] a pos) (sSet i f) := PS.of (ps_set hN hi hx ha hs hf) fun Dn σ H => by
  rintro ⟨P, F, m, e, h, S, E, fin⟩
  exact st_seq S E fin fun F1 m1 h1 H1 v d x S1 E1 r fin1 => fin1 _ F1 m1 H1 .refl S1 (E1.set i r)
theorem ds_if {c : Expr} {a b : List Stmt} {fc : ST} {fa fb : SS} {pos : Pos} (hc : DT X W c fc) (ha : DSs X W a fa) (hb : DSs X W b fb) : DS X W (.If c a b pos) (sIfS fc fa fb) := PS.of (ps_if hc ha hb) fun Dn σ H => by
  rintro ⟨P, F, m, e, h, S, E, fin⟩
  refine st_seq S E fin fun F1 m1 h1 H1 v d x S1 E1 r fin1 => ?_
  have r : v = d := r
  subst r
  cases v with
  | true => exact ⟨P, F1, m1, e, h1, S1, E1, fin1⟩
  | false => exact ⟨P, F1, m1, e, h1, S1, E1, fin1⟩
/-! ### targets -/
abbrev TF := D → Env' → OH → Option Env'
def rdTG (K : PySem.W.Frag) (vs : List Nat) (g : TF) : TG := fun v σ H Q => ∃ P F m e h d, Sim K P F m h H ∧ EnvR K F m σ e ∧ Den K F m v d ∧ ∃ e', g d e h = some e' ∧ ∀ σ', EnvR K F m σ' e' → L2.wipe σ' vs = L2.wipe σ vs → Q σ' H
abbrev DG (X : Cx) (vs : List Nat) (tg : Expr) (g : TF) : Prop := PG X tg (rdTG X.K vs g)
abbrev TFs := List D → Env' → OH → Option Env'
def rdTGs (K : PySem.W.Frag) (vs : List Nat) (g : TFs) : TGs := fun ws σ H Q => ∃ P F m e h ds, Sim K P F m h H ∧ EnvR K F m σ e ∧ DenL K F m ws ds ∧ ∃ e', g ds e h = some e' ∧ ∀ σ', EnvR K F m σ' e' → L2.wipe σ' vs = L2.wipe σ vs → Q σ' H
abbrev DGs (X : Cx) (vs : List Nat) (ts : List Expr) (g : TFs) : Prop := PGs X ts (rdTGs X.K vs g)
theorem PG.of {tg : Expr} {t t' : TG} (h : PG X tg t) (w : ∀ v σ H Q, t' v σ H Q → t v σ H Q) : PG X tg t' := ⟨fun pins s σ H v u Q I r q => h.run pins s σ H v u Q I r (w v σ H Q q)⟩
theorem PGs.of {ts : List Expr} {t t' : TGs} (h : PGs X ts t) (w : ∀ v σ H Q, t' v σ H Q → t v σ H Q) : PGs X ts t' := ⟨fun pins s σ H v u Q I r q => h.run pins s σ H v u Q I r (w v σ H Q q)⟩
theorem pgOr {tg : Expr} {t t' : TG} (h : PG X tg t) (h' : PG X tg t') : PG X tg (fun v σ H Q => t v σ H Q ∨ t' v σ H Q) := ⟨fun pins s σ H v u Q I r q => q.elim (h.run pins s σ H v u Q I r) (h'.run pins s σ H v u Q I r)⟩
def gN (i : Nat) : TF := fun d e _ => some (e.set i (some d))
def gNl : TFs := fun ds e _ => match ds with
  | [] => some e
  | _ => none
def gCs (g : TF) (r : TFs) : TFs := fun ds e h => match ds with
  | d :: ds => (g d e h).bind fun e1 => r ds e1 h
  | [] => none
/-- a tuple or a list of n -/
def gT (n : Nat) (g : TFs) : TF := fun d e h => match seqAt h d with
  | some xs => if xs.length = n then g xs e h else none
  | none => none
theorem dg_name (i : Nat) {x : Str} {pos : Pos} {vs : List Nat} (hN : X.N.Nodup) (hi : X.N[i]? = some x := by rfl) (hx : Loc X.env.scope x := by first | exact Or.inl rfl | exact Or.inr rfl) (hv : i ∈ vs := by simp) (hf : X.fn x = true ∨ X.env.scope.names.lookup x = some .local := by first | exact .inl rfl | exact .inr rfl | assumption) : DG X vs (.Name x pos) (gN i) :=
  PG.of (pg_name hN hi hx hf) fun v σ H Q => by
    rintro ⟨P, F, m, e, h, d, S, E, r, e', q, k⟩
    cases q
    exact k _ (E.set i r) (wipe_set hv)
theorem dg_nil {vs : List Nat} : DGs X vs [] gNl := PGs.of pgs_nil fun v σ H Q => by
  rintro ⟨P, F, m, e, h, ds, S, E, r, e', q, k⟩
  cases r with
  | nil =>
    cases q
    exact ⟨rfl, k σ E rfl⟩
  | cons _ _ => cases q
theorem dg_cons {t : Expr} {ts : List Expr} {vs : List Nat} {g : TF} {gr : TFs} (h1 : DG X vs t g) (h2 : DGs X vs ts gr) (hs : (assignEach (t :: ts) X.env).map (·.2) = assign t X.env :: (assignEach ts X.env).map (·.2) := by rfl) : DGs X vs (t :: ts) (gCs g gr) := PGs.of (pgs_cons h1 h2 hs) fun v σ H Q => by
  rintro ⟨P, F, m, e, h, ds, S, E, r, e', q, k⟩
  cases r with
  | nil => cases q
  | @cons v d ws ds a b =>
    simp only [gCs, Option.bind_eq_some_iff] at q
    obtain ⟨e1, q1, q2⟩ := q
    exact ⟨v, ws, rfl, P, F, m, e, h, d, S, E, a, e1, q1, fun σ1 E1 w1 => ⟨P, F, m, e1, h, ds, S, E1, b, e', q2, fun σ2 E2 w2 => k σ2 E2 (w2.trans w1)⟩⟩
theorem dg_tup {ts : List Expr} {n j : Nat} {vs : List Nat} {pos : Pos} {gr : TFs} (hc : X.calm = true) (h : DGs X vs ts gr) (hn : ts.length = n := by rfl) (h1 : PG X (.Tuple ts j pos) (gTup X.K n (rdTGs X.K vs gr))) (h2 : PG X (.Tuple ts j pos) (gLst X.K n (rdTGs X.K vs gr))) : DG X vs (.Tuple ts j pos) (gT n gr) :=
  PG.of (pgOr h1 h2) fun v σ H Q => by
    rintro ⟨P, F, m, e, h, d, S, E, r, e', q, k⟩
    unfold gT at q
    cases q1 : seqAt h d with
    | none => rw [q1] at q; cases q
    | some xs =>
      rw [q1] at q
      dsimp only at q
      by_cases hz : xs.length = n
      · rw [if_pos hz] at q
        obtain ⟨a, ws, rfl, ha, rl⟩ := seqAt_ok S r q1
        have body : rdTGs X.K vs gr ws σ H Q := ⟨P, F, m, e, h, xs, S, E, rl, e', q, k⟩
        rcases ha with ha | ha
        · exact .inr ⟨a, ws, rfl, ha, by rw [rl.length]; exact hz, body⟩
        · exact .inl ⟨a, ws, rfl, ha, by rw [rl.length]; exact hz, body⟩
      · rw [if_neg hz] at q
        cases q
/-- target = e, a tuple of names -/
def sAsg (g : TF) (f : SE) : SS := fun e h => (f e h).toS e fun d h1 => match g d e h1 with
  | some e1 => .nx e1 h1
  | none => .bad
theorem ds_asg {tg a : Expr} {vs : List Nat} {g : TF} {f : SE} {pos : Pos} (ha : DE X W a f) (hg : DG X vs tg g) (hs : swapsWithSole [tg] a pos.line X.env = pure false := by rfl) (hw : swappedStores [tg] a X.env = pure none := by rfl) (h1 : (assignEach [tg] X.env).map (·.2) = [assign tg X.env] := by rfl) : DS X W (.Assign [tg] a pos) (sAsg g f) :=
  PS.of (ps_asg ha hg hs hw h1) fun Dn σ H => by
    rintro ⟨P, F, m, e, h, S, E, fin⟩
    refine st_seq S E fin fun F1 m1 h1 H1 v d x S1 E1 r fin1 => ?_
    cases q : g d e h1 with
    | none => rw [q] at fin1; exact fin1.elim
    | some e1 =>
      rw [q] at fin1
      exact ⟨P, F1, m1, e, h1, d, S1, E1, r, e1, q, fun σ' E' _ => fin1 σ' F1 m1 H1 .refl S1 E'⟩
/-- a, b = x, y -/
def sPar (i j : Nat) (f : SA) : SS := fun e h => (f e h).toS e fun ds h1 => match ds with
  | [x, y] => .nx ((e.set i (some x)).set j (some y)) h1
  | _ => .bad
theorem ds_par {i j : Nat} {x y : Str} {a b : Expr} {fa : SA} {px py pt : Pos} {kt k2 : Nat} {pt2 pos : Pos} (hc : X.calm = true) (hN : X.N.Nodup) (ha : DA X W [a, b] fa) (hi : X.N[i]? = some x := by rfl) (hj : X.N[j]? = some y := by rfl) (hij : i ≠ j := by decide)
    (hx : X.env.scope.names.lookup x = some .local := by rfl) (hy : X.env.scope.names.lookup y = some .local := by rfl)
    (hw : swappedStores [.Tuple [.Name x px, .Name y py] kt pt] (.Tuple [a, b] k2 pt2) X.env = pure (some [x, y]) := by rfl)
    (hs : swapsWithSole [.Tuple [.Name x px, .Name y py] kt pt] (.Tuple [a, b] k2 pt2) pos.line X.env = pure false := by rfl) : DS X W (.Assign [.Tuple [.Name x px, .Name y py] kt pt] (.Tuple [a, b] k2 pt2) pos) (sPar i j fa) :=
  PS.of (ps_par hc hN hi hj hij hx hy ha hw hs) fun Dn σ H => by
    rintro ⟨P, F, m, e, h, S, E, fin⟩
    refine st_seq S E fin fun F1 m1 h1 H1 v d x S1 E1 r fin1 => ?_
    match d, r, fin1 with
    | [c1, c2], r, fin1 =>
      obtain ⟨v1, v2, rfl, r1, r2⟩ := denL2 r
      exact ⟨v1, v2, rfl, fin1 _ F1 m1 H1 .refl S1 ((E1.set i r1).set j r2)⟩
    | [], _, fin1 => exact fin1.elim
    | [_], _, fin1 => exact fin1.elim
    | _ :: _ :: _ :: _, _, fin1 => exact fin1.elim
/-! ### x op= e -/
def sAug (i : Nat) (g : D → D → OH → Res D) (f : SE) : SS := fun e h => match e[i]? with
  | some (some x) => (f e h).toS e fun y h1 => (g x y h1).toS e fun z h2 => .nx (e.set i (some z)) h2
  | _ => .bad
/-- o.f = e -/
def sFldS (C f : String) (o v : SE) : SS := fun e h => (v e h).toS e fun y h1 => (o e h1).toS e fun x h2 => match x with
  | .ref i => (match h2[i]? with
    | some (.ins C' fs) => if C' = C ∧ fs.length < 900 then .nx e (h2.set i (.ins C (putS f y fs))) else .bad
    | _ => .bad)
  | _ => .bad
theorem putF_den {K : PySem.W.Frag} {F : Hp} {m : List Addr} {f : String} {v : V} {d : D} (r : Den K F m v d) : ∀ {fv : List (Str × V)} {fs : List (String × D)}, DenF K F m fv fs → DenF K F m (putF (Str.ofString f) v fv) (putS f d fs)
  | _, _, .nil => .cons r .nil
  | _, _, .cons (f := g) (d := d0) h t => by
    unfold putF putS
    by_cases e : g = f
    · subst e
      rw [if_pos rfl]
      first
        | (rw [if_pos rfl]; exact .cons r t)
        | (simp only [beq_self_eq_true, if_true]; exact .cons r t)
    · have e2 : ¬ Str.ofString g = Str.ofString f := fun z => e (ofString_inj z)
      rw [if_neg e]
      first
        | (rw [if_neg e2]; exact .cons h (putF_den r t))
        | (rw [if_neg (fun z => e2 z.symm)]; exact .cons h (putF_den r t))
theorem putS_keys {f : String} {d : D} : ∀ {fs : List (String × D)} {q : String × D}, q ∈ putS f d fs → q.1 = f ∨ ∃ p ∈ fs, p.1 = q.1
  | [], q, h => by
    simp only [putS, List.mem_singleton] at h
    subst h
    exact .inl rfl
  | (g, x) :: r, q, h => by
    unfold putS at h
    by_cases e : g = f
    · rw [if_pos e] at h
      rcases List.mem_cons.mp h with h | h
      · subst h; exact .inl e
      · exact .inr ⟨q, List.mem_cons_of_mem _ h, rfl⟩
    · rw [if_neg e] at h
      rcases List.mem_cons.mp h with h | h
      · subst h; exact .inr ⟨(g, x), List.mem_cons_self, rfl⟩
      · rcases putS_keys h with h | ⟨p, hp, e2⟩
        · exact .inl h
        · exact .inr ⟨p, List.mem_cons_of_mem _ hp, e2⟩
theorem DenF.length {K : PySem.W.Frag} {F : Hp} {m : List Addr} : ∀ {fv : List (Str × V)} {fs : List (String × D)}, DenF K F m fv fs → fv.length = fs.length
  | _, _, .nil => rfl
  | _, _, .cons _ t => by rw [List.length_cons, List.length_cons, DenF.length t]
theorem ds_fld {o a : Expr} {C f : String} {fo fa : SE} {pos pos' : Pos} (hn : NoAttr X.K (He.ga X.K (Str.ofString C)) (Str.ofString f)) (ho : DE X W o fo) (ha : DE X W a fa) (hs : swapsWith a (some (.Attribute o (Str.ofString f) pos')) pos.line X.env = pure false := by rfl) :
    DS X W (.Assign [.Attribute o (Str.ofString f) pos'] a pos) (sFldS C f fo fa) := PS.of (ps_fld ho ha hs) fun Dn σ H => by
  rintro ⟨P, F, m, e, h, S, E, fin⟩
  refine st_seq S E fin fun F1 m1 h1 H1 y dy x1 S1 E1 ry fin1 => ?_
  refine st_seq S1 E1 fin1 fun F2 m2 h2 H2 x dx x2 S2 E2 rx fin2 => ?_
  cases rx with
  | @ref b i e1 =>
    obtain ⟨ob, k1, k2⟩ := S2.own e1
    dsimp only at fin2
    rw [k1] at fin2
    cases ob with
    | ins C' fs =>
      dsimp only at fin2
      by_cases hz : C' = C ∧ fs.length < 900
      · rw [if_pos hz] at fin2
        obtain ⟨rfl, hl⟩ := hz
        obtain ⟨dx2, fv, k3, k4, k5, k6⟩ := k2
        have rd := putF_den (f := f) (ry.mono x2) k5
        refine ⟨b, _, dx2, fv, rfl, k3, k4.1, hn, by rw [k5.length]; omega, fin2 σ F2 m2 _ .refl (S2.write e1 k1 k6 ⟨dx2, _, upd_same, ⟨k4.1, fun q hq => ?_⟩, rd, k6⟩) E2⟩
        rcases putS_keys hq with h | ⟨p, hp, e2⟩
        · rw [h]; exact hn
        · rw [← e2]; exact k4.2 p hp
      · rw [if_neg hz] at fin2
        exact fin2.elim
    | _ => exact fin2.elim
  | _ => exact fin2.elim
/-- x[i] = e, x an own list -/
def sIxS (o i v : SE) : SS := fun e h => (v e h).toS e fun y h1 => (o e h1).toS e fun x h2 => (i e h2).toS e fun k h3 => match x, k with
  | .ref n, .int j => (match h3[n]? with
    | some (.lst xs) => (match ixN xs.length j with
      | some q => .nx e (h3.set n (.lst (xs.set q y)))
      | none => .bad)
    | _ => .bad)
  | _, _ => .bad
theorem ds_ix {o i a : Expr} {fo fi fa : SE} {pos pos' : Pos} (ho : DE X W o fo) (hi : DE X W i fi) (ha : DE X W a fa)
    (hg : PG X (.Subscript o i pos') (gSub (rdG X.K W (Den X.K) fo) (rdG X.K W (Den X.K) fi) rSetL)) (hs : swapsWithSole [.Subscript o i pos'] a pos.line X.env = pure false := by rfl) (hw : swappedStores [.Subscript o i pos'] a X.env = pure none := by rfl) (h1 : (assignEach [.Subscript o i pos'] X.env).map (·.2) = [assign (.Subscript o i pos') X.env] := by rfl) :
    DS X W (.Assign [.Subscript o i pos'] a pos) (sIxS fo fi fa) := PS.of (ps_asg ha hg hs hw h1) fun Dn σ H => by
  rintro ⟨P, F, m, e, h, S, E, fin⟩
  refine st_seq S E fin fun F1 m1 h1 H1 y dy x1 S1 E1 ry fin1 => ?_
  refine st_seq S1 E1 fin1 fun F2 m2 h2 H2 x dx x2 S2 E2 rx fin2 => ?_
  refine st_seq S2 E2 fin2 fun F3 m3 h3 H3 z dz x3 S3 E3 rz fin3 => ?_
  cases rx with
  | @ref b n e1 =>
    cases rz with
    | int j =>
      have e2 := pre_get x3.p e1
      obtain ⟨ob, k1, k2⟩ := S3.own e2
      dsimp only at fin3
      rw [k1] at fin3
      cases ob with
      | lst xs =>
        dsimp only at fin3
        obtain ⟨vs, k3, k4, k5⟩ := k2
        cases q : ixN xs.length j with
        | none => rw [q] at fin3; exact fin3.elim
        | some t =>
          rw [q] at fin3
          exact ⟨b, vs, j, t, rfl, rfl, k3, by rw [k4.length]; exact q, fin3 σ F3 m3 _ .refl (S3.write e2 k1 k5 ⟨_, upd_same, k4.set (ry.mono (x2.trans x3)) t, k5⟩) E3⟩
      | _ => exact fin3.elim
    | _ => exact fin3.elim
  | _ => cases dz <;> exact fin3.elim
/-! ### while -/
def whileF (c : ST) (b : SS) : Nat → SS
  | 0 => fun _ _ => .bad
  | n + 1 => fun e h => (c e h).toS e fun t h1 => if t then (match b e h1 with
    | .nx e2 h2 => whileF c b n e2 h2
    | .ct e2 h2 => whileF c b n e2 h2
    | .bk e2 h2 => .nx e2 h2
    | r => r) else .nx e h1
theorem ds_while {c : Expr} {body : List Stmt} {fc : ST} {fb : SS} {pos : Pos} (hp : PassesOwn (model X.prog X.w) X.A X.env X.xe) (n : Env' → OH → Nat) (hc : DT X W c fc) (hb : DSs X W body fb) : DS X W (.While c body [] pos) (fun e h => whileF fc fb (n e h) e h) := PS.of (ps_while hp hc hb) fun Dn σ H => by
  rintro ⟨P0, F0, m0, e0, h0, S0, E0, fin0⟩
  refine ⟨fun k σ H => ∃ P F m e h, Sim X.K P F m h H ∧ EnvR X.K F m σ e ∧ FinS X.K P W Dn F m (whileF fc fb k e h), ⟨n e0 h0, P0, F0, m0, e0, h0, S0, E0, fin0⟩, ?_⟩
  rintro k σ H ⟨P, F, m, e, h, S, E, fin⟩
  cases k with
  | zero => exact fin.elim
  | succ k =>
    refine st_seq S E fin fun F1 m1 h1 H1 v d x S1 E1 r fin1 => ?_
    have r : v = d := r
    subst r
    cases v with
    | false => exact fin1 σ F1 m1 H1 .refl S1 E1
    | true =>
      refine ⟨fun σ H => ∃ P F m e h, Sim X.K P F m h H ∧ EnvR X.K F m σ e ∧ FinS X.K P W Dn F m (whileF fc fb k e h), fun σ' H' q => ⟨k, Nat.lt_succ_self k, q⟩, P, F1, m1, e, h1, S1, E1, ?_⟩
      simp only [if_true] at fin1
      cases q : fb e h1 with
      | nx e2 h2 => rw [q] at fin1; exact fun σ2 F2 m2 H2 x2 S2 E2 => ⟨P, F2, m2, e2, h2, S2, E2, FinS.weak x2 fin1⟩
      | ct e2 h2 => rw [q] at fin1; exact fun σ2 F2 m2 H2 x2 S2 E2 => ⟨P, F2, m2, e2, h2, S2, E2, FinS.weak x2 fin1⟩
      | bk e2 h2 => rw [q] at fin1; exact fin1
      | rt d h2 => rw [q] at fin1; exact fin1
      | exc C p e2 h2 => rw [q] at fin1; exact fin1
      | bad => rw [q] at fin1; exact fin1
end
end HR
set_option Elab.async false
set_option linter.all false
set_option maxRecDepth 100000
set_option maxHeartbeats 2000000
/-! LayF: what is walked, for, comprehensions, defs and their calls, the law's end. -/
namespace HR
open PySem L2
open PyProof.Rows (envOfC)
/-- the iterator J gives ds -/
def Walks (K : PySem.W.Frag) (F0 : Hp) (m0 : List Addr) (J : It) (ds : List D) : Prop :=
  ∀ (P : Pins) (F : Hp) (m : List Addr) (h : OH) (H : Hp) (i : Nat), Ext F0 m0 F m → Sim K P F m h H →
    (i < ds.length → J.go i H ∧ ∀ x H', J.yld i H x H' → ∃ F', Ext F m F' m ∧ Sim K P F' m h H' ∧ ∃ d, ds[i]? = some d ∧ Den K F' m x d) ∧ (ds.length ≤ i → J.stop i H)
abbrev relI (K : PySem.W.Frag) : Rel It (List D) := fun F m J ds => Walks K F m J ds
abbrev DI (X : Cx) (W : WX) (tg iter : Expr) (f : SA) : Prop := PI X tg iter (rdG X.K W (relI X.K) f)
theorem Walks.mono {K : PySem.W.Frag} {F F' : Hp} {m m' : List Addr} {J : It} {ds : List D} (x : Ext F m F' m') (w : Walks K F m J ds) : Walks K F' m' J ds := fun P F2 m2 h H i y S => w P F2 m2 h H i (x.trans y) S
theorem PI.of {X : Cx} {tg iter : Expr} {w w' : TI} (h : PI X tg iter w) (k : ∀ σ H R, w' σ H R → w σ H R) : PI X tg iter w' := ⟨fun pins s σ H R I q => h.run pins s σ H R I (k σ H R q)⟩
section
variable {X : Cx} {W : WX}
/-- what a for takes from a frozen list or tuple -/
def frzAt : D → Option (List D)
  | .lst xs => some xs
  | .scr xs => some xs
  | _ => none
theorem den_sq {K : PySem.W.Frag} {F : Hp} {m : List Addr} {v : V} {d : D} {xs : List D} (r : Den K F m v d) (q : frzAt d = some xs) : ∃ a vs, v = .ref a ∧ SqL K F a vs ∧ DenL K F m vs xs := by
  cases r with
  | lst e t => cases q; exact ⟨_, _, rfl, .inl (.inl e), t⟩
  | scr e t => cases q; exact ⟨_, _, rfl, e, t⟩
  | _ => cases q
theorem walks_list {K : PySem.W.Frag} {F : Hp} {m : List Addr} {a : Addr} {vs : List V} {xs : List D} (q : SqL K F a vs) (r : DenL K F m vs xs) : Walks K F m (Itl K a) xs := by
  intro P F2 m2 h H i x S
  have q2 : SqL K H a vs := S.sub.seq (x.s.seq q)
  refine ⟨fun hi => ?_, fun hi => ⟨vs, q2, by rw [r.length]; exact hi⟩⟩
  have hv : i < vs.length := by rw [r.length]; exact hi
  refine ⟨⟨vs, vs[i], q2, List.getElem?_eq_getElem hv⟩, fun y H' yl => ?_⟩
  obtain ⟨rfl, yl⟩ := yl
  obtain ⟨d, e1, r1⟩ := r.getV (yl vs q2)
  exact ⟨F2, .refl, S, d, e1, r1.mono x⟩
theorem walks_tup {K : PySem.W.Frag} {F : Hp} {m : List Addr} {a : Addr} {vs : List V} {xs : List D} (q : SqT K F a vs) (r : DenL K F m vs xs) : Walks K F m (Itt K a) xs := by
  intro P F2 m2 h H i x S
  have q2 : SqT K H a vs := Same.sqT S.sub (Same.sqT x.s q)
  refine ⟨fun hi => ?_, fun hi => ⟨vs, q2, by rw [r.length]; exact hi⟩⟩
  have hv : i < vs.length := by rw [r.length]; exact hi
  refine ⟨⟨vs, vs[i], q2, List.getElem?_eq_getElem hv⟩, fun y H' yl => ?_⟩
  obtain ⟨rfl, yl⟩ := yl
  obtain ⟨d, e1, r1⟩ := r.getV (yl vs q2)
  exact ⟨F2, .refl, S, d, e1, r1.mono x⟩
def rngD (lo : Int) (n : Nat) : List D := (List.range n).map fun (k : Nat) => D.int (lo + k)
theorem walks_rng {K : PySem.W.Frag} {F : Hp} {m : List Addr} (lo : Int) (n : Nat) : Walks K F m (Itr lo n) (rngD lo n) := by
  intro P F2 m2 h H i x S
  have hl : (rngD lo n).length = n := by simp [rngD]
  rw [hl]
  refine ⟨fun hi => ⟨hi, fun y H' yl => ?_⟩, fun hi => hi⟩
  obtain ⟨rfl, rfl⟩ := yl
  exact ⟨F2, .refl, S, .int (lo + i), by simp [rngD, hi], .int _⟩
/-- a list or a tuple -/
def sItS (f : SE) : SA := fun e h => (f e h).bind fun d h1 => match d with
  | .tup xs => .ok xs h1
  | d => (match frzAt d with
    | some xs => .ok xs h1
    | none => .bad)
theorem pi_or {tg iter : Expr} {w w' : TI} (a : PI X tg iter w) (b : PI X tg iter w') : PI X tg iter (fun σ H R => w σ H R ∨ w' σ H R) := ⟨fun pins s σ H R I q => q.elim (a.run pins s σ H R I) (b.run pins s σ H R I)⟩
/-- what both walk: decided by the value (the expression is read once by either rule) -/
theorem di_seq {tg a : Expr} {f : SE} (ha : DE X W a f) : DI X W tg a (sItS f) := PI.of (pi_or (pi_list ha) (pi_tup ha)) fun σ H R => by
  rintro ⟨P, F, m, e, h, S, E, fin⟩
  cases q : f e h with
  | bad => unfold sItS at fin; rw [q] at fin; exact fin.elim
  | exc C p h1 =>
    unfold sItS at fin
    rw [q] at fin
    exact .inl ⟨P, F, m, e, h, S, E, by rw [q]; exact fin⟩
  | ok d h1 =>
    unfold sItS at fin
    rw [q] at fin
    simp only [Res.bind_ok] at fin
    cases d with
    | tup xs =>
      refine .inr ⟨P, F, m, e, h, S, E, ?_⟩
      rw [q]
      intro v F1 m1 H1 x S1 r
      cases r with
      | @tup b vs ds q rl => exact ⟨b, rfl, ⟨vs, .inl (.inl (S1.sub _ _ q))⟩, FinG.okX fin x S1 (walks_tup (.inl (.inl q)) rl)⟩
    | _ =>
      refine .inl ⟨P, F, m, e, h, S, E, ?_⟩
      rw [q]
      intro v F1 m1 H1 x S1 r
      first
        | exact False.elim fin
        | (obtain ⟨b, vs, rfl, hb, rl⟩ := den_sq r rfl
           exact ⟨b, rfl, ⟨vs, S1.sub.seq hb⟩, FinG.okX fin x S1 (walks_list hb rl)⟩)
def rngOk (i : Int) : Bool := decide (-(2 ^ 62) ≤ i) && decide (i < 2 ^ 62)
def sRng1 (a : SE) : SA := fun e h => (a e h).bind fun d h1 => match d with
  | .int j => if rngOk j then .ok (rngD 0 j.toNat) h1 else .bad
  | _ => .bad
def sRng2 (a b : SE) : SA := fun e h => (a e h).bind fun d h1 => (b e h1).bind fun d2 h2 => match d, d2 with
  | .int i, .int j => if rngOk i && rngOk j then .ok (rngD i (j - i).toNat) h2 else .bad
  | _, _ => .bad
theorem rngOk_ok {i : Int} (h : rngOk i = true) : -(2 ^ 62) ≤ i ∧ i < 2 ^ 62 := by
  unfold rngOk at h
  simpa using h
theorem di_rng1 {tg a : Expr} {f : SE} {p pos : Pos} (hg : Gl X "range") (hm : X.mg "range" = none) (ha : DE X W a f) (he : starEach [a] X.env = (false, eval a X.env) :: starEach [] X.env := by rfl) (hs : starEach [a] X.env = [(false, eval a X.env)] := by rfl) : DI X W tg (.Call (.Name "range" p) [a] [] pos) (sRng1 f) :=
  PI.of (pi_range1 hg hm (da_cons ha da_nil he) hs) fun σ H R => by
    rintro ⟨P, F, m, e, h, S, E, fin⟩
    refine ⟨P, F, m, e, h, S, E, ?_⟩
    unfold sRng1 at fin
    unfold sCons sNil
    cases q : f e h with
    | bad => rw [q] at fin; exact fin.elim
    | exc C p h1 => rw [q] at fin; exact fin
    | ok d h1 =>
      rw [q] at fin
      simp only [Res.bind_ok] at fin ⊢
      intro vs F1 m1 H1 x S1 r
      obtain ⟨v, rfl, r1⟩ := denL1 r
      cases d with
      | int j =>
        cases den_int r1
        dsimp only at fin
        by_cases hk : rngOk j = true
        · rw [if_pos hk] at fin
          have k := rngOk_ok hk
          exact ⟨j, rfl, k.1, k.2, FinG.okX fin x S1 (walks_rng 0 _)⟩
        · rw [if_neg hk] at fin
          exact fin.elim
      | _ => exact False.elim fin
theorem di_rng2 {tg a b : Expr} {f g : SE} {p pos : Pos} (hg : Gl X "range") (hm : X.mg "range" = none) (ha : DE X W a f) (hb : DE X W b g) (he : starEach [a, b] X.env = (false, eval a X.env) :: starEach [b] X.env := by rfl) (he2 : starEach [b] X.env = (false, eval b X.env) :: starEach [] X.env := by rfl)
    (hs : starEach [a, b] X.env = [(false, eval a X.env), (false, eval b X.env)] := by rfl) (hs2 : starEach [b] X.env = [(false, eval b X.env)] := by rfl) : DI X W tg (.Call (.Name "range" p) [a, b] [] pos) (sRng2 f g) :=
  PI.of (pi_range2 hg hm (da_cons ha (da_cons hb da_nil he2) he) hs hs2) fun σ H R => by
    rintro ⟨P, F, m, e, h, S, E, fin⟩
    refine ⟨P, F, m, e, h, S, E, ?_⟩
    unfold sRng2 at fin
    unfold sCons sNil
    cases q : f e h with
    | bad => rw [q] at fin; exact fin.elim
    | exc C p h1 => rw [q] at fin; exact fin
    | ok d h1 =>
      rw [q] at fin
      simp only [Res.bind_ok] at fin ⊢
      cases q2 : g e h1 with
      | bad => rw [q2] at fin; exact fin.elim
      | exc C p h2 => rw [q2] at fin; exact fin
      | ok d2 h2 =>
        rw [q2] at fin
        simp only [Res.bind_ok] at fin ⊢
        intro vs F1 m1 H1 x S1 r
        obtain ⟨v, v2, rfl, r1, r2⟩ := denL2 r
        cases d with
        | int i =>
          cases d2 with
          | int j =>
            cases den_int r1
            cases den_int r2
            dsimp only at fin
            by_cases hk : (rngOk i && rngOk j) = true
            · rw [if_pos hk] at fin
              obtain ⟨k1, k2⟩ := and2 hk
              have k1 := rngOk_ok k1
              have k2 := rngOk_ok k2
              exact ⟨i, j, rfl, ⟨k1.1, k1.2, k2.1, k2.2⟩, FinG.okX fin x S1 (walks_rng i _)⟩
            · rw [if_neg hk] at fin
              exact fin.elim
          | _ => exact False.elim fin
        | _ => cases d2 <;> exact False.elim fin
/-! ### for -/
def forL (g : TF) (b : SS) : List D → SS
  | [] => fun e h => .nx e h
  | d :: ds => fun e h => match g d e h with
    | none => .bad
    | some e1 => (match b e1 h with
      | .nx e2 h2 => forL g b ds e2 h2
      | .ct e2 h2 => forL g b ds e2 h2
      | .bk e2 h2 => .nx e2 h2
      | r => r)
def sFor (it : SA) (g : TF) (b : SS) : SS := fun e h => (it e h).toS e fun ds h1 => forL g b ds e h1
theorem ds_for {tg iter : Expr} {body : List Stmt} {pos : Pos} {it : SA} {vs : List Nat} {g : TF} {b : SS} (hp : PassesOwn (model X.prog X.w) X.A X.env X.xe) (hc : X.calm = true) (hi : DI X W tg iter it) (hg : DG X vs tg g) (hb : DSs X W body b) (hs : ∀ x, foldedSetIterable iter X.env x = pure x := by intro _; rfl) :
    DS X W (.For tg iter body [] pos) (sFor it g b) := PS.of (ps_for hp hc hi hg hb hs) fun Dn σ H => by
  rintro ⟨P0, F0, m0, e0, h0, S0, E0, fin0⟩
  refine st_seq S0 E0 fin0 fun F1 m1 h1 H1 J ds x1 S1 E1 wk fin1 => ?_
  let Wd : Nat → Nat → St → Hp → Prop := fun i n σ H => ∃ P F m e h, Sim X.K P F m h H ∧ EnvR X.K F m σ e ∧ Ext F1 m1 F m ∧ n = (ds.drop i).length ∧ FinS X.K P W Dn F m (forL g b (ds.drop i) e h)
  refine ⟨Wd, ⟨ds.length, P0, F1, m1, e0, h1, S1, E1, .refl, by simp, by simpa using fin1⟩, ?_⟩
  rintro i n σ H ⟨P, F, m, e, h, S, E, x, rfl, fin⟩
  obtain ⟨w1, w2⟩ := wk P F m h H i x S
  by_cases hi : i < ds.length
  · obtain ⟨go, yl⟩ := w1 hi
    have dr : ds.drop i = ds[i] :: ds.drop (i + 1) := List.drop_eq_getElem_cons hi
    rw [dr] at fin
    refine .inr ⟨go, fun σ' H' => Wd (i + 1) (ds.drop (i + 1)).length σ' H', fun σ' H' q => ⟨_, by rw [dr]; exact Nat.lt_succ_self _, q⟩, fun y H' hy => ?_⟩
    obtain ⟨F2, x2, S2, d, e1, r⟩ := yl y H' hy
    have ed : d = ds[i] := by
      rw [List.getElem?_eq_getElem hi] at e1
      exact (Option.some.inj e1).symm
    subst ed
    simp only [forL] at fin
    cases q : g ds[i] e h with
    | none => rw [q] at fin; exact fin.elim
    | some e2 =>
      rw [q] at fin
      refine ⟨P, F2, m, e, h, _, S2, E.mono x2, r, e2, q, fun σ' E' _ => ⟨P, F2, m, e2, h, S2, E', ?_⟩⟩
      dsimp only at fin
      cases q3 : b e2 h with
      | nx e3 h3 => rw [q3] at fin; exact fun σ3 F3 m3 H3 x3 S3 E3 => ⟨P, F3, m3, e3, h3, S3, E3, x.trans (x2.trans x3), rfl, FinS.weak (x2.trans x3) fin⟩
      | ct e3 h3 => rw [q3] at fin; exact fun σ3 F3 m3 H3 x3 S3 E3 => ⟨P, F3, m3, e3, h3, S3, E3, x.trans (x2.trans x3), rfl, FinS.weak (x2.trans x3) fin⟩
      | bk e3 h3 => rw [q3] at fin; exact fun σ3 F3 m3 H3 x3 S3 E3 => fin σ3 F3 m3 H3 (x2.trans x3) S3 E3
      | rt d3 h3 => rw [q3] at fin; exact fun v F3 m3 H3 x3 S3 r3 => fin v F3 m3 H3 (x2.trans x3) S3 r3
      | exc C p e3 h3 => rw [q3] at fin; exact fun od σ3 F3 m3 H3 x3 S3 pd E3 => fin od σ3 F3 m3 H3 (x2.trans x3) S3 pd E3
      | bad => rw [q3] at fin; exact fin.elim
  · have hi2 : ds.length ≤ i := Nat.le_of_not_lt hi
    rw [List.drop_eq_nil_of_le hi2] at fin
    exact .inl ⟨w2 hi2, fin σ F m H .refl S E⟩
/-! ### comprehensions -/
def Res.noX {α : Type} : Res α → Res α
  | .ok a h => .ok a h
  | _ => .bad
def lcGo (g : TF) (tt : ST) (el : SE) (e : Env') : List D → OH → List D → Res (List D)
  | [], h, acc => .ok acc h
  | d :: ds, h, acc => match g d e h with
    | none => .bad
    | some e1 => (tt e1 h).noX.bind fun b h1 => if b then (el e1 h1).noX.bind fun y h2 => if acc.length < big then lcGo g tt el e ds h2 (acc ++ [y]) else .bad else lcGo g tt el e ds h1 acc
def sLc (own : Bool) (it : SA) (g : TF) (tt : ST) (el : SE) (vs : List Nat) : SE := fun e h => (it e h).bind fun ds h1 => (lcGo g tt el (wipeD e vs) ds h1 []).bind fun acc h2 => if own then .ok (.ref h2.length) (h2 ++ [.lst acc]) else .ok (.lst acc) h2
def sYes : ST := fun _ h => .ok true h
abbrev W0 : WX := fun _ _ _ _ => False
abbrev DTs (X : Cx) (W : WX) (ifs : List Expr) (f : ST) : Prop := PTs X ifs (rdG X.K W relB f)
theorem PTs.of {ifs : List Expr} {t t' : TT} (h : PTs X ifs t) (w : ∀ σ H Q, t' σ H Q → t σ H Q) : PTs X ifs t' := by
  obtain ⟨h⟩ := h
  constructor
  intro pins s σ H Q I q
  exact h pins s σ H Q I (w σ H Q q)
theorem dts_nil : DTs X W [] sYes := PTs.of pts_nil fun σ H Q => by
  rintro ⟨P, F, m, e, h, S, E, fin⟩
  exact fin.ok S rfl
theorem dts_one {c : Expr} {f : ST} (h : DT X W c f) : DTs X W [c] f := pts_one h
theorem lc_rd {it : SA} {g : TF} {tt : ST} {el : SE} {vs : List Nat} (own : Bool) {σ : St} {H : Hp} {Q : VK} (q : rdG X.K W (Den X.K) (sLc own it g tt el vs) σ H Q) :
    tLc (rdG X.K W (relI X.K) it) (rdTG X.K vs g) (rdG X.K W0 relB tt) (rdG X.K W0 (Den X.K) el) vs σ H Q := by
  obtain ⟨P0, F0, m0, e0, h0, S0, E0, fin0⟩ := q
  refine rd_seq S0 E0 fin0 fun F1 m1 h1 H1 J ds x1 S1 E1 wk fin1 => ?_
  intro D0 hD
  let go := lcGo g tt el (wipeD e0 vs)
  let fl : List D → OH → Res D := fun acc h2 => if own then .ok (.ref h2.length) (h2 ++ [.lst acc]) else .ok (.lst acc) h2
  let Wd : Nat → Nat → Hp → Prop := fun i n H => ∃ F m h acc ws, Sim X.K ((D0, .lst ws) :: P0) F m h H ∧ Ext F1 m1 F m ∧ DenL X.K F m ws acc ∧ acc.length ≤ big ∧ n = (ds.drop i).length ∧ FinG X.K P0 W σ (Den X.K) Q F m ((go (ds.drop i) h acc).bind fl)
  refine ⟨Wd, ⟨ds.length, F1, m1, h1, [], [], S1.hid hD, .refl, .nil, Nat.zero_le _, by simp, by simpa using fin1⟩, ?_⟩
  rintro i n H ⟨F, m, h, acc, ws, S, x, ra, hl, rfl, fin⟩
  obtain ⟨w1, w2⟩ := wk _ F m h H i x S
  by_cases hi : i < ds.length
  · obtain ⟨go1, yl⟩ := w1 hi
    have dr : ds.drop i = ds[i] :: ds.drop (i + 1) := List.drop_eq_getElem_cons hi
    rw [dr] at fin
    refine .inr ⟨go1, fun H' => Wd (i + 1) (ds.drop (i + 1)).length H', fun H' q => ⟨_, by rw [dr]; exact Nat.lt_succ_self _, q⟩, fun y H' hy => ?_⟩
    obtain ⟨F2, x2, S2, d, e1, r⟩ := yl y H' hy
    have ed : d = ds[i] := by
      rw [List.getElem?_eq_getElem hi] at e1
      exact (Option.some.inj e1).symm
    subst ed
    simp only [go, lcGo] at fin
    have E2 : EnvR X.K F2 m (L2.wipe σ vs) (wipeD e0 vs) := ((E1.mono (x.trans x2))).wipe vs
    cases q : g ds[i] (wipeD e0 vs) h with
    | none => rw [q] at fin; exact fin.elim
    | some e2 =>
      rw [q] at fin
      dsimp only at fin
      refine ⟨_, F2, m, wipeD e0 vs, h, _, S2, E2, r, e2, q, fun σ' E' wi => ⟨?_, _, F2, m, e2, h, S2, E', ?_⟩⟩
      · have idem : L2.wipe (L2.wipe σ vs) vs = L2.wipe σ vs := by
          have key : ∀ (us : List Nat) (τ : St), (∀ u ∈ us, ∀ z, τ[u]? = some z → z = none) → L2.wipe τ us = τ := by
            intro us
            induction us with
            | nil => intro τ _; rfl
            | cons u us ih =>
              intro τ hz
              show (L2.wipe τ us).set u none = τ
              rw [ih τ fun w hw => hz w (List.mem_cons_of_mem _ hw)]
              apply List.ext_getElem?
              intro j
              by_cases hj : u = j
              · subst hj
                rw [List.getElem?_set]
                simp only [if_true]
                by_cases hu : u < τ.length
                · rw [if_pos hu, List.getElem?_eq_getElem hu, hz u List.mem_cons_self τ[u] (List.getElem?_eq_getElem hu)]
                · rw [if_neg hu, List.getElem?_eq_none (Nat.le_of_not_lt hu)]
              · rw [List.getElem?_set_ne hj]
          refine key vs _ fun u hu z hz => ?_
          have cl : ∀ (us : List Nat) (τ : St), u ∈ us → (L2.wipe τ us)[u]? = some z → z = none := by
            intro us
            induction us with
            | nil => intro τ h; simp at h
            | cons w us ih =>
              intro τ h hz
              have hz : ((L2.wipe τ us).set w none)[u]? = some z := hz
              by_cases hw : w = u
              · subst hw
                rw [List.getElem?_set] at hz
                simp only [if_true] at hz
                split at hz
                · simpa using hz.symm
                · cases hz
              · rw [List.getElem?_set_ne hw] at hz
                rcases List.mem_cons.mp h with h | h
                · exact absurd h.symm hw
                · exact ih τ h hz
          exact cl vs σ hu hz
        rw [wi, idem]
      · cases qt : tt e2 h with
        | bad => rw [qt] at fin; exact fin.elim
        | exc C p h3 => rw [qt] at fin; exact fin.elim
        | ok b h3 =>
          rw [qt] at fin
          simp only [Res.noX, Res.bind_ok] at fin
          intro b' F3 m3 H3 x3 S3 rb
          have rb : b' = b := rb
          subst rb
          cases b' with
          | false =>
            simp only [Bool.false_eq_true, if_false] at fin ⊢
            exact ⟨F3, m3, h3, acc, ws, S3, x.trans (x2.trans x3), ra.mono (x2.trans x3), hl, rfl, FinG.weak (x2.trans x3) fin⟩
          | true =>
            simp only [if_true] at fin ⊢
            refine ⟨_, F3, m3, e2, h3, S3, E'.mono x3, ?_⟩
            cases qe : el e2 h3 with
            | bad => rw [qe] at fin; exact fin.elim
            | exc C p h4 => rw [qe] at fin; exact fin.elim
            | ok z h4 =>
              rw [qe] at fin
              simp only [Res.noX, Res.bind_ok] at fin
              intro v F4 m4 H4 x4 S4 rv
              have xx := x2.trans (x3.trans x4)
              by_cases hz : acc.length < big
              · rw [if_pos hz] at fin
                refine ⟨ws, (S4.pin _ List.mem_cons_self).1, by rw [ra.length]; exact big_lt hz, F4, m4, h4, acc ++ [z], ws ++ [v], S4.hidSet, x.trans xx, (ra.mono xx).append (.cons rv .nil), by simp; omega, rfl, FinG.weak xx fin⟩
              · rw [if_neg hz] at fin
                exact fin.elim
  · have hi2 : ds.length ≤ i := Nat.le_of_not_lt hi
    rw [List.drop_eq_nil_of_le hi2] at fin
    refine .inl ⟨w2 hi2, ?_⟩
    simp only [go, lcGo, Res.bind_ok, fl] at fin
    cases own with
    | true =>
      exact FinG.okX fin ext_new (S.hidOwn ra) (.ref (by rw [← S.len]; simp))
    | false =>
      obtain ⟨k1, k2, k3⟩ := S.pin _ List.mem_cons_self
      exact FinG.okX fin (ext_frz k2) S.hidFrz (.lst upd_same (ra.mono (ext_frz k2)))
theorem de_lc {elt tg iter : Expr} {ifs : List Expr} {scope : Scope} (own : Bool) (ow : List (Str × Nat)) {pos : Pos} {it : SA} {g : TF} {tt : ST} {el : SE} (hc : X.calm = true) (hN : X.N.Nodup) (hi : DI X W tg iter it) (ok : BlkOk X.N X.env.scope scope ow)
    (hg : ∀ (s : Shared) (H : Hp) (C : Addr) (cl : List (Str × Addr)) (fp : List Addr), DG (X.blk s H scope (compEnvC scope cl C X.env) fp) (ow.map (·.2)) tg g) (ht : ∀ (s : Shared) (H : Hp) (C : Addr) (cl : List (Str × Addr)) (fp : List Addr), DTs (X.blk s H scope (compEnvC scope cl C X.env) fp) W0 ifs tt)
    (he : ∀ (s : Shared) (H : Hp) (C : Addr) (cl : List (Str × Addr)) (fp : List Addr), DE (X.blk s H scope (compEnvC scope cl C X.env) fp) W0 elt el) (hs : ∀ x, foldedSetIterable iter X.env x = pure x := by intro _; rfl) :
    DE X W (.ListComp elt [⟨tg, iter, ifs, 0⟩] scope pos) (sLc own it g tt el (ow.map (·.2))) := PE.of (pe_lc hc hN hi ok hg ht he hs) fun σ H Q => lc_rd own
theorem ds_setLc (i : Nat) {y : Str} {py : Pos} {elt tg iter : Expr} {ifs : List Expr} {scope : Scope} (own : Bool) (ow : List (Str × Nat)) {pos spos : Pos} {it : SA} {g : TF} {tt : ST} {el : SE} (hc : X.calm = true) (hN : X.N.Nodup) (hi : DI X W tg iter it) (ok : BlkOk X.N X.env.scope scope ow)
    (hg : ∀ (s : Shared) (H : Hp) (C : Addr) (cl : List (Str × Addr)) (fp : List Addr), DG (X.blk s H scope (compEnvC scope cl C X.env) fp) (ow.map (·.2)) tg g) (ht : ∀ (s : Shared) (H : Hp) (C : Addr) (cl : List (Str × Addr)) (fp : List Addr), DTs (X.blk s H scope (compEnvC scope cl C X.env) fp) W0 ifs tt)
    (he : ∀ (s : Shared) (H : Hp) (C : Addr) (cl : List (Str × Addr)) (fp : List Addr), DE (X.blk s H scope (compEnvC scope cl C X.env) fp) W0 elt el)
    (hsw : swapsWith (.ListComp elt [⟨tg, iter, ifs, 0⟩] scope pos) (some (.Name y py)) spos.line X.env = pure true) (hy : X.N[i]? = some y := by rfl) (hyl : X.env.scope.names.lookup y = some .local := by rfl) (hs : ∀ x, foldedSetIterable iter X.env x = pure x := by intro _; rfl) :
    DS X W (.Assign [.Name y py] (.ListComp elt [⟨tg, iter, ifs, 0⟩] scope pos) spos) (sSet i (sLc own it g tt el (ow.map (·.2)))) := PS.of (ps_setLc (own := ow) hc hN hy hyl hsw hi ok hg ht he hs) fun Dn σ H => by
  rintro ⟨P, F, m, e, h, S, E, fin⟩
  refine lc_rd (W := W) own (st_seq S E fin fun F1 m1 h1 H1 v d x S1 E1 r fin1 => ?_)
  exact fin1 _ F1 m1 H1 .refl S1 (E1.set i r)
/-! ### defs -/
def fnOf (n : Nat) (body : SS) : FN := fun ds h => match body (ds.map some ++ List.replicate (n - ds.length) none) h with
  | .nx _ h1 => .ok .non h1
  | .rt d h1 => .ok d h1
  | .exc C p _ h1 => .exc C p h1
  | _ => .bad
def spN (K : PySem.W.Frag) (np : Nat) (f : FN) : Sp := fun vs H Q E => vs.length = np ∧ ∃ P F m ds h, Sim K P F m h H ∧ DenL K F m vs ds ∧ FinG K P (fun cls od _ H => E cls od H) [] (Den K) Q F m (f ds h)
theorem fn_ok {P : Program} {w : World} {K : PySem.W.Frag} {mg : Str → Option Value} {base : Heap} {CX : CXT} {x qual : Str} {params : Arguments} {body : List Stmt} {scope : Scope} {dvs : List V} {kws : List (Str × V)} {f : Addr} {fd : FuncData} {N ps : List Str} {k : Nat} {fB : SS}
    (Fu : FunD K x qual params body scope dvs kws f fd) (S : FnScope N ps scope) (hN : ps.length ≤ N.length)
    (hb : ∀ (cdv : Value) (A : Around) (outer : List Env) (s : Shared) (H : Hp) (E : XK), Room k (A.deeper (envOfC qual scope s.heap.objs.size f cdv)) → DSs (cxOf CX P w K mg base N qual scope f cdv A outer s H E) (fun cls od _ H => E cls od H) body fB) :
    FnOk P w K mg base CX (k + 1) f fd ps (spN K ps.length (fnOf N.length fB)) := by
  refine Fu.ok S (fun vs H Q E h => h.1) (fun cdv A outer s H vs Q E hr h => ?_)
  obtain ⟨hl, P0, F, m, ds, h, S0, r, fin⟩ := h
  refine ⟨_, hb cdv A outer s H E hr, P0, F, m, _, h, S0, (⟨?_, fun i d q => ?_⟩ : EnvR K F m (L2.start N vs) (ds.map some ++ List.replicate (N.length - ds.length) none)), ?_⟩
  · unfold L2.start
    simp [r.length]
  · have hi : i < ds.length := by
      by_cases hi : i < ds.length
      · exact hi
      · rw [List.getElem?_append_right (by simp; omega)] at q
        rw [List.getElem?_replicate] at q
        split at q <;> cases q
    rw [List.getElem?_append_left (by simpa using hi)] at q
    simp only [List.getElem?_map, Option.map_eq_some_iff] at q
    obtain ⟨d', q1, q2⟩ := q
    simp only [Option.some.injEq] at q2
    subst q2
    obtain ⟨v, e1, r1⟩ := r.get q1
    refine ⟨v, ?_, r1⟩
    unfold L2.start
    rw [List.getElem?_append_left (by simp; rw [r.length]; exact hi)]
    simp [e1]
  · unfold fnOf at fin
    cases q : fB (ds.map some ++ List.replicate (N.length - ds.length) none) h with
    | nx e1 h1 => rw [q] at fin; exact fun σ F1 m1 H1 x1 S1 E1 => fin .non F1 m1 H1 x1 S1 .non
    | rt d h1 => rw [q] at fin; exact fin
    | exc C p e1 h1 => rw [q] at fin; exact fun od σ F1 m1 H1 x1 S1 pd E1 => fin od F1 m1 H1 x1 S1 pd
    | bk e1 h1 => rw [q] at fin; exact fin.elim
    | ct e1 h1 => rw [q] at fin; exact fin.elim
    | bad => rw [q] at fin; exact fin.elim
/-! ### calls -/
/-- a call that sees none of the own objects -/
def pureF (f : FN) : FN := fun ds h => if D.pureL ds then (match f ds [] with
  | .ok d _ => if d.pure then .ok d h else .bad
  | .exc C none _ => .exc C none h
  | .exc C (some q) _ => if q.2.pure then .exc C (some q) h else .bad
  | .bad => .bad) else .bad
theorem pure_sp {K : PySem.W.Frag} {np : Nat} {f : FN} {vs : List V} {H : Hp} {Q : VK} {E : XK} (h : spN K np (pureF f) vs H Q E) : spN K np f vs H Q E := by
  obtain ⟨hl, P, F, m, ds, h, S, r, fin⟩ := h
  unfold pureF at fin
  by_cases hp : D.pureL ds = true
  · rw [if_pos hp] at fin
    refine ⟨hl, _, F, [], ds, [], S.hide, r.pureM hp, ?_⟩
    cases q : f ds [] with
    | ok d h' =>
      rw [q] at fin
      dsimp only at fin
      by_cases hd : d.pure = true
      · rw [if_pos hd] at fin
        exact fun v F' m' H' x S' rv => FinG.okX fin ⟨x.s, List.prefix_rfl⟩ (S.unhide x.s S') (rv.pureM hd)
      · rw [if_neg hd] at fin
        exact fin.elim
    | exc C p h' =>
      rw [q] at fin
      cases p with
      | none =>
        intro od F' m' H' x S' pd
        exact fin od F' m H' ⟨x.s, List.prefix_rfl⟩ (S.unhide x.s S') pd
      | some z =>
        dsimp only at fin
        by_cases hd : z.2.pure = true
        · rw [if_pos hd] at fin
          intro od F' m' H' x S' pd
          obtain ⟨a, v, e1, e2, e3⟩ := pd
          exact fin od F' m H' ⟨x.s, List.prefix_rfl⟩ (S.unhide x.s S') ⟨a, v, e1, e2, e3.pureM hd⟩
        · rw [if_neg hd] at fin
          exact fin.elim
    | bad => rw [q] at fin; exact fin
  · rw [if_neg hp] at fin
    exact fin.elim
theorem FnOk.pure {P : Program} {w : World} {K : PySem.W.Frag} {mg : Str → Option Value} {base : Heap} {CX : CXT} {k : Nat} {f : Addr} {fd : FuncData} {ps : List Str} {g : FN} (F : FnOk P w K mg base CX k f fd ps (spN K ps.length g)) : FnOk P w K mg base CX k f fd ps (spN K ps.length (pureF g)) := L2.FnOk.imp F fun _ _ _ _ h => pure_sp h
section
variable {CX : CXT} {k : Nat} {f : Addr} {fd : FuncData} {ps : List Str} {g : FN}
def withD (dd : List D) (g : FN) : FN := fun ds h => g (ds ++ dd) h
/-- f(e, ..); dd: the defaults that fill up -/
theorem de_call {x : Str} {p pos : Pos} {a : Expr} {es : List Expr} {fa : SA} {dvs : List V} {dus : List Value} (dd : List D) (Fk : FnOk X.prog X.w X.K X.mg X.base CX k f fd ps (spN X.K ps.length g)) (hr : Room k X.A) (hm : X.mg x = some (.ref f)) (hk : PySem.W.keepIn X.K (.ref f) = true) (hb : Binds X.K fd ps dus) (hd : Vals dvs dus)
    (hdd : ∀ F m, DenL X.K F m dvs dd) (hn : (a :: es).length + dvs.length = ps.length) (hx : ∀ σ, PassesAt CX X σ fun cls od H => W cls od σ H) (ha : DA X W (a :: es) fa) (hl : ∀ e h ds h', fa e h = .ok ds h' → ds.length = (a :: es).length) (hg : Gl X x := by rfl) (hdb : (x == ("__debug__" : Str)) = false := by decide)
    (he : starEach (a :: es) X.env = (false, eval a X.env) :: starEach es X.env := by rfl) (hpl : (backTo pos (starEach es X.env)).any (·.1) = false := by rfl) : DE X W (.Call (.Name x p) (a :: es) [] pos) (sCall (withD dd g) fa) :=
  PE.of (pe_callSD Fk hr hg hm hk hb hd hx ha hdb he hpl) fun σ H Q => by
    rintro ⟨P, F, m, e, h, S, E, fin⟩
    refine ⟨P, F, m, e, h, S, E, ?_⟩
    unfold sCall at fin
    cases q : fa e h with
    | bad => rw [q] at fin; exact fin.elim
    | exc C p h1 => rw [q] at fin; exact fin
    | ok ds h1 =>
      rw [q] at fin
      intro vs F1 m1 H1 x1 S1 r1
      exact ⟨by rw [List.length_append, r1.length, hl e h ds h1 q]; exact hn, P, F1, m1, ds ++ dd, h1, S1, r1.append (hdd F1 m1), FinG.weak x1 fin⟩
theorem sNil_len : ∀ e h ds h', sNil e h = .ok ds h' → ds.length = 0 := fun e h ds h' q => by
  cases q
  rfl
theorem sCons_len {fa : SE} {fr : SA} {n : Nat} (k : ∀ e h ds h', fr e h = .ok ds h' → ds.length = n) : ∀ e h ds h', sCons fa fr e h = .ok ds h' → ds.length = n + 1 := fun e h ds h' q => by
  unfold sCons at q
  cases q1 : fa e h with
  | bad => rw [q1] at q; cases q
  | exc C p h1 => rw [q1] at q; cases q
  | ok x h1 =>
    rw [q1] at q
    simp only [Res.bind_ok] at q
    cases q2 : fr e h1 with
    | bad => rw [q2] at q; cases q
    | exc C p h2 => rw [q2] at q; cases q
    | ok xs h2 =>
      rw [q2] at q
      simp only [Res.bind_ok, Res.ok.injEq] at q
      rw [← q.1, List.length_cons, k e h1 xs h2 q2]
theorem passAt0 {σ : St} {E : XK} : PassesAt CX0 X σ E := fun _ _ _ _ _ _ h => h.elim
/-- o.m(e, ..), the class written: nothing is raised -/
def sMeth (C mt : String) (g : FN) (o : SE) (a : SA) : SE := fun e h => (o e h).bind fun x h1 => match insAt h1 x with
  | some q => if q.1 = C ∧ q.2.lookup mt = none then (a e h1).bind fun ys h2 => (g (x :: ys) h2).noX else .bad
  | none => .bad
theorem rd_meth {C mt : String} {fo : SE} {fa : SA} {n : Nat} (hn : n + 1 = ps.length) (hl : ∀ e h ds h', fa e h = .ok ds h' → ds.length = n) {σ : St} {H : Hp} {Q : VK} (q : rdG X.K W (Den X.K) (sMeth C mt g fo fa) σ H Q) :
    tMeth (He.ga X.K (Str.ofString C)) (Str.ofString mt) (spN X.K ps.length g) [] E0 (rdG X.K W (Den X.K) fo) (rdG X.K W (DenL X.K) fa) σ H Q := by
  obtain ⟨P, F, m, e, h, S, E, fin⟩ := q
  refine rd_seq S E fin fun F1 m1 h1 H1 x dx x1 S1 E1 r1 fin1 => ?_
  cases q1 : insAt h1 dx with
  | none => rw [q1] at fin1; exact fin1.bad_elim
  | some z =>
    obtain ⟨C', fs⟩ := z
    rw [q1] at fin1
    dsimp only at fin1
    by_cases hz : C' = C ∧ fs.lookup mt = none
    · rw [if_pos hz] at fin1
      obtain ⟨rfl, hm⟩ := hz
      obtain ⟨a, dxx, fv, rfl, ha, ob, rf⟩ := insAt_ok S1 r1 q1
      refine ⟨a, dxx, fv, rfl, ha, rf.none hm, P, F1, m1, e, h1, S1, E1, ?_⟩
      cases q2 : fa e h1 with
      | bad => rw [q2] at fin1; exact fin1.elim
      | exc C p h2 => rw [q2] at fin1; exact fin1
      | ok ys h2 =>
        rw [q2] at fin1
        simp only [Res.bind_ok] at fin1
        intro vs F2 m2 H2 x2 S2 r2
        refine ⟨by rw [List.append_nil, List.length_cons, r2.length, hl e h1 ys h2 q2]; exact hn, P, F2, m2, dx :: ys, h2, S2, by rw [List.append_nil]; exact .cons (r1.mono x2) r2, ?_⟩
        cases q3 : g (dx :: ys) h2 with
        | ok d h3 => rw [q3] at fin1; exact FinG.weak x2 fin1
        | exc C p h3 => rw [q3] at fin1; exact fin1.elim
        | bad => rw [q3] at fin1; exact fin1.elim
    · rw [if_neg hz] at fin1
      exact fin1.bad_elim
theorem de_meth {C mt : String} {o a : Expr} {es : List Expr} {apos pos : Pos} {fo : SE} {fa : SA} (pl : Sem Bool) (c : Cls X.K (He.ga X.K (Str.ofString C))) (hm : Meth X.K (He.ga X.K (Str.ofString C)) (Str.ofString mt) f) (Fk : FnOk X.prog X.w X.K X.mg X.base CX0 k f fd ps (spN X.K ps.length g)) (hr : Room k X.A) (hb : Binds X.K fd ps []) (ho : DE X W o fo) (ha : DA X W (a :: es) fa)
    (hn : (a :: es).length + 1 = ps.length) (hl : ∀ e h ds h', fa e h = .ok ds h' → ds.length = (a :: es).length) (hst : starEach (a :: es) X.env = (false, eval a X.env) :: starEach es X.env := by rfl) (hpl : (backTo pos (starEach es X.env)).any (·.1) = false := by rfl)
    (ht : eval (.Call (.Attribute o (Str.ofString mt) apos) (a :: es) [] pos) X.env = (do
      let ov ← eval o X.env
      standAt apos.atName
      let (f, first) ← holding [ov] (getMethod ov (Str.ofString mt) pl)
      callWith pos f first (backTo pos (starEach (a :: es) X.env)) (backToKw pos (keywordEach [] X.env))) := by rfl) :
    DE X W (.Call (.Attribute o (Str.ofString mt) apos) (a :: es) [] pos) (sMeth C mt g fo fa) := PE.of (pe_meth (pl := pl) ho c hm Fk hr hb .nil (pass0 (X := X)) ha hst hpl ht) fun σ H Q => rd_meth hn hl
/-- C(e, ..), the instance an own object -/
def sMake (C : String) (g : FN) (a : SA) : SE := fun e h => (a e h).bind fun ys h1 => (g (.ref h1.length :: ys) (h1 ++ [.ins C []])).noX.bind fun d h2 => match d with
  | .non => .ok (.ref h1.length) h2
  | _ => .bad
/-- .. frozen at once: __init__ sees nothing else -/
def sMakeP (C : String) (g : FN) (a : SA) : SE := fun e h => (a e h).bind fun ys h1 => if D.pureL ys then (match g (.ref 0 :: ys) [.ins C []] with
  | .ok .non (.ins C' fs :: _) => if C' = C ∧ D.pureF fs then .ok (.obj C fs) h1 else .bad
  | _ => .bad) else .bad
theorem ins_new {K : PySem.W.Frag} {P : Pins} {F : Hp} {m : List Addr} {h : OH} {H : Hp} {C : String} (S : Sim K P F m h H) (c : Cls K (He.ga K (Str.ofString C))) {x dx : Addr} (hx : H x = none) (hdx : H dx = none) (ne : dx ≠ x) :
    Sim K P F (m ++ [x]) (h ++ [.ins C []]) (upd (upd H dx (.own x)) x (.ins (He.ga K (Str.ofString C)) dx [])) := by
  have hx2 : (upd H dx (.own x)) x = none := by rw [upd_ne ne.symm]; exact hx
  exact (S.other hdx).alloc hx2 ⟨dx, [], upd_same, ⟨c, fun _ z => by simp at z⟩, .nil, S.free hx⟩
theorem DenF.pureM {K : PySem.W.Frag} {F : Hp} {m m' : List Addr} : ∀ {vs : List (Str × V)} {ds : List (String × D)}, DenF K F m vs ds → D.pureF ds = true → DenF K F m' vs ds
  | _, _, .nil, _ => .nil
  | _, _, .cons h t, e => by
    have e' := and2 (by simpa only [D.pureF] using e)
    exact .cons (h.pureM e'.1) (DenF.pureM t e'.2)
theorem de_makeP {C : String} {p pos : Pos} {a : Expr} {es : List Expr} {fa : SA} (M : Mk X.K (He.ga X.K (Str.ofString C)) f) (c : Cls X.K (He.ga X.K (Str.ofString C))) (Fk : FnOk X.prog X.w X.K X.mg X.base CX0 k f fd ps (spN X.K ps.length g)) (hr : Room (k + 1) X.A) (hm : X.mg (Str.ofString C) = some (.ref (He.ga X.K (Str.ofString C)))) (hb : Binds X.K fd ps [])
    (ha : DA X W (a :: es) fa) (hn : (a :: es).length + 1 = ps.length) (hl : ∀ e h ds h', fa e h = .ok ds h' → ds.length = (a :: es).length) (hg : Gl X (Str.ofString C) := by rfl) (hdb : (Str.ofString C == ("__debug__" : Str)) = false := by decide)
    (he : starEach (a :: es) X.env = (false, eval a X.env) :: starEach es X.env := by rfl) (hpl : (backTo pos (starEach es X.env)).any (·.1) = false := by rfl) : DE X W (.Call (.Name (Str.ofString C) p) (a :: es) [] pos) (sMakeP C g fa) :=
  PE.of (pe_make M Fk hr hg hm hb .nil (pass0 (X := X)) ha hdb he hpl) fun σ H Q => by
    rintro ⟨P, F, m, e, h, S, E, fin⟩
    refine ⟨P, F, m, e, h, S, E, ?_⟩
    unfold sMakeP at fin
    cases q : fa e h with
    | bad => rw [q] at fin; exact fin.elim
    | exc C p h1 => rw [q] at fin; exact fin
    | ok ys h1 =>
      rw [q] at fin
      simp only [Res.bind_ok] at fin
      intro vs F1 m1 H1 x1 S1 r1 x dx hx hdx ne
      by_cases hp : D.pureL ys = true
      · rw [if_pos hp] at fin
        have Sn := ins_new S1.hide c hx hdx ne
        refine ⟨by rw [List.append_nil, List.length_cons, r1.length, hl e h ys h1 q]; exact hn, _, F1, [x], .ref 0 :: ys, [.ins C []], Sn, by rw [List.append_nil]; exact .cons (.ref rfl) (r1.pureM hp), ?_⟩
        cases q2 : g (.ref 0 :: ys) [.ins C []] with
        | bad => rw [q2] at fin; exact fin.elim
        | exc C p h2 => rw [q2] at fin; exact fin.elim
        | ok d h2 =>
          rw [q2] at fin
          match d, h2, fin with
          | .non, .ins C' fs :: h3, fin =>
            dsimp only at fin
            by_cases hz : C' = C ∧ D.pureF fs = true
            · rw [if_pos hz] at fin
              obtain ⟨rfl, hf⟩ := hz
              intro v F2 m2 H2 x2 S2 rv
              cases rv
              refine ⟨rfl, ?_⟩
              have e0 : m2[0]? = some x := pre_get x2.p rfl
              obtain ⟨o, k1, k2⟩ := S2.own e0
              simp only [List.getElem?_cons_zero, Option.some.injEq] at k1
              subst k1
              obtain ⟨dx2, fv, k3, k4, k5, k6⟩ := k2
              have S3 := S2.freeze e0 k6 k3
              have x3 : Ext F1 m1 (upd F2 x (.ins (He.ga X.K (Str.ofString C')) dx2 fv)) m1 := ⟨x2.s.trans (ext_frz k6 (m := m2)).s, List.prefix_rfl⟩
              exact FinG.okX fin (x1.trans x3) (S1.unhide x3.s S3) (.obj upd_same k4 ((k5.mono (ext_frz k6)).pureM hf))
            · rw [if_neg hz] at fin
              exact fin.elim
          | .non, [], fin => exact fin.elim
          | .non, .lst _ :: _, fin => exact fin.elim
          | .non, .dct _ :: _, fin => exact fin.elim
          | .non, .dead :: _, fin => exact fin.elim
          | .bl _, _, fin => exact fin.elim
          | .int _, _, fin => exact fin.elim
          | .str _, _, fin => exact fin.elim
          | .lst _, _, fin => exact fin.elim
          | .tup _, _, fin => exact fin.elim
          | .dct _, _, fin => exact fin.elim
          | .obj _ _, _, fin => exact fin.elim
          | .ref _, _, fin => exact fin.elim
          | .scr _, _, fin => exact fin.elim
          | .exc _, _, fin => exact fin.elim
          | .excf _ _ _, _, fin => exact fin.elim
      · rw [if_neg hp] at fin
        exact fin.elim
end
/-! ### an own list is frozen -/
def frzE (f : SE) : SE := fun e h => (f e h).bind fun d h1 => match d with
  | .ref i => (match h1[i]? with
    | some (.lst xs) => .ok (.lst xs) (h1.set i .dead)
    | _ => .bad)
  | _ => .bad
theorem de_frz {a : Expr} {f : SE} (ha : DE X W a f) : DE X W a (frzE f) := PE.of ha fun σ H Q => by
  rintro ⟨P, F, m, e, h, S, E, fin⟩
  refine ⟨P, F, m, e, h, S, E, ?_⟩
  unfold frzE at fin
  cases q : f e h with
  | bad => rw [q] at fin; exact fin.elim
  | exc C p h1 => rw [q] at fin; exact fin
  | ok d h1 =>
    rw [q] at fin
    simp only [Res.bind_ok] at fin
    intro v F1 m1 H1 x S1 r
    cases r with
    | @ref b i e1 =>
      obtain ⟨o, k1, k2⟩ := S1.own e1
      dsimp only at fin
      rw [k1] at fin
      cases o with
      | lst xs =>
        obtain ⟨vs, k3, k4, k5⟩ := k2
        exact FinG.okX fin (x.trans (ext_frz k5)) (S1.freeze e1 k5 k3) (.lst upd_same (k4.mono (ext_frz k5)))
      | _ => exact fin.elim
    | _ => exact fin.elim
end
/-! ### the law's end -/
theorem law_sp {K : PySem.W.Frag} {g : FN} {n : Nat} (hg : ∀ ns : List Int, ns.length ≤ n → ∃ h', g [.scr (ns.map D.int)] [] = .ok (.bl true) h') (H : Hp) (a : Addr) (ns : List Int) (hl : ns.length ≤ n) (hO : Only H) (hS : SqL K H a (ns.map V.int)) : spN K 1 g [.ref a] H (fun v _ => v = .bl true) fun _ _ _ => False := by
  obtain ⟨h', e⟩ := hg ns hl
  refine ⟨rfl, [], H, [], [.scr (ns.map D.int)], [], ⟨Same.refl _, rfl, List.nodup_nil, fun _ z => by simp at z, fun _ _ _ z => by simp at z, fun _ z => by simp at z, by simp⟩, .cons (.scr hS (DenL.ints ns)) .nil, ?_⟩
  rw [e]
  intro v F' m' H' x S r
  exact den_bl r
end HR
set_option Elab.async false
set_option linter.all false
set_option maxRecDepth 100000
set_option maxHeartbeats 4000000
/-! LayG: len(set(xs)) of ints and texts; signs of a text; in; repr. -/
namespace HR
open PySem L2
/-! ### set(xs) of keys -/
abbrev inK (acc : List Key) : Key → Bool := fun k => acc.any fun y => decide (y = k)
/-- keys met so far, each once, in order -/
def ddK : List Key → List Key → List Key
  | acc, [] => acc
  | acc, x :: r => ddK (if inK acc x then acc else acc ++ [x]) r
section
variable {prog : Program} {w : World} {A : Around} {R : Result → Shared → Prop} {I : Addr} {fp wr : List Addr} {G : Array GenState → Array GenState → Prop} {n : Nat} {PV : Nat → Value → Prop} {StI : Nat → Shared → Prop}
theorem setOf_eq {h : Heap} {S : Addr} {f f' : Key → Bool} {c c' : Nat} (q : h.SetOf (mixKind prog w) S f c) (e : ∀ k, f k = f' k) (e2 : c = c') : h.SetOf (mixKind prog w) S f' c' := by
  obtain rfl : f = f' := funext e
  exact e2 ▸ q
theorem setOf_moved {h h' : Heap} {S : Addr} {f : Key → Bool} {c : Nat} (q : h.SetOf (mixKind prog w) S f c) (k : ∀ o, h.get? S = some o → h'.get? S = some o) : h'.SetOf (mixKind prog w) S f c := by
  obtain ⟨o, es, ep, t, ho, r⟩ := q
  exact ⟨o, es, ep, t, k o ho, r⟩
theorem set_loopK (Wk : WalksS prog w A.in1 I fp wr G n PV StI) (S : Addr) (hSf : S ∉ fp) (ks : List Key) (hlen : ks.length = n) (hn : n + 1 < scanBound) (hval : ∀ (i : Nat) (v : Value), PV i v → ∃ k, ks[i]? = some k ∧ keyIs k v = true) :
    ∀ (rest : List Key) (i : Nat) (acc : List Key) (s : Shared), ks.drop i = rest → acc.length ≤ i → i ≤ n → StI i s → s.heap.SetOf (mixKind prog w) S (inK acc) acc.length →
      (∀ s', Moved (S :: wr) G s s' → s'.heap.SetOf (mixKind prog w) S (inK (ddK acc rest)) (ddK acc rest).length → R (.ok (.ret .none)) s') →
      codeAny (model prog w) A (.builtin "set.update.loop" ⟨[.ref S, .ref I], []⟩) R s := by
  have hSw : S ∉ wr := fun z => hSf (Wk.sub _ z)
  have more : ∀ b ∈ wr, b ∈ S :: wr := fun b z => List.mem_cons_of_mem _ z
  intro rest
  induction rest with
  | nil =>
    intro i acc s hr ha hi st hS hR
    have hin : i = n := by
      have z := congrArg List.length hr
      simp at z
      omega
    subst hin
    refine codeAny_builtin (PyProof.Rows.F.entry_set_update_loop) ?_
    rw [Around.under_plainId (PyProof.Rows.F.plain_set_update_loop) _]
    refine wpAny_bind (m := pyNext (.ref I)) (Wk.done s _ _ st fun s' mv => ?_)
    show wpAny _ A.in1 (ret .none) _ _ s'
    exact wpAny_pure (hR s' (mv.mono more) (setOf_moved hS fun o e => mv.heap S o hSw e))
  | cons x r ih =>
    intro i acc s hr ha hi st hS hR
    have hlt : i < n := by
      have z := congrArg List.length hr
      simp at z
      omega
    have hx : ks[i]? = some x := by
      have z : (ks.drop i)[0]? = some x := by rw [hr]; rfl
      simpa using z
    have hr2 : ks.drop (i + 1) = r := by
      have z := congrArg (List.drop 1) hr
      rw [List.drop_drop] at z
      simpa [Nat.add_comm] using z
    refine codeAny_builtin (PyProof.Rows.F.entry_set_update_loop) ?_
    rw [Around.under_plainId (PyProof.Rows.F.plain_set_update_loop) _]
    refine wpAny_bind (m := pyNext (.ref I)) (Wk.item i s _ _ hlt st fun v s' hv st' mv => ?_)
    obtain ⟨k, e1, hk⟩ := hval i v hv
    rw [hx] at e1
    obtain rfl : x = k := Option.some.inj e1
    have hS' := setOf_moved hS fun o e => mv.heap S o hSw e
    show wpAny _ A.in1 (holding [v] (setAdd S v) >>= _) _ _ s'
    refine wpAny_bind (wpAny_holding ?_)
    unfold setAdd
    refine wpAny_holding (wpAny_bind ((mixKind prog w).pyHash (k := x) (by rw [mixKind_is]; exact hk) ?_))
    have sc : v.scannable = true := by
      rcases keyIs_shape hk with ⟨a, t, rfl, rfl⟩ | ⟨a, t, rfl, rfl⟩ <;> rfl
    refine wpAny_setAddHashed_of (knd := mixKind prog w) (s := { s' with toks := s'.toks + 1 }) (by rw [mixKind_is]; exact hk) sc hS' (by omega) fun h' hsb hS2 => ?_
    let acc2 := if inK acc x then acc else acc ++ [x]
    have hS3 : h'.SetOf (mixKind prog w) S (inK acc2) acc2.length := by
      refine setOf_eq hS2 (fun k' => ?_) ?_
      · show (inK acc k' || decide (k' = x)) = inK acc2 k'
        simp only [acc2]
        cases c : inK acc x with
        | true =>
          simp only [if_true]
          by_cases ek : k' = x
          · subst ek; simp [c]
          · simp [ek]
        | false =>
          have comm : decide (k' = x) = decide (x = k') := by
            by_cases ek : k' = x
            · subst ek; simp
            · have ek2 : ¬ x = k' := fun z => ek z.symm
              simp [ek, ek2]
          simp [inK, comm]
      · show (if inK acc x = true then acc.length else acc.length + 1) = (if inK acc x = true then acc else acc ++ [x]).length
        cases inK acc x <;> simp
    have ha2 : acc2.length ≤ i + 1 := by
      show (if inK acc x = true then acc else acc ++ [x]).length ≤ i + 1
      cases inK acc x <;> simp <;> omega
    have ne : ∀ b, b ≠ S → ∀ o, s'.heap.get? b = some o → h'.get? b = some o := fun b hb o e => (hsb.2 b hb).trans e
    refine wpAny_pure ⟨plainId_quiet PyProof.Rows.F.plain_set_update_loop _, ih (i + 1) acc2 _ hr2 ha2 hlt (Wk.frame _ s' _ _ st' (Nat.le_succ _) fun b hb o e => ne b (fun z => hSf (z ▸ hb)) o e) hS3 fun s2 mv2 hS4 => ?_⟩
    exact hR s2 (Moved.trans Wk.gtrans ((mv.mono more).then_heap (Nat.le_succ _) fun b o hb e => ne b (fun z => hb (by rw [z]; exact List.mem_cons_self)) o e) mv2) hS4
end
section
variable {prog : Program} {w : World} {A : Around} {E : Value → Shared → Prop} {s : Shared}
/-- set(xs), xs a list of ints and texts -/
theorem set_of_keys {l : Addr} {items : Array Value} {ks : List Key} {Q : Value → Shared → Prop} (hh : A.handled = none) (hl : s.heap.IsList l items) (hlen : ks.length = items.size) (hi : ∀ (i : Nat) (v : Value), items[i]? = some v → ∃ k, ks[i]? = some k ∧ keyIs k v = true) (hb : items.size + 1 < scanBound)
    (h : ∀ (h' : Heap) (tk : Nat), h'.SetOf (mixKind prog w) s.heap.objs.size (inK (ddK [] ks)) (ddK [] ks).length → (∀ b o, b < s.heap.objs.size → s.heap.get? b = some o → h'.get? b = some o) → Q (.ref s.heap.objs.size) { s with heap := h', toks := tk }) :
    wpAny (model prog w) A (call (.type "set") [.ref l]) Q E s := by
  let fresh (led : Bool) : Obj := { cls := .type "set", dict := none, data := .set #[] 0 (.fresh 0 0 led) }
  obtain ⟨c, tl, hmro⟩ := PySem.F.called_set.mro
  have f1 := PySem.F.called_set.made; have f2 := PySem.F.called_set.sub
  refine wpAny_call (codeAny_of_tree ?_)
  show wpAny _ _ (callAny (.type "set") ⟨[.ref l], []⟩) _ _ _
  refine wpAny_pure ⟨Code.quiet_builtin _ (by decide +kernel), codeAny_builtin (PySem.F.entry_type_call) ?_⟩
  rw [Around.under_plain (weight_type_call_type "set" [.ref l] []) rfl]
  have f3 := PySem.F.called_set.notType; have f4 := PySem.F.called_set.canCreate; have f5 := PySem.F.typeCall_set_1 (.ref l)
  repeat (any_goals (first | assumption | wp_step))
  refine codeAny_mono (code_set_new_1 (.ref l) (E := E) (Q₁ := fun ob t => ∃ led, ob = .ref s.heap.objs.size ∧ t = { s with heap := s.heap.push (fresh led) }) fun led => ⟨led, rfl, rfl⟩) fun r t hr => ?_
  cases r with
  | error e => exact hr
  | ok fl =>
    cases fl with
    | ret ob =>
      obtain ⟨led, rfl, rfl⟩ := hr
      have gS : (s.heap.push (fresh led)).get? s.heap.objs.size = some (fresh led) := Heap.get?_push_size _ rfl
      have tS : Shared.TypeIs { s with heap := s.heap.push (fresh led) } (.ref s.heap.objs.size) "set" := ⟨_, gS, rfl⟩
      have f6 := PySem.F.called_set.init.lookup; have f7 := PySem.F.called_set.init.bind (.ref s.heap.objs.size)
      repeat (any_goals (first | assumption | wp_step))
      let Done : Value → Shared → Prop := fun r t => r = .none ∧ ∃ h' tk, t = { s with heap := h', toks := tk } ∧ h'.SetOf (mixKind prog w) s.heap.objs.size (inK (ddK [] ks)) (ddK [] ks).length ∧ ∀ b o, b < s.heap.objs.size → s.heap.get? b = some o → h'.get? b = some o
      refine codeAny_mono (codeAny_call_builtin (R := wants Done E) PySem.F.called_set.init.plain PySem.F.entry_set_init (check_set_init_1 tS ?_)) fun r₂ t₂ hr₂ => ?_
      · obtain ⟨ol, hol, hcl, nl, hdl⟩ := hl
        obtain ⟨c0, d0, dt0, sl0⟩ := ol
        simp only at hcl hdl; subst hcl hdl
        have hol' : (s.heap.push (fresh led)).get? l = some { cls := .type "list", dict := d0, data := .seq items nl, slots := sl0 } := Heap.get?_push_of_some _ hol
        have g1 := PySem.F.sub_list_set; have g2 := PySem.F.sub_list_frozenset; have g3 : (Value.type "list" == Value.type "dict") = false := by decide
        have hl1 : (s.heap.push (fresh led)).IsList l items := ⟨_, hol', rfl, nl, rfl⟩
        unfold Builtin.«set.__init__»; unfold noKeywords Builtin.Frozenset.updateFrom
        generalize hPI : pyIter = PI
        wp_walk
        subst hPI
        refine wpAny_pyIter_list hl1 (?_)
        refine wpAny_bind (wpAny_runValue (?_))
        have lS : l < s.heap.objs.size := Heap.lt_size hol
        have hh3 : A.in1.in1.in1.handled = none := by rw [show A.in1.in1.in1.handled = A.handled from by simp]; exact hh
        have sz : (s.heap.push (fresh led)).objs.size = s.heap.objs.size + 1 := Heap.size_push _ _
        have nI : l ≠ (s.heap.push (fresh led)).objs.size := by rw [sz]; exact Nat.ne_of_lt (Nat.lt_succ_of_lt lS)
        have nS : s.heap.objs.size ∉ [(s.heap.push (fresh led)).objs.size, l] := by
          rw [sz]
          intro z
          simp only [List.mem_cons, List.not_mem_nil, or_false] at z
          rcases z with z | z
          · exact absurd z (Nat.ne_of_lt (Nat.lt_succ_self _))
          · exact absurd z (Nat.ne_of_gt lS)
        refine set_loopK ((Walks.list hh3 _ l nI items).toS) s.heap.objs.size nS ks hlen hb hi ks 0 [] _ (by simp) (Nat.le_refl _) (Nat.zero_le _) ⟨⟨_, Heap.get?_push_size _ rfl, rfl, rfl⟩, (hl1.push _)⟩ ?hS0 ?hR
        case hS0 =>
          exact ⟨_, #[], 0, _, Heap.get?_push_of_some _ gS, ⟨rfl, rfl, rfl⟩, rfl, fun e he => by simp at he, fun k => by simp [inK], by decide, by rfl, rfl⟩
        case hR =>
          intro t' mv hS'
          obtain ⟨h', g', d', tk', os'⟩ := t'
          obtain rfl : g' = s.gens := mv.gens
          obtain rfl : d' = s.drawn := mv.drawn
          obtain rfl : os' = s.os := mv.os
          refine wpAny_pure ?_
          show wpAny _ _ (ret .none) _ _ _
          refine wpAny_pure ⟨rfl, h', tk', rfl, hS', fun b o hb e => ?_⟩
          refine mv.heap b o (fun z => ?_) (Heap.get?_push_of_some _ (Heap.get?_push_of_some _ e))
          rcases List.mem_cons.mp z with z | z
          · exact absurd z (Nat.ne_of_lt hb)
          · rw [sz] at z
            rcases List.mem_singleton.mp z with rfl
            exact absurd (Nat.lt_of_lt_of_le hb (Nat.le_succ _)) (Nat.lt_irrefl _)
      · cases r₂ with
        | error e => exact hr₂
        | ok fl₂ =>
          cases fl₂ with
          | ret r =>
            obtain ⟨rfl, h', tk, rfl, hS', hk'⟩ := hr₂
            repeat (any_goals (first | assumption | wp_step))
            exact h _ _ hS' hk'
          | _ => exact hr₂.elim
    | _ => exact hr.elim
end
end HR
set_option Elab.async false
set_option linter.all false
set_option maxRecDepth 100000
set_option maxHeartbeats 4000000
/-! LayH: len(set(xs)), signs of a text, in, repr; defs that may call repr. -/
namespace HR
open PySem L2
open PyProof.Rows (envOfC)
/-! ### defs called where no repr runs -/
structure FnOkG (P : Program) (w : World) (K : PySem.W.Frag) (mg : Str → Option Value) (base : Heap) (CX : CXT) (k : Nat) (f : Addr) (fd : FuncData) (ps : List Str) (sp : Sp) : Prop where
  len : ∀ vs H Q E, sp vs H Q E → vs.length = ps.length
  run : ∀ (A : Around) (out : List Env) (s : Shared) (H : Hp) (args : Args) (us : List Value) (vs : List V) (Q : VK) (E : XK), Room k A → A.guards = some [] → Env0 P w K mg base A out s H → BindsTo s fd args (ps.zip us) → Vals vs us → sp vs H Q E →
    codeAny (model P w) A (.call (.ref f) args) (CR CX out P w H s Q E) s
section
variable {P : Program} {w : World} {K : PySem.W.Frag} {mg : Str → Option Value} {base : Heap} {CX : CXT} {k : Nat} {f : Addr} {fd : FuncData} {ps : List Str} {sp : Sp}
theorem FnOkG.mono {j : Nat} (F : FnOkG P w K mg base CX j f fd ps sp) (hj : j ≤ k) : FnOkG P w K mg base CX k f fd ps sp := ⟨F.len, fun A out s H args us vs Q E hr => F.run A out s H args us vs Q E (hr.mono hj)⟩
theorem FnOkG.pure {g : FN} (F : FnOkG P w K mg base CX k f fd ps (spN K ps.length g)) : FnOkG P w K mg base CX k f fd ps (spN K ps.length (pureF g)) :=
  ⟨fun vs H Q E q => F.len vs H Q E (pure_sp q), fun A out s H args us vs Q E hr hg e0 hb r q => F.run A out s H args us vs Q E hr hg e0 hb r (pure_sp q)⟩
end
section
variable {X : Cx} {W : WX} {CX : CXT} {k : Nat} {f : Addr} {fd : FuncData} {ps : List Str} {g : FN}
/-! ### len(set(xs)) -/
theorem bootSet : bootBuiltins "set" = some (.type "set") := by decide +kernel
def keysOf : List D → Option (List Key)
  | [] => some []
  | .int i :: r => (keysOf r).map (Sum.inl i :: ·)
  | .str x :: r => (keysOf r).map (Sum.inr x :: ·)
  | _ => none
theorem keysOf_ok {K : PySem.W.Frag} {F : Hp} {m : List Addr} : ∀ {vs : List V} {ds : List D} {ks : List Key}, DenL K F m vs ds → keysOf ds = some ks → vs = ks.map kV
  | _, _, _, .nil, e => by simp only [keysOf, Option.some.injEq] at e; subst e; rfl
  | _, _, _, .cons (.int i) t, e => by
    simp only [keysOf, Option.map_eq_some_iff] at e
    obtain ⟨ks, e1, e2⟩ := e
    subst e2
    rw [keysOf_ok t e1]
    rfl
  | _, _, _, .cons (.str i) t, e => by
    simp only [keysOf, Option.map_eq_some_iff] at e
    obtain ⟨ks, e1, e2⟩ := e
    subst e2
    rw [keysOf_ok t e1]
    rfl
  | _, _, _, .cons (.non) _, e | _, _, _, .cons (.bl _) _, e | _, _, _, .cons (.lst _ _) _, e | _, _, _, .cons (.scr _ _) _, e | _, _, _, .cons (.tup _ _) _, e | _, _, _, .cons (.dct _ _) _, e | _, _, _, .cons (.obj _ _ _) _, e | _, _, _, .cons (.ref _) _, e | _, _, _, .cons (.exc _) _, e => by simp [keysOf] at e
def sLenSet (f : SE) : SE := fun e h => (f e h).bind fun d h1 => match (lsqAt h1 d).bind keysOf with
  | some ks => if ks.length ≤ 4000 then .ok (.int (ddK [] ks).length) h1 else .bad
  | none => .bad
theorem kV_keyIs {k : Key} {u : Value} (r : RelV (kV k) u) : keyIs k u = true := by
  cases k with
  | inl i =>
    obtain ⟨t, rfl⟩ := r
    exact keyIs_int i t
  | inr x =>
    obtain ⟨t, rfl⟩ := r
    exact keyIs_str x t
theorem de_lenset {a : Expr} {fa : SE} {p p2 q pos : Pos} (hc : X.calm = true) (hg : Gl X "len") (hm : X.mg "len" = none) (hg2 : Gl X "set") (hm2 : X.mg "set" = none) (ha : DE X W a fa) (na : starEach [a] X.env = (false, eval a X.env) :: starEach [] X.env := by rfl) :
    DE X W (.Call (.Name "len" p) [.Call (.Name "set" p2) [a] [] q] [] pos) (sLenSet fa) := by
  refine ⟨fun pins s σ H Q I z => PyProof.Rows.Call_ (ld_blt I hg hm PySem.boot_len (PyProof.Rows.callWith_builtin1 (PyProof.Rows.args_cons (PyProof.Rows.Call_ (ld_blt I hg2 hm2 bootSet (PyProof.Rows.callWith_type1 (PyProof.Rows.args_cons ?_ na) na rfl))) rfl) rfl rfl))⟩
  obtain ⟨P, F, m, e, h, S, E, fin⟩ := z
  have key : rdG X.K W (Den X.K) fa σ H (fun x H1 => ∃ (l : Addr) (ks : List Key), x = .ref l ∧ SqL X.K H1 l (ks.map kV) ∧ ks.length ≤ 4000 ∧ Q (.int (ddK [] ks).length) H1) := by
    refine rd_seq S E fin fun F1 m1 h1 H1 x dx x1 S1 E1 r1 fin1 => ?_
    cases q1 : lsqAt h1 dx with
    | none => rw [q1] at fin1; exact fin1.bad_elim
    | some xs =>
      rw [q1] at fin1
      simp only [Option.bind_some] at fin1
      cases q2 : keysOf xs with
      | none => rw [q2] at fin1; exact fin1.bad_elim
      | some ks =>
        rw [q2] at fin1
        dsimp only at fin1
        by_cases hz : ks.length ≤ 4000
        · rw [if_pos hz] at fin1
          obtain ⟨b, vs, rfl, hb, rl⟩ := lsqAt_ok S1 r1 q1
          rw [keysOf_ok rl q2] at hb
          exact ⟨b, ks, rfl, hb, hz, fin1.ok S1 (.int _)⟩
        · rw [if_neg hz] at fin1
          exact fin1.bad_elim
  refine thn (ha.run pins s σ H _ I key) fun v s1 ⟨x, H1, I1, r1, l, ks, ex, hq, hl, q1⟩ => PyProof.Rows.args_nil ?_
  subst ex
  cases r1
  obtain ⟨its, r, pl, hz⟩ := I1.list hq
  have hlen : ks.length = its.toArray.size := by rw [List.size_toArray, ← r.length, List.length_map]
  refine set_of_keys (I1.ok.hd hc) pl.isList hlen (fun i v hv => ?_) (by rw [← hlen]; unfold scanBound; omega) fun h' tk hS hk => PyProof.Rows.args_nil ?_
  · have hi : i < ks.length := by
      rw [hlen]
      exact (Array.getElem?_eq_some_iff.mp hv).1
    refine ⟨ks[i], List.getElem?_eq_getElem hi, ?_⟩
    obtain ⟨u, e1, ru⟩ := r.get (i := i) (x := kV ks[i]) (by simp [hi])
    have hv2 : its[i]? = some v := by simpa using hv
    rw [hv2] at e1
    obtain rfl : v = u := Option.some.inj e1
    exact kV_keyIs ru
  · obtain ⟨o, es, ep, t, ho, hex, hd, _, _, hbd, hf, hn⟩ := hS
    have I2 : Inv X pins σ H1 { s1 with heap := h', toks := tk } := I1.kept fun b o e => hk b o (Heap.lt_size e) e
    refine call_len_set ho hex hd hf (by rw [hn] at hbd ⊢; unfold scanBound at hbd; omega) ⟨.int (ddK [] ks).length, H1, I2.tok _, ⟨_, by rw [hn]⟩, q1⟩
/-! ### the signs of a text -/
def signsD (x : Str) : List D := x.cps.toList.map fun c => D.str ⟨#[c]⟩
def sItStr (f : SE) : SA := fun e h => (f e h).bind fun d h1 => match d with
  | .str x => .ok (signsD x) h1
  | _ => .bad
theorem di_str {tg a : Expr} {f : SE} (ha : DE X W a f) : DI X W tg a (sItStr f) := PI.of (pi_str ha) fun σ H R => by
  rintro ⟨P, F, m, e, h, S, E, fin⟩
  refine rd_seq S E fin fun F1 m1 h1 H1 v d x S1 E1 r fin1 => ?_
  cases r with
  | str z =>
    refine ⟨z, rfl, FinG.ok fin1 S1 ?_⟩
    intro P2 F2 m2 h2 H2 i x2 S2
    have hl : (signsD z).length = z.cps.size := by simp [signsD]
    rw [hl]
    refine ⟨fun hi => ⟨hi, fun y H' yl => ?_⟩, fun hi => hi⟩
    obtain ⟨rfl, c, ec, rfl⟩ := yl
    refine ⟨F2, .refl, S2, .str ⟨#[c]⟩, ?_, .str _⟩
    simp [signsD, ec]
  | _ => exact fin1.bad_elim
/-! ### in -/
/-- one sign in a text -/
def opInS (neg : Bool) : D → D → OH → Res D
  | .str x, .str z, h => (match x.cps.toList with
    | [c] => .ok (.bl (if neg then !decide (c ∈ z.cps.toList) else decide (c ∈ z.cps.toList))) h
    | _ => .bad)
  | _, _, _ => .bad
theorem opInS_h (neg : Bool) : OpH X.K W (opInS neg) (fun x y H Q => ∃ (c : Nat) (z : Str), x = .str ⟨#[c]⟩ ∧ y = .str z ∧ Q (.bl (if neg then !decide (c ∈ z.cps.toList) else decide (c ∈ z.cps.toList))) H) := by
  intro P F m h H σ Q x y dx dy S r1 r2 fin
  unfold opInS at fin
  split at fin
  · rename_i a z
    cases den_str r1
    cases den_str r2
    split at fin
    · rename_i c hc
      have ea : a = ⟨#[c]⟩ := by
        obtain ⟨l⟩ := a
        obtain ⟨l⟩ := l
        simp only at hc
        subst hc
        rfl
      exact ⟨c, z, by rw [ea], rfl, fin.ok S (.bl _)⟩
    · exact fin.bad_elim
  · exact fin.bad_elim
theorem de_inS {a b : Expr} {pos : Pos} {fa fb : SE} (ha : DE X W a fa) (hb : DE X W b fb) (hm : behindInMarks .In b = false := by rfl) : DE X W (.Compare a [.In] [b] pos) (sBin (opInS false) fa fb) := de_cmp op_in_sign (opInS_h false) hm ha hb
end
end HR
set_option Elab.async false
set_option linter.all false
set_option maxRecDepth 100000
set_option maxHeartbeats 4000000
/-! LayI: iteration over any sequence or text; a def as its callers take it. -/
namespace HR
open PySem L2
open PyProof.Rows (envOfC)
section
variable {X : Cx} {W : WX}
/-- a list, a tuple, a text -/
def itAt : D → Option (List D)
  | .lst xs => some xs
  | .scr xs => some xs
  | .tup xs => some xs
  | .str x => some (signsD x)
  | _ => none
def sIt (f : SE) : SA := fun e h => (f e h).bind fun d h1 => match itAt d with
  | some xs => .ok xs h1
  | none => .bad
theorem di_any {tg a : Expr} {f : SE} (ha : DE X W a f) : DI X W tg a (sIt f) := PI.of (pi_or (di_seq ha) (di_str ha)) fun σ H R => by
  rintro ⟨P, F, m, e, h, S, E, fin⟩
  unfold sIt at fin
  cases q : f e h with
  | bad => rw [q] at fin; exact fin.elim
  | exc C p h1 =>
    rw [q] at fin
    exact .inl ⟨P, F, m, e, h, S, E, by unfold sItS; rw [q]; exact fin⟩
  | ok d h1 =>
    rw [q] at fin
    cases d with
    | str x => exact .inr ⟨P, F, m, e, h, S, E, by unfold sItStr; rw [q]; exact fin⟩
    | lst xs => exact .inl ⟨P, F, m, e, h, S, E, by unfold sItS; rw [q]; exact fin⟩
    | scr xs => exact .inl ⟨P, F, m, e, h, S, E, by unfold sItS; rw [q]; exact fin⟩
    | tup xs => exact .inl ⟨P, F, m, e, h, S, E, by unfold sItS; rw [q]; exact fin⟩
    | _ => exact False.elim fin
end
/-! ### a def as its callers take it -/
structure Def (P : Program) (w : World) (K : PySem.W.Frag) (mg : Str → Option Value) (base : Heap) (CX : CXT) (k : Nat) (f : Addr) (ps : List Str) (dvs : List V) (g : FN) : Prop where
  ex : ∃ fd dus, FnOk P w K mg base CX k f fd ps (spN K ps.length g) ∧ Binds K fd ps dus ∧ Vals dvs dus
  kp : PySem.W.keepIn K (.ref f) = true
structure DefG (P : Program) (w : World) (K : PySem.W.Frag) (mg : Str → Option Value) (base : Heap) (CX : CXT) (k : Nat) (f : Addr) (ps : List Str) (dvs : List V) (g : FN) : Prop where
  ex : ∃ fd dus, FnOkG P w K mg base CX k f fd ps (spN K ps.length g) ∧ Binds K fd ps dus ∧ Vals dvs dus
  kp : PySem.W.keepIn K (.ref f) = true
section
variable {P : Program} {w : World} {K : PySem.W.Frag} {mg : Str → Option Value} {base : Heap} {CX : CXT} {k : Nat} {f : Addr} {ps : List Str} {dvs : List V} {g : FN}
theorem Def.up {j : Nat} (d : Def P w K mg base CX j f ps dvs g) (h : j ≤ k) : Def P w K mg base CX k f ps dvs g := let ⟨fd, dus, a, b, c⟩ := d.ex; ⟨⟨fd, dus, a.mono h, b, c⟩, d.kp⟩
theorem Def.pure (d : Def P w K mg base CX k f ps dvs g) : Def P w K mg base CX k f ps dvs (pureF g) := let ⟨fd, dus, a, b, c⟩ := d.ex; ⟨⟨fd, dus, FnOk.pure a, b, c⟩, d.kp⟩
theorem DefG.up {j : Nat} (d : DefG P w K mg base CX j f ps dvs g) (h : j ≤ k) : DefG P w K mg base CX k f ps dvs g := let ⟨fd, dus, a, b, c⟩ := d.ex; ⟨⟨fd, dus, a.mono h, b, c⟩, d.kp⟩
theorem DefG.pure (d : DefG P w K mg base CX k f ps dvs g) : DefG P w K mg base CX k f ps dvs (pureF g) := let ⟨fd, dus, a, b, c⟩ := d.ex; ⟨⟨fd, dus, a.pure, b, c⟩, d.kp⟩
end
section
variable {X : Cx} {W : WX} {CX : CXT} {k : Nat} {f : Addr} {ps : List Str} {g : FN}
theorem de_callF {x : Str} {p pos : Pos} {a : Expr} {es : List Expr} {fa : SA} {dvs : List V} (dd : List D) (Fk : Def X.prog X.w X.K X.mg X.base CX k f ps dvs g) (hr : Room k X.A) (hm : X.mg x = some (.ref f))
    (hdd : ∀ F m, DenL X.K F m dvs dd) (hx : ∀ σ, PassesAt CX X σ fun cls od H => W cls od σ H) (ha : DA X W (a :: es) fa) (hl : ∀ e h ds h', fa e h = .ok ds h' → ds.length = (a :: es).length) (hn : (a :: es).length + dvs.length = ps.length := by rfl) (hg : Gl X x := by rfl) (hdb : (x == ("__debug__" : Str)) = false := by decide)
    (he : starEach (a :: es) X.env = (false, eval a X.env) :: starEach es X.env := by rfl) (hpl : (backTo pos (starEach es X.env)).any (·.1) = false := by rfl) : DE X W (.Call (.Name x p) (a :: es) [] pos) (sCall (withD dd g) fa) := by
  obtain ⟨fd, dus, F1, hb, hd⟩ := Fk.ex
  exact de_call dd F1 hr hm Fk.kp hb hd hdd hn hx ha hl hg hdb he hpl
theorem de_methF {C mt : String} {o a : Expr} {es : List Expr} {apos pos : Pos} {fo : SE} {fa : SA} (pl : Sem Bool) (c : Cls X.K (He.ga X.K (Str.ofString C))) (hm : Meth X.K (He.ga X.K (Str.ofString C)) (Str.ofString mt) f) (Fk : Def X.prog X.w X.K X.mg X.base CX0 k f ps [] g) (hr : Room k X.A) (ho : DE X W o fo) (ha : DA X W (a :: es) fa)
    (hl : ∀ e h ds h', fa e h = .ok ds h' → ds.length = (a :: es).length) (hn : (a :: es).length + 1 = ps.length := by rfl) (hst : starEach (a :: es) X.env = (false, eval a X.env) :: starEach es X.env := by rfl) (hpl : (backTo pos (starEach es X.env)).any (·.1) = false := by rfl)
    (ht : eval (.Call (.Attribute o (Str.ofString mt) apos) (a :: es) [] pos) X.env = (do
      let ov ← eval o X.env
      standAt apos.atName
      let (f, first) ← holding [ov] (getMethod ov (Str.ofString mt) pl)
      callWith pos f first (backTo pos (starEach (a :: es) X.env)) (backToKw pos (keywordEach [] X.env))) := by rfl) :
    DE X W (.Call (.Attribute o (Str.ofString mt) apos) (a :: es) [] pos) (sMeth C mt g fo fa) := by
  obtain ⟨fd, dus, F1, hb, hd⟩ := Fk.ex
  cases hd
  exact de_meth pl c hm F1 hr hb ho ha hn hl hst hpl ht
theorem de_makeF {C : String} {p pos : Pos} {a : Expr} {es : List Expr} {fa : SA} (M : Mk X.K (He.ga X.K (Str.ofString C)) f) (c : Cls X.K (He.ga X.K (Str.ofString C))) (Fk : Def X.prog X.w X.K X.mg X.base CX0 k f ps [] g) (hr : Room (k + 1) X.A) (hm : X.mg (Str.ofString C) = some (.ref (He.ga X.K (Str.ofString C))))
    (ha : DA X W (a :: es) fa) (hl : ∀ e h ds h', fa e h = .ok ds h' → ds.length = (a :: es).length) (hn : (a :: es).length + 1 = ps.length := by rfl) (hg : Gl X (Str.ofString C) := by rfl) (hdb : (Str.ofString C == ("__debug__" : Str)) = false := by decide)
    (he : starEach (a :: es) X.env = (false, eval a X.env) :: starEach es X.env := by rfl) (hpl : (backTo pos (starEach es X.env)).any (·.1) = false := by rfl) : DE X W (.Call (.Name (Str.ofString C) p) (a :: es) [] pos) (sMakeP C g fa) := by
  obtain ⟨fd, dus, F1, hb, hd⟩ := Fk.ex
  cases hd
  exact de_makeP M c F1 hr hm hb ha hn hl hg hdb he hpl
end
end HR
set_option Elab.async false
set_option linter.all false
set_option maxRecDepth 20000
set_option maxHeartbeats 1000000
/-! what the plain functions give: the weakest demand -/
namespace HR
open PySem L2
section
variable {X : Cx} {W : WX}
/-! ### a list against [] -/
def rNil (K : PySem.W.Frag) (neg : Bool) : R2 := fun x y H Q => ∃ a b xs, x = .ref a ∧ y = .ref b ∧ SqL K H a xs ∧ SqL K H b [] ∧ Q (.bl (if neg then !xs.isEmpty else xs.isEmpty)) H
theorem op_nilE (hu : X.A.units + 64 < cLine) : OpR X (compareOp .Eq) (fun x y H Q => rNil X.K false x y H Q ∨ rEqD X.K x y H Q) := by
  intro pins s σ H x y v u Q I rx ry h
  rcases h with ⟨a, b, xs, rfl, rfl, ha, hb, q⟩ | h
  · cases (show v = Value.ref a from rx)
    cases (show u = Value.ref b from ry)
    obtain ⟨us, r1, p1, _⟩ := I.list ha
    obtain ⟨ws, r2, p2, _⟩ := I.list hb
    cases r2
    cases r1 with
    | nil => exact SeqAt.RcAt.lists (e := fun _ => true) p1.isList p2.isList rfl (by omega) (fun j h1 _ => absurd h1 (Nat.not_lt_zero j)) _ _ _ _ ⟨.bl true, H, I, rfl, q⟩
    | cons h t => exact SeqAt.RcAt.lists_lengths p1.isList p2.isList (by simp) (by omega) _ _ _ _ ⟨.bl false, H, I, rfl, q⟩
  · exact op_eqD hu pins s σ H x y v u Q I rx ry h
theorem op_nilN (hu : X.A.units + 64 < cLine) : OpR X (compareOp .NotEq) (fun x y H Q => rNil X.K true x y H Q ∨ rNeD X.K x y H Q) := by
  intro pins s σ H x y v u Q I rx ry h
  rcases h with ⟨a, b, xs, rfl, rfl, ha, hb, q⟩ | h
  · cases (show v = Value.ref a from rx)
    cases (show u = Value.ref b from ry)
    obtain ⟨us, r1, p1, _⟩ := I.list ha
    obtain ⟨ws, r2, p2, _⟩ := I.list hb
    cases r2
    cases r1 with
    | nil => exact SeqAt.RcNeAt.lists (e := fun _ => true) p1.isList p2.isList rfl (by omega) (fun j h1 _ => absurd h1 (Nat.not_lt_zero j)) _ _ _ _ ⟨.bl false, H, I, rfl, q⟩
    | cons h t => exact SeqAt.RcNeAt.lists_lengths p1.isList p2.isList (by simp) (by omega) _ _ _ _ ⟨.bl true, H, I, rfl, q⟩
  · exact op_neD hu pins s σ H x y v u Q I rx ry h
/-- == [], any list -/
def opNil (neg : Bool) : D → D → OH → Res D := fun a b h => match lsqAt h a, b with
  | some xs, .lst [] => .ok (.bl (if neg then !xs.isEmpty else xs.isEmpty)) h
  | _, _ => opEq neg a b h
theorem opNil_h (neg : Bool) : OpH X.K W (opNil neg) (fun x y H Q => rNil X.K neg x y H Q ∨ (if neg then rNeD X.K else rEqD X.K) x y H Q) := by
  intro P F m h H σ Q x y dx dy S r1 r2 fin
  have old := fun fin => opEq_h (X := X) (W := W) neg P F m h H σ Q x y dx dy S r1 r2 fin
  unfold opNil at fin
  split at fin
  · rename_i xs e
    obtain ⟨a, vs, rfl, ha, rl⟩ := lsqAt_ok S r1 e
    cases r2 with
    | @lst b ws _ q rb =>
      cases rb
      refine .inl ⟨a, b, vs, rfl, rfl, ha, .inl (.inl (S.sub _ _ q)), ?_⟩
      have e2 : vs.isEmpty = xs.isEmpty := by cases rl <;> rfl
      rw [e2]
      exact fin _ F m H (Ext.refl ..) S (.bl _)
  · exact .inr (old fin)
theorem dt_eqN {a b : Expr} {pos : Pos} {fa fb : SE} (hu : X.A.units + 64 < cLine) (ha : DE X W a fa) (hb : DE X W b fb) : DT X W (.Compare a [.Eq] [b] pos) (sTest (sBin (opNil false) fa fb)) := dt_cmp (op_nilE hu) (opNil_h false) (nomark _) ha hb
theorem dt_neN {a b : Expr} {pos : Pos} {fa fb : SE} (hu : X.A.units + 64 < cLine) (ha : DE X W a fa) (hb : DE X W b fb) : DT X W (.Compare a [.NotEq] [b] pos) (sTest (sBin (opNil true) fa fb)) := dt_cmp (op_nilN hu) (opNil_h true) (nomark _) ha hb
end
def Res.W {α : Type} (r : Res α) (P : α → OH → Prop) : Prop := match r with
  | .ok a h => P a h
  | _ => False
/-- what follows; the loop's next round; behind the loop; the answer -/
def SRes.W (r : SRes) (N C B : Env' → OH → Prop) (R : D → OH → Prop) : Prop := match r with
  | .nx e h => N e h
  | .ct e h => C e h
  | .bk e h => B e h
  | .rt d h => R d h
  | _ => False
abbrev nov : Env' → OH → Prop := fun _ _ => False
section
variable {α β : Type} {P : α → OH → Prop} {N C B : Env' → OH → Prop} {R : D → OH → Prop} {PD : D → OH → Prop} {PL : List D → OH → Prop} {PB : Bool → OH → Prop}
theorem Res.W.out {r : Res α} (h : r.W P) : ∃ a h', r = .ok a h' ∧ P a h' := by
  cases r with
  | ok a h' => exact ⟨a, h', rfl, h⟩
  | exc _ _ _ => exact h.elim
  | bad => exact h.elim
theorem Res.W.of {r : Res α} {a : α} {h' : OH} (e : r = .ok a h') (p : P a h') : r.W P := by rw [e]; exact p
theorem Res.W.mono {r : Res α} {P' : α → OH → Prop} (h : r.W P) (m : ∀ a h', P a h' → P' a h') : r.W P' := by
  obtain ⟨a, h', e, p⟩ := h.out
  exact .of e (m a h' p)
theorem SRes.W.mono {r : SRes} {N' C' B' : Env' → OH → Prop} {R' : D → OH → Prop} (h : r.W N C B R) (m : ∀ e h', N e h' → N' e h') (m1 : ∀ e h', C e h' → C' e h') (m3 : ∀ e h', B e h' → B' e h') (m2 : ∀ d h', R d h' → R' d h') : r.W N' C' B' R' := by
  cases r with
  | nx e h' => exact m e h' h
  | rt d h' => exact m2 d h' h
  | bk e h' => exact m3 e h' h
  | ct e h' => exact m1 e h' h
  | exc _ _ _ _ => exact h.elim
  | bad => exact h.elim
@[simp] theorem W_ok (a : α) (h : OH) : (Res.ok a h).W P = P a h := rfl
@[simp] theorem W_bind (r : Res β) (f : β → OH → Res α) : (r.bind f).W P = r.W fun b h => (f b h).W P := by cases r <;> rfl
@[simp] theorem W_noX (r : Res α) : r.noX.W P = r.W P := by cases r <;> rfl
@[simp] theorem W_toS (r : Res β) (e : Env') (f : β → OH → SRes) : (r.toS e f).W N C B R = r.W fun b h => (f b h).W N C B R := by cases r <;> rfl
@[simp] theorem W_ite (c : Prop) [Decidable c] (a b : Res α) : (if c then a else b).W P = if c then a.W P else b.W P := by split <;> rfl
@[simp] theorem SW_ite (c : Prop) [Decidable c] (a b : SRes) : (if c then a else b).W N C B R = if c then a.W N C B R else b.W N C B R := by split <;> rfl
@[simp] theorem W_bad : (Res.bad : Res α).W P = False := rfl
/-! expressions -/
theorem W_sVar' (i : Nat) (e : Env') (h : OH) : (sVar i e h).W PD = match e[i]? with
  | some (some d) => PD d h
  | _ => False := by unfold sVar; split <;> simp_all
@[simp] theorem W_var0 (d : D) (e : Env') (h : OH) : (sVar 0 (some d :: e) h).W PD = PD d h := rfl
@[simp] theorem W_varS (i : Nat) (d : Option D) (e : Env') (h : OH) : (sVar (i + 1) (d :: e) h).W PD = (sVar i e h).W PD := by rw [W_sVar', W_sVar']; simp
@[simp] theorem W_c (d : D) (e : Env') (h : OH) : (sC d e h).W PD = PD d h := rfl
@[simp] theorem W_sBin (g : D → D → OH → Res D) (a b : SE) (e : Env') (h : OH) : (sBin g a b e h).W PD = (a e h).W fun x h1 => (b e h1).W fun y h2 => (g x y h2).W PD := by simp [sBin]
@[simp] theorem W_sUn (g : D → OH → Res D) (a : SE) (e : Env') (h : OH) : (sUn g a e h).W PD = (a e h).W fun x h1 => (g x h1).W PD := by simp [sUn]
@[simp] theorem W_sCall (g : List D → OH → Res D) (a : SA) (e : Env') (h : OH) : (sCall g a e h).W PD = (a e h).W fun x h1 => (g x h1).W PD := by simp [sCall]
@[simp] theorem W_sNil (e : Env') (h : OH) : (sNil e h).W PL = PL [] h := rfl
@[simp] theorem W_sCons (a : SE) (r : SA) (e : Env') (h : OH) : (sCons a r e h).W PL = (a e h).W fun x h1 => (r e h1).W fun xs h2 => PL (x :: xs) h2 := by simp [sCons]
@[simp] theorem W_sTup (a : SA) (e : Env') (h : OH) : (sTup a e h).W PD = (a e h).W fun xs h1 => if xs.length ≤ 1000000 then PD (.tup xs) h1 else False := by simp [sTup, big]
@[simp] theorem W_sLst (a : SA) (e : Env') (h : OH) : (sLst a e h).W PD = (a e h).W fun xs h1 => if xs.length ≤ 1000000 then PD (.lst xs) h1 else False := by simp [sLst, big]
@[simp] theorem W_sLstO (a : SA) (e : Env') (h : OH) : (sLstO a e h).W PD = (a e h).W fun xs h1 => if xs.length ≤ 1000000 then PD (.ref h1.length) (h1 ++ [.lst xs]) else False := by simp [sLstO, big]
theorem W_sTest' (f : SE) (e : Env') (h : OH) : (sTest f e h).W PB = (f e h).W fun d h1 => match d with
  | .bl b => PB b h1
  | _ => False := by
  unfold sTest; rw [W_bind]; congr; funext d h1; cases d <;> rfl
def isBl (d : D) (P : Bool → Prop) : Prop := match d with
  | .bl b => P b
  | _ => False
@[simp] theorem isBl_bl (b : Bool) (P : Bool → Prop) : isBl (.bl b) P = P b := rfl
@[simp] theorem W_sTest (f : SE) (e : Env') (h : OH) : (sTest f e h).W PB = (f e h).W fun d h1 => isBl d fun b => PB b h1 := by rw [W_sTest']; rfl
@[simp] theorem W_sAnd (a b : ST) (e : Env') (h : OH) : (sAnd a b e h).W PB = (a e h).W fun c h1 => if c then (b e h1).W PB else PB false h1 := by simp [sAnd]
@[simp] theorem W_sOr (a b : ST) (e : Env') (h : OH) : (sOr a b e h).W PB = (a e h).W fun c h1 => if c then PB true h1 else (b e h1).W PB := by simp [sOr]
@[simp] theorem W_sNot (a : ST) (e : Env') (h : OH) : (sNot a e h).W PB = (a e h).W fun c h1 => PB (!c) h1 := by simp [sNot]
@[simp] theorem W_sVal (a : ST) (e : Env') (h : OH) : (sVal a e h).W PD = (a e h).W fun c h1 => PD (.bl c) h1 := by simp [sVal]
@[simp] theorem W_sYes (e : Env') (h : OH) : (sYes e h).W PB = PB true h := rfl
@[simp] theorem W_sIf (c : ST) (a b : SE) (e : Env') (h : OH) : (sIf c a b e h).W PD = (c e h).W fun t h1 => if t then (a e h1).W PD else (b e h1).W PD := by simp [sIf]
@[simp] theorem W_sAndV (a b : SE) (e : Env') (h : OH) : (sAndV a b e h).W PD = (a e h).W fun d h1 => isBl d fun t => if t then (b e h1).W PD else PD (.bl false) h1 := by
  unfold sAndV; rw [W_bind]; congr; funext d h1
  cases d with
  | bl b => cases b <;> rfl
  | _ => rfl
@[simp] theorem W_sOrV (a b : SE) (e : Env') (h : OH) : (sOrV a b e h).W PD = (a e h).W fun d h1 => isBl d fun t => if t then PD (.bl true) h1 else (b e h1).W PD := by
  unfold sOrV; rw [W_bind]; congr; funext d h1
  cases d with
  | bl b => cases b <;> rfl
  | _ => rfl
@[simp] theorem W_sNotV (a : SE) (e : Env') (h : OH) : (sNotV a e h).W PD = (a e h).W fun d h1 => isBl d fun t => PD (.bl (!t)) h1 := by
  unfold sNotV; rw [W_bind]; congr; funext d h1
  cases d <;> rfl
@[simp] theorem W_frzE (f : SE) (e : Env') (h : OH) : (frzE f e h).W PD = (f e h).W fun d h1 => match d with
  | .ref i => (match h1[i]? with
    | some (.lst xs) => PD (.lst xs) (h1.set i .dead)
    | _ => False)
  | _ => False := by
  unfold frzE; rw [W_bind]; congr; funext d h1
  cases d with
  | ref i => dsimp only; split <;> simp_all
  | _ => rfl
/-! operators -/
@[simp] theorem W_opI2 (f : Int → Int → D) (c : Int → Int → Bool) (i j : Int) (h : OH) : (opI2 f c (.int i) (.int j) h).W PD = if c i j then PD (f i j) h else False := by simp [opI2]
@[simp] theorem W_addI (i j : Int) (h : OH) : (opAdd (.int i) (.int j) h).W PD = PD (.int (i + j)) h := rfl
@[simp] theorem W_mulI (i j : Int) (h : OH) : (opMul (.int i) (.int j) h).W PD = if mulOk i j then PD (.int (i * j)) h else False := by simp [opMul]
@[simp] theorem W_negI (i : Int) (h : OH) : (opNeg (.int i) h).W PD = PD (.int (-i)) h := rfl
@[simp] theorem W_absI (i : Int) (h : OH) : (opAbs (.int i) h).W PD = PD (.int (if i < 0 then -i else i)) h := rfl
@[simp] theorem W_divmod (i j : Int) (h : OH) : (opDivmod (.int i) (.int j) h).W PD = if divOk i j then PD (.tup [.int (i / j), .int (i % j)]) h else False := by simp [opDivmod]
@[simp] theorem W_b1 (f : D → OH → Res D) (d : D) (h : OH) : (b1 f [d] h).W PD = (f d h).W PD := rfl
@[simp] theorem W_b2 (f : D → D → OH → Res D) (d d2 : D) (h : OH) : (b2 f [d, d2] h).W PD = (f d d2 h).W PD := rfl
@[simp] theorem W_lenL (xs : List D) (h : OH) : (opLen (.lst xs) h).W PD = PD (.int xs.length) h := rfl
@[simp] theorem W_lenT (xs : List D) (h : OH) : (opLen (.tup xs) h).W PD = PD (.int xs.length) h := rfl
@[simp] theorem W_lenC (xs : List D) (h : OH) : (opLen (.scr xs) h).W PD = PD (.int xs.length) h := rfl
theorem W_lenS (x : Str) (h : OH) : (opLen (.str x) h).W PD = if x.length ≤ big then PD (.int x.length) h else False := by
  show (if x.length ≤ big then Res.ok (D.int x.length) h else Res.bad).W PD = _
  rw [W_ite]; rfl
@[simp] theorem W_withD (dd : List D) (g : FN) (xs : List D) (h : OH) : (withD dd g xs h).W PD = (g (xs ++ dd) h).W PD := rfl
theorem W_fn (n : Nat) (b : SS) (ds : List D) (h : OH) : (fnOf n b ds h).W PD = (b (ds.map some ++ List.replicate (n - ds.length) none) h).W (fun _ h1 => PD .non h1) nov nov PD := by
  unfold fnOf
  cases b (ds.map some ++ List.replicate (n - ds.length) none) h <;> rfl
/-! statements -/
@[simp] theorem SW_nx (e : Env') (h : OH) : (SRes.nx e h).W N C B R = N e h := rfl
@[simp] theorem SW_bad : SRes.bad.W N C B R = False := rfl
@[simp] theorem SW_rt (d : D) (h : OH) : (SRes.rt d h).W N C B R = R d h := rfl
@[simp] theorem SW_next (e : Env') (h : OH) : (sNext e h).W N C B R = N e h := rfl
@[simp] theorem SW_seq (f g : SS) (e : Env') (h : OH) : (sSeq f g e h).W N C B R = (f e h).W (fun e h => (g e h).W N C B R) C B R := by
  unfold sSeq; cases f e h <;> rfl
@[simp] theorem SW_set (i : Nat) (f : SE) (e : Env') (h : OH) : (sSet i f e h).W N C B R = (f e h).W fun d h1 => N (e.set i (some d)) h1 := by unfold sSet; rw [W_toS]; rfl
@[simp] theorem SW_ret (f : SE) (e : Env') (h : OH) : (sRet f e h).W N C B R = (f e h).W R := by unfold sRet; rw [W_toS]; rfl
@[simp] theorem SW_retN (e : Env') (h : OH) : (sRetN e h).W N C B R = R .non h := rfl
@[simp] theorem SW_expr (f : SE) (e : Env') (h : OH) : (sExpr f e h).W N C B R = (f e h).W fun _ h1 => N e h1 := by unfold sExpr; rw [W_toS]; rfl
@[simp] theorem SW_if (c : ST) (a b : SS) (e : Env') (h : OH) : (sIfS c a b e h).W N C B R = (c e h).W fun t h1 => if t then (a e h1).W N C B R else (b e h1).W N C B R := by
  unfold sIfS; rw [W_toS]; simp
@[simp] theorem SW_for (it : SA) (g : TF) (b : SS) (e : Env') (h : OH) : (sFor it g b e h).W N C B R = (it e h).W fun ds h1 => (forL g b ds e h1).W N C B R := by unfold sFor; rw [W_toS]
@[simp] theorem SW_asg (g : TF) (f : SE) (e : Env') (h : OH) : (sAsg g f e h).W N C B R = (f e h).W fun d h1 => match g d e h1 with
  | some e1 => N e1 h1
  | none => False := by
  unfold sAsg; rw [W_toS]; congr; funext d h1; split <;> simp_all
@[simp] theorem SW_brk (e : Env') (h : OH) : (sBreak e h).W N C B R = B e h := rfl
@[simp] theorem SW_cont (e : Env') (h : OH) : (sCont e h).W N C B R = C e h := rfl
@[simp] theorem gN_ev (i : Nat) (d : D) (e : Env') (h : OH) : gN i d e h = some (e.set i (some d)) := rfl
theorem W_forL {g : TF} {b : SS} (I : Nat → Env' → OH → Prop) : ∀ (ds : List D) (e : Env') (h : OH), I 0 e h → (∀ k d, ds[k]? = some d → ∀ e h, I k e h → ∃ e1, g d e h = some e1 ∧ (b e1 h).W (I (k + 1)) (I (k + 1)) N R) → (∀ e h, I ds.length e h → N e h) → (forL g b ds e h).W N C B R
  | [], e, h, i0, _, fin => fin e h i0
  | d :: ds, e, h, i0, st, fin => by
    obtain ⟨e1, q, w⟩ := st 0 d rfl e h i0
    have rest := fun e2 h2 (z : I 1 e2 h2) => W_forL (fun k => I (k + 1)) ds e2 h2 z (fun k d q => st (k + 1) d q) fin
    unfold forL
    rw [q]
    dsimp only
    cases q2 : b e1 h with
    | nx e2 h2 => rw [q2] at w; exact rest e2 h2 w
    | ct e2 h2 => rw [q2] at w; exact rest e2 h2 w
    | bk e2 h2 => rw [q2] at w; exact w
    | rt d h2 => rw [q2] at w; exact w
    | exc _ _ _ _ => rw [q2] at w; exact w.elim
    | bad => rw [q2] at w; exact w.elim
/-! reading the own heap -/
def lkL (o : Option OO) (P : List D → Prop) : Prop := match o with
  | some (.lst xs) => P xs
  | _ => False
@[simp] theorem lkL_lst (xs : List D) (P : List D → Prop) : lkL (some (.lst xs)) P = P xs := rfl
def lkS {α : Type} (o : Option α) (P : α → Prop) : Prop := match o with
  | some x => P x
  | none => False
@[simp] theorem lkS_some {α : Type} (x : α) (P : α → Prop) : lkS (some x) P = P x := rfl
theorem lkS_of {α : Type} {o : Option α} {x : α} {P : α → Prop} (e : o = some x) (p : P x) : lkS o P := by rw [e]; exact p
@[simp] theorem W_ixL (xs : List D) (i : Int) (h : OH) : (opIx (.lst xs) (.int i) h).W PD = lkS (atI xs i) fun d => PD d h := by
  simp only [opIx, seqAt]; split <;> simp_all [lkS]
@[simp] theorem W_ixT (xs : List D) (i : Int) (h : OH) : (opIx (.tup xs) (.int i) h).W PD = lkS (atI xs i) fun d => PD d h := by
  simp only [opIx, seqAt]; split <;> simp_all [lkS]
@[simp] theorem W_ixC (xs : List D) (i : Int) (h : OH) : (opIx (.scr xs) (.int i) h).W PD = lkS (atI xs i) fun d => PD d h := by
  simp only [opIx, seqAt]; split <;> simp_all [lkS]
@[simp] theorem W_ixR (n : Nat) (i : Int) (h : OH) : (opIx (.ref n) (.int i) h).W PD = lkL h[n]? fun xs => lkS (atI xs i) fun d => PD d h := by
  simp only [opIx, seqAt]
  cases h[n]? with
  | none => rfl
  | some o => cases o with
    | lst xs => simp only [lkL_lst]; split <;> simp_all [lkS]
    | _ => rfl
@[simp] theorem W_lenR (n : Nat) (h : OH) : (opLen (.ref n) h).W PD = lkL h[n]? fun xs => PD (.int xs.length) h := by
  simp only [opLen, seqAt]
  cases h[n]? with
  | none => rfl
  | some o => cases o <;> rfl
theorem ixN_z {n : Nat} {j : Int} (h0 : 0 ≤ j) (h : j < n) : ixN n j = some j.toNat := by simp [ixN, h0, h]
theorem atI_z {α : Type} {xs : List α} {j : Int} (h0 : 0 ≤ j) (h : j < xs.length) : atI xs j = xs[j.toNat]? := by simp [atI, ixN_z h0 h]
@[simp] theorem atI_0 {α : Type} (x : α) (xs : List α) : atI (x :: xs) 0 = some x := by rw [atI_z (by omega) (by simp)]; rfl
@[simp] theorem atI_1 {α : Type} (x y : α) (xs : List α) : atI (x :: y :: xs) 1 = some y := by rw [atI_z (by omega) (by simp; omega)]; rfl
@[simp] theorem atI_2 {α : Type} (x y z : α) (xs : List α) : atI (x :: y :: z :: xs) 2 = some z := by rw [atI_z (by omega) (by simp; omega)]; rfl
@[simp] theorem atI_3 {α : Type} (x y z u : α) (xs : List α) : atI (x :: y :: z :: u :: xs) 3 = some u := by rw [atI_z (by omega) (by simp; omega)]; rfl
@[simp] theorem ixN_0 (n : Nat) : ixN (n + 1) 0 = some 0 := ixN_z (by omega) (by omega)
@[simp] theorem ixN_1 (n : Nat) : ixN (n + 1 + 1) 1 = some 1 := ixN_z (by omega) (by omega)
@[simp] theorem ixN_2 (n : Nat) : ixN (n + 1 + 1 + 1) 2 = some 2 := ixN_z (by omega) (by omega)
@[simp] theorem SW_ixS (o i v : SE) (e : Env') (h : OH) : (sIxS o i v e h).W N C B R = (v e h).W fun y h1 => (o e h1).W fun x h2 => (i e h2).W fun k h3 => match x, k with
  | .ref n, .int j => lkL h3[n]? fun xs => lkS (ixN xs.length j) fun q => N e (h3.set n (.lst (xs.set q y)))
  | _, _ => False := by
  unfold sIxS
  simp only [W_toS]
  congr; funext y h1; congr; funext x h2; congr; funext k h3
  cases x <;> cases k <;> first | rfl | skip
  rename_i n j
  dsimp only
  cases h3[n]? with
  | none => rfl
  | some o => cases o with
    | lst xs => simp only [lkL_lst]; cases ixN xs.length j <;> rfl
    | _ => rfl
/-! sizes of numbers -/
def Small (i : Int) : Prop := i.natAbs < 2 ^ 4000
theorem log2_small {n k : Nat} (h : n < 2 ^ k) (hk : 0 < k) : n.log2 < k := by
  rcases Nat.eq_zero_or_pos n with h0 | h0
  · subst h0; simpa using hk
  · exact (Nat.log2_lt (by omega)).mpr h
theorem mulOk_small {i j : Int} (a : Small i) (b : Small j) : mulOk i j = true := by
  have h1 := log2_small a (by decide)
  have h2 := log2_small b (by decide)
  simp only [mulOk, Bool.or_eq_true, decide_eq_true_eq]
  omega
theorem mulOk_l {i j : Int} (a : i.natAbs < 2 ^ 64) : mulOk i j = true := by simp [mulOk, a]
theorem mulOk_r {i j : Int} (a : j.natAbs < 2 ^ 64) : mulOk i j = true := by simp [mulOk, a]
theorem divOk_small {i j : Int} (a : Small j) (b : 0 < j) : divOk i j = true := by
  have h1 := log2_small a (by decide)
  simp only [divOk, Bool.and_eq_true, decide_eq_true_eq]
  omega
theorem small_of {i : Int} {k : Nat} (h : i.natAbs < 2 ^ k) (hk : k ≤ 4000) : Small i := Nat.lt_of_lt_of_le h (Nat.pow_le_pow_right (by decide) hk)
theorem small_64 {i : Int} (h : i.natAbs < 18446744073709551616) : Small i := small_of (k := 64) h (by decide)
theorem small_lt {i : Int} (k : Nat) (h0 : 0 ≤ i) (h : i < (2 ^ k : Nat)) (hk : k ≤ 4000 := by decide) : Small i := small_of (k := k) (by omega) hk
/-! parts -/
def isI (d : D) (P : Int → Prop) : Prop := match d with
  | .int b => P b
  | _ => False
@[simp] theorem isI_int (b : Int) (P : Int → Prop) : isI (.int b) P = P b := rfl
@[simp] theorem W_rng1 (a : SE) (e : Env') (h : OH) : (sRng1 a e h).W PL = (a e h).W fun d h1 => isI d fun j => if rngOk j then PL (rngD 0 j.toNat) h1 else False := by
  unfold sRng1; rw [W_bind]; congr; funext d h1
  cases d <;> first | rfl | simp
@[simp] theorem W_rng2 (a b : SE) (e : Env') (h : OH) : (sRng2 a b e h).W PL = (a e h).W fun d h1 => (b e h1).W fun d2 h2 => isI d fun i => isI d2 fun j => if rngOk i && rngOk j then PL (rngD i (j - i).toNat) h2 else False := by
  unfold sRng2; rw [W_bind]; congr; funext d h1; rw [W_bind]; congr; funext d2 h2
  cases d <;> cases d2 <;> first | rfl | simp
@[simp] theorem W_it (f : SE) (e : Env') (h : OH) : (sIt f e h).W PL = (f e h).W fun d h1 => lkS (itAt d) fun xs => PL xs h1 := by
  unfold sIt; rw [W_bind]; congr; funext d h1
  cases itAt d <;> rfl
@[simp] theorem itAt_lst (xs : List D) : itAt (.lst xs) = some xs := rfl
@[simp] theorem itAt_tup (xs : List D) : itAt (.tup xs) = some xs := rfl
@[simp] theorem itAt_scr (xs : List D) : itAt (.scr xs) = some xs := rfl
@[simp] theorem itAt_str (x : Str) : itAt (.str x) = some (signsD x) := rfl
theorem rngD_at {lo : Int} {n k : Nat} {d : D} (h : (rngD lo n)[k]? = some d) : k < n ∧ d = .int (lo + k) := by
  simp only [rngD, List.getElem?_map, Option.map_eq_some_iff] at h
  obtain ⟨j, e1, e2⟩ := h
  obtain ⟨h1, h2⟩ := List.getElem?_eq_some_iff.mp e1
  rw [List.getElem_range] at h2
  rw [List.length_range] at h1
  subst h2
  exact ⟨h1, e2.symm⟩
@[simp] theorem rngD_len (lo : Int) (n : Nat) : (rngD lo n).length = n := by simp [rngD]
variable {PO : Option Int → OH → Prop}
@[simp] theorem W_noPart (e : Env') (h : OH) : (sNoPart e h).W PO = PO none h := rfl
@[simp] theorem W_part (f : SE) (e : Env') (h : OH) : (sPart f e h).W PO = (f e h).W fun d h1 => isI d fun j => PO (some j) h1 := by
  unfold sPart; rw [W_bind]; congr; funext d h1
  cases d <;> rfl
@[simp] theorem W_sCut (own : Bool) (a : SE) (lo hi : SO) (e : Env') (h : OH) : (sCut own a lo hi e h).W PD = (a e h).W fun x h1 => (lo e h1).W fun l h2 => (hi e h2).W fun u h3 => (opCut own x l u h3).W PD := by simp [sCut]
@[simp] theorem W_cutL (own : Bool) (xs : List D) (lo hi : Option Int) (h : OH) : (opCut own (.lst xs) lo hi h).W PD = if own then PD (.ref h.length) (h ++ [.lst (cutD xs lo hi)]) else PD (.lst (cutD xs lo hi)) h := by
  simp [opCut, lsqAt, seqAt]
@[simp] theorem W_cutC (own : Bool) (xs : List D) (lo hi : Option Int) (h : OH) : (opCut own (.scr xs) lo hi h).W PD = if own then PD (.ref h.length) (h ++ [.lst (cutD xs lo hi)]) else PD (.lst (cutD xs lo hi)) h := by
  simp [opCut, lsqAt, seqAt]
theorem cutD_take (xs : List D) (k : Int) (hk : 0 ≤ k) : cutD xs none (some k) = xs.take k.toNat := by
  have e : ¬ k < 0 := by omega
  simp only [cutD, HT.sIx, e, if_false, List.drop_zero, Nat.sub_zero]
  rw [List.take_eq_take_iff]
  omega
theorem cutD_drop (xs : List D) (k : Int) (hk : 0 ≤ k) : cutD xs (some k) none = xs.drop k.toNat := by
  have e : ¬ k < 0 := by omega
  simp only [cutD, HT.sIx, e, if_false]
  rw [List.take_of_length_le (by simp)]
  rcases Nat.le_total k.toNat xs.length with h | h
  · rw [Nat.min_eq_left h]
  · rw [Nat.min_eq_right h, List.drop_length, List.drop_eq_nil_of_le h]
/-! methods of own lists -/
@[simp] theorem W_sMtO (g : Nat → List D → List D → OH → Res D) (o : SE) (a : SA) (e : Env') (h : OH) : (sMtO g o a e h).W PD = (o e h).W fun x h1 => match x with
  | .ref i => lkL h1[i]? fun _ => (a e h1).W fun ys h2 => lkL h2[i]? fun xs => (g i xs ys h2).W PD
  | _ => False := by
  unfold sMtO
  rw [W_bind]; congr; funext x h1
  cases x with
  | ref i =>
    rcases q : h1[i]? with _ | o
    · simp [isOwn, q, lkL]
    · cases o with
      | lst xs =>
        simp only [isOwn, q, lkL_lst, if_true, W_bind]
        congr; funext ys h2
        rcases q2 : h2[i]? with _ | o
        · rfl
        · cases o <;> rfl
      | _ => simp [isOwn, q, lkL]
  | _ => rfl
@[simp] theorem W_append (i : Nat) (xs : List D) (y : D) (h : OH) : (gAppend i xs [y] h).W PD = if xs.length < 1000000 then PD .non (h.set i (.lst (xs ++ [y]))) else False := by simp [gAppend, big]
theorem W_popAt {i : Nat} {xs : List D} {k : Int} {h : OH} {y : D} (h0 : 0 ≤ k) (hy : xs[k.toNat]? = some y) (hb : k < 2 ^ 63) (p : PD y (h.set i (.lst (xs.eraseIdx k.toNat)))) : (gPopAt i xs [.int k] h).W PD := by
  have hl := (List.getElem?_eq_some_iff.mp hy).1
  have e : seqIndex? k xs.length = some k.toNat := by
    have : ¬ k < 0 := by omega
    have : k < xs.length := by omega
    simp [seqIndex?, *]
  have b : -(2 ^ 63) ≤ k ∧ k < 2 ^ 63 := ⟨by omega, hb⟩
  simp only [gPopAt, if_pos b, e, hy]
  exact p
/-! comprehensions -/
@[simp] theorem W_sLc (own : Bool) (it : SA) (g : TF) (tt : ST) (el : SE) (vs : List Nat) (e : Env') (h : OH) : (sLc own it g tt el vs e h).W PD = (it e h).W fun ds h1 => (lcGo g tt el (wipeD e vs) ds h1 []).W fun acc h2 => if own then PD (.ref h2.length) (h2 ++ [.lst acc]) else PD (.lst acc) h2 := by
  simp [sLc]
theorem W_lcGo {g : TF} {tt : ST} {el : SE} {e : Env'} (I : Nat → List D → OH → Prop) : ∀ (ds : List D) (h : OH) (acc : List D), I 0 acc h → (∀ k d, ds[k]? = some d → ∀ acc h, I k acc h → ∃ e1, g d e h = some e1 ∧ (tt e1 h).W fun b h1 => if b then (el e1 h1).W fun y h2 => acc.length < 1000000 ∧ I (k + 1) (acc ++ [y]) h2 else I (k + 1) acc h1) →
    (∀ acc h, I ds.length acc h → PL acc h) → (lcGo g tt el e ds h acc).W PL
  | [], h, acc, i0, _, fin => fin acc h i0
  | d :: ds, h, acc, i0, st, fin => by
    obtain ⟨e1, q, w⟩ := st 0 d rfl acc h i0
    have rest := fun acc2 h2 (z : I 1 acc2 h2) => W_lcGo (fun k => I (k + 1)) ds h2 acc2 z (fun k d q => st (k + 1) d q) fin
    unfold lcGo
    rw [q]
    dsimp only
    rw [W_bind, W_noX]
    refine w.mono fun b h1 hw => ?_
    cases b with
    | true =>
      simp only [if_true] at hw ⊢
      rw [W_bind, W_noX]
      refine hw.mono fun y h2 hw2 => ?_
      rw [if_pos hw2.1]
      exact rest _ _ hw2.2
    | false => exact rest _ _ hw
/-- nothing is changed on the way -/
theorem W_lcMap {ξ : Type} {g : TF} {tt : ST} {el : SE} {e : Env'} (xs : List ξ) (emb : ξ → D) (p : ξ → Bool) (f : ξ → D) (h : OH) (hb : xs.length ≤ big)
    (st : ∀ x ∈ xs, ∃ e1, g (emb x) e h = some e1 ∧ (tt e1 h).W fun b h1 => b = p x ∧ h1 = h ∧ (p x = true → (el e1 h1).W fun y h2 => y = f x ∧ h2 = h)) (fin : PL ((xs.filter p).map f) h) : (lcGo g tt el e (xs.map emb) h []).W PL := by
  refine W_lcGo (fun k acc h' => h' = h ∧ acc = ((xs.take k).filter p).map f) _ _ _ ⟨rfl, rfl⟩ (fun k d hd acc h' hI => ?_) (fun acc h' hI => ?_)
  · obtain ⟨rfl, rfl⟩ := hI
    rw [List.getElem?_map, Option.map_eq_some_iff] at hd
    obtain ⟨x, hx, rfl⟩ := hd
    have hk := (List.getElem?_eq_some_iff.mp hx).1
    obtain ⟨e1, q, w⟩ := st x (List.mem_of_getElem? hx)
    refine ⟨e1, q, w.mono fun b h1 z => ?_⟩
    obtain ⟨rfl, rfl, z⟩ := z
    have ht : xs.take (k + 1) = xs.take k ++ [x] := by
      rw [List.take_succ, hx]; rfl
    cases hp : p x with
    | true =>
      rw [if_pos rfl]
      refine (z hp).mono fun y h2 z => ?_
      obtain ⟨rfl, rfl⟩ := z
      refine ⟨?_, rfl, ?_⟩
      · have a1 := List.length_filter_le p (xs.take k)
        have a2 : (xs.take k).length ≤ k := List.length_take_le ..
        have hb' : xs.length ≤ 1000000 := hb
        rw [List.length_map]
        omega
      · rw [ht]; simp [hp]
    | false => exact ⟨rfl, by rw [ht]; simp [hp]⟩
  · obtain ⟨rfl, rfl⟩ := hI
    simpa using fin
end
end HR
set_option Elab.async false
set_option linter.all false
set_option maxRecDepth 20000
set_option maxHeartbeats 1000000
/-! more of what the plain functions give -/
namespace HR
open PySem L2
section
variable {α β : Type} {P : α → OH → Prop} {N C B : Env' → OH → Prop} {R : D → OH → Prop} {PD : D → OH → Prop} {PL : List D → OH → Prop} {PB : Bool → OH → Prop}
theorem pure_eq {f : FN} {ds : List D} {x : D} (h : OH) (hp : D.pureL ds = true) (hx : x.pure = true) (w : (f ds []).W fun d _ => d = x) : pureF f ds h = .ok x h := by
  obtain ⟨a, h', e, rfl⟩ := w.out
  simp [pureF, hp, e, hx]
theorem pureL_map {ξ : Type} (f : ξ → D) (hf : ∀ x, (f x).pure = true) : ∀ l : List ξ, D.pureL (l.map f) = true
  | [] => rfl
  | x :: l => by simp [D.pureL, hf x, pureL_map f hf l]
@[simp] theorem pureL_nil : D.pureL [] = true := rfl
@[simp] theorem pureL_cons (x : D) (l : List D) : D.pureL (x :: l) = (x.pure && D.pureL l) := rfl
@[simp] theorem pureF_nil : D.pureF [] = true := rfl
@[simp] theorem pureF_cons (x : String × D) (l : List (String × D)) : D.pureF (x :: l) = (x.2.pure && D.pureF l) := rfl
@[simp] theorem pure_non : D.non.pure = true := rfl
@[simp] theorem pure_int (i : Int) : (D.int i).pure = true := rfl
@[simp] theorem pure_str (i : Str) : (D.str i).pure = true := rfl
@[simp] theorem pure_bl (i : Bool) : (D.bl i).pure = true := rfl
@[simp] theorem pure_lst (l : List D) : (D.lst l).pure = D.pureL l := rfl
@[simp] theorem pure_tup (l : List D) : (D.tup l).pure = D.pureL l := rfl
@[simp] theorem pure_scr (l : List D) : (D.scr l).pure = D.pureL l := rfl
@[simp] theorem pure_obj (C : String) (l : List (String × D)) : (D.obj C l).pure = D.pureF l := rfl
@[simp] theorem pureL_ints (l : List Int) : D.pureL (l.map D.int) = true := pureL_map _ (fun _ => rfl) l
@[simp] theorem pureL_strs (l : List Str) : D.pureL (l.map D.str) = true := pureL_map _ (fun _ => rfl) l
/-! == -/
@[simp] theorem W_eqI (neg : Bool) (i j : Int) (h : OH) : (opEq neg (.int i) (.int j) h).W PD = PD (.bl (if neg then !(i == j) else i == j)) h := by
  simp [opEq, SeqAt.shaped, PyData.canLay0, PyData.depth, PyData.eqv]
theorem W_eqS (neg : Bool) (x y : Str) (h : OH) (hx : PyData.strOk x = true) (hy : PyData.strOk y = true) : (opEq neg (.str x) (.str y) h).W PD = PD (.bl (if neg then !(x == y) else x == y)) h := by
  simp [opEq, SeqAt.shaped, PyData.canLay0, PyData.depth, PyData.eqv, hx, hy]
@[simp] theorem W_nilL (neg : Bool) (xs : List D) (h : OH) : (opNil neg (.lst xs) (.lst []) h).W PD = PD (.bl (if neg then !xs.isEmpty else xs.isEmpty)) h := by simp [opNil, lsqAt, seqAt]
@[simp] theorem W_isNon (neg : Bool) (h : OH) : (opIs neg .non .non h).W PD = PD (.bl (!neg)) h := by simp [opIs]
@[simp] theorem W_isInt (neg : Bool) (i : Int) (h : OH) : (opIs neg (.int i) .non h).W PD = PD (.bl neg) h := by simp [opIs]
@[simp] theorem W_isStr (neg : Bool) (i : Str) (h : OH) : (opIs neg (.str i) .non h).W PD = PD (.bl neg) h := by simp [opIs]
@[simp] theorem W_isLst (neg : Bool) (i : List D) (h : OH) : (opIs neg (.lst i) .non h).W PD = PD (.bl neg) h := by simp [opIs]
@[simp] theorem W_isTup (neg : Bool) (i : List D) (h : OH) : (opIs neg (.tup i) .non h).W PD = PD (.bl neg) h := by simp [opIs]
@[simp] theorem W_sChain (g g' : D → D → OH → Res D) (a b c : SE) (e : Env') (h : OH) : (sChain g g' a b c e h).W PD = (a e h).W fun x h1 => (b e h1).W fun y h2 => (g x y h2).W fun z h3 => isBl z fun t => if t then (c e h3).W fun u h4 => (g' y u h4).W PD else PD (.bl false) h3 := by
  unfold sChain
  rw [W_bind]; congr; funext x h1; rw [W_bind]; congr; funext y h2; rw [W_bind]; congr; funext z h3
  cases z with
  | bl t => cases t <;> simp
  | _ => rfl
@[simp] theorem W_sIsi (ts : List String) (f : SE) (e : Env') (h : OH) : (sIsi ts f e h).W PD = (f e h).W fun d h1 => lkS (tyAt h1 d) fun t => PD (.bl (ts.any fun T => isiB t T)) h1 := by
  unfold sIsi; rw [W_bind]; congr; funext d h1
  cases tyAt h1 d <;> rfl
@[simp] theorem ty_non (h : OH) : tyAt h .non = some "NoneType" := rfl
@[simp] theorem ty_bl (h : OH) (b : Bool) : tyAt h (.bl b) = some "bool" := rfl
@[simp] theorem ty_int (h : OH) (i : Int) : tyAt h (.int i) = some "int" := rfl
@[simp] theorem ty_str (h : OH) (x : Str) : tyAt h (.str x) = some "str" := rfl
@[simp] theorem ty_lst (h : OH) (xs : List D) : tyAt h (.lst xs) = some "list" := rfl
@[simp] theorem ty_scr (h : OH) (xs : List D) : tyAt h (.scr xs) = some "list" := rfl
@[simp] theorem ty_tup (h : OH) (xs : List D) : tyAt h (.tup xs) = some "tuple" := rfl
@[simp] theorem isi_ss : isiB "str" "str" = true := by decide
@[simp] theorem isi_ii : isiB "int" "int" = true := by decide
@[simp] theorem isi_bi : isiB "bool" "int" = true := by decide
@[simp] theorem isi_ib : isiB "int" "bool" = false := by decide
@[simp] theorem isi_ll : isiB "list" "list" = true := by decide
@[simp] theorem isi_lt : isiB "list" "tuple" = false := by decide
@[simp] theorem isi_tl : isiB "tuple" "list" = false := by decide
@[simp] theorem isi_tt : isiB "tuple" "tuple" = true := by decide
@[simp] theorem isi_si : isiB "str" "int" = false := by decide
@[simp] theorem isi_is : isiB "int" "str" = false := by decide
@[simp] theorem isi_sl : isiB "str" "list" = false := by decide
@[simp] theorem isi_st : isiB "str" "tuple" = false := by decide
@[simp] theorem isi_il : isiB "int" "list" = false := by decide
@[simp] theorem isi_it : isiB "int" "tuple" = false := by decide
@[simp] theorem W_inS (neg : Bool) (c : Nat) (z : Str) (h : OH) : (opInS neg (.str ⟨#[c]⟩) (.str z) h).W PD = PD (.bl (if neg then !decide (c ∈ z.cps.toList) else decide (c ∈ z.cps.toList))) h := by simp [opInS]
/-! all, any, sum, tuple, list -/
@[simp] theorem W_allL (xs : List D) (h : OH) : (opAll (.lst xs) h).W PD = lkS (bsOf xs) fun bs => PD (.bl (bs.all id)) h := by
  simp only [opAll, lsqAt, seqAt, Option.bind_some]; split <;> simp_all [lkS]
@[simp] theorem W_anyL (xs : List D) (h : OH) : (opAny (.lst xs) h).W PD = lkS (bsOf xs) fun bs => PD (.bl (bs.any id)) h := by
  simp only [opAny, lsqAt, seqAt, Option.bind_some]; split <;> simp_all [lkS]
@[simp] theorem W_sumL (xs : List D) (h : OH) : (opSum (.lst xs) h).W PD = lkS (intsOf xs) fun ns => PD (.int ns.sum) h := by
  simp only [opSum, lsqAt, seqAt, Option.bind_some]; split <;> simp_all [lkS]
@[simp] theorem bs_nil : bsOf [] = some [] := rfl
@[simp] theorem bs_cons (b : Bool) (l : List D) : bsOf (.bl b :: l) = (bsOf l).map (b :: ·) := rfl
theorem bs_mapF {ξ : Type} (f : ξ → Bool) : ∀ l : List ξ, bsOf (l.map fun x => .bl (f x)) = some (l.map f)
  | [] => rfl
  | x :: l => by simp [bs_mapF f l]
@[simp] theorem W_tupT (xs : List D) (h : OH) : (opTuple (.tup xs) h).W PD = PD (.tup xs) h := rfl
@[simp] theorem W_tupL (xs : List D) (h : OH) : (opTuple (.lst xs) h).W PD = PD (.tup xs) h := rfl
/-! comprehensions over what is written -/
@[simp] theorem W_lc_nil (g : TF) (tt : ST) (el : SE) (e : Env') (h : OH) (acc : List D) : (lcGo g tt el e [] h acc).W PL = PL acc h := rfl
@[simp] theorem W_lc_cons (g : TF) (tt : ST) (el : SE) (e : Env') (d : D) (ds : List D) (h : OH) (acc : List D) : (lcGo g tt el e (d :: ds) h acc).W PL = lkS (g d e h) fun e1 => (tt e1 h).W fun b h1 => if b then (el e1 h1).W fun y h2 => if acc.length < 1000000 then (lcGo g tt el e ds h2 (acc ++ [y])).W PL else False else (lcGo g tt el e ds h1 acc).W PL := by
  rw [lcGo]
  cases g d e h with
  | none => rfl
  | some e1 =>
    simp only [lkS_some, W_bind, W_noX]
    congr; funext b h1
    cases b <;> simp [big]
theorem W_lcMap1 {ξ : Type} {g : TF} {tt : ST} {el : SE} {e : Env'} (xs : List ξ) (emb : ξ → D) (f : ξ → D) (h : OH) (hb : xs.length ≤ big)
    (st : ∀ x ∈ xs, ∃ e1, g (emb x) e h = some e1 ∧ (tt e1 h).W fun b h1 => b = true ∧ h1 = h ∧ (el e1 h1).W fun y h2 => y = f x ∧ h2 = h) (fin : PL (xs.map f) h) : (lcGo g tt el e (xs.map emb) h []).W PL :=
  W_lcMap xs emb (fun _ => true) f h hb (fun x hx => by
    obtain ⟨e1, q, w⟩ := st x hx
    exact ⟨e1, q, w.mono fun b h1 z => ⟨z.1, z.2.1, fun _ => z.2.2⟩⟩) (by rw [List.filter_eq_self.mpr (fun _ _ => rfl)]; exact fin)
/-! objects -/
@[simp] theorem W_fld (f : String) (d : D) (h : OH) : (opFld f d h).W PD = lkS (insAt h d) fun q => lkS (q.2.lookup f) fun x => PD x h := by
  unfold opFld
  cases insAt h d with
  | none => rfl
  | some q => simp only [lkS_some]; cases q.2.lookup f <;> rfl
@[simp] theorem ins_obj (C : String) (fs : List (String × D)) (h : OH) : insAt h (.obj C fs) = some (C, fs) := rfl
theorem ins_ref {i : Nat} {h : OH} {C : String} {fs : List (String × D)} (e : h[i]? = some (.ins C fs)) : insAt h (.ref i) = some (C, fs) := by simp [insAt, e]
@[simp] theorem ins_ref0 (C : String) (fs : List (String × D)) (h : OH) : insAt (.ins C fs :: h) (.ref 0) = some (C, fs) := rfl
def lkI (o : Option OO) (P : String → List (String × D) → Prop) : Prop := match o with
  | some (.ins C fs) => P C fs
  | _ => False
@[simp] theorem lkI_ins (C : String) (fs : List (String × D)) (P : String → List (String × D) → Prop) : lkI (some (.ins C fs)) P = P C fs := rfl
def isR (d : D) (P : Nat → Prop) : Prop := match d with
  | .ref i => P i
  | _ => False
@[simp] theorem isR_ref (i : Nat) (P : Nat → Prop) : isR (.ref i) P = P i := rfl
@[simp] theorem SW_fldS (K f : String) (o v : SE) (e : Env') (h : OH) : (sFldS K f o v e h).W N C B R = (v e h).W fun y h1 => (o e h1).W fun x h2 => isR x fun i => lkI h2[i]? fun K' fs => if K' = K ∧ fs.length < 900 then N e (h2.set i (.ins K (putS f y fs))) else False := by
  unfold sFldS
  simp only [W_toS]
  congr; funext y h1; congr; funext x h2
  cases x <;> first | rfl | skip
  rename_i i
  simp only [isR_ref]
  rcases h2[i]? with _ | o
  · rfl
  · cases o <;> first | rfl | simp
@[simp] theorem putS_nil (f : String) (d : D) : putS f d [] = [(f, d)] := rfl
@[simp] theorem putS_cons (f : String) (d : D) (q : String × D) (r : List (String × D)) : putS f d (q :: r) = if q.1 = f then (q.1, d) :: r else q :: putS f d r := by
  obtain ⟨g, x⟩ := q; rfl
theorem W_makeP {K : String} {g : FN} {a : SA} {e : Env'} {h : OH} (w : (a e h).W fun ys h1 => D.pureL ys = true ∧ (g (.ref 0 :: ys) [.ins K []]).W fun d h2 => d = .non ∧ ∃ fs t, h2 = .ins K fs :: t ∧ D.pureF fs = true ∧ PD (.obj K fs) h1) : (sMakeP K g a e h).W PD := by
  unfold sMakeP
  rw [W_bind]
  refine w.mono fun ys h1 z => ?_
  obtain ⟨hp, z⟩ := z
  obtain ⟨d, h2, q, rfl, fs, t, rfl, hf, p⟩ := z.out
  rw [if_pos hp, q]
  simp [hf, p]
/-- no field hides the method -/
def hasNo (fs : List (String × D)) (mt : String) : Prop := fs.lookup mt = none
@[simp] theorem W_sMeth (K mt : String) (g : FN) (o : SE) (a : SA) (e : Env') (h : OH) : (sMeth K mt g o a e h).W PD = (o e h).W fun x h1 => lkS (insAt h1 x) fun q => q.1 = K ∧ hasNo q.2 mt ∧ (a e h1).W fun ys h2 => (g (x :: ys) h2).W PD := by
  unfold sMeth
  rw [W_bind]; congr; funext x h1
  cases insAt h1 x with
  | none => rfl
  | some q =>
    simp only [lkS_some]
    by_cases hz : q.1 = K ∧ q.2.lookup mt = none
    · have h1 : q.1 = K := hz.1
      have h2 : hasNo q.2 mt := hz.2
      rw [if_pos hz]
      simp [h1, h2]
    · rw [if_neg hz]
      exact propext ⟨fun z => z.elim, fun z => absurd ⟨z.1, z.2.1⟩ hz⟩
end
/-! keys -/
theorem ddK_nodup : ∀ (ks acc : List Key), ks.Nodup → (∀ x ∈ ks, x ∉ acc) → ddK acc ks = acc ++ ks
  | [], acc, _, _ => by simp [ddK]
  | x :: r, acc, nd, hn => by
    have n1 : inK acc x = false := by
      simp only [inK, List.any_eq_false, decide_eq_true_eq]
      intro y hy e
      exact hn x List.mem_cons_self (e ▸ hy)
    have nd' := List.nodup_cons.mp nd
    rw [ddK, n1, ddK_nodup r _ nd'.2]
    · simp
    · intro y hy hm
      simp only [Bool.false_eq_true, if_false, List.mem_append, List.mem_singleton] at hm
      rcases hm with hm | hm
      · exact hn y (List.mem_cons_of_mem _ hy) hm
      · subst hm; exact nd'.1 hy
theorem keys_strs : ∀ l : List Str, keysOf (l.map D.str) = some (l.map Sum.inr)
  | [] => rfl
  | x :: l => by simp [keysOf, keys_strs l]
end HR
set_option Elab.async false
set_option linter.all false
set_option maxRecDepth 20000
set_option maxHeartbeats 1000000
/-! range with the step -1, enumerate, zip -/
namespace HR
open PySem L2 RZ
section
variable {X : Cx} {W : WX}
def rngS (lo c : Int) (n : Nat) : List D := (List.range n).map fun (k : Nat) => D.int (lo + k * c)
@[simp] theorem rngS_len (lo c : Int) (n : Nat) : (rngS lo c n).length = n := by simp [rngS]
theorem rngS_at {lo c : Int} {n k : Nat} {d : D} (h : (rngS lo c n)[k]? = some d) : k < n ∧ d = .int (lo + k * c) := by
  simp only [rngS, List.getElem?_map, Option.map_eq_some_iff] at h
  obtain ⟨j, e1, e2⟩ := h
  obtain ⟨h1, h2⟩ := List.getElem?_eq_some_iff.mp e1
  rw [List.getElem_range] at h2
  rw [List.length_range] at h1
  subst h2
  exact ⟨h1, e2.symm⟩
theorem walks_rngS {K : PySem.W.Frag} {F : Hp} {m : List Addr} (lo c : Int) (n : Nat) : Walks K F m (Itc lo c n) (rngS lo c n) := by
  intro P F2 m2 h H i x S
  rw [rngS_len]
  refine ⟨fun hi => ⟨hi, fun y H' yl => ?_⟩, fun hi => hi⟩
  obtain ⟨rfl, rfl⟩ := yl
  exact ⟨F2, .refl, S, .int (lo + i * c), by simp [rngS, hi], .int _⟩
/-- range(a, b, -1) -/
def sRngN (a : SA) : SA := fun e h => (a e h).bind fun ds h1 => match ds with
  | [.int i, .int j, .int k] => if rngOk i && (rngOk j && decide (k = -1)) then .ok (rngS i (-1) (i - j).toNat) h1 else .bad
  | _ => .bad
theorem denL3 {K : PySem.W.Frag} {F : Hp} {m : List Addr} {vs : List V} {x y z : D} (r : DenL K F m vs [x, y, z]) : ∃ u v w, vs = [u, v, w] ∧ Den K F m u x ∧ Den K F m v y ∧ Den K F m w z := by
  cases r with
  | cons a t => cases t with
    | cons b t => cases t with
      | cons c t => cases t; exact ⟨_, _, _, rfl, a, b, c⟩
/-! enumerate(list), zip(a, b) -/
def enumD (xs : List D) : List D := xs.mapIdx fun i x => .tup [.int (i : Nat), x]
theorem walks_enum {K : PySem.W.Frag} {F : Hp} {m : List Addr} {a : Addr} {vs : List V} {xs : List D} (q : SqL K F a vs) (r : DenL K F m vs xs) : Walks K F m (Ite K a) (enumD xs) := by
  intro P F2 m2 h H i x S
  have q2 : SqL K H a vs := S.sub.seq (x.s.seq q)
  have hl : (enumD xs).length = xs.length := by simp [enumD]
  rw [hl]
  refine ⟨fun hi => ?_, fun hi => ⟨vs, q2, by rw [r.length]; exact hi⟩⟩
  have hv : i < vs.length := by rw [r.length]; exact hi
  refine ⟨⟨vs, vs[i], q2, List.getElem?_eq_getElem hv⟩, fun y H' yl => ?_⟩
  obtain ⟨T, z, rfl, hT, rfl, yl⟩ := yl
  obtain ⟨d, e1, r1⟩ := r.getV (yl vs q2)
  have x2 := S.extF (o := .tup [.int (i : Nat), z]) hT
  exact ⟨_, x2, S.frozen hT, .tup [.int (i : Nat), d], by simp [enumD, e1], .tup upd_same (.cons (.int _) (.cons (r1.mono (x.trans x2)) .nil))⟩
def sEnum (f : SA) : SA := fun e h => (f e h).bind fun ds h1 => match ds with
  | [d] => (match frzAt d with
    | some xs => .ok (enumD xs) h1
    | none => .bad)
  | _ => .bad
theorem di_enum {elts : List Expr} {kk : Nat} {tpos : Pos} {a : Expr} {f : SE} {p pos : Pos} (hg : Gl X "enumerate") (hm : X.mg "enumerate" = none) (ha : DE X W a f) (he : starEach [a] X.env = (false, eval a X.env) :: starEach [] X.env := by rfl) (hs : starEach [a] X.env = [(false, eval a X.env)] := by rfl) :
    DI X W (.Tuple elts kk tpos) (.Call (.Name "enumerate" p) [a] [] pos) (sEnum (sCons f sNil)) :=
  PI.of (pi_enum hg hm (da_cons ha da_nil he) hs) fun σ H R => by
    rintro ⟨P, F, m, e, h, S, E, fin⟩
    refine ⟨P, F, m, e, h, S, E, ?_⟩
    unfold sEnum at fin
    cases q : (sCons f sNil) e h with
    | bad => rw [q] at fin; exact fin.elim
    | exc C p h1 => rw [q] at fin; exact fin
    | ok ds h1 =>
      rw [q] at fin
      simp only [Res.bind_ok] at fin
      intro vs F1 m1 H1 x S1 r
      match ds, fin, r with
      | [d], fin, r =>
        obtain ⟨v, rfl, r1⟩ := denL1 r
        dsimp only at fin
        cases q3 : frzAt d with
        | none => rw [q3] at fin; exact fin.elim
        | some xs =>
          rw [q3] at fin
          obtain ⟨b, ws, rfl, hb, rl⟩ := den_sq r1 q3
          exact ⟨b, ws, rfl, S1.sub.seq hb, FinG.okX fin x S1 (walks_enum hb rl)⟩
def zipD (xs ys : List D) : List D := List.zipWith (fun x y => D.tup [x, y]) xs ys
theorem zipD_at {xs ys : List D} {i : Nat} {x y : D} (hx : xs[i]? = some x) (hy : ys[i]? = some y) : (zipD xs ys)[i]? = some (.tup [x, y]) := by simp [zipD, List.getElem?_zipWith, hx, hy]
theorem walks_zip {K : PySem.W.Frag} {F : Hp} {m : List Addr} {a b : Addr} {vs ws : List V} {xs ys : List D} (q : SqL K F a vs) (r : DenL K F m vs xs) (q' : SqL K F b ws) (r' : DenL K F m ws ys) : Walks K F m (Itz K a b) (zipD xs ys) := by
  intro P F2 m2 h H i x S
  have q2 : SqL K H a vs := S.sub.seq (x.s.seq q)
  have q3 : SqL K H b ws := S.sub.seq (x.s.seq q')
  have l1 := r.length
  have l2 := r'.length
  have hl : (zipD xs ys).length = min xs.length ys.length := by simp [zipD]
  rw [hl]
  refine ⟨fun hi => ?_, fun hi => ⟨vs, ws, q2, q3, by omega⟩⟩
  have hv : i < vs.length := by omega
  have hw : i < ws.length := by omega
  refine ⟨⟨vs, ws, vs[i], ws[i], q2, q3, List.getElem?_eq_getElem hv, List.getElem?_eq_getElem hw⟩, fun y H' yl => ?_⟩
  obtain ⟨T, z, z2, rfl, hT, rfl, yl, yl2⟩ := yl
  obtain ⟨d, e1, r1⟩ := r.getV (yl vs q2)
  obtain ⟨d2, e2, r2⟩ := r'.getV (yl2 ws q3)
  have x2 := S.extF (o := .tup [z, z2]) hT
  exact ⟨_, x2, S.frozen hT, .tup [d, d2], zipD_at e1 e2, .tup upd_same (.cons (r1.mono (x.trans x2)) (.cons (r2.mono (x.trans x2)) .nil))⟩
theorem walks_zipT {K : PySem.W.Frag} {F : Hp} {m : List Addr} {a b : Addr} {vs ws : List V} {xs ys : List D} (q : SqT K F a vs) (r : DenL K F m vs xs) (q' : SqT K F b ws) (r' : DenL K F m ws ys) : Walks K F m (ItzT K a b) (zipD xs ys) := by
  intro P F2 m2 h H i x S
  have q2 : SqT K H a vs := Same.sqT S.sub (Same.sqT x.s q)
  have q3 : SqT K H b ws := Same.sqT S.sub (Same.sqT x.s q')
  have l1 := r.length
  have l2 := r'.length
  have hl : (zipD xs ys).length = min xs.length ys.length := by simp [zipD]
  rw [hl]
  refine ⟨fun hi => ?_, fun hi => ⟨vs, ws, q2, q3, by omega⟩⟩
  have hv : i < vs.length := by omega
  have hw : i < ws.length := by omega
  refine ⟨⟨vs, ws, vs[i], ws[i], q2, q3, List.getElem?_eq_getElem hv, List.getElem?_eq_getElem hw⟩, fun y H' yl => ?_⟩
  obtain ⟨T, z, z2, rfl, hT, rfl, yl, yl2⟩ := yl
  obtain ⟨d, e1, r1⟩ := r.getV (yl vs q2)
  obtain ⟨d2, e2, r2⟩ := r'.getV (yl2 ws q3)
  have x2 := S.extF (o := .tup [z, z2]) hT
  exact ⟨_, x2, S.frozen hT, .tup [d, d2], zipD_at e1 e2, .tup upd_same (.cons (r1.mono (x.trans x2)) (.cons (r2.mono (x.trans x2)) .nil))⟩
def zipAt : D → D → Option (List D)
  | .tup xs, .tup ys => some (zipD xs ys)
  | a, b => match frzAt a, frzAt b with
    | some xs, some ys => some (zipD xs ys)
    | _, _ => none
def sZip (f : SA) : SA := fun e h => (f e h).bind fun ds h1 => match ds with
  | [d, d2] => (match zipAt d d2 with
    | some xs => .ok xs h1
    | none => .bad)
  | _ => .bad
theorem di_zip {elts : List Expr} {kk : Nat} {tpos : Pos} {a b : Expr} {f g : SE} {p pos : Pos} (hg : Gl X "zip") (hm : X.mg "zip" = none) (ha : DE X W a f) (hb : DE X W b g) (he : starEach [a, b] X.env = (false, eval a X.env) :: starEach [b] X.env := by rfl) (he2 : starEach [b] X.env = (false, eval b X.env) :: starEach [] X.env := by rfl) (hpl : (backTo pos (starEach [b] X.env)).any (·.1) = false := by rfl) :
    DI X W (.Tuple elts kk tpos) (.Call (.Name "zip" p) [a, b] [] pos) (sZip (sCons f (sCons g sNil))) :=
  PI.of (pi_zipA hg hm (da_cons ha (da_cons hb da_nil he2) he) he hpl) fun σ H R => by
    rintro ⟨P, F, m, e, h, S, E, fin⟩
    refine ⟨P, F, m, e, h, S, E, ?_⟩
    unfold sZip at fin
    cases q : (sCons f (sCons g sNil)) e h with
    | bad => rw [q] at fin; exact fin.elim
    | exc C p h1 => rw [q] at fin; exact fin
    | ok ds h1 =>
      rw [q] at fin
      simp only [Res.bind_ok] at fin
      intro vs F1 m1 H1 x S1 r
      match ds, fin, r with
      | [d, d2], fin, r =>
        obtain ⟨v, v2, rfl, r1, r2⟩ := denL2 r
        dsimp only at fin
        have lists : ∀ xs ys, frzAt d = some xs → frzAt d2 = some ys → zipAt d d2 = some (zipD xs ys) → ∃ a b xs ys, [v, v2] = [.ref a, .ref b] ∧ ((SqL X.K H1 a xs ∧ SqL X.K H1 b ys ∧ R (Itz X.K a b) H1) ∨ (SqT X.K H1 a xs ∧ SqT X.K H1 b ys ∧ R (ItzT X.K a b) H1)) := fun xs ys q1 q2 q3 => by
          rw [q3] at fin
          obtain ⟨b, ws, rfl, hb, rl⟩ := den_sq r1 q1
          obtain ⟨b2, ws2, rfl, hb2, rl2⟩ := den_sq r2 q2
          exact ⟨b, b2, ws, ws2, rfl, .inl ⟨S1.sub.seq hb, S1.sub.seq hb2, FinG.okX fin x S1 (walks_zip hb rl hb2 rl2)⟩⟩
        cases q4 : zipAt d d2 with
        | none => rw [q4] at fin; exact fin.elim
        | some zs =>
          unfold zipAt at q4
          split at q4
          · cases r1 with
            | @tup a1 _ _ e1 t1 => cases r2 with
              | @tup a2 _ _ e2 t2 => exact ⟨a1, a2, _, _, rfl, .inr ⟨Same.sqT S1.sub (.inl (.inl e1)), Same.sqT S1.sub (.inl (.inl e2)), FinG.okX fin x S1 (walks_zipT (.inl (.inl e1)) t1 (.inl (.inl e2)) t2)⟩⟩
          · rename_i hno
            split at q4
            · rename_i xs ys q1 q2
              refine lists xs ys q1 q2 ?_
              unfold zipAt
              split
              · cases q1
              · rw [q1, q2]
            · cases q4
end
section
variable {PL : List D → OH → Prop}
theorem W_rngN (a : SA) (e : Env') (h : OH) : (sRngN a e h).W PL = (a e h).W fun ds h1 => match ds with
  | [.int i, .int j, .int k] => if rngOk i && (rngOk j && decide (k = -1)) then PL (rngS i (-1) (i - j).toNat) h1 else False
  | _ => False := by
  unfold sRngN; rw [W_bind]; congr; funext ds h1
  split
  · split <;> rfl
  · rfl
@[simp] theorem W_rngN3 (f g k : SE) (e : Env') (h : OH) : (sRngN (sCons f (sCons g (sCons k sNil))) e h).W PL = (f e h).W fun a h1 => (g e h1).W fun b h2 => (k e h2).W fun c h3 => isI a fun i => isI b fun j => isI c fun l => if rngOk i && (rngOk j && decide (l = -1)) then PL (rngS i (-1) (i - j).toNat) h3 else False := by
  rw [W_rngN]; simp only [W_sCons, W_sNil]
  congr; funext a h1; congr; funext b h2; congr; funext c h3
  cases a <;> cases b <;> cases c <;> rfl
@[simp] theorem W_enum (f : SE) (e : Env') (h : OH) : (sEnum (sCons f sNil) e h).W PL = (f e h).W fun d h1 => lkS (frzAt d) fun xs => PL (enumD xs) h1 := by
  unfold sEnum; rw [W_bind]; simp only [W_sCons, W_sNil]; congr; funext d h1
  cases frzAt d <;> rfl
@[simp] theorem W_zip (f g : SE) (e : Env') (h : OH) : (sZip (sCons f (sCons g sNil)) e h).W PL = (f e h).W fun d h1 => (g e h1).W fun d2 h2 => lkS (zipAt d d2) fun xs => PL xs h2 := by
  unfold sZip; rw [W_bind]; simp only [W_sCons, W_sNil]; congr; funext d h1; congr; funext d2 h2
  cases zipAt d d2 <;> rfl
@[simp] theorem frz_lst (xs : List D) : frzAt (.lst xs) = some xs := rfl
@[simp] theorem frz_scr (xs : List D) : frzAt (.scr xs) = some xs := rfl
@[simp] theorem zipAt_ll (xs ys : List D) : zipAt (.lst xs) (.lst ys) = some (zipD xs ys) := rfl
@[simp] theorem zipAt_tt (xs ys : List D) : zipAt (.tup xs) (.tup ys) = some (zipD xs ys) := rfl
end
/-! ### while -/
def fuel : Nat := 1000000
def sWhile (c : ST) (b : SS) : SS := fun e h => whileF c b fuel e h
section
variable {X : Cx} {W : WX}
theorem ds_whileA {c : Expr} {body : List Stmt} {fc : ST} {fb : SS} {pos : Pos} (hp : PassesOwn (model X.prog X.w) X.A X.env X.xe) (hc : DT X W c fc) (hb : DSs X W body fb) : DS X W (.While c body [] pos) (sWhile fc fb) := ds_while hp (fun _ _ => fuel) hc hb
end
section
variable {N C B : Env' → OH → Prop} {R : D → OH → Prop}
theorem W_whileF {c : ST} {b : SS} {I : Env' → OH → Prop} (μ : Env' → OH → Nat) (st : ∀ e h, I e h → (c e h).W fun t h1 => if t then (b e h1).W (fun e2 h2 => I e2 h2 ∧ μ e2 h2 < μ e h) (fun e2 h2 => I e2 h2 ∧ μ e2 h2 < μ e h) N R else N e h1) :
    ∀ (n : Nat) (e : Env') (h : OH), I e h → μ e h < n → (whileF c b n e h).W N C B R
  | 0, _, _, _, hf => absurd hf (Nat.not_lt_zero _)
  | n + 1, e, h, i0, hf => by
    have w := st e h i0
    have rest := fun e2 h2 (z : I e2 h2 ∧ μ e2 h2 < μ e h) => W_whileF μ st n e2 h2 z.1 (by have := z.2; omega)
    obtain ⟨t, h1, q, w⟩ := w.out
    unfold whileF
    rw [q]
    simp only [Res.toS_ok]
    cases t with
    | false => exact w
    | true =>
      rw [if_pos rfl] at w
      rw [if_pos rfl]
      cases q2 : b e h1 with
      | nx e2 h2 => rw [q2] at w; exact rest e2 h2 w
      | ct e2 h2 => rw [q2] at w; exact rest e2 h2 w
      | bk e2 h2 => rw [q2] at w; exact w
      | rt d h2 => rw [q2] at w; exact w
      | exc _ _ _ _ => rw [q2] at w; exact w.elim
      | bad => rw [q2] at w; exact w.elim
theorem W_while {c : ST} {b : SS} {I : Env' → OH → Prop} (μ : Env' → OH → Nat) {e : Env'} {h : OH} (h0 : I e h) (hf : μ e h < 1000000) (st : ∀ e h, I e h → (c e h).W fun t h1 => if t then (b e h1).W (fun e2 h2 => I e2 h2 ∧ μ e2 h2 < μ e h) (fun e2 h2 => I e2 h2 ∧ μ e2 h2 < μ e h) N R else N e h1) : (sWhile c b e h).W N C B R :=
  W_whileF μ st fuel e h h0 hf
end
end HR
set_option Elab.async false
set_option linter.all false
set_option maxRecDepth 100000
set_option maxHeartbeats 2000000
/-! repr; a law's end where the def is called with no guards -/
set_option Elab.async false
set_option linter.all false
set_option maxRecDepth 20000
set_option maxHeartbeats 1000000
/-! recursion: no call at all -/
set_option Elab.async false
set_option linter.all false
set_option maxRecDepth 20000
set_option maxHeartbeats 1000000
/-! lending: own lists are read as frozen trees for a call that changes nothing -/
namespace HR
open PySem L2 RZ
mutual
def snapG (get : Nat → Option (List D)) : D → Option D
  | .non => some .non
  | .bl b => some (.bl b)
  | .int i => some (.int i)
  | .str x => some (.str x)
  | .lst xs => (snapGL get xs).map .lst
  | .scr xs => (snapGL get xs).map .scr
  | .tup xs => (snapGL get xs).map .tup
  | .ref i => (get i).map .lst
  | .dct _ => none
  | .obj _ _ => none
  | .exc _ => none
  | .excf _ _ _ => none
def snapGL (get : Nat → Option (List D)) : List D → Option (List D)
  | [] => some []
  | x :: xs => match snapG get x, snapGL get xs with
    | some d, some ds => some (d :: ds)
    | _, _ => none
end
def snapGet (h : OH) : Nat → Nat → Option (List D)
  | 0, _ => none
  | n + 1, i => match h[i]? with
    | some (.lst xs) => snapGL (snapGet h n) xs
    | _ => none
def deadL : OO → OO
  | .lst _ => .dead
  | o => o
section
variable {K : PySem.W.Frag} {P : Pins} {F : Hp} {m : List Addr} {h : OH} {H : Hp}
def Lent (F : Hp) (m : List Addr) (h : OH) (b : Addr) : Prop := F b = none ∧ ∃ (i : Nat) (xs : List D), m[i]? = some b ∧ h[i]? = some (OO.lst xs)
open Classical in
noncomputable def lentF (F : Hp) (m : List Addr) (h : OH) (H : Hp) : Hp := fun b => if Lent F m h b then H b else F b
theorem lentF_same : Same F (lentF F m h H) := fun b u e => by
  unfold lentF
  rw [if_neg fun z => by have := z.1; rw [this] at e; cases e]
  exact e
theorem lentF_sub (S : Sim K P F m h H) : Same (lentF F m h H) H := fun b u e => by
  unfold lentF at e
  split at e
  · exact e
  · exact S.sub b u e
theorem lent_uniq (S : Sim K P F m h H) {i j : Nat} {a : Addr} (e1 : m[i]? = some a) (e2 : m[j]? = some a) : i = j := by
  obtain ⟨h1, q1⟩ := List.getElem?_eq_some_iff.mp e1
  obtain ⟨h2, q2⟩ := List.getElem?_eq_some_iff.mp e2
  exact (List.getElem_inj S.nd).mp (q1.trans q2.symm)
theorem lentF_lst (S : Sim K P F m h H) {i : Nat} {a : Addr} {xs : List D} (e1 : m[i]? = some a) (e2 : h[i]? = some (.lst xs)) : ∃ vs, lentF F m h H a = some (.lst vs) ∧ H a = some (.lst vs) ∧ DenL K F m vs xs := by
  obtain ⟨vs, h1, h2, h3⟩ := S.at_ i a _ e1 e2
  refine ⟨vs, ?_, h1, h2⟩
  unfold lentF
  rw [if_pos ⟨h3, i, xs, e1, e2⟩]
  exact h1
theorem lentF_none {a : Addr} (e : F a = none) (n : ¬ Lent F m h a) : lentF F m h H a = none := by
  unfold lentF
  rw [if_neg n]
  exact e
/-- the own lists lent -/
theorem Sim.lend (S : Sim K P F m h H) : Sim K P (lentF F m h H) m (h.map deadL) H where
  sub := lentF_sub S
  len := by rw [List.length_map]; exact S.len
  nd := S.nd
  live := S.live
  at_ := fun i a o e1 e2 => by
    rw [List.getElem?_map, Option.map_eq_some_iff] at e2
    obtain ⟨u, q1, rfl⟩ := e2
    have x : Ext F m (lentF F m h H) m := ⟨lentF_same, List.prefix_rfl⟩
    have nl : (∀ xs, u ≠ .lst xs) → ¬ Lent F m h a := fun n z => by
      obtain ⟨_, j, xs, z1, z2⟩ := z
      have := lent_uniq S e1 z1
      subst this
      rw [q1] at z2
      exact n xs (Option.some.inj z2)
    have old := S.at_ i a u e1 q1
    cases u with
    | lst xs => trivial
    | ins C fs =>
      obtain ⟨dx, fv, h1, h2, h3, h4⟩ := old
      exact ⟨dx, fv, h1, h2, h3.mono x, lentF_none h4 (nl fun _ => nofun)⟩
    | dct kvs =>
      obtain ⟨ks, h1, h2, h3⟩ := old
      exact ⟨ks, h1, h2.mono x, lentF_none h3 (nl fun _ => nofun)⟩
    | dead => trivial
  pin := fun p hp => by
    obtain ⟨h1, h2, h3⟩ := S.pin p hp
    exact ⟨h1, lentF_none h2 (fun z => by
      obtain ⟨_, j, xs, z1, _⟩ := z
      exact h3 (List.mem_of_getElem? z1)), h3⟩
  pnd := S.pnd
open Classical in
/-- .. and given back -/
noncomputable def backF (F F1 : Hp) (m : List Addr) : Hp := fun b => if b ∈ m ∧ F b = none then none else F1 b
theorem backF_same (s : Same F F1) : Same F (backF F F1 m) := fun b u e => by
  unfold backF
  rw [if_neg fun z => by rw [z.2] at e; cases e]
  exact s b u e
theorem Sim.giveBack {F1 : Hp} {m1 : List Addr} {h1 : OH} {H1 : Hp} (S : Sim K P F m h H) (x : Same (lentF F m h H) F1) (S1 : Sim K (hidP (lentF F m h H) m H ++ P) F1 m1 h1 H1) : Sim K P (backF F F1 m) m h H1 := by
  have none_ : ∀ {a : Addr}, a ∈ m → F a = none → backF F F1 m a = none := fun ha z => if_pos ⟨ha, z⟩
  have stay : ∀ {a : Addr}, a ∈ m → ∀ o, H a = some o → H1 a = some o := fun {a} ha o e => by
    cases q : lentF F m h H a with
    | some u =>
      have := lentF_sub S a u q
      rw [e] at this
      cases this
      exact S1.sub _ _ (x _ _ q)
    | none => exact (S1.pin (a, o) (List.mem_append_left _ (mem_hidP.mpr ⟨ha, q, e⟩))).1
  have xs : Ext F m (backF F F1 m) m := ⟨backF_same (lentF_same.trans x), List.prefix_rfl⟩
  refine ⟨fun b u e => ?_, S.len, S.nd, fun a ha => ?_, fun i a o e1 e2 => ?_, fun p hp => ?_, S.pnd⟩
  · unfold backF at e
    split at e
    · cases e
    · exact S1.sub b u e
  · obtain ⟨o, e⟩ := S.live a ha
    exact ⟨o, stay ha o e⟩
  · have ha := List.mem_of_getElem? e1
    have old := S.at_ i a o e1 e2
    cases o with
    | lst ys =>
      obtain ⟨vs, h1, h2, h3⟩ := old
      exact ⟨vs, stay ha _ h1, h2.mono xs, none_ ha h3⟩
    | ins C fs =>
      obtain ⟨dx, fv, h1, h2, h3, h4⟩ := old
      exact ⟨dx, fv, stay ha _ h1, h2, h3.mono xs, none_ ha h4⟩
    | dct kvs =>
      obtain ⟨ks, h1, h2, h3⟩ := old
      exact ⟨ks, stay ha _ h1, h2.mono xs, none_ ha h3⟩
    | dead => trivial
  · obtain ⟨h1, h2, _⟩ := S1.pin p (List.mem_append_right _ hp)
    refine ⟨h1, ?_, (S.pin p hp).2.2⟩
    unfold backF
    split
    · rfl
    · exact h2
theorem snap_den {m1 : List Addr} {F1 : Hp} (x : Same F F1) {get : Nat → Option (List D)} (hg : ∀ i a ds, m[i]? = some a → get i = some ds → ∃ vs, F1 a = some (.lst vs) ∧ DenL K F1 m1 vs ds) {v : V} {d : D} (r : Den K F m v d) : ∀ d', snapG get d = some d' → Den K F1 m1 v d' :=
  Den.rec (motive_1 := fun v d _ => ∀ d', snapG get d = some d' → Den K F1 m1 v d') (motive_2 := fun vs ds _ => ∀ ds', snapGL get ds = some ds' → DenL K F1 m1 vs ds') (motive_3 := fun _ _ _ => True) (motive_4 := fun _ _ _ => True)
    (fun d' e => by simp only [snapG, Option.some.injEq] at e; subst e; exact .non) (fun b d' e => by simp only [snapG, Option.some.injEq] at e; subst e; exact .bl b)
    (fun i d' e => by simp only [snapG, Option.some.injEq] at e; subst e; exact .int i) (fun y d' e => by simp only [snapG, Option.some.injEq] at e; subst e; exact .str y)
    (fun q _ ih d' e => by
      simp only [snapG, Option.map_eq_some_iff] at e
      obtain ⟨ps, e1, rfl⟩ := e
      exact .lst (x _ _ q) (ih ps e1))
    (fun q _ ih d' e => by
      simp only [snapG, Option.map_eq_some_iff] at e
      obtain ⟨ps, e1, rfl⟩ := e
      exact .scr (x.seq q) (ih ps e1))
    (fun q _ ih d' e => by
      simp only [snapG, Option.map_eq_some_iff] at e
      obtain ⟨ps, e1, rfl⟩ := e
      exact .tup (x _ _ q) (ih ps e1))
    (fun _ _ _ d' e => by simp only [snapG] at e; cases e) (fun _ _ _ _ d' e => by simp only [snapG] at e; cases e)
    (fun {a i} q d' e => by
      simp only [snapG, Option.map_eq_some_iff] at e
      obtain ⟨ps, e1, rfl⟩ := e
      obtain ⟨vs, k1, k2⟩ := hg i a ps q e1
      exact .lst k1 k2)
    (fun _ d' e => by simp only [snapG] at e; cases e) (fun _ _ _ _ d' e => by simp only [snapG] at e; cases e)
    (fun ds' e => by simp only [snapGL, Option.some.injEq] at e; subst e; exact .nil)
    (fun {v d vs ds} _ _ ih1 ih2 ds' e => by
      simp only [snapGL] at e
      cases e1 : snapG get d with
      | none => rw [e1] at e; simp at e
      | some p =>
        cases e2 : snapGL get ds with
        | none => rw [e1, e2] at e; simp at e
        | some qs =>
          rw [e1, e2] at e
          simp only [Option.some.injEq] at e
          subst e
          exact .cons (ih1 p e1) (ih2 qs e2))
    trivial (fun _ _ _ _ => trivial) trivial (fun _ _ _ _ => trivial) r
theorem snapL_den {m1 : List Addr} {F1 : Hp} (x : Same F F1) {get : Nat → Option (List D)} (hg : ∀ i a ds, m[i]? = some a → get i = some ds → ∃ vs, F1 a = some (.lst vs) ∧ DenL K F1 m1 vs ds) : ∀ {vs : List V} {ds ds' : List D}, DenL K F m vs ds → snapGL get ds = some ds' → DenL K F1 m1 vs ds'
  | _, _, _, .nil, e => by simp only [snapGL, Option.some.injEq] at e; subst e; exact .nil
  | _, d :: ds, _, .cons a b, e => by
    simp only [snapGL] at e
    cases e1 : snapG get d with
    | none => rw [e1] at e; simp at e
    | some p =>
      cases e2 : snapGL get ds with
      | none => rw [e1, e2] at e; simp at e
      | some qs =>
        rw [e1, e2] at e
        simp only [Option.some.injEq] at e
        subst e
        exact .cons (snap_den x hg a p e1) (snapL_den x hg b e2)
theorem snapGet_ok (S : Sim K P F m h H) : ∀ (n i : Nat) (a : Addr) (ds : List D), m[i]? = some a → snapGet h n i = some ds → ∃ vs, lentF F m h H a = some (.lst vs) ∧ DenL K (lentF F m h H) [] vs ds
  | 0, _, _, _, _, e => by simp [snapGet] at e
  | n + 1, i, a, ds, e1, e => by
    simp only [snapGet] at e
    cases q : h[i]? with
    | none => rw [q] at e; cases e
    | some o =>
      rw [q] at e
      cases o with
      | lst xs =>
        obtain ⟨vs, k1, _, k2⟩ := lentF_lst S e1 q
        exact ⟨vs, k1, snapL_den lentF_same (fun j b es q1 q2 => snapGet_ok S n j b es q1 q2) k2 e⟩
      | _ => cases e
def flatS : D → Bool
  | .non | .bl _ | .int _ | .str _ => true
  | _ => false
/-- no address, or a tuple of such -/
def flatT : D → Bool
  | .non | .bl _ | .int _ | .str _ => true
  | .tup xs => xs.all flatS
  | _ => false
theorem flat1 {F1 F2 : Hp} {m1 m2 : List Addr} {v : V} {d : D} (r : Den K F1 m1 v d) (q : flatS d = true) : Den K F2 m2 v d := by
  cases r <;> first | exact .non | exact .bl _ | exact .int _ | exact .str _ | cases q
theorem flatL {F1 F2 : Hp} {m1 m2 : List Addr} : ∀ {vs : List V} {ds : List D}, DenL K F1 m1 vs ds → ds.all flatS = true → DenL K F2 m2 vs ds
  | _, _, .nil, _ => .nil
  | _, _, .cons a b, e => by
    rw [List.all_cons, Bool.and_eq_true] at e
    exact .cons (flat1 a e.1) (flatL b e.2)
theorem flat_back {F1 : Hp} {m1 : List Addr} (S : Sim K P F m h H) (x : Same (lentF F m h H) F1) (hp : ∀ a o, a ∈ m → lentF F m h H a = none → H a = some o → F1 a = none) {v : V} {d : D} (r : Den K F1 m1 v d) (q : flatT d = true) : Den K (backF F F1 m) m v d := by
  cases r with
  | tup e t =>
    rename_i a vs ds
    refine .tup ?_ (flatL t q)
    unfold backF
    rw [if_neg fun z => ?_]
    · exact e
    · obtain ⟨z1, z2⟩ := z
      cases k : lentF F m h H a with
      | none =>
        obtain ⟨o, ho⟩ := S.live a z1
        have := hp a o z1 k ho
        rw [e] at this
        cases this
      | some u =>
        have k2 := x _ _ k
        rw [e] at k2
        cases k2
        unfold lentF at k
        split at k
        · rename_i ln
          obtain ⟨_, i, xs, q1, q2⟩ := ln
          obtain ⟨vs, w1, _, _⟩ := S.at_ i a _ q1 q2
          rw [k] at w1
          cases w1
        · rw [z2] at k; cases k
  | non => exact .non
  | bl b => exact .bl b
  | int i => exact .int i
  | str y => exact .str y
  | _ => cases q
end
/-- a def that reads own lists as frozen trees, its answer flat -/
def lendF (g : FN) : FN := fun ds h => match snapGL (snapGet h 5) ds with
  | some ds' => (match g ds' [] with
    | .ok d _ => if flatT d then .ok d h else .bad
    | .exc C none _ => .exc C none h
    | _ => .bad)
  | none => .bad
theorem lend_sp {K : PySem.W.Frag} {np : Nat} {g : FN} {vs : List V} {H : Hp} {Q : VK} {E : XK} (q : spN K np (lendF g) vs H Q E) : spN K np g vs H Q E := by
  obtain ⟨hl, P, F, m, ds, h, S, r, fin⟩ := q
  unfold lendF at fin
  cases e1 : snapGL (snapGet h 5) ds with
  | none => rw [e1] at fin; exact fin.elim
  | some ds' =>
    rw [e1] at fin
    dsimp only at fin
    have r' := snapL_den lentF_same (fun j b es q1 q2 => snapGet_ok S 5 j b es q1 q2) r e1
    have S' := S.lend.hide
    refine ⟨hl, _, _, [], ds', [], S', r', ?_⟩
    have pins : ∀ {F1 : Hp} {m1 : List Addr} {h1 : OH} {H1 : Hp}, Sim K (hidP (lentF F m h H) m H ++ P) F1 m1 h1 H1 → ∀ a o, a ∈ m → lentF F m h H a = none → H a = some o → F1 a = none := fun S1 a o ha n e => (S1.pin (a, o) (List.mem_append_left _ (mem_hidP.mpr ⟨ha, n, e⟩))).2.1
    cases e2 : g ds' [] with
    | bad => rw [e2] at fin; exact fin.elim
    | ok d h2 =>
      rw [e2] at fin
      dsimp only at fin
      by_cases hf : flatT d = true
      · rw [if_pos hf] at fin
        intro v F1 m1 H1 x S1 rv
        have S2 := S.giveBack x.s S1
        exact fin v _ m H1 ⟨backF_same (lentF_same.trans x.s), List.prefix_rfl⟩ S2 (flat_back S x.s (pins S1) rv hf)
      · rw [if_neg hf] at fin
        exact fin.elim
    | exc C p h2 =>
      rw [e2] at fin
      cases p with
      | none =>
        dsimp only at fin
        intro od F1 m1 H1 x S1 pd
        have S2 := S.giveBack x.s S1
        exact fin od _ m H1 ⟨backF_same (lentF_same.trans x.s), List.prefix_rfl⟩ S2 pd
      | some q => exact fin.elim
theorem FnOk.lend {P : Program} {w : World} {K : PySem.W.Frag} {mg : Str → Option Value} {base : Heap} {CX : CXT} {k : Nat} {f : Addr} {fd : FuncData} {ps : List Str} {g : FN} (F : FnOk P w K mg base CX k f fd ps (spN K ps.length g)) : FnOk P w K mg base CX k f fd ps (spN K ps.length (lendF g)) := L2.FnOk.imp F fun _ _ _ _ h => lend_sp h
theorem Def.lend {P : Program} {w : World} {K : PySem.W.Frag} {mg : Str → Option Value} {base : Heap} {CX : CXT} {k : Nat} {f : Addr} {ps : List Str} {dvs : List V} {g : FN} (d : Def P w K mg base CX k f ps dvs g) : Def P w K mg base CX k f ps dvs (lendF g) := let ⟨fd, dus, a, b, c⟩ := d.ex; ⟨⟨fd, dus, FnOk.lend a, b, c⟩, d.kp⟩
end HR
set_option Elab.async false
set_option linter.all false
set_option maxRecDepth 100000
set_option maxHeartbeats 2000000
/-! exceptions: raise, a try whose except clause keeps what it caught, isinstance of what was kept -/
namespace HR
open PySem L2 PySem.Spec PyProof.Rows
/-! ### a caught exception becomes an object of ours -/
/-! ### as plain functions -/
/-- raise C('..') -/
def sRaise (C : String) : SS := fun e h => .exc C none e h
section
variable {X : Cx} {W : WX}
theorem ds_raise {C : String} {m : Str} {k : Nat} {p p2 p3 pos : Pos} (tk : Takes X W) (hcm : X.calm = true) (q : PySem.W.excIn X.K (He.ga X.K (Str.ofString C)) He.veBase "ValueError.__new__" = true) (kC : PySem.W.keepIn X.K (.ref (He.ga X.K (Str.ofString C))) = true)
    (sC : PySem.W.subIn X.K (.ref (He.ga X.K (Str.ofString C))) (.type "BaseException") = some true) (tC : PySem.W.typeIn X.K (.ref (He.ga X.K (Str.ofString C))) = some (.type "type")) (gC : X.mg (Str.ofString C) = some (.ref (He.ga X.K (Str.ofString C)))) (hg : Gl X (Str.ofString C))
    (hdb : (Str.ofString C == ("__debug__" : Str)) = false := by decide) : DS X W (.Raise (some (.Call (.Name (Str.ofString C) p) [.Constant (.str m) k p2] [] p3)) none pos) (sRaise C) :=
  PS.of (ps_raise hcm tk (pmk_own PySem.F.excBase_ValueError q gC kC (raises_own sC tC) hg hdb)) fun Dn σ H => by
    rintro ⟨P, F, m, e, h, S, E, fin⟩
    exact fin none σ F m H .refl S rfl E
end
/-! ### isinstance of a kept exception -/
/-- what the class at D must say -/
def excCB (K : PySem.W.Frag) (D : Addr) : Bool :=
  decide (PySem.W.findIn K (.ref D) "__getattribute__" = some (some (.builtin "BaseException.__getattribute__"))) && (decide (PySem.W.findIn K (.ref D) "__getattr__" = some none) && (decide (PySem.W.subIn K (.ref D) (.type "BaseException") = some true) && (PySem.W.hasDictIn K D &&
  (decide (PySem.W.findIn K (.ref D) "__class__" = some (some (.builtin "object.__class__"))) && (decide (PySem.W.specialIn K (.builtin "object.__class__") "__get__" = some (some (.builtin "getset_descriptor.__get__"))) && (decide (PySem.W.takesIn K (.builtin "object.__class__") = some true) &&
  decide (PySem.W.mroIn K D (.type "object") = some true)))))))
/-- is the class C below the class c, as names -/
def excB (C c : String) : Bool := C == c || (c == "HushError" || c == "ValueError")
/-! ### what is asked of a class with its own __init__ -/
def oexK (K : PySem.W.Frag) (C : Addr) : Bool := match K.lookup C with
  | some ⟨.type "type", _, .cls cd, sl⟩ => (match cd.mro, sl.toList with
    | .ref C2 :: bm, [_, _, _, _, some (.builtin n), _] => decide (C2 = C) && (decide (n = "ValueError.__new__") && (!cd.hasDel && (cd.hasDict && PySem.HandSPX.refsVE bm)))
    | _, _ => false)
  | _ => false
/-- the facts of one class C with the field f -/
def oexF (K : PySem.W.Frag) (C f : String) : Bool :=
  oexK K (He.ga K (Str.ofString C)) && (decide (PySem.W.findIn K (.ref (He.ga K (Str.ofString C))) "__setattr__" = some (some (.builtin "object.__setattr__"))) && (decide (PySem.W.subIn K (.ref (He.ga K (Str.ofString C))) (.type "BaseException") = some true) &&
  (decide (PySem.W.typeIn K (.ref (He.ga K (Str.ofString C))) = some (.type "type")) && (PySem.W.keepIn K (.ref (He.ga K (Str.ofString C))) && (decide (PySem.W.findIn K (.ref (He.ga K (Str.ofString C))) "__init__" = some (some (.ref (He.ma K (He.ga K (Str.ofString C)) "__init__")))) &&
  (decide (PySem.W.typeIn K (.ref (He.ma K (He.ga K (Str.ofString C)) "__init__")) = some (.type "function")) && (decide (PySem.W.findIn K (.ref (He.ga K (Str.ofString C))) (Str.ofString f) = some none) &&
  (PySem.W.readsIn K (He.ga K (Str.ofString "HushError")) (.type "type") && (decide (PySem.W.specialIn K (.ref (He.ga K (Str.ofString "HushError"))) "__getattribute__" = some (some (.builtin "type.__getattribute__"))) &&
  (match PySem.W.findCls K (.ref (He.ga K (Str.ofString "HushError"))) (.type "type") "__init__" with
    | some (.val v) => decide (v = .builtin "ValueError.__init__")
    | _ => false))))))))))
/-- the field of a class with its own __init__ -/
def fieldOf (C : String) : Option String := if C = "TooMany" then some "count" else if C = "Inconsistent" then some "tick" else if C = "InvalidText" then some "line" else none
/-- facts of the classes xs (caught) and ys (asked for) -/
def excFacts (K : PySem.W.Frag) (xs ys : List String) : Bool :=
  xs.all fun C => excCB K (He.ga K (Str.ofString C)) && (decide (PySem.W.exmOne K (.ref (He.ga K (Str.ofString C))) (.ref (He.ga K (Str.ofString "HushError"))) = some true) &&
    (decide (PySem.W.kitOne K (.ref (He.ga K (Str.ofString C))) (.type "ValueError") = some true) && ((ys.all fun c => decide (PySem.W.kitOne K (.ref (He.ga K (Str.ofString C))) (.ref (He.ga K (Str.ofString c))) = some (excB C c))) && (match fieldOf C with
    | some f => oexF K C f
    | none => true))))
/-! ### a def that lets nothing out -/
def noXF (g : FN) : FN := fun ds h => (g ds h).noX
@[simp] theorem noX_ok {α : Type} (a : α) (h : OH) : (Res.ok a h).noX = .ok a h := rfl
@[simp] theorem noXF_at (g : FN) (ds : List D) (h : OH) : noXF g ds h = (g ds h).noX := rfl
theorem noX_sp {K : PySem.W.Frag} {np : Nat} {g : FN} {vs : List V} {H : Hp} {Q : VK} {E : XK} (q : spN K np (noXF g) vs H Q E) : spN K np g vs H Q E0 := by
  obtain ⟨hl, P, F, m, ds, h, S, r, fin⟩ := q
  refine ⟨hl, P, F, m, ds, h, S, r, ?_⟩
  unfold noXF at fin
  cases e : g ds h with
  | ok d h1 => rw [e] at fin; exact fin
  | exc C p h1 => rw [e] at fin; exact fin.elim
  | bad => rw [e] at fin; exact fin.elim
section
variable {P : Program} {w : World} {K : PySem.W.Frag} {mg : Str → Option Value} {base : Heap} {k : Nat} {f : Addr} {fd : FuncData} {ps : List Str} {g : FN} {dvs : List V}
theorem FnOk.shut (Fk : FnOk P w K mg base (L2.CX P w) k f fd ps (spN K ps.length g)) : FnOk P w K mg base CX0 k f fd ps (spN K ps.length (noXF g)) where
  len := fun vs H Q E q => q.1
  run := fun A out s H args us vs Q E hr e0 hb r q => codeAny_mono (Fk.run A out s H args us vs Q E0 hr e0 hb r (noX_sp q)) fun res s1 hq => by
    cases res with
    | error e =>
      obtain ⟨_, _, _, _, _, _, _, _, _, _, _, _, z⟩ := hq
      exact z.elim
    | ok fl => cases fl <;> exact hq
theorem Def.shut (d : Def P w K mg base (L2.CX P w) k f ps dvs g) : Def P w K mg base CX0 k f ps dvs (noXF g) := let ⟨fd, dus, a, b, c⟩ := d.ex; ⟨⟨fd, dus, FnOk.shut a, b, c⟩, d.kp⟩
end
/-! ### {} -/
def sDct0 : SE := fun _ h => .ok (.dct []) h
/-! ### a + b, to be an own list -/
end HR
set_option Elab.async false
set_option linter.all false
set_option maxRecDepth 100000
set_option maxHeartbeats 2000000
/-! repr of values in which an empty dict may stand; the head's facts for laws with exceptions -/
namespace HR
open PySem L2 RZ PySem.Spec PyProof.Rows
/-! ### facts of the head -/
def modOk (K : PySem.W.Frag) : Bool := match K.lookup sysModules with
  | some o => decide (o.cls = .type "dict")
  | none => false
def obsX (fa : List He.Fa) (fn : List He.DefD) (xs ys : List String) (K : PySem.W.Frag) : He.AlD × Bool := (He.obsD fa fn K, excFacts K xs ys && modOk K)
def SaysX (fa : List He.Fa) (fn : List He.DefD) (xs ys : List String) (K : PySem.W.Frag) : Prop := obsX fa fn xs ys K = (He.valD fn, true)
section
variable {fa : List He.Fa} {fn : List He.DefD} {xs ys : List String} {K : PySem.W.Frag}
theorem SaysX.d (c : SaysX fa fn xs ys K) : He.SaysD fa fn K := congrArg (fun z : He.AlD × Bool => z.1) c
theorem SaysX.fact (c : SaysX fa fn xs ys K) (i : Nat) {f : He.Fa} (h : fa[i]? = some f := by rfl) : f.ok K = true := c.d.fact i h
theorem SaysX.def_ (c : SaysX fa fn xs ys K) (i : Nat) {d : He.DefD} (h : fn[i]? = some d := by rfl) : ∃ fd, FunD K d.name d.qual d.params d.body d.scope (d.dvs K) (d.kws K) (He.fAd K d.at_) fd := c.d.def_ i h
end
/-! ### what is read of a value, as data -/
mutual
def pyR (get : Nat → Option (List PyData)) : D → Option PyData
  | .non => some .none
  | .bl b => some (.bool b)
  | .int i => some (.int i)
  | .str x => some (.str x)
  | .lst xs => (pyRL get xs).map .list
  | .scr xs => (pyRL get xs).map .list
  | .tup xs => (pyRL get xs).map .tuple
  | .ref i => (get i).map .list
  | .dct [] => some (.dict [])
  | .dct (_ :: _) => none
  | .obj _ _ => none
  | .exc _ => none
  | .excf _ _ _ => none
def pyRL (get : Nat → Option (List PyData)) : List D → Option (List PyData)
  | [] => some []
  | x :: xs => match pyR get x, pyRL get xs with
    | some d, some ds => some (d :: ds)
    | _, _ => none
end
/-! ### repr -/
/-! ### texts of any signs compared -/
def opEqT (neg : Bool) : D → D → OH → Res D := fun a b h => match a, b with
  | .str x, .str y => .ok (.bl (if neg then !(x == y) else x == y)) h
  | _, _ => opEq neg a b h
section
variable {X : Cx} {W : WX}
variable {PD : D → OH → Prop}
@[simp] theorem W_eqT (neg : Bool) (x y : Str) (h : OH) : (opEqT neg (.str x) (.str y) h).W PD = PD (.bl (if neg then !(x == y) else x == y)) h := rfl
end
end HR
set_option Elab.async false
set_option linter.all false
set_option maxRecDepth 100000
set_option maxHeartbeats 2000000
/-! texts: join, split -/
namespace HR
open PySem L2
def strsOf : List D → Option (List Str)
  | [] => some []
  | .str x :: r => (strsOf r).map (x :: ·)
  | _ => none
@[simp] theorem strsOf_map : ∀ ys : List Str, strsOf (ys.map D.str) = some ys
  | [] => rfl
  | y :: ys => by simp [strsOf, strsOf_map ys]
end HR
set_option Elab.async false
set_option linter.all false
set_option maxRecDepth 100000
set_option maxHeartbeats 2000000
/-! instances that change: C(..) as an own object, o.f += e -/
namespace HR
open PySem L2
section
variable {X : Cx} {W : WX} {k : Nat} {f : Addr} {fd : FuncData} {ps : List Str} {g : FN}
/-- o.f += e, ints -/
def sFldA (C f : String) (o v : SE) : SS := fun e h => (o e h).toS e fun x h1 => match x with
  | .ref n => (match h1[n]? with
    | some (.ins C1 fs) => if C1 = C then (match fs.lookup f with
      | some (.int i) => (v e h1).toS e fun y h2 => (match y, h2[n]? with
        | .int j, some (.ins C2 fs2) => if C2 = C ∧ fs2.length < 900 then .nx e (h2.set n (.ins C (putS f (.int (i + j)) fs2))) else .bad
        | _, _ => .bad)
      | _ => .bad) else .bad
    | _ => .bad)
  | _ => .bad
end
end HR
set_option Elab.async false
set_option linter.all false
set_option maxRecDepth 100000
set_option maxHeartbeats 2000000
/-! exceptions as values: C('..'), C(e) where C keeps e in one field, raise C(e), x.f -/
set_option Elab.async false
set_option linter.all false
set_option maxRecDepth 20000
set_option maxHeartbeats 1000000
/-! walks over an own list, which keeps its length meanwhile -/
namespace HR
open PySem L2 RZ
section
variable {X : Cx} {W : WX}
/-- the place of an own list -/
def sRefL (f : SE) : Env' → OH → Res Nat := fun e h => (f e h).bind fun d h1 => match d with
  | .ref i => (match h1[i]? with
    | some (.lst _) => .ok i h1
    | _ => .bad)
  | _ => .bad
/-- j rounds are left of n -/
def forO (g : TF) (b : SS) (i n : Nat) : Nat → SS
  | 0 => fun e h => match h[i]? with
    | some (.lst ys) => if ys.length = n then .nx e h else .bad
    | _ => .bad
  | j + 1 => fun e h => match h[i]? with
    | some (.lst ys) => if ys.length = n then (match ys[n - (j + 1)]? with
      | some d => (match g d e h with
        | none => .bad
        | some e1 => (match b e1 h with
          | .nx e2 h2 => forO g b i n j e2 h2
          | .ct e2 h2 => forO g b i n j e2 h2
          | .bk e2 h2 => .nx e2 h2
          | r => r))
      | none => .bad) else .bad
    | _ => .bad
def sForO (f : SE) (g : TF) (b : SS) : SS := fun e h => (sRefL f e h).toS e fun i h1 => match h1[i]? with
  | some (.lst xs) => forO g b i xs.length xs.length e h1
  | _ => .bad
/-! comprehensions -/
end
section
variable {α β : Type} {N C B : Env' → OH → Prop} {R : D → OH → Prop} {PD : D → OH → Prop} {PL : List D → OH → Prop} {PN : Nat → OH → Prop}
def lkO (o : Option OO) (P : List D → Prop) : Prop := match o with
  | some (.lst xs) => P xs
  | _ => False
@[simp] theorem lkO_lst (xs : List D) (P : List D → Prop) : lkO (some (.lst xs)) P = P xs := rfl
@[simp] theorem W_refL (f : SE) (e : Env') (h : OH) : (sRefL f e h).W PN = (f e h).W fun d h1 => isR d fun i => lkO h1[i]? fun _ => PN i h1 := by
  unfold sRefL; rw [W_bind]; congr; funext d h1
  cases d <;> first | rfl | skip
  rename_i i
  simp only [isR_ref]
  rcases h1[i]? with _ | o
  · rfl
  · cases o <;> rfl
@[simp] theorem SW_forO (f : SE) (g : TF) (b : SS) (e : Env') (h : OH) : (sForO f g b e h).W N C B R = (f e h).W fun d h1 => isR d fun i => lkO h1[i]? fun xs => (forO g b i xs.length xs.length e h1).W N C B R := by
  unfold sForO
  rw [W_toS, W_refL]
  congr; funext d h1; congr; funext i
  rcases h1[i]? with _ | o
  · rfl
  · cases o <;> rfl
end
end HR
set_option Elab.async false
set_option linter.all false
set_option maxRecDepth 20000
set_option maxHeartbeats 1000000
/-! a call without arguments -/
set_option Elab.async false
set_option linter.all false
set_option maxRecDepth 20000
set_option maxHeartbeats 1000000
/-! a block, statement by statement: what follows is out of sight meanwhile -/
namespace HR
open PySem L2 RZ
section
variable {N C B : Env' → OH → Prop} {R : D → OH → Prop}
theorem SW_seqK {f g : SS} {e : Env'} {h : OH} (q : ∀ K : Env' → OH → Prop, (∀ e h, (g e h).W N C B R → K e h) → (f e h).W K C B R) : (sSeq f g e h).W N C B R := by
  rw [SW_seq]
  exact q _ fun _ _ z => z
end
end HR
set_option Elab.async false
set_option linter.all false
set_option maxRecDepth 20000
set_option maxHeartbeats 1000000
/-! range(a, b) of numbers of any size -/
namespace HR
open PySem L2 RZ PySem.Spec PyProof.Rows
section
variable {X : Cx} {tg : Expr} {W : WX}
def sRng2W (a b : SE) : SA := fun e h => (a e h).bind fun d h1 => (b e h1).bind fun d2 h2 => match d, d2 with
  | .int i, .int j => .ok (rngD i (j - i).toNat) h2
  | _, _ => .bad
end
section
variable {PL : List D → OH → Prop}
@[simp] theorem W_rng2W (f g : SE) (e : Env') (h : OH) : (sRng2W f g e h).W PL = (f e h).W fun a h1 => (g e h1).W fun b h2 => isI a fun i => isI b fun j => PL (rngD i (j - i).toNat) h2 := by
  unfold sRng2W; rw [W_bind]; congr; funext a h1; rw [W_bind]; congr; funext b h2
  cases a <;> cases b <;> rfl
end
end HR
set_option Elab.async false
set_option linter.all false
set_option maxRecDepth 20000
set_option maxHeartbeats 1000000
/-! x is True, x is not False, of bools -/
namespace HR
open PySem L2 RZ PySem.Spec PyProof.Rows
section
variable {X : Cx} {W : WX}
def opIsB (neg : Bool) : D → D → OH → Res D
  | .bl a, .bl b, h => .ok (.bl (if neg then !decide (a = b) else decide (a = b))) h
  | _, _, _ => .bad
end
@[simp] theorem W_isB (neg a b : Bool) (h : OH) {PD : D → OH → Prop} : (opIsB neg (.bl a) (.bl b) h).W PD = PD (.bl (if neg then !decide (a = b) else decide (a = b))) h := rfl
end HR
set_option Elab.async false
set_option linter.all false
set_option maxRecDepth 20000
set_option maxHeartbeats 1000000
/-! repr of any value -/
set_option Elab.async false
set_option linter.all false
set_option maxRecDepth 20000
set_option maxHeartbeats 1000000
/-! clear and insert of own lists -/
namespace HR
open PySem L2 RZ PySem.Spec PyProof.Rows
section
variable {X : Cx} {W : WX}
def gClear (i : Nat) (xs ys : List D) (h : OH) : Res D := match ys with
  | [] => .ok .non (h.set i (.lst []))
  | _ => .bad
def gInsert (i : Nat) (xs ys : List D) (h : OH) : Res D := match ys with
  | [.int k, y] => if xs.length < big ∧ 0 ≤ k ∧ k < 2 ^ 63 then .ok .non (h.set i (.lst (xs.take k.toNat ++ [y] ++ xs.drop k.toNat))) else .bad
  | _ => .bad
end
section
variable {PD : D → OH → Prop}
@[simp] theorem W_clear (i : Nat) (xs : List D) (h : OH) : (gClear i xs [] h).W PD = PD .non (h.set i (.lst [])) := rfl
@[simp] theorem W_insert (i : Nat) (xs : List D) (k : Int) (y : D) (h : OH) : (gInsert i xs [.int k, y] h).W PD = if xs.length < 1000000 ∧ 0 ≤ k ∧ k < 9223372036854775808 then PD .non (h.set i (.lst (xs.take k.toNat ++ [y] ++ xs.drop k.toNat))) else False := by
  simp [gInsert, big]
end
end HR
set_option Elab.async false
set_option linter.all false
set_option maxRecDepth 100000
set_option maxHeartbeats 4000000
/-! sorted(set(xs)), xs a list of ints, fewer than 64 -/
set_option Elab.async false
set_option linter.all false
set_option maxRecDepth 20000
set_option maxHeartbeats 1000000
/-! sorted(set(xs)), xs a list of ints, fewer than 64 -/
namespace HR
open PySem L2 RZ PySem.Spec PyProof.Rows
def insU (x : Int) : List Int → List Int
  | [] => [x]
  | y :: r => if x < y then x :: y :: r else if x = y then y :: r else y :: insU x r
def sortU (l : List Int) : List Int := l.foldr insU []
section
variable {X : Cx} {W : WX}
def sSortSet (f : SE) : SE := fun e h => (f e h).bind fun d h1 => match (lsqAt h1 d).bind intsOf with
  | some ns => if ns.length < 64 then .ok (.lst ((sortU ns).map .int)) h1 else .bad
  | none => .bad
end
section
variable {PD : D → OH → Prop}
@[simp] theorem W_sSortSet (f : SE) (e : Env') (h : OH) : (sSortSet f e h).W PD = (f e h).W fun d h1 => match (lsqAt h1 d).bind intsOf with
  | some ns => if ns.length < 64 then PD (.lst ((sortU ns).map .int)) h1 else False
  | none => False := by
  unfold sSortSet; rw [W_bind]; congr; funext d h1
  cases (lsqAt h1 d).bind intsOf with
  | none => rfl
  | some ns => dsimp only; split <;> rfl
end
end HR
set_option Elab.async false
set_option linter.all false
set_option maxRecDepth 20000
set_option maxHeartbeats 1000000
/-! min(xs, default=None), xs a list of ints -/
set_option Elab.async false
set_option linter.all false
set_option maxRecDepth 20000
set_option maxHeartbeats 1000000
/-! a comprehension over a list, own or frozen -/
set_option Elab.async false
set_option linter.all false
set_option maxRecDepth 100000
set_option maxHeartbeats 1000000
/-! zip of a list and a tuple -/
namespace HR
open PySem L2 RZ PySem.Spec PyProof.Rows
open PySem.Sem (wp)
/-! the call zip(l1, l2) -/
/-! the loop over it -/
section
variable {X : Cx} {W : WX}
/-- zip of lists, of tuples, or of a list and a tuple -/
def sZipX (f : SA) : SA := fun e h => match f e h with
  | .ok [.lst xs, .tup ys] h1 => .ok (zipD xs ys) h1
  | _ => sZip f e h
end
section
variable {PL : List D → OH → Prop}
def zipAtX : D → D → Option (List D)
  | .lst xs, .tup ys => some (zipD xs ys)
  | a, b => zipAt a b
theorem W_zipXa (f : SA) (e : Env') (h : OH) : (sZipX f e h).W PL = (f e h).W fun ds h1 => match ds with
  | [d, d2] => lkS (zipAtX d d2) fun xs => PL xs h1
  | _ => False := by
  unfold sZipX
  split
  · rename_i xs ys h1 q
    rw [q]
    rfl
  · rename_i no
    unfold sZip
    rw [W_bind]
    cases q : f e h with
    | bad => rfl
    | exc C p h1 => rfl
    | ok ds h1 =>
      simp only [W_ok]
      match ds, q with
      | [], _ => rfl
      | [_], _ => rfl
      | _ :: _ :: _ :: _, _ => rfl
      | [d, d2], q =>
        have e2 : zipAtX d d2 = zipAt d d2 := by
          unfold zipAtX
          split
          · exact absurd q (no _ _ _)
          · rfl
        simp only [e2]
        cases zipAt d d2 <;> rfl
@[simp] theorem W_zipX (f g : SE) (e : Env') (h : OH) : (sZipX (sCons f (sCons g sNil)) e h).W PL = (f e h).W fun d h1 => (g e h1).W fun d2 h2 => lkS (zipAtX d d2) fun xs => PL xs h2 := by
  rw [W_zipXa]; simp only [W_sCons, W_sNil]
@[simp] theorem zipAtX_lt (xs ys : List D) : zipAtX (.lst xs) (.tup ys) = some (zipD xs ys) := rfl
@[simp] theorem zipAtX_ll (xs ys : List D) : zipAtX (.lst xs) (.lst ys) = some (zipD xs ys) := rfl
end
end HR
set_option Elab.async false
set_option linter.all false
set_option maxRecDepth 20000
/-! a <= b < c -/
set_option Elab.async false
set_option linter.all false
set_option maxRecDepth 20000
set_option maxHeartbeats 1000000
/-! dict(pairs), the keys apart; d[k] -/
namespace HR
open PySem L2 RZ
def getK (ks : List (Key × D)) (k : Key) : Option D := (ks.find? fun kv => decide (kv.1 = k)).map (·.2)
def keyD : D → Option Key
  | .int i => some (.inl i)
  | .str x => some (.inr x)
  | _ => none
def pairK : D → Option (Key × D)
  | .tup [a, d] => (keyD a).map fun k => (k, d)
  | _ => none
def pairsK : List D → Option (List (Key × D))
  | [] => some []
  | x :: xs => match pairK x, pairsK xs with
    | some k, some ks => some (k :: ks)
    | _, _ => none
def opDictP : D → OH → Res D := fun d h => match (lsqAt h d).bind pairsK with
  | some ks => if (ks.map (·.1)).Nodup then .ok (.dct ks) h else .bad
  | none => .bad
section
variable {K : PySem.W.Frag} {F : Hp} {m : List Addr}
theorem keyD_den {v : V} {d : D} {k : Key} (r : Den K F m v d) (e : keyD d = some k) : v = kV k := by
  cases r <;> simp only [keyD, Option.some.injEq, reduceCtorEq] at e <;> subst e <;> rfl
theorem denK_get : ∀ {kvs : List (Key × V)} {ks : List (Key × D)} (r : DenK K F m kvs ks) {k : Key} {d : D}, getK ks k = some d → ∃ v, valV kvs k = some v ∧ Den K F m v d
  | _, _, .nil, k, d, e => by simp [getK] at e
  | _, _, .cons (k := k0) (v := v0) (ds := ds0) h t, k, d, e => by
    by_cases c : k0 = k
    · subst c
      simp [getK] at e
      subst e
      exact ⟨_, valV_pos rfl, h⟩
    · have e2 : getK ds0 k = some d := by simpa [getK, c] using e
      obtain ⟨v, h1, h2⟩ := denK_get t e2
      exact ⟨v, by rw [valV_neg c]; exact h1, h2⟩
theorem pairs_den {H : Hp} (sub : ∀ a o, F a = some o → H a = some o) : ∀ {vs : List V} {xs : List D} (r : DenL K F m vs xs) {ks : List (Key × D)}, pairsK xs = some ks → ∃ (ps : List Addr) (kvs : List (Key × V)), vs = ps.map V.ref ∧ Paired (fun p kv => SqT K H p [kV kv.1, kv.2]) ps kvs ∧ DenK K F m kvs ks
  | _, _, .nil, ks, e => by
    simp [pairsK] at e
    subst e
    exact ⟨[], [], rfl, .nil, .nil⟩
  | _, _, .cons (d := x) h t, ks, e => by
    unfold pairsK at e
    cases e1 : pairK x with
    | none => rw [e1] at e; simp at e
    | some kd =>
      cases e2 : pairsK _ with
      | none => rw [e1, e2] at e; simp at e
      | some ks2 =>
        rw [e1, e2] at e
        simp only [Option.some.injEq] at e
        subst e
        obtain ⟨ps, kvs, q1, q2, q3⟩ := pairs_den sub t e2
        unfold pairK at e1
        split at e1
        · rename_i a d
          rw [Option.map_eq_some_iff] at e1
          obtain ⟨k, ek, rfl⟩ := e1
          cases h with
          | @tup p ws _ fe fr =>
            obtain ⟨v1, v2, rfl, r1, r2⟩ := denL2 fr
            have := keyD_den r1 ek
            subst this
            exact ⟨p :: ps, (k, v2) :: kvs, by rw [q1]; rfl, .cons (.inl (.inl (sub _ _ fe))) q2, .cons r2 q3⟩
        · cases e1
theorem DenK.keys : ∀ {kvs : List (Key × V)} {ks : List (Key × D)} (r : DenK K F m kvs ks), kvs.map (·.1) = ks.map (·.1)
  | _, _, .nil => rfl
  | _, _, .cons h t => by simp [t.keys]
theorem merge_apart : ∀ (more acc : List (Key × V)), (more.map (·.1)).Nodup → (∀ kv ∈ more, kv.1 ∉ acc.map (·.1)) → mergeK acc more = acc ++ more
  | [], acc, _, _ => by simp [mergeK]
  | kv :: more, acc, nd, ne => by
    simp only [List.map_cons, List.nodup_cons] at nd
    have h0 := ne kv List.mem_cons_self
    have an : (acc.any fun x => decide (x.1 = kv.1)) = false := by
      rw [List.any_eq_false]
      intro x hx
      simp only [decide_eq_true_eq]
      intro e
      exact h0 (by rw [← e]; exact List.mem_map_of_mem hx)
    have p : putK acc kv.1 kv.2 = acc ++ [kv] := by
      unfold putK
      rw [an]
      rfl
    have ih := merge_apart more (acc ++ [kv]) nd.2 fun x hx => by
      have := ne x (List.mem_cons_of_mem _ hx)
      simp only [List.map_append, List.map_cons, List.map_nil, List.mem_append, List.mem_singleton, not_or]
      exact ⟨this, fun e => nd.1 (by rw [← e]; exact List.mem_map_of_mem hx)⟩
    unfold mergeK at ih ⊢
    rw [List.foldl_cons, p, ih]
    simp
end
section
variable {X : Cx} {W : WX}
theorem bDictP_h : ClH X.K W (b1 opDictP) (fun xs H Q => ∃ (a : Addr) (ps : List Addr) (kvs : List (Key × V)), xs = [.ref a] ∧ SqL X.K H a (ps.map V.ref) ∧ Paired (fun p kv => SqT X.K H p [kV kv.1, kv.2]) ps kvs ∧ ∀ p, H p = none → Q (.ref p) (upd H p (.dK (mergeK [] kvs)))) := by
  intro P F m h H σ Q vs ds S r fin
  obtain ⟨v, d, rfl, r1, fin⟩ := b1_inv r fin
  unfold opDictP at fin
  cases e : lsqAt h d with
  | none => rw [e] at fin; exact fin.bad_elim
  | some xs =>
    rw [e] at fin
    simp only [Option.bind_some] at fin
    obtain ⟨a, ws, rfl, ha, rl⟩ := lsqAt_ok S r1 e
    cases e2 : pairsK xs with
    | none => rw [e2] at fin; exact fin.bad_elim
    | some ks =>
      rw [e2] at fin
      dsimp only at fin
      by_cases nd : (ks.map (·.1)).Nodup
      · rw [if_pos nd] at fin
        obtain ⟨ps, kvs, rfl, q2, q3⟩ := pairs_den (H := H) S.sub rl e2
        refine ⟨a, ps, kvs, rfl, ha, q2, fun p hp => ?_⟩
        have em : mergeK [] kvs = kvs := merge_apart kvs [] (by rw [q3.keys]; exact nd) (by simp)
        rw [em]
        have x := S.extF (o := .dK kvs) hp
        exact fin.okX x (S.frozen hp) (.dct upd_same (q3.mono x))
      · rw [if_neg nd] at fin
        exact fin.bad_elim
theorem de_dictP {p pos : Pos} {a : Expr} {fa : SE} (hc : X.calm = true) (hx : Gl X "dict") (hm : X.mg "dict" = none) (ha : DE X W a fa) (he : starEach [a] X.env = (false, eval a X.env) :: starEach [] X.env := by rfl) : DE X W (.Call (.Name "dict" p) [a] [] pos) (sCall (b1 opDictP) (sCons fa sNil)) :=
  de_bty (call_dictP hc) bDictP_h hx hm (by decide +kernel) (da_cons ha da_nil he) (he := he)
end
section
variable {PD : D → OH → Prop}
theorem W_dictP {d : D} {ks : List (Key × D)} {h : OH} (e : (lsqAt h d).bind pairsK = some ks) (nd : (ks.map (·.1)).Nodup) : (opDictP d h).W PD = PD (.dct ks) h := by
  unfold opDictP
  rw [e]
  simp [nd]
end
end HR
set_option Elab.async false
set_option linter.all false
set_option maxRecDepth 20000
/-! xs[lo:hi:step] of a list -/
namespace HR
open PySem PySem.Spec PyProof.Rows L2 RZ
def stepIx (n : Nat) (lo hi st : Option Int) : List Nat := sliceRange (sliceBounds lo hi st n).1 (sliceBounds lo hi st n).2.1 (sliceBounds lo hi st n).2.2
def pickA {α : Type} (xs : List α) (ix : List Nat) : List α := ix.filterMap (xs[·]?)
def stepD (xs : List D) (lo hi st : Option Int) : List D := pickA xs (stepIx xs.length lo hi st)
def opCutS (own : Bool) (a : D) (lo hi st : Option Int) (h : OH) : Res D := if st = some 0 then .bad else match lsqAt h a with
  | some xs => if own then .ok (.ref h.length) (h ++ [.lst (stepD xs lo hi st)]) else .ok (.lst (stepD xs lo hi st)) h
  | none => .bad
section
variable {PD : D → OH → Prop}
@[simp] theorem W_cutSL (own : Bool) (xs : List D) (lo hi : Option Int) (k : Int) (h : OH) : (opCutS own (.lst xs) lo hi (some k) h).W PD = if k = 0 then False else if own then PD (.ref h.length) (h ++ [.lst (stepD xs lo hi (some k))]) else PD (.lst (stepD xs lo hi (some k))) h := by
  unfold opCutS
  by_cases k0 : k = 0
  · simp [k0]
  · simp [k0, lsqAt, seqAt]
end
end HR
set_option Elab.async false
set_option linter.all false
set_option maxRecDepth 20000
/-! str(i), int(text), xs.index(x), x in xs for deep values -/
set_option Elab.async false
set_option linter.all false
set_option maxRecDepth 20000
set_option maxHeartbeats 1000000
/-! own dicts whose keys are ints and texts: a comprehension, d[k] = v, d[k] -/
namespace HR
open PySem L2 RZ
def putD (ks : List (Key × D)) (k : Key) (d : D) : List (Key × D) := if (ks.any fun kv => decide (kv.1 = k)) = true then ks.map (fun kv => if kv.1 = k then (kv.1, d) else kv) else ks ++ [(k, d)]
def dctAt (h : OH) : D → Option (List (Key × D))
  | .dct ks => some ks
  | .ref i => (match h[i]? with
    | some (.dct ks) => some ks
    | _ => none)
  | _ => none
def sIxK (o i v : SE) : SS := fun e h => (v e h).toS e fun y h1 => (o e h1).toS e fun x h2 => (i e h2).toS e fun k h3 => match x, keyD k with
  | .ref n, some q => (match h3[n]? with
    | some (.dct ks) => if ks.length < big then .nx e (h3.set n (.dct (putD ks q y))) else .bad
    | _ => .bad)
  | _, _ => .bad
def dcGo (g : TF) (tt : ST) (kx vx : SE) (e : Env') : List D → OH → List (Key × D) → Res (List (Key × D))
  | [], h, acc => .ok acc h
  | d :: ds, h, acc => match g d e h with
    | none => .bad
    | some e1 => (tt e1 h).noX.bind fun b h1 => if b then (kx e1 h1).noX.bind fun y h2 => (vx e1 h2).noX.bind fun z h3 => (match keyD y with
        | some k => if acc.length < big then dcGo g tt kx vx e ds h3 (putD acc k z) else .bad
        | none => .bad) else dcGo g tt kx vx e ds h1 acc
def sDcO (it : SA) (g : TF) (tt : ST) (kx vx : SE) (vs : List Nat) : SE := fun e h => (it e h).bind fun ds h1 => (dcGo g tt kx vx (wipeD e vs) ds h1 []).bind fun acc h2 => .ok (.ref h2.length) (h2 ++ [.dct acc])
def sDctO : SE := fun _ h => .ok (.ref h.length) (h ++ [.dct []])
section
variable {K : PySem.W.Frag} {P : Pins} {F : Hp} {m : List Addr} {h : OH} {H : Hp}
theorem DenK.length {kvs : List (Key × V)} {ks : List (Key × D)} (r : DenK K F m kvs ks) : kvs.length = ks.length := by
  have := congrArg List.length r.keys
  simpa using this
end
section
variable {PD : D → OH → Prop} {N C B : Env' → OH → Prop} {R : D → OH → Prop}
def lkD (o : Option OO) (P : List (Key × D) → Prop) : Prop := match o with
  | some (.dct ks) => P ks
  | _ => False
@[simp] theorem lkD_dct (ks : List (Key × D)) (P : List (Key × D) → Prop) : lkD (some (.dct ks)) P = P ks := rfl
@[simp] theorem SW_ixK (o i v : SE) (e : Env') (h : OH) : (sIxK o i v e h).W N C B R = (v e h).W fun y h1 => (o e h1).W fun x h2 => (i e h2).W fun k h3 => isR x fun n => lkS (keyD k) fun q => lkD h3[n]? fun ks => if ks.length < big then N e (h3.set n (.dct (putD ks q y))) else False := by
  unfold sIxK
  simp only [W_toS]
  congr; funext y h1; congr; funext x h2; congr; funext k h3
  cases x with
  | ref n =>
    simp only [isR_ref]
    cases keyD k with
    | none => rfl
    | some q =>
      simp only [lkS_some]
      cases h3[n]? with
      | none => rfl
      | some ob => cases ob <;> first | rfl | (simp only [lkD_dct]; split <;> rfl)
  | _ => rfl
@[simp] theorem dctAt_dct (h : OH) (ks : List (Key × D)) : dctAt h (.dct ks) = some ks := rfl
@[simp] theorem keyD_int (i : Int) : keyD (.int i) = some (.inl i) := rfl
@[simp] theorem keyD_str (x : Str) : keyD (.str x) = some (.inr x) := rfl
@[simp] theorem W_dctO (e : Env') (h : OH) : (sDctO e h).W PD = PD (.ref h.length) (h ++ [.dct []]) := rfl
@[simp] theorem W_dcO (it : SA) (g : TF) (tt : ST) (kx vx : SE) (vs : List Nat) (e : Env') (h : OH) : (sDcO it g tt kx vx vs e h).W PD = (it e h).W fun ds h1 => (dcGo g tt kx vx (wipeD e vs) ds h1 []).W fun acc h2 => PD (.ref h2.length) (h2 ++ [.dct acc]) := by
  unfold sDcO
  simp only [W_bind, W_ok]
end
end HR
set_option Elab.async false
set_option linter.all false
set_option maxRecDepth 20000
set_option maxHeartbeats 1000000
/-! == of instances whose class has no __eq__ of its own; an except suite of any form -/
namespace HR
open PySem L2 RZ PySem.Spec PyProof.Rows
/-! ### x == y, x an instance, y of the same class or None -/
def eqcOk (K : PySem.W.Frag) (es : List String) : Bool := es.all fun C => decide (PySem.W.mroIn K (He.ga K (Str.ofString C)) (.type "object") = some true) && decide (PySem.W.findIn K (.ref (He.ga K (Str.ofString C))) "__eq__" = some (some (.builtin "object.__eq__")))
/-! ### facts of the head -/
def SaysE (fa : List He.Fa) (fn : List He.DefD) (xs ys es : List String) (K : PySem.W.Frag) : Prop := SaysX fa fn xs ys K ∧ eqcOk K es = true
section
variable {fa : List He.Fa} {fn : List He.DefD} {xs ys es : List String} {K : PySem.W.Frag}
theorem SaysE.fact (c : SaysE fa fn xs ys es K) (i : Nat) {f : He.Fa} (h : fa[i]? = some f := by rfl) : f.ok K = true := c.1.fact i h
theorem SaysE.def_ (c : SaysE fa fn xs ys es K) (i : Nat) {d : He.DefD} (h : fn[i]? = some d := by rfl) : ∃ fd, FunD K d.name d.qual d.params d.body d.scope (d.dvs K) (d.kws K) (He.fAd K d.at_) fd := c.1.def_ i h
end
/-! ### try: .. except X as n: a suite that reads n -/
end HR
set_option Elab.async false
set_option linter.all false
set_option maxRecDepth 20000
set_option maxHeartbeats 1000000
/-! extend of own lists -/
namespace HR
open PySem L2 RZ PySem.Spec PyProof.Rows
section
variable {X : Cx} {W : WX}
def gExtend (i : Nat) (xs ys : List D) (h : OH) : Res D := match ys with
  | [d] => (match lstAt h d with
    | some zs => if xs.length + zs.length ≤ big then .ok .non (h.set i (.lst (xs ++ zs))) else .bad
    | none => .bad)
  | _ => .bad
end
section
variable {PD : D → OH → Prop}
@[simp] theorem W_extend (i : Nat) (xs : List D) (y : D) (h : OH) : (gExtend i xs [y] h).W PD = lkS (lstAt h y) fun zs => if xs.length + zs.length ≤ 1000000 then PD .non (h.set i (.lst (xs ++ zs))) else False := by
  unfold gExtend
  dsimp only
  rcases lstAt h y with _ | zs
  · rfl
  · simp only [lkS_some, big]
    split <;> rfl
end
end HR
set_option Elab.async false
set_option linter.all false
set_option maxRecDepth 20000
set_option maxHeartbeats 1000000
/-! own dicts with text keys: a display, update, two items set at once; remove of texts -/
namespace HR
open PySem L2 RZ PySem.Spec PyProof.Rows
/-! ### a display -/
def sPrs : List (Str × SE) → Env' → OH → Res (List (Key × D))
  | [], _, h => .ok [] h
  | kf :: r, e, h => (kf.2 e h).bind fun d h1 => (sPrs r e h1).bind fun ps h2 => .ok ((.inr kf.1, d) :: ps) h2
def sDispO (fs : List (Str × SE)) : SE := fun e h => (sPrs fs e h).bind fun ps h1 => if (ps.map (·.1)).Nodup ∧ ps.length ≤ 15 then .ok (.ref h1.length) (h1 ++ [.dct ps]) else .bad
section
variable {X : Cx} {W : WX}
/-! ### update -/
def mergeD (ks more : List (Key × D)) : List (Key × D) := more.foldl (fun acc kd => putD acc kd.1 kd.2) ks
def isOwnD (h : OH) : D → Bool
  | .ref i => (match h[i]? with
    | some (.dct _) => true
    | _ => false)
  | _ => false
def sUpd (fo : SE) (fa : SA) : SE := fun e h => (fo e h).bind fun x h1 => if isOwnD h1 x then (fa e h1).bind fun ys h2 => (match x, ys with
  | .ref i, [.ref j] => if i ≠ j then (match h2[i]?, h2[j]? with
    | some (.dct ks), some (.dct more) => if ks.length + more.length ≤ big then .ok .non (h2.set i (.dct (mergeD ks more))) else .bad
    | _, _ => .bad) else .bad
  | _, _ => .bad) else .bad
/-! ### two items set at once -/
def putC (o i : SE) (y : D) (k : SS) : SS := fun e h => (o e h).toS e fun x h2 => (i e h2).toS e fun kk h3 => match x, keyD kk with
  | .ref n, some q => (match h3[n]? with
    | some (.dct ks) => if ks.length < big then k e (h3.set n (.dct (putD ks q y))) else .bad
    | _ => .bad)
  | _, _ => .bad
def sSub2 (o1 i1 o2 i2 v : SE) : SS := fun e h => (v e h).toS e fun y h1 => match y with
  | .tup [y1, y2] => putC o1 i1 y1 (putC o2 i2 y2 fun e h => .nx e h) e h1
  | _ => .bad
/-! ### remove of texts -/
end
section
variable {PD : D → OH → Prop} {N C B : Env' → OH → Prop} {R : D → OH → Prop}
@[simp] theorem W_dispO (fs : List (Str × SE)) (e : Env') (h : OH) : (sDispO fs e h).W PD = (sPrs fs e h).W fun ps h1 => if (ps.map (·.1)).Nodup ∧ ps.length ≤ 15 then PD (.ref h1.length) (h1 ++ [.dct ps]) else False := by
  unfold sDispO
  simp only [W_bind]
  congr; funext ps h1
  split <;> rfl
@[simp] theorem W_prs0 (e : Env') (h : OH) {Q : List (Key × D) → OH → Prop} : (sPrs [] e h).W Q = Q [] h := rfl
@[simp] theorem W_prs (x : Str) (f : SE) (r : List (Str × SE)) (e : Env') (h : OH) {Q : List (Key × D) → OH → Prop} : (sPrs ((x, f) :: r) e h).W Q = (f e h).W fun d h1 => (sPrs r e h1).W fun ps h2 => Q ((.inr x, d) :: ps) h2 := by
  simp only [sPrs, W_bind, W_ok]
@[simp] theorem W_upd (fo : SE) (fa : SA) (e : Env') (h : OH) : (sUpd fo fa e h).W PD = (fo e h).W fun x h1 => if isOwnD h1 x = true then (fa e h1).W fun ys h2 => (match x, ys with
  | .ref i, [.ref j] => if i ≠ j then lkD h2[i]? fun ks => lkD h2[j]? fun more => if ks.length + more.length ≤ 1000000 then PD .non (h2.set i (.dct (mergeD ks more))) else False else False
  | _, _ => False) else False := by
  unfold sUpd
  simp only [W_bind]
  congr; funext x h1
  split
  · simp only [W_bind]
    congr; funext ys h2
    split
    · split
      · rename_i i j _ _
        cases h2[i]? with
        | none => rfl
        | some o1 =>
          cases o1 with
          | dct ks =>
            cases h2[j]? with
            | none => rfl
            | some o2 =>
              cases o2 with
              | dct more =>
                simp only [lkD_dct, big]
                split <;> rfl
              | _ => rfl
          | _ => rfl
      · rfl
    · rfl
  · rfl
@[simp] theorem SW_putC (o i : SE) (y : D) (k : SS) (e : Env') (h : OH) : (putC o i y k e h).W N C B R = (o e h).W fun x h2 => (i e h2).W fun kk h3 => isR x fun n => lkS (keyD kk) fun q => lkD h3[n]? fun ks => if ks.length < 1000000 then (k e (h3.set n (.dct (putD ks q y)))).W N C B R else False := by
  unfold putC
  simp only [W_toS]
  congr; funext x h2; congr; funext kk h3
  cases x with
  | ref n =>
    simp only [isR_ref]
    cases keyD kk with
    | none => rfl
    | some q =>
      simp only [lkS_some]
      cases h3[n]? with
      | none => rfl
      | some ob => cases ob <;> first | rfl | (simp only [lkD_dct, big]; split <;> rfl)
  | _ => rfl
@[simp] theorem SW_sub2 (o1 i1 o2 i2 v : SE) (e : Env') (h : OH) : (sSub2 o1 i1 o2 i2 v e h).W N C B R = (v e h).W fun y h1 => match y with
  | .tup [y1, y2] => (putC o1 i1 y1 (putC o2 i2 y2 fun e h => .nx e h) e h1).W N C B R
  | _ => False := by
  unfold sSub2
  simp only [W_toS]
  congr; funext y h1
  split <;> rfl
end
end HR
set_option Elab.async false
set_option linter.all false
set_option maxRecDepth 20000
set_option maxHeartbeats 1000000
/-! lending, with an answer of new own lists: the answer is read as a frozen tree -/
namespace HR
open PySem L2 RZ
mutual
def ownG (get : Nat → Option (List D)) : D → Option D
  | .non => some .non
  | .bl b => some (.bl b)
  | .int i => some (.int i)
  | .str x => some (.str x)
  | .tup xs => (ownGL get xs).map .tup
  | .ref i => (get i).map .lst
  | .lst _ => none
  | .scr _ => none
  | .dct _ => none
  | .obj _ _ => none
  | .exc _ => none
  | .excf _ _ _ => none
def ownGL (get : Nat → Option (List D)) : List D → Option (List D)
  | [] => some []
  | x :: xs => match ownG get x, ownGL get xs with
    | some d, some ds => some (d :: ds)
    | _, _ => none
end
def ownGet (h : OH) : Nat → Nat → Option (List D)
  | 0, _ => none
  | n + 1, i => match h[i]? with
    | some (.lst xs) => ownGL (ownGet h n) xs
    | _ => none
section
variable {K : PySem.W.Frag} {P : Pins} {F : Hp} {m : List Addr} {h : OH} {H : Hp}
/-- an address that is not lent, and of no own object of the caller, stands in what is given back -/
theorem back_at {F1 F2 : Hp} (x : Same F1 F2) {a : Addr} {u : HO} (e : F2 a = some u) (n : ¬ (a ∈ m ∧ F a = none)) : backF F F2 m a = some u := by
  unfold backF
  rw [if_neg n]
  exact e
theorem own_den {m1 : List Addr} {F1 G : Hp} {get : Nat → Option (List D)} (ht : ∀ a vs, F1 a = some (HO.tup vs) → G a = some (HO.tup vs)) (hg : ∀ i a ds, m1[i]? = some a → get i = some ds → ∃ vs, G a = some (.lst vs) ∧ DenL K G m vs ds) {v : V} {d : D} (r : Den K F1 m1 v d) : ∀ d', ownG get d = some d' → Den K G m v d' :=
  Den.rec (motive_1 := fun v d _ => ∀ d', ownG get d = some d' → Den K G m v d') (motive_2 := fun vs ds _ => ∀ ds', ownGL get ds = some ds' → DenL K G m vs ds') (motive_3 := fun _ _ _ => True) (motive_4 := fun _ _ _ => True)
    (fun d' e => by simp only [ownG, Option.some.injEq] at e; subst e; exact .non) (fun b d' e => by simp only [ownG, Option.some.injEq] at e; subst e; exact .bl b)
    (fun i d' e => by simp only [ownG, Option.some.injEq] at e; subst e; exact .int i) (fun y d' e => by simp only [ownG, Option.some.injEq] at e; subst e; exact .str y)
    (fun q _ ih d' e => by simp only [ownG] at e; cases e)
    (fun q _ ih d' e => by simp only [ownG] at e; cases e)
    (fun q _ ih d' e => by
      simp only [ownG, Option.map_eq_some_iff] at e
      obtain ⟨ps, e1, rfl⟩ := e
      exact .tup (ht _ _ q) (ih ps e1))
    (fun _ _ _ d' e => by simp only [ownG] at e; cases e) (fun _ _ _ _ d' e => by simp only [ownG] at e; cases e)
    (fun {a i} q d' e => by
      simp only [ownG, Option.map_eq_some_iff] at e
      obtain ⟨ps, e1, rfl⟩ := e
      obtain ⟨vs, k1, k2⟩ := hg i a ps q e1
      exact .lst k1 k2)
    (fun _ d' e => by simp only [ownG] at e; cases e) (fun _ _ _ _ d' e => by simp only [ownG] at e; cases e)
    (fun ds' e => by simp only [ownGL, Option.some.injEq] at e; subst e; exact .nil)
    (fun {v d vs ds} _ _ ih1 ih2 ds' e => by
      simp only [ownGL] at e
      cases e1 : ownG get d with
      | none => rw [e1] at e; simp at e
      | some p =>
        cases e2 : ownGL get ds with
        | none => rw [e1, e2] at e; simp at e
        | some qs =>
          rw [e1, e2] at e
          simp only [Option.some.injEq] at e
          subst e
          exact .cons (ih1 p e1) (ih2 qs e2))
    trivial (fun _ _ _ _ => trivial) trivial (fun _ _ _ _ => trivial) r
theorem ownL_den {m1 : List Addr} {F1 G : Hp} {get : Nat → Option (List D)} (ht : ∀ a vs, F1 a = some (HO.tup vs) → G a = some (HO.tup vs)) (hg : ∀ i a ds, m1[i]? = some a → get i = some ds → ∃ vs, G a = some (.lst vs) ∧ DenL K G m vs ds) : ∀ {vs : List V} {ds ds' : List D}, DenL K F1 m1 vs ds → ownGL get ds = some ds' → DenL K G m vs ds'
  | _, _, _, .nil, e => by simp only [ownGL, Option.some.injEq] at e; subst e; exact .nil
  | _, d :: ds, _, .cons a b, e => by
    simp only [ownGL] at e
    cases e1 : ownG get d with
    | none => rw [e1] at e; simp at e
    | some p =>
      cases e2 : ownGL get ds with
      | none => rw [e1, e2] at e; simp at e
      | some qs =>
        rw [e1, e2] at e
        simp only [Option.some.injEq] at e
        subst e
        exact .cons (own_den ht hg a p e1) (ownL_den ht hg b e2)
theorem ownGet_ok {P1 : Pins} {F1 G : Hp} {m1 : List Addr} {h1 : OH} {H1 : Hp} (S1 : Sim K P1 F1 m1 h1 H1) (ht : ∀ a vs, F1 a = some (HO.tup vs) → G a = some (HO.tup vs)) (hl : ∀ (i : Nat) (a : Addr) (vs : List V), m1[i]? = some a → F1 a = none → H1 a = some (HO.lst vs) → (∃ xs, h1[i]? = some (OO.lst xs)) → G a = some (HO.lst vs)) :
    ∀ (n i : Nat) (a : Addr) (ds : List D), m1[i]? = some a → ownGet h1 n i = some ds → ∃ vs, G a = some (.lst vs) ∧ DenL K G m vs ds
  | 0, _, _, _, _, e => by simp [ownGet] at e
  | n + 1, i, a, ds, e1, e => by
    simp only [ownGet] at e
    cases q : h1[i]? with
    | none => rw [q] at e; cases e
    | some o =>
      rw [q] at e
      cases o with
      | lst xs =>
        obtain ⟨vs, k1, k2, k3⟩ := S1.at_ i a _ e1 q
        exact ⟨vs, hl i a vs e1 k3 k1 ⟨xs, q⟩, ownL_den ht (fun j b es q1 q2 => ownGet_ok S1 ht hl n j b es q1 q2) k2 e⟩
      | _ => cases e
/-- a def that reads own lists as frozen trees; its answer, of new own lists, is a frozen tree -/
def lendZ (g : FN) : FN := fun ds h => match snapGL (snapGet h 5) ds with
  | some ds' => (match g ds' [] with
    | .ok d h2 => (match ownG (ownGet h2 5) d with
      | some d' => .ok d' h
      | none => .bad)
    | .exc C none _ => .exc C none h
    | _ => .bad)
  | none => .bad
theorem lendZ_sp {np : Nat} {g : FN} {vs : List V} {Q : VK} {E : XK} (q : spN K np (lendZ g) vs H Q E) : spN K np g vs H Q E := by
  obtain ⟨hl, P, F, m, ds, h, S, r, fin⟩ := q
  unfold lendZ at fin
  cases e1 : snapGL (snapGet h 5) ds with
  | none => rw [e1] at fin; exact fin.elim
  | some ds' =>
    rw [e1] at fin
    dsimp only at fin
    have r' := snapL_den lentF_same (fun j b es q1 q2 => snapGet_ok S 5 j b es q1 q2) r e1
    have S' := S.lend.hide
    refine ⟨hl, _, _, [], ds', [], S', r', ?_⟩
    have pins : ∀ {F1 : Hp} {m1 : List Addr} {h1 : OH} {H1 : Hp}, Sim K (hidP (lentF F m h H) m H ++ P) F1 m1 h1 H1 → ∀ a o, a ∈ m → lentF F m h H a = none → H a = some o → F1 a = none ∧ a ∉ m1 := fun S1 a o ha n e => (S1.pin (a, o) (List.mem_append_left _ (mem_hidP.mpr ⟨ha, n, e⟩))).2
    cases e2 : g ds' [] with
    | bad => rw [e2] at fin; exact fin.elim
    | ok d h2 =>
      rw [e2] at fin
      dsimp only at fin
      cases e3 : ownG (ownGet h2 5) d with
      | none => rw [e3] at fin; exact fin.elim
      | some d' =>
        rw [e3] at fin
        intro v F1 m1 H1 x S1 rv
        have xx : Same (lentF F m h H) (lentF F1 m1 h2 H1) := x.s.trans lentF_same
        have S2 := S.giveBack xx S1.lend
        -- no address of the answer is one of the caller's
        have tupOk : ∀ a ws, F1 a = some (HO.tup ws) → backF F (lentF F1 m1 h2 H1) m a = some (HO.tup ws) := fun a ws e => by
          refine back_at (F1 := F1) lentF_same (lentF_same _ _ e) fun z => ?_
          obtain ⟨o, ho⟩ := S.live a z.1
          cases k : lentF F m h H a with
          | none =>
            have := (pins S1 a o z.1 k ho).1
            rw [e] at this
            cases this
          | some u =>
            have k2 := x.s _ _ k
            rw [e] at k2
            cases k2
            unfold lentF at k
            split at k
            · rename_i ln
              obtain ⟨_, i, xs, q1, q2⟩ := ln
              obtain ⟨ws', w1, _, _⟩ := S.at_ i a _ q1 q2
              rw [k] at w1
              cases w1
            · rw [z.2] at k; cases k
        have lstOk : ∀ (i : Nat) (a : Addr) (ws : List V), m1[i]? = some a → F1 a = none → H1 a = some (HO.lst ws) → (∃ xs, h2[i]? = some (OO.lst xs)) → backF F (lentF F1 m1 h2 H1) m a = some (HO.lst ws) := fun i a ws ei en eh ex => by
          refine back_at (F1 := F1) lentF_same ?_ fun z => ?_
          · unfold lentF
            obtain ⟨xs, ex⟩ := ex
            rw [if_pos ⟨en, i, xs, ei, ex⟩]
            exact eh
          · obtain ⟨o, ho⟩ := S.live a z.1
            cases k : lentF F m h H a with
            | none => exact (pins S1 a o z.1 k ho).2 (List.mem_of_getElem? ei)
            | some u =>
              have k2 := x.s _ _ k
              rw [en] at k2
              cases k2
        refine fin v _ m H1 ⟨backF_same (lentF_same.trans xx), List.prefix_rfl⟩ S2 ?_
        exact own_den tupOk (fun i a es q1 q2 => ownGet_ok S1 tupOk lstOk 5 i a es q1 q2) rv d' e3
    | exc C p h2 =>
      rw [e2] at fin
      cases p with
      | none =>
        dsimp only at fin
        intro od F1 m1 H1 x S1 pd
        have S2 := S.giveBack x.s S1
        exact fin od _ m H1 ⟨backF_same (lentF_same.trans x.s), List.prefix_rfl⟩ S2 pd
      | some q => exact fin.elim
end
theorem FnOk.lendZ {P : Program} {w : World} {K : PySem.W.Frag} {mg : Str → Option Value} {base : Heap} {CX : CXT} {k : Nat} {f : Addr} {fd : FuncData} {ps : List Str} {g : FN} (F : FnOk P w K mg base CX k f fd ps (spN K ps.length g)) : FnOk P w K mg base CX k f fd ps (spN K ps.length (HR.lendZ g)) := L2.FnOk.imp F fun _ _ _ _ h => lendZ_sp h
theorem Def.lendZ {P : Program} {w : World} {K : PySem.W.Frag} {mg : Str → Option Value} {base : Heap} {CX : CXT} {k : Nat} {f : Addr} {ps : List Str} {dvs : List V} {g : FN} (d : Def P w K mg base CX k f ps dvs g) : Def P w K mg base CX k f ps dvs (HR.lendZ g) := let ⟨fd, dus, a, b, c⟩ := d.ex; ⟨⟨fd, dus, FnOk.lendZ a, b, c⟩, d.kp⟩
end HR
set_option Elab.async false
set_option linter.all false
set_option maxRecDepth 100000
set_option maxHeartbeats 1000000
/-! enumerate of a tuple -/
namespace HR
open PySem L2 RZ PySem.Spec PyProof.Rows
open PySem.Sem (wp)
/-- enumerate of a list or a tuple -/
def sEnumX (f : SA) : SA := fun e h => match f e h with
  | .ok [.tup xs] h1 => .ok (enumD xs) h1
  | _ => sEnum f e h
section
variable {PL : List D → OH → Prop}
def enumAtX : D → Option (List D)
  | .tup xs => some (enumD xs)
  | d => (frzAt d).map enumD
@[simp] theorem W_enumX (f : SE) (e : Env') (h : OH) : (sEnumX (sCons f sNil) e h).W PL = (f e h).W fun d h1 => lkS (enumAtX d) fun xs => PL xs h1 := by
  unfold sEnumX
  split
  · rename_i xs h1 q
    cases qf : f e h with
    | bad => simp [sCons, qf] at q
    | exc C p h2 => simp [sCons, qf] at q
    | ok d h2 =>
      simp [sCons, qf, sNil] at q
      obtain ⟨rfl, rfl⟩ := q
      rfl
  · rename_i no
    rw [W_enum]
    cases qf : f e h with
    | bad => rfl
    | exc C p h2 => rfl
    | ok d h2 =>
      simp only [W_ok]
      have e2 : enumAtX d = (frzAt d).map enumD := by
        unfold enumAtX
        split
        · rename_i xs
          exact absurd (by simp [sCons, qf, sNil] : sCons f sNil e h = .ok [.tup xs] h2) (no xs h2)
        · rfl
      rw [e2]
      cases frzAt d <;> rfl
@[simp] theorem enumAtX_t (xs : List D) : enumAtX (.tup xs) = some (enumD xs) := rfl
@[simp] theorem enumAtX_l (xs : List D) : enumAtX (.lst xs) = some (enumD xs) := rfl
end
end HR
set_option Elab.async false
set_option linter.all false
set_option maxRecDepth 20000
set_option maxHeartbeats 1000000
/-! a def that reads no own objects and answers new ones: run on an empty heap -/
namespace HR
open PySem L2 RZ
mutual
def shD (n : Nat) : D → D
  | .non => .non
  | .bl b => .bl b
  | .int i => .int i
  | .str x => .str x
  | .lst xs => .lst (shL n xs)
  | .tup xs => .tup (shL n xs)
  | .dct ks => .dct (shK n ks)
  | .obj C fs => .obj C (shF n fs)
  | .ref i => .ref (n + i)
  | .scr xs => .scr (shL n xs)
  | .exc C => .exc C
  | .excf C f d => .excf C f (shD n d)
def shL (n : Nat) : List D → List D
  | [] => []
  | d :: ds => shD n d :: shL n ds
def shK (n : Nat) : List (Key × D) → List (Key × D)
  | [] => []
  | (k, d) :: ks => (k, shD n d) :: shK n ks
def shF (n : Nat) : List (String × D) → List (String × D)
  | [] => []
  | (f, d) :: fs => (f, shD n d) :: shF n fs
end
def shO (n : Nat) : OO → OO
  | .lst xs => .lst (shL n xs)
  | .ins C fs => .ins C (shF n fs)
  | .dct ks => .dct (shK n ks)
  | .dead => .dead
def aliveO : OO → Bool
  | .dead => false
  | _ => true
section
variable {K : PySem.W.Frag} {F : Hp} {m m1 : List Addr}
theorem shF_names (n : Nat) : ∀ (fs : List (String × D)) (P : String → Prop), (∀ q ∈ fs, P q.1) → ∀ q ∈ shF n fs, P q.1
  | [], _, _, q, hq => by simp [shF] at hq
  | (f, d) :: fs, P, h, q, hq => by
    simp only [shF, List.mem_cons] at hq
    rcases hq with rfl | hq
    · exact h (f, d) List.mem_cons_self
    · exact shF_names n fs P (fun q hq => h q (List.mem_cons_of_mem _ hq)) q hq
theorem ObT.sh {C : String} {fs : List (String × D)} (n : Nat) (t : ObT K C fs) : ObT K C (shF n fs) := ⟨t.1, shF_names n fs (fun x => NoAttr K (He.ga K (Str.ofString C)) (Str.ofString x)) t.2⟩
theorem Den.sh {v : V} {d : D} (r : Den K F m1 v d) : Den K F (m ++ m1) v (shD m.length d) :=
  Den.rec (motive_1 := fun v d _ => Den K F (m ++ m1) v (shD m.length d)) (motive_2 := fun vs ds _ => DenL K F (m ++ m1) vs (shL m.length ds)) (motive_3 := fun vs ds _ => DenK K F (m ++ m1) vs (shK m.length ds)) (motive_4 := fun vs ds _ => DenF K F (m ++ m1) vs (shF m.length ds))
    .non .bl .int .str (fun q _ r => .lst q r) (fun q _ r => .scr q r) (fun q _ r => .tup q r) (fun q _ r => .dct q r) (fun q t _ r => .obj q (t.sh _) r)
    (fun {a i} q => .ref (by rw [List.getElem?_append_right (Nat.le_add_right _ _), Nat.add_sub_cancel_left]; exact q)) (fun q => .exc q) (fun q q2 _ r => .excf q q2 r)
    .nil (fun _ _ a b => .cons a b) .nil (fun _ _ a b => .cons a b) .nil (fun _ _ a b => .cons a b) r
theorem DenL.sh : ∀ {vs : List V} {ds : List D}, DenL K F m1 vs ds → DenL K F (m ++ m1) vs (shL m.length ds)
  | _, _, .nil => .nil
  | _, _, .cons a b => .cons a.sh b.sh
theorem DenK.sh : ∀ {vs : List (Key × V)} {ds : List (Key × D)}, DenK K F m1 vs ds → DenK K F (m ++ m1) vs (shK m.length ds)
  | _, _, .nil => .nil
  | _, _, .cons a b => .cons a.sh b.sh
theorem DenF.sh : ∀ {vs : List (Str × V)} {ds : List (String × D)}, DenF K F m1 vs ds → DenF K F (m ++ m1) vs (shF m.length ds)
  | _, _, .nil => .nil
  | _, _, .cons a b => .cons a.sh b.sh
theorem OOk.sh {H : Hp} {a : Addr} {o : OO} (ok : OOk K F m1 H a o) : OOk K F (m ++ m1) H a (shO m.length o) := by
  cases o with
  | lst xs =>
    obtain ⟨vs, h1, h2, h3⟩ := ok
    exact ⟨vs, h1, h2.sh, h3⟩
  | ins C fs =>
    obtain ⟨dx, fv, h1, h2, h3, h4⟩ := ok
    exact ⟨dx, fv, h1, h2.sh _, h3.sh, h4⟩
  | dct ks =>
    obtain ⟨kv, h1, h2, h3⟩ := ok
    exact ⟨kv, h1, h2.sh, h3⟩
  | dead => trivial
theorem OOk.none_ {H : Hp} {a : Addr} {o : OO} (ok : OOk K F m1 H a o) (al : aliveO o = true) : F a = none := by
  cases o with
  | lst xs => obtain ⟨vs, h1, h2, h3⟩ := ok; exact h3
  | ins C fs => obtain ⟨dx, fv, h1, h2, h3, h4⟩ := ok; exact h4
  | dct ks => obtain ⟨kv, h1, h2, h3⟩ := ok; exact h3
  | dead => cases al
end
section
variable {K : PySem.W.Frag} {P : Pins} {F : Hp} {m : List Addr} {h : OH} {H : Hp}
theorem Sim.join {F' : Hp} {m1 : List Addr} {h1 : OH} {H' : Hp} (S : Sim K P F m h H) (s : Same F F') (S' : Sim K (hidP F m H ++ P) F' m1 h1 H') (al : h1.all aliveO = true) : Sim K P F' (m ++ m1) (h ++ h1.map (shO h.length)) H' := by
  have U := S.unhide s S'
  have dis : ∀ a, a ∈ m → a ∉ m1 := fun a ha hb => by
    cases e : F a with
    | none =>
      obtain ⟨o, q⟩ := S.live a ha
      exact (S'.pin (a, o) (List.mem_append_left _ (mem_hidP.mpr ⟨ha, e, q⟩))).2.2 hb
    | some o =>
      obtain ⟨i, hi, ei⟩ := List.mem_iff_getElem.mp hb
      have e1 : m1[i]? = some a := by rw [List.getElem?_eq_getElem hi, ei]
      have hi2 : i < h1.length := by rw [← S'.len]; exact hi
      have e2 : h1[i]? = some h1[i] := List.getElem?_eq_getElem hi2
      have z := (S'.at_ i a _ e1 e2).none_ (List.all_eq_true.mp al _ (List.getElem_mem hi2))
      rw [s a o e] at z
      cases z
  refine ⟨S'.sub, by simp [S.len, S'.len], List.nodup_append.mpr ⟨S.nd, S'.nd, fun a ha b hb z => dis a ha (z ▸ hb)⟩, fun a ha => ?_, fun i a o e1 e2 => ?_, fun p hp => ?_, S.pnd⟩
  · rcases List.mem_append.mp ha with ha | ha
    · exact U.live a ha
    · exact S'.live a ha
  · by_cases hi : i < m.length
    · rw [List.getElem?_append_left hi] at e1
      rw [List.getElem?_append_left (by rw [← S.len]; exact hi)] at e2
      exact (U.at_ i a o e1 e2).mono ⟨fun _ _ q => q, List.prefix_append _ _⟩ rfl id
    · have hi : m.length ≤ i := Nat.le_of_not_lt hi
      rw [List.getElem?_append_right hi] at e1
      rw [List.getElem?_append_right (by rw [← S.len]; exact hi), List.getElem?_map, Option.map_eq_some_iff] at e2
      obtain ⟨o1, q1, rfl⟩ := e2
      rw [← S.len] at q1 ⊢
      exact (S'.at_ _ a o1 e1 q1).sh
  · obtain ⟨h1, h2, h3⟩ := S'.pin p (List.mem_append_right _ hp)
    refine ⟨h1, h2, fun z => ?_⟩
    rcases List.mem_append.mp z with z | z
    · exact (S.pin p hp).2.2 z
    · exact h3 z
def freshF (f : FN) : FN := fun ds h => if D.pureL ds then (match f ds [] with
  | .ok d h1 => if h1.all aliveO then .ok (shD h.length d) (h ++ h1.map (shO h.length)) else .bad
  | .exc C none _ => .exc C none h
  | .exc C (some q) _ => if q.2.pure then .exc C (some q) h else .bad
  | .bad => .bad) else .bad
theorem fresh_sp {np : Nat} {f : FN} {vs : List V} {Q : VK} {E : XK} (q : spN K np (freshF f) vs H Q E) : spN K np f vs H Q E := by
  obtain ⟨hl, P, F, m, ds, h, S, r, fin⟩ := q
  unfold freshF at fin
  by_cases hp : D.pureL ds = true
  · rw [if_pos hp] at fin
    refine ⟨hl, _, F, [], ds, [], S.hide, r.pureM hp, ?_⟩
    cases q : f ds [] with
    | ok d h' =>
      rw [q] at fin
      dsimp only at fin
      by_cases hd : h'.all aliveO = true
      · rw [if_pos hd] at fin
        intro v F' m' H' x S' rv
        have rv' := rv.sh (m := m)
        rw [S.len] at rv'
        exact fin v F' (m ++ m') H' ⟨x.s, List.prefix_append _ _⟩ (S.join x.s S' hd) rv'
      · rw [if_neg hd] at fin
        exact fin.elim
    | exc C p h' =>
      rw [q] at fin
      cases p with
      | none =>
        intro od F' m' H' x S' pd
        exact fin od F' m H' ⟨x.s, List.prefix_rfl⟩ (S.unhide x.s S') pd
      | some z =>
        dsimp only at fin
        by_cases hd : z.2.pure = true
        · rw [if_pos hd] at fin
          intro od F' m' H' x S' pd
          obtain ⟨a, v, e1, e2, e3⟩ := pd
          exact fin od F' m H' ⟨x.s, List.prefix_rfl⟩ (S.unhide x.s S') ⟨a, v, e1, e2, e3.pureM hd⟩
        · rw [if_neg hd] at fin
          exact fin.elim
    | bad => rw [q] at fin; exact fin
  · rw [if_neg hp] at fin
    exact fin.elim
end
theorem FnOk.fresh {P : Program} {w : World} {K : PySem.W.Frag} {mg : Str → Option Value} {base : Heap} {CX : CXT} {k : Nat} {f : Addr} {fd : FuncData} {ps : List Str} {g : FN} (F : FnOk P w K mg base CX k f fd ps (spN K ps.length g)) : FnOk P w K mg base CX k f fd ps (spN K ps.length (freshF g)) := L2.FnOk.imp F fun _ _ _ _ h => fresh_sp h
theorem Def.fresh {P : Program} {w : World} {K : PySem.W.Frag} {mg : Str → Option Value} {base : Heap} {CX : CXT} {k : Nat} {f : Addr} {ps : List Str} {dvs : List V} {g : FN} (d : Def P w K mg base CX k f ps dvs g) : Def P w K mg base CX k f ps dvs (freshF g) := let ⟨fd, dus, a, b, c⟩ := d.ex; ⟨⟨fd, dus, FnOk.fresh a, b, c⟩, d.kp⟩
end HR
set_option Elab.async false
set_option linter.all false
set_option maxRecDepth 100000
set_option maxHeartbeats 2000000
/-! while an exception is handled: the ends of walks, tuples taken apart, comprehensions over own lists, a def called in an except suite -/
set_option Elab.async false
set_option linter.all false
set_option maxRecDepth 100000
set_option maxHeartbeats 2000000
set_option Elab.async false
set_option linter.all false
set_option maxRecDepth 100000
set_option maxHeartbeats 2000000
namespace HR
open PySem L2 RZ PySem.Spec PyProof.Rows HotX
/-! ### defs called while an exception is handled -/
structure FnHot (P : Program) (w : World) (K : PySem.W.Frag) (mg : Str → Option Value) (base : Heap) (k : Nat) (f : Addr) (fd : FuncData) (ps : List Str) (sp : Sp) : Prop where
  len : ∀ vs H Q E, sp vs H Q E → vs.length = ps.length
  run : ∀ (A : Around) (outer : List Env) (s : Shared) (H : Hp) (args : Args) (us : List Value) (vs : List V) (Q : VK) (E : XK) (a : Addr) (ob : Obj) (u : HO) (ws : Array Value), L2H.RoomH k A → A.handled = some (.ref a) → H a = some (.frz ob u) → ob.data = .fields ws → ws[2]? = some .none →
    Env0 P w K mg base A outer s H → BindsTo s fd args (ps.zip us) → Vals vs us → sp vs H Q E → codeAny (model P w) A (.call (.ref f) args) (CR CX0 outer P w H s Q E) s
structure DefHot (P : Program) (w : World) (K : PySem.W.Frag) (mg : Str → Option Value) (base : Heap) (k : Nat) (f : Addr) (ps : List Str) (g : FN) : Prop where
  ex : ∃ fd, FnHot P w K mg base k f fd ps (spN K ps.length g) ∧ Binds K fd ps []
  kp : PySem.W.keepIn K (.ref f) = true
/-! ### try: body, except X as n: m = f(n) -/
/-! ### raise, where the context is known to be None -/
section
variable {P : Program} {w : World} {K : PySem.W.Frag} {mg : Str → Option Value} {base : Heap} {k j : Nat} {f : Addr} {fd : FuncData} {ps : List Str} {g : FN}
theorem FnHot.mono {sp : Sp} (F : FnHot P w K mg base j f fd ps sp) (h : j ≤ k) : FnHot P w K mg base k f fd ps sp := ⟨F.len, fun A out s H args us vs Q E a ob u ws hr => F.run A out s H args us vs Q E a ob u ws (hr.mono h)⟩
theorem DefHot.up (d : DefHot P w K mg base j f ps g) (h : j ≤ k) : DefHot P w K mg base k f ps g := let ⟨fd, a, b⟩ := d.ex; ⟨⟨fd, a.mono h, b⟩, d.kp⟩
end
end HR
set_option Elab.async false
set_option linter.all false
set_option maxRecDepth 20000
set_option exponentiation.threshold 5000
set_option Elab.async false
set_option linter.all false
set_option maxRecDepth 20000
set_option exponentiation.threshold 5000
namespace HR
open PySem PySem.Spec PyProof.Rows L2
/-! ### sorted(ints); list(range(a, b)) -/
def insI (x : Int) : List Int → List Int
  | [] => [x]
  | y :: ys => if x ≤ y then x :: y :: ys else y :: insI x ys
def sortI : List Int → List Int
  | [] => []
  | x :: xs => insI x (sortI xs)
theorem le_uniq : ∀ {a b : List Int}, a.Perm b → a.Pairwise (· ≤ ·) → b.Pairwise (· ≤ ·) → a = b
  | [], b, p, _, _ => (List.nil_perm.mp p).symm
  | x :: a, [], p, _, _ => absurd p.length_eq (by simp)
  | x :: a, y :: b, p, ha, hb => by
    obtain ⟨a1, a2⟩ := List.pairwise_cons.mp ha
    obtain ⟨b1, b2⟩ := List.pairwise_cons.mp hb
    have e : x = y := by
      have h1 : x ∈ y :: b := p.mem_iff.mp List.mem_cons_self
      have h2 : y ∈ x :: a := p.mem_iff.mpr List.mem_cons_self
      rcases List.mem_cons.mp h1 with h1 | h1
      · exact h1
      · rcases List.mem_cons.mp h2 with h2 | h2
        · exact h2.symm
        · have := a1 y h2
          have := b1 x h1
          omega
    subst e
    rw [le_uniq p.cons_inv a2 b2]
def opSortI : D → OH → Res D := fun d h => match (lsqAt h d).bind intsOf with
  | some ns => .ok (.lst ((sortI ns).map .int)) h
  | none => .bad
section
variable {X : Cx} {W : WX}
/-- list(range(a, b)) -/
def sLstRg (fa fb : SE) : SE := fun e h => (fa e h).bind fun x h1 => (fb e h1).bind fun y h2 => match x, y with
  | .int i, .int j => if 0 ≤ i ∧ i ≤ 1000000 ∧ 0 ≤ j ∧ j ≤ 1000000 then .ok (.lst ((List.range (j - i).toNat).map fun k => .int (i + (k : Nat)))) h2 else .bad
  | _, _ => .bad
end
section
variable {PD : D → OH → Prop}
@[simp] theorem W_sortI (d : D) (h : OH) : (opSortI d h).W PD = match (lsqAt h d).bind intsOf with
  | some ns => PD (.lst ((sortI ns).map .int)) h
  | none => False := by
  unfold opSortI
  cases (lsqAt h d).bind intsOf <;> rfl
end
end HR
set_option Elab.async false
set_option linter.all false
set_option maxRecDepth 100000
namespace HR
open PySem
/-! ### list(zip(a, b)), two lists: on the heap -/
section
variable {prog : Program} {w : World} {A : Around}
/-- the pairs that lie in the list -/
def ZipAcc (z TO i1 i2 S B : Addr) (xs ys : Array Value) (acc : Array Value) (i : Nat) (h : Heap) : Prop :=
  acc.size = i ∧ ∀ (j : Nat) (v : Value), acc[j]? = some v → ∃ (T : Addr) (x y : Value), v = Value.ref T ∧ xs[j]? = some x ∧ ys[j]? = some y ∧ IsPair h T x y ∧ B ≤ T ∧ T ≠ z ∧ T ≠ TO ∧ T ≠ i1 ∧ T ≠ i2 ∧ T ≠ S ∧ ∀ k : Nat, acc[k]? = some v → k = j
variable {z TI TO i1 i2 l1 l2 S B : Addr} {xs ys : Array Value}
theorem ZipAcc.at {i : Nat} {acc : Array Value} {h h' : Heap} (q : ZipAcc z TO i1 i2 S B xs ys acc i h) (hk : ∀ b o, b ≠ z → b ≠ TO → b ≠ i1 → b ≠ i2 → b ≠ S → h.get? b = some o → h'.get? b = some o) : ZipAcc z TO i1 i2 S B xs ys acc i h' :=
  ⟨q.1, fun j v e => by
    obtain ⟨T, x, y, a1, a2, a3, a4, a5, a6, a7, a8, a9, a10, a11⟩ := q.2 j v e
    exact ⟨T, x, y, a1, a2, a3, hk _ _ a6 a7 a8 a9 a10 a4, a5, a6, a7, a8, a9, a10, a11⟩⟩
theorem ZipAcc.push {i : Nat} {acc : Array Value} {h : Heap} {T : Addr} {x y : Value} (q : ZipAcc z TO i1 i2 S B xs ys acc i h) (hx : xs[i]? = some x) (hy : ys[i]? = some y) (hp : IsPair h T x y) (hB : B ≤ T) (hT : T ≠ z ∧ T ≠ TO ∧ T ≠ i1 ∧ T ≠ i2 ∧ T ≠ S) (hn : ∀ k : Nat, acc[k]? ≠ some (Value.ref T)) : ZipAcc z TO i1 i2 S B xs ys (acc.push (.ref T)) (i + 1) h := by
  obtain ⟨q1, q2⟩ := q
  refine ⟨by rw [Array.size_push, q1], fun j v e => ?_⟩
  rw [Array.getElem?_push] at e
  split at e
  · rename_i ej
    cases e
    rw [q1] at ej
    subst ej
    refine ⟨T, x, y, rfl, hx, hy, hp, hB, hT.1, hT.2.1, hT.2.2.1, hT.2.2.2.1, hT.2.2.2.2, fun k ek => ?_⟩
    rw [Array.getElem?_push] at ek
    split at ek
    · rename_i e2
      rw [e2, q1]
    · exact absurd ek (hn k)
  · obtain ⟨T2, x2, y2, a1, a2, a3, a4, a5, a6, a7, a8, a9, a10, a11⟩ := q2 j v e
    refine ⟨T2, x2, y2, a1, a2, a3, a4, a5, a6, a7, a8, a9, a10, fun k ek => ?_⟩
    rw [Array.getElem?_push] at ek
    split at ek
    · cases ek
      exact absurd e (hn j)
    · exact a11 k ek
end
end HR
set_option Elab.async false
set_option linter.all false
set_option maxRecDepth 20000
set_option exponentiation.threshold 5000
set_option Elab.async false
set_option linter.all false
set_option maxRecDepth 20000
set_option exponentiation.threshold 5000
namespace HR
open PySem PySem.Spec PyProof.Rows L2
/-! ### list(zip(a, b)), as a value -/
def sLstZip (fa fb : SE) : SE := fun e h => (fa e h).bind fun x h1 => (fb e h1).bind fun y h2 => match lsqAt h2 x, lsqAt h2 y with
  | some xs, some ys => .ok (.lst ((xs.zip ys).map fun p => .tup [p.1, p.2])) h2
  | _, _ => .bad
section
variable {PD : D → OH → Prop}
@[simp] theorem W_lstZip (fa fb : SE) (e : Env') (h : OH) : (sLstZip fa fb e h).W PD = (fa e h).W fun x h1 => (fb e h1).W fun y h2 => match lsqAt h2 x, lsqAt h2 y with
  | some xs, some ys => PD (.lst ((xs.zip ys).map fun p => .tup [p.1, p.2])) h2
  | _, _ => False := by
  unfold sLstZip; rw [W_bind]; congr; funext d h1
  rw [W_bind]; congr; funext d2 h2
  cases lsqAt h2 d with
  | none => rfl
  | some xs => cases lsqAt h2 d2 <;> rfl
@[simp] theorem W_lstRg (fa fb : SE) (e : Env') (h : OH) : (sLstRg fa fb e h).W PD = (fa e h).W fun x h1 => (fb e h1).W fun y h2 => match x, y with
  | .int i, .int j => if 0 ≤ i ∧ i ≤ 1000000 ∧ 0 ≤ j ∧ j ≤ 1000000 then PD (.lst ((List.range (j - i).toNat).map fun k => .int (i + (k : Nat)))) h2 else False
  | _, _ => False := by
  unfold sLstRg; rw [W_bind]; congr; funext d h1
  rw [W_bind]; congr; funext d2 h2
  cases d <;> cases d2 <;> first | rfl | (dsimp only; split <;> rfl)
end
end HR
set_option Elab.async false
set_option linter.all false
set_option maxRecDepth 20000
set_option exponentiation.threshold 5000
set_option Elab.async false
set_option linter.all false
set_option maxRecDepth 20000
set_option exponentiation.threshold 5000
namespace HR
open PySem PySem.Spec PyProof.Rows L2
/-! ### sorted(triples of small ints) -/
abbrev T3 := Int × Int × Int
def B6 : Int := 1000000
def ns3 (p : T3) : List Int := [p.1, p.2.1, p.2.2]
def cd3 (p : T3) : Int := TS.code B6 (ns3 p)
def ok3 (p : T3) : Bool := decide (0 ≤ p.1 ∧ p.1 < B6 ∧ 0 ≤ p.2.1 ∧ p.2.1 < B6 ∧ 0 ≤ p.2.2 ∧ p.2.2 < B6)
def d3 (p : T3) : D := .tup [.int p.1, .int p.2.1, .int p.2.2]
def ins3 (x : T3) : List T3 → List T3
  | [] => [x]
  | y :: ys => if cd3 x ≤ cd3 y then x :: y :: ys else y :: ins3 x ys
def sort3 : List T3 → List T3
  | [] => []
  | x :: xs => ins3 x (sort3 xs)
theorem ins3_perm (x : T3) : ∀ l : List T3, (ins3 x l).Perm (x :: l)
  | [] => List.Perm.refl _
  | y :: ys => by
    unfold ins3
    split
    · exact List.Perm.refl _
    · exact (List.Perm.cons y (ins3_perm x ys)).trans (List.Perm.swap x y ys)
theorem sort3_perm : ∀ l : List T3, (sort3 l).Perm l
  | [] => List.Perm.refl _
  | x :: xs => (ins3_perm x (sort3 xs)).trans (List.Perm.cons x (sort3_perm xs))
theorem ins3_le (x : T3) : ∀ l : List T3, l.Pairwise (fun a b => cd3 a ≤ cd3 b) → (ins3 x l).Pairwise (fun a b => cd3 a ≤ cd3 b)
  | [], _ => List.pairwise_singleton _ _
  | y :: ys, h => by
    obtain ⟨h1, h2⟩ := List.pairwise_cons.mp h
    unfold ins3
    split
    · rename_i hxy
      refine List.pairwise_cons.mpr ⟨fun z hz => ?_, h⟩
      rcases List.mem_cons.mp hz with rfl | hz
      · exact hxy
      · exact Int.le_trans hxy (h1 z hz)
    · rename_i hxy
      refine List.pairwise_cons.mpr ⟨fun z hz => ?_, ins3_le x ys h2⟩
      rcases List.mem_cons.mp ((ins3_perm x ys).mem_iff.mp hz) with rfl | hz
      · omega
      · exact h1 z hz
theorem sort3_le : ∀ l : List T3, (sort3 l).Pairwise (fun a b => cd3 a ≤ cd3 b)
  | [] => List.Pairwise.nil
  | x :: xs => ins3_le x _ (sort3_le xs)
theorem cd3_eq (p : T3) : cd3 p = p.1 * 1000000000000 + (p.2.1 * 1000000 + p.2.2) := by
  show p.1 * B6 ^ 2 + (p.2.1 * B6 ^ 1 + (p.2.2 * B6 ^ 0 + 0)) = _
  have e2 : B6 ^ 2 = 1000000000000 := by decide
  have e1 : B6 ^ 1 = 1000000 := by decide
  have e0 : B6 ^ 0 = 1 := by decide
  rw [e2, e1, e0]
  omega
theorem cd3_inj {p q : T3} (hp : ok3 p = true) (hq : ok3 q = true) (e : cd3 p = cd3 q) : p = q := by
  obtain ⟨a, b, c⟩ := p
  obtain ⟨a', b', c'⟩ := q
  rw [cd3_eq, cd3_eq] at e
  have hp := of_decide_eq_true hp
  have hq := of_decide_eq_true hq
  simp only [B6] at hp hq
  dsimp only at hp hq e
  have h1 : a = a' := by omega
  have h2 : b = b' := by omega
  have h3 : c = c' := by omega
  rw [h1, h2, h3]
theorem map_inj3 : ∀ {l l' : List T3}, (∀ p ∈ l, ok3 p = true) → (∀ p ∈ l', ok3 p = true) → l.map cd3 = l'.map cd3 → l = l'
  | [], [], _, _, _ => rfl
  | [], _ :: _, _, _, e => by cases e
  | _ :: _, [], _, _, e => by cases e
  | p :: l, q :: l', h1, h2, e => by
    simp only [List.map_cons, List.cons.injEq] at e
    rw [cd3_inj (h1 p List.mem_cons_self) (h2 q List.mem_cons_self) e.1, map_inj3 (fun x hx => h1 x (List.mem_cons_of_mem _ hx)) (fun x hx => h2 x (List.mem_cons_of_mem _ hx)) e.2]
theorem sort3_uniq {l l' : List T3} (h : ∀ p ∈ l, ok3 p = true) (pm : l'.Perm l) (le : l'.Pairwise (fun a b => cd3 a ≤ cd3 b)) : l' = sort3 l := by
  refine map_inj3 (fun p hp => h p (pm.mem_iff.mp hp)) (fun p hp => h p ((sort3_perm l).mem_iff.mp hp)) ?_
  refine le_uniq ((pm.trans (sort3_perm l).symm).map cd3) ?_ ?_
  · exact List.Pairwise.map _ (fun _ _ h => h) le
  · exact List.Pairwise.map _ (fun _ _ h => h) (sort3_le l)
def tripOf : D → Option T3
  | .tup [.int a, .int b, .int c] => some (a, b, c)
  | _ => none
def tripsOf : List D → Option (List T3)
  | [] => some []
  | x :: xs => match tripOf x, tripsOf xs with
    | some p, some ps => some (p :: ps)
    | _, _ => none
theorem tripOf_eq {d : D} {p : T3} (e : tripOf d = some p) : d = d3 p := by
  unfold tripOf at e
  split at e
  · cases e; rfl
  · cases e
theorem tripsOf_eq : ∀ {ds : List D} {ps : List T3}, tripsOf ds = some ps → ds = ps.map d3
  | [], ps, e => by cases e; rfl
  | x :: xs, ps, e => by
    unfold tripsOf at e
    cases e1 : tripOf x with
    | none => rw [e1] at e; cases e
    | some p =>
      cases e2 : tripsOf xs with
      | none => rw [e1, e2] at e; cases e
      | some qs =>
        rw [e1, e2] at e
        cases e
        rw [tripOf_eq e1, tripsOf_eq e2]
        rfl
@[simp] theorem tripsOf_map (ps : List T3) : tripsOf (ps.map d3) = some ps := by
  induction ps with
  | nil => rfl
  | cons p ps ih => simp only [List.map_cons, tripsOf, ih]; rfl
def opSort3 : D → OH → Res D := fun d h => match (lsqAt h d).bind tripsOf with
  | some ts => if ts.all ok3 = true ∧ ts.length < 64 then .ok (.lst ((sort3 ts).map d3)) h else .bad
  | none => .bad
section
variable {K : PySem.W.Frag} {F : Hp} {m : List Addr}
theorem denL_perm {vs ys : List V} (pm : ys.Perm vs) : ∀ {ts : List T3}, DenL K F m vs (ts.map d3) → ∃ ts' : List T3, ts'.Perm ts ∧ DenL K F m ys (ts'.map d3) := by
  induction pm with
  | nil =>
    intro ts r
    cases ts with
    | nil => exact ⟨[], List.Perm.refl _, .nil⟩
    | cons t ts => cases r
  | cons x p ih =>
    intro ts r
    cases ts with
    | nil => cases r
    | cons t ts =>
      cases r with
      | cons h r =>
        obtain ⟨ts', a, b⟩ := ih r
        exact ⟨t :: ts', a.cons t, .cons h b⟩
  | swap x y l =>
    intro ts r
    match ts, r with
    | [], r => cases r
    | [_], .cons _ r => cases r
    | a :: b :: ts, .cons h1 (.cons h2 r) => exact ⟨b :: a :: ts, List.Perm.swap a b ts, .cons h2 (.cons h1 r)⟩
  | trans p q ih1 ih2 =>
    intro ts r
    obtain ⟨ts1, a1, b1⟩ := ih2 r
    obtain ⟨ts2, a2, b2⟩ := ih1 b1
    exact ⟨ts2, a2.trans a1, b2⟩
theorem den_tup3 {H : Hp} (s : Same F H) {v : V} {p : T3} (r : Den K F m v (d3 p)) : TupI K H v (ns3 p) := by
  unfold d3 at r
  cases r with
  | tup q r =>
    cases r with
    | cons h1 r =>
      cases r with
      | cons h2 r =>
        cases r with
        | cons h3 r =>
          cases r
          cases h1
          cases h2
          cases h3
          exact ⟨_, rfl, .inl (.inl (s _ _ q))⟩
theorem pair3 {H : Hp} (s : Same F H) : ∀ {ys : List V} {ts : List T3}, DenL K F m ys (ts.map d3) → ys.Pairwise (fun x y => ∀ n m, TupI K H x n → TupI K H y m → TS.code B6 n ≤ TS.code B6 m) → ts.Pairwise (fun a b => cd3 a ≤ cd3 b)
  | _, [], _, _ => List.Pairwise.nil
  | _, t :: ts, r, h => by
    cases r with
    | cons r1 r =>
      obtain ⟨h1, h2⟩ := List.pairwise_cons.mp h
      refine List.pairwise_cons.mpr ⟨fun u hu => ?_, pair3 s r h2⟩
      obtain ⟨i, hi, e⟩ := List.mem_iff_getElem.mp hu
      have eg : (ts.map d3)[i]? = some (d3 u) := by simp [hi, e]
      obtain ⟨v, ev, rv⟩ := r.get eg
      exact h1 v (List.mem_of_getElem? ev) _ _ (den_tup3 s r1) (den_tup3 s rv)
end
section
variable {X : Cx} {W : WX}
theorem bSort3_h : ClH X.K W (b1 opSort3) (rSortU X.K 3 B6) := by
  intro P F m h H σ Q vs ds S r fin
  obtain ⟨v, d, rfl, r1, fin⟩ := b1_inv r fin
  unfold opSort3 at fin
  cases q1 : lsqAt h d with
  | none => rw [q1] at fin; exact fin.bad_elim
  | some xs =>
    rw [q1] at fin
    simp only [Option.bind_some] at fin
    cases q2 : tripsOf xs with
    | none => rw [q2] at fin; exact fin.bad_elim
    | some ts =>
      rw [q2] at fin
      dsimp only at fin
      by_cases c : ts.all ok3 = true ∧ ts.length < 64
      · rw [if_pos c] at fin
        obtain ⟨b, ws, rfl, hb, rl⟩ := lsqAt_ok S r1 q1
        have ex := tripsOf_eq q2
        subst ex
        have hok : ∀ p ∈ ts, ok3 p = true := List.all_eq_true.mp c.1
        have hlen := rl.length
        rw [List.length_map] at hlen
        refine ⟨b, ws, rfl, hb, by omega, fun x hx => ?_, fun ys p pm pw hp => ?_⟩
        · obtain ⟨i, hi, e⟩ := List.mem_iff_getElem.mp hx
          have eg : ws[i]? = some x := by simp [hi, e]
          obtain ⟨d, ed, rd⟩ := rl.getV eg
          rw [List.getElem?_map, Option.map_eq_some_iff] at ed
          obtain ⟨t, et, rfl⟩ := ed
          refine ⟨ns3 t, den_tup3 S.sub rd, rfl, fun n hn => ?_⟩
          have o := hok t (List.mem_of_getElem? et)
          simp only [ok3, decide_eq_true_eq] at o
          simp only [ns3, List.mem_cons, List.not_mem_nil, or_false] at hn
          rcases hn with rfl | rfl | rfl <;> omega
        · obtain ⟨ts', a, r⟩ := denL_perm pm rl
          have := sort3_uniq hok a (pair3 S.sub r pw)
          subst this
          exact FinG.newL fin S r hp
      · rw [if_neg c] at fin
        exact fin.bad_elim
theorem de_sort3 {p pos : Pos} {a : Expr} {fa : SE} (hx : Gl X "sorted") (hm : X.mg "sorted" = none) (ha : DE X W a fa) (he : starEach [a] X.env = (false, eval a X.env) :: starEach [] X.env := by rfl) : DE X W (.Call (.Name "sorted" p) [a] [] pos) (sCall (b1 opSort3) (sCons fa sNil)) :=
  de_blt (cr_sortT (by decide)) bSort3_h hx hm (by decide +kernel) (da_cons ha da_nil he) (he := he)
end
section
variable {PD : D → OH → Prop}
@[simp] theorem W_sort3 (d : D) (h : OH) : (opSort3 d h).W PD = match (lsqAt h d).bind tripsOf with
  | some ts => if ts.all ok3 = true ∧ ts.length < 64 then PD (.lst ((sort3 ts).map d3)) h else False
  | none => False := by
  unfold opSort3
  cases (lsqAt h d).bind tripsOf with
  | none => rfl
  | some ts => dsimp only; split <;> rfl
end
end HR
set_option Elab.async false
set_option linter.all false
set_option maxRecDepth 20000
set_option exponentiation.threshold 5000
namespace HR
open PySem PySem.Spec PyProof.Rows L2
/-! ### a[i], b[j] = x, y for own lists -/
section
variable {X : Cx} {W : WX}
def putL (o i : SE) (y : D) (k : SS) : SS := fun e h => (o e h).toS e fun x h2 => (i e h2).toS e fun kk h3 => match x, kk with
  | .ref n, .int j => (match h3[n]? with
    | some (.lst xs) => (match ixN xs.length j with
      | some q => k e (h3.set n (.lst (xs.set q y)))
      | none => .bad)
    | _ => .bad)
  | _, _ => .bad
def sSubL (o1 i1 o2 i2 v : SE) : SS := fun e h => (v e h).toS e fun y h1 => match y with
  | .tup [y1, y2] => putL o1 i1 y1 (putL o2 i2 y2 fun e h => .nx e h) e h1
  | _ => .bad
theorem putL_rd {fo fi : SE} {Dn : Ends} {P : Pins} {F : Hp} {m : List Addr} {h : OH} {σ : L2.St} {H : Hp} {e : Env'} {v : V} {y : D} {k : SS} {R : L2.St → Hp → Prop} (S : Sim X.K P F m h H) (E : EnvR X.K F m σ e) (ry : Den X.K F m v y) (fin : FinS X.K P W Dn F m (putL fo fi y k e h))
    (next : ∀ F' m' h' H', Ext F m F' m' → Sim X.K P F' m' h' H' → EnvR X.K F' m' σ e → FinS X.K P W Dn F' m' (k e h') → R σ H') : gSub (rdG X.K W (Den X.K) fo) (rdG X.K W (Den X.K) fi) rSetL v σ H R := by
  refine st_seq S E fin fun F2 m2 h2 H2 x dx x2 S2 E2 rx fin2 => ?_
  refine st_seq S2 E2 fin2 fun F3 m3 h3 H3 z dz x3 S3 E3 rz fin3 => ?_
  cases rx with
  | @ref b n e1 =>
    cases rz with
    | int j =>
      have e2 := pre_get x3.p e1
      obtain ⟨ob, k1, k2⟩ := S3.own e2
      dsimp only at fin3
      rw [k1] at fin3
      cases ob with
      | lst xs =>
        dsimp only at fin3
        obtain ⟨vs, k3, k4, k5⟩ := k2
        cases q : ixN xs.length j with
        | none => rw [q] at fin3; exact fin3.elim
        | some t =>
          rw [q] at fin3
          exact ⟨b, vs, j, t, rfl, rfl, k3, by rw [k4.length]; exact q, next F3 m3 (h3.set n (.lst (xs.set t y))) _ (x2.trans x3) (S3.write e2 k1 k5 ⟨_, upd_same, k4.set (ry.mono (x2.trans x3)) t, k5⟩) E3 fin3⟩
      | _ => exact fin3.elim
    | _ => exact fin3.elim
  | _ => cases dz <;> exact fin3.elim
theorem ds_subL {o1 i1 o2 i2 a : Expr} {f1 g1 f2 g2 fa : SE} {p1 p2 pt pos : Pos} {kt : Nat} (h1 : DE X W o1 f1) (k1 : DE X W i1 g1) (h2 : DE X W o2 f2) (k2 : DE X W i2 g2) (ha : DE X W a fa)
    (hg : PG X (.Tuple [.Subscript o1 i1 p1, .Subscript o2 i2 p2] kt pt) (gTup X.K 2 (gCons (gSub (rdG X.K W (Den X.K) f1) (rdG X.K W (Den X.K) g1) rSetL) (gCons (gSub (rdG X.K W (Den X.K) f2) (rdG X.K W (Den X.K) g2) rSetL) gNil))))
    (hs : swapsWithSole [.Tuple [.Subscript o1 i1 p1, .Subscript o2 i2 p2] kt pt] a pos.line X.env = pure false := by rfl)
    (hw : swappedStores [.Tuple [.Subscript o1 i1 p1, .Subscript o2 i2 p2] kt pt] a X.env = pure none := by rfl)
    (h0 : (assignEach [.Tuple [.Subscript o1 i1 p1, .Subscript o2 i2 p2] kt pt] X.env).map (·.2) = [assign (.Tuple [.Subscript o1 i1 p1, .Subscript o2 i2 p2] kt pt) X.env] := by rfl) :
    DS X W (.Assign [.Tuple [.Subscript o1 i1 p1, .Subscript o2 i2 p2] kt pt] a pos) (sSubL f1 g1 f2 g2 fa) := PS.of (ps_asg ha hg hs hw h0) fun Dn σ H => by
  rintro ⟨P, F, m, e, h, S, E, fin⟩
  refine st_seq S E fin fun F1 m1 h1 H1 v d x S1 E1 r fin1 => ?_
  cases r with
  | @tup b ws ds q r =>
    match ds, r, fin1 with
    | [y1, y2], r, fin1 =>
      obtain ⟨v1, v2, rfl, r1, r2⟩ := denL2 r
      refine ⟨b, [v1, v2], rfl, .inl (.inl (S1.sub _ _ q)), rfl, v1, [v2], rfl, ?_⟩
      refine putL_rd S1 E1 r1 fin1 fun F2 m2 h2 H2 x2 S2 E2 fin2 => ?_
      refine ⟨v2, [], rfl, ?_⟩
      refine putL_rd S2 E2 (r2.mono x2) fin2 fun F3 m3 h3 H3 x3 S3 E3 fin3 => ?_
      exact ⟨rfl, fin3 σ F3 m3 H3 .refl S3 E3⟩
    | [], _, fin1 => exact fin1.elim
    | [_], _, fin1 => exact fin1.elim
    | _ :: _ :: _ :: _, _, fin1 => exact fin1.elim
  | _ => exact fin1.elim
end
section
variable {N C B : Env' → OH → Prop} {R : D → OH → Prop}
@[simp] theorem SW_putL (o i : SE) (y : D) (k : SS) (e : Env') (h : OH) : (putL o i y k e h).W N C B R = (o e h).W fun x h2 => (i e h2).W fun kk h3 => match x, kk with
  | .ref n, .int j => lkL h3[n]? fun xs => lkS (ixN xs.length j) fun q => (k e (h3.set n (.lst (xs.set q y)))).W N C B R
  | _, _ => False := by
  unfold putL
  simp only [W_toS]
  congr; funext x h2; congr; funext kk h3
  cases x <;> cases kk <;> first | rfl | skip
  rename_i n j
  dsimp only
  cases h3[n]? with
  | none => rfl
  | some o => cases o with
    | lst xs => simp only [lkL_lst]; cases ixN xs.length j <;> rfl
    | _ => rfl
@[simp] theorem SW_subL (o1 i1 o2 i2 v : SE) (e : Env') (h : OH) : (sSubL o1 i1 o2 i2 v e h).W N C B R = (v e h).W fun y h1 => match y with
  | .tup [y1, y2] => (putL o1 i1 y1 (putL o2 i2 y2 fun e h => .nx e h) e h1).W N C B R
  | _ => False := by
  unfold sSubL
  simp only [W_toS]
  congr; funext y h1
  split <;> rfl
end
end HR
set_option Elab.async false
set_option linter.all false
set_option maxRecDepth 20000
set_option maxHeartbeats 1000000
/-! enumerate over an own list, which keeps its length meanwhile -/
namespace HR
open PySem L2 RZ
section
variable {X : Cx} {W : WX}
abbrev relOwE (K : PySem.W.Frag) : Rel It Nat := fun _ m J i => ∃ a, m[i]? = some a ∧ J = Ite K a
/-- the place of an own list, as the only argument -/
theorem di_ownE {elts : List Expr} {kk : Nat} {tpos : Pos} {a : Expr} {f : SE} {p pos : Pos} (hg : Gl X "enumerate") (hm : X.mg "enumerate" = none) (ha : DE X W a f) (he : starEach [a] X.env = (false, eval a X.env) :: starEach [] X.env := by rfl) (hs : starEach [a] X.env = [(false, eval a X.env)] := by rfl) :
    PI X (.Tuple elts kk tpos) (.Call (.Name "enumerate" p) [a] [] pos) (rdG X.K W (relOwE X.K) (sRefL f)) :=
  PI.of (pi_enum hg hm (da_cons ha da_nil he) hs) fun σ H R => by
    rintro ⟨P, F, m, e, h, S, E, fin⟩
    refine ⟨P, F, m, e, h, S, E, ?_⟩
    unfold sRefL at fin
    simp only [sCons, sNil]
    cases q : f e h with
    | bad => rw [q] at fin; exact fin.elim
    | exc C p h1 => rw [q] at fin; exact fin
    | ok d h1 =>
      rw [q] at fin
      simp only [Res.bind_ok] at fin ⊢
      intro vs F1 m1 H1 x S1 r
      obtain ⟨v, rfl, r1⟩ := denL1 r
      cases r1 with
      | @ref b i e1 =>
        obtain ⟨ob, k1, k2⟩ := S1.own e1
        dsimp only at fin
        rw [k1] at fin
        cases ob with
        | lst xs =>
          obtain ⟨vs, k3, k4, k5⟩ := k2
          exact ⟨b, vs, rfl, .inl (.inl k3), FinG.okX fin x S1 ⟨b, e1, rfl⟩⟩
        | _ => exact fin.elim
      | _ => exact fin.elim
/-- j rounds are left of n -/
def forE (g : TF) (b : SS) (i n : Nat) : Nat → SS
  | 0 => fun e h => match h[i]? with
    | some (.lst ys) => if ys.length = n then .nx e h else .bad
    | _ => .bad
  | j + 1 => fun e h => match h[i]? with
    | some (.lst ys) => if ys.length = n then (match ys[n - (j + 1)]? with
      | some d => (match g (.tup [.int ((n - (j + 1) : Nat) : Int), d]) e h with
        | none => .bad
        | some e1 => (match b e1 h with
          | .nx e2 h2 => forE g b i n j e2 h2
          | .ct e2 h2 => forE g b i n j e2 h2
          | .bk e2 h2 => .nx e2 h2
          | r => r))
      | none => .bad) else .bad
    | _ => .bad
def sForE (f : SE) (g : TF) (b : SS) : SS := fun e h => (sRefL f e h).toS e fun i h1 => match h1[i]? with
  | some (.lst xs) => forE g b i xs.length xs.length e h1
  | _ => .bad
theorem ds_forE {elts : List Expr} {kk : Nat} {tpos : Pos} {a : Expr} {p pos0 : Pos} {body : List Stmt} {pos : Pos} {f : SE} {vs : List Nat} {g : TF} {b : SS} (hp : PassesOwn (model X.prog X.w) X.A X.env X.xe) (hc : X.calm = true) (hG : Gl X "enumerate") (hm : X.mg "enumerate" = none) (ha : DE X W a f) (hg : DG X vs (.Tuple elts kk tpos) g) (hb : DSs X W body b)
    (he : starEach [a] X.env = (false, eval a X.env) :: starEach [] X.env := by rfl) (hs1 : starEach [a] X.env = [(false, eval a X.env)] := by rfl)
    (hs : ∀ x, foldedSetIterable (.Call (.Name "enumerate" p) [a] [] pos0) X.env x = pure x := by intro _; rfl) :
    DS X W (.For (.Tuple elts kk tpos) (.Call (.Name "enumerate" p) [a] [] pos0) body [] pos) (sForE f g b) := PS.of (ps_for hp hc (di_ownE hG hm ha he hs1) hg hb hs) fun Dn σ H => by
  rintro ⟨P0, F0, m0, e0, h0, S0, E0, fin0⟩
  refine st_seq S0 E0 fin0 fun F1 m1 h1 H1 J t x1 S1 E1 wk fin1 => ?_
  obtain ⟨a, ea, rfl⟩ := wk
  cases q0 : h1[t]? with
  | none => rw [q0] at fin1; exact fin1.elim
  | some ob0 =>
    rw [q0] at fin1
    cases ob0 with
    | lst xs =>
      dsimp only at fin1
      let Wd : Nat → Nat → St → Hp → Prop := fun i n σ H => ∃ P F m e h, Sim X.K P F m h H ∧ EnvR X.K F m σ e ∧ Ext F1 m1 F m ∧ i + n = xs.length ∧ FinS X.K P W Dn F m (forE g b t xs.length n e h)
      refine ⟨Wd, ⟨xs.length, P0, F1, m1, e0, h1, S1, E1, .refl, by omega, fin1⟩, ?_⟩
      rintro i n σ H ⟨P, F, m, e, h, S, E, x, hn, fin⟩
      have ea2 := pre_get x.p ea
      obtain ⟨ob, k1, k2⟩ := S.own ea2
      cases n with
      | zero =>
        simp only [forE, k1] at fin
        cases ob with
        | lst ys =>
          dsimp only at fin
          obtain ⟨vs2, k3, k4, k5⟩ := k2
          by_cases hy : ys.length = xs.length
          · rw [if_pos hy] at fin
            exact .inl ⟨⟨vs2, .inl (.inl k3), by rw [k4.length]; omega⟩, fin σ F m H .refl S E⟩
          · rw [if_neg hy] at fin
            exact fin.elim
        | _ => exact fin.elim
      | succ j =>
        simp only [forE, k1] at fin
        cases ob with
        | lst ys =>
          dsimp only at fin
          obtain ⟨vs2, k3, k4, k5⟩ := k2
          by_cases hy : ys.length = xs.length
          · rw [if_pos hy] at fin
            have hi : xs.length - (j + 1) = i := by omega
            rw [hi] at fin
            cases q1 : ys[i]? with
            | none => rw [q1] at fin; exact fin.elim
            | some d =>
              rw [q1] at fin
              dsimp only at fin
              obtain ⟨v, e3, rv⟩ := k4.get q1
              refine .inr ⟨⟨vs2, v, .inl (.inl k3), e3⟩, fun σ' H' => Wd (i + 1) j σ' H', fun σ' H' q => ⟨j, Nat.lt_succ_self _, q⟩, fun y H' hy2 => ?_⟩
              obtain ⟨T, z, rfl, hT, rfl, yl⟩ := hy2
              have e4 := yl vs2 (.inl (.inl k3))
              rw [e3] at e4
              cases e4
              have x2 := S.extF (o := .tup [.int (i : Nat), v]) hT
              have S2 := S.frozen (o := .tup [.int (i : Nat), v]) hT
              have E2 := E.mono x2
              have rt : Den X.K (upd F T (.tup [.int (i : Nat), v])) m (.ref T) (.tup [.int (i : Nat), d]) := .tup upd_same (.cons (.int _) (.cons (rv.mono x2) .nil))
              cases q : g (.tup [.int (i : Nat), d]) e h with
              | none => rw [q] at fin; exact fin.elim
              | some e2 =>
                rw [q] at fin
                refine ⟨P, _, m, e, h, _, S2, E2, rt, e2, q, fun σ' E' _ => ⟨P, _, m, e2, h, S2, E', ?_⟩⟩
                dsimp only at fin
                have xx := x.trans x2
                cases q3 : b e2 h with
                | nx e3 h3 => rw [q3] at fin; exact fun σ3 F3 m3 H3 x3 S3 E3 => ⟨P, F3, m3, e3, h3, S3, E3, xx.trans x3, by omega, FinS.weak (x2.trans x3) fin⟩
                | ct e3 h3 => rw [q3] at fin; exact fun σ3 F3 m3 H3 x3 S3 E3 => ⟨P, F3, m3, e3, h3, S3, E3, xx.trans x3, by omega, FinS.weak (x2.trans x3) fin⟩
                | bk e3 h3 => rw [q3] at fin; exact FinS.weak x2 fin
                | rt d3 h3 => rw [q3] at fin; exact FinS.weak x2 fin
                | exc C p e3 h3 => rw [q3] at fin; exact FinS.weak x2 fin
                | bad => rw [q3] at fin; exact fin.elim
          · rw [if_neg hy] at fin
            exact fin.elim
        | _ => exact fin.elim
    | _ => exact fin1.elim
end
section
variable {N C B : Env' → OH → Prop} {R : D → OH → Prop}
@[simp] theorem SW_forE (f : SE) (g : TF) (b : SS) (e : Env') (h : OH) : (sForE f g b e h).W N C B R = (f e h).W fun d h1 => isR d fun i => lkO h1[i]? fun xs => (forE g b i xs.length xs.length e h1).W N C B R := by
  unfold sForE
  rw [W_toS, W_refL]
  congr; funext d h1; congr; funext i
  rcases h1[i]? with _ | o
  · rfl
  · cases o <;> rfl
theorem W_forEj {g : TF} {b : SS} (i : Nat) (xs : List D) (I : Nat → Env' → OH → Prop) (hx : ∀ k e h, I k e h → h[i]? = some (.lst xs))
    (st : ∀ k d, xs[k]? = some d → ∀ e h, I k e h → ∃ e1, g (.tup [.int (k : Int), d]) e h = some e1 ∧ (b e1 h).W (I (k + 1)) (I (k + 1)) N R) (fin : ∀ e h, I xs.length e h → N e h) :
    ∀ (j k : Nat) (e : Env') (h : OH), k + j = xs.length → I k e h → (forE g b i xs.length j e h).W N C B R
  | 0, k, e, h, hk, i0 => by
    have : k = xs.length := by omega
    subst this
    simp [forE, hx _ _ _ i0, fin _ _ i0]
  | j + 1, k, e, h, hk, i0 => by
    have hj : xs.length - (j + 1) = k := by omega
    have hl : k < xs.length := by omega
    obtain ⟨e1, q, w⟩ := st k xs[k] (List.getElem?_eq_getElem hl) e h i0
    have rest := fun e2 h2 (z : I (k + 1) e2 h2) => W_forEj i xs I hx st fin j (k + 1) e2 h2 (by omega) z
    unfold forE
    rw [hx _ _ _ i0]
    dsimp only
    rw [if_pos rfl, hj, List.getElem?_eq_getElem hl]
    dsimp only
    rw [q]
    dsimp only
    cases q2 : b e1 h with
    | nx e2 h2 => rw [q2] at w; exact rest e2 h2 w
    | ct e2 h2 => rw [q2] at w; exact rest e2 h2 w
    | bk e2 h2 => rw [q2] at w; exact w
    | rt d h2 => rw [q2] at w; exact w
    | exc C p e2 h2 => rw [q2] at w; exact w
    | bad => rw [q2] at w; exact w
theorem W_forE {g : TF} {b : SS} {i : Nat} {xs : List D} (I : Nat → Env' → OH → Prop) (e : Env') (h : OH) (hx : ∀ k e h, I k e h → h[i]? = some (.lst xs)) (i0 : I 0 e h)
    (st : ∀ k d, xs[k]? = some d → ∀ e h, I k e h → ∃ e1, g (.tup [.int (k : Int), d]) e h = some e1 ∧ (b e1 h).W (I (k + 1)) (I (k + 1)) N R) (fin : ∀ e h, I xs.length e h → N e h) :
    (forE g b i xs.length xs.length e h).W N C B R := W_forEj i xs I hx st fin xs.length 0 e h (by omega) i0
end
end HR
set_option Elab.async false
set_option linter.all false
set_option maxRecDepth 20000
set_option maxHeartbeats 1000000
/-! d.get(k, x), k None too; range(a, b, c) with c above 0 -/
namespace HR
open PySem L2 RZ PySem.Spec PyProof.Rows
section
variable {X : Cx} {pins : List (Addr × Obj)} {σ : L2.St} {H : Hp} {s : Shared} {a : Addr} {kvs : List (Key × V)} {A : Around} {E : Value → Shared → Prop}
theorem d_getNone {d : V} {r : Value} {Q : Value → Shared → Prop} (I : Inv X pins σ H s) (e : Rd H a (.dK kvs)) (rd : RelV d r) (h : ∀ s', Inv X pins σ H s' → Q r s') :
    wpAny (model X.prog X.w) A (call (.builtin "dict.get") [.ref a, .none, r]) Q E s := by
  obtain ⟨_, hd, vs, _, dd⟩ := dk_rd I.hok e
  obtain ⟨f, hm, hf⟩ := none_map dd
  refine call_meetsIn PySem.F.slot_dict_get dd.typeIs PySem.F.entry_dict_get (PySem.F.args_dict_get_3 _ _ _) (meets_dict_get_default (noneKind X.prog X.w) a (show (noneKind X.prog X.w).is none .none = true from rfl) hd r) ⟨f, hm, ?_⟩
  rw [hf]
  exact h _ (I.tok _)
end
def tDGet2N (td ty tx : TE) : TE := fun σ H Q => td σ H fun x H1 => ∃ a, x = .ref a ∧ IsD H1 a ∧ ty σ H1 fun y H2 => tx σ H2 fun z H3 => (∃ o, DGet H3 a y o ∧ Q (o.getD z) H3) ∨ ∃ kvs, y = .non ∧ Rd H3 a (.dK kvs) ∧ Q z H3
section
variable {X : Cx} {W : WX}
theorem pe_dget2N {o e f : Expr} {td ty tx : TE} {apos cpos : Pos} (hu : X.A.units + 1 < cLine) (ho : PE X o td) (he : PE X e ty) (hf : PE X f tx) (m : M2 X o "get" apos e f cpos) : PE X (.Call (.Attribute o "get" apos) [e, f] [] cpos) (tDGet2N td ty tx) := by
  refine ⟨fun pins s σ H Q I h => ?_⟩
  refine wpAny_Call_method m.base m.few m.line PySem.F.plainAttrs_dict PySem.F.slot_dict_get PySem.F.type_dict_get (thn (ho.run pins s σ H _ I h) fun u s1 ⟨x, H1, I1, rx, a, ex, d, q1⟩ => ?_)
  subst ex
  obtain rfl : u = Value.ref a := rx
  obtain ⟨t1, t2, _⟩ := isD_at I1 d
  refine ⟨t1, t2, ?_⟩
  rw [m.trees]
  refine Calls.callWith_builtin rfl (Calls.evalArgs_plain (Calls.spliced_cons (thn (he.run pins s1 σ H1 _ I1 q1) fun iv s2 ⟨y, H2, I2, ry, q2⟩ =>
    Calls.spliced_cons (thn (hf.run pins s2 σ H2 _ I2 q2) fun fv s3 ⟨z, H3, I3, rz, q3⟩ => Calls.spliced_nil ?_))))
  rcases q3 with ⟨ov, g, q3⟩ | ⟨kvs, ey, g, q3⟩
  · exact d_get2 hu I3 g ry rz fun w' s4 I4 rw' => ⟨_, H3, I4, rw', q3⟩
  · subst ey
    obtain rfl : iv = Value.none := ry
    exact d_getNone I3 g rz fun s4 I4 => ⟨z, H3, I4, rz, q3⟩
def sGet2 (fo fe ff : SE) : SE := fun e h => (fo e h).bind fun x h1 => match x with
  | .dct ks => (fe e h1).bind fun k h2 => (ff e h2).bind fun z h3 => match k with
    | .non => .ok z h3
    | k => (match keyD k with
      | some q => .ok ((getK ks q).getD z) h3
      | none => .bad)
  | _ => .bad
theorem denK_no {K : PySem.W.Frag} {F : Hp} {m : List Addr} : ∀ {kvs : List (Key × V)} {ks : List (Key × D)} (r : DenK K F m kvs ks) {k : Key}, getK ks k = none → valV kvs k = none
  | _, _, .nil, k, _ => rfl
  | _, _, .cons (k := k0) (v := v0) (ds := ds0) h t, k, e => by
    by_cases c : k0 = k
    · subst c
      simp [getK] at e
    · have e2 : getK ds0 k = none := by simpa [getK, c] using e
      rw [valV_neg c]
      exact denK_no t e2
theorem de_get2 {o e f : Expr} {fo fe ff : SE} {apos cpos : Pos} (hu : X.A.units + 64 < cLine) (ho : DE X W o fo) (he : DE X W e fe) (hf : DE X W f ff)
    (m1 : attributeBase o "get" X.env (eval o X.env) = eval o X.env := by rfl) (m2 : ((backTo cpos (starEach [e, f] X.env)).all (fun x => !x.1) && (backToKw cpos (keywordEach [] X.env)).all (fun x => x.1.isSome)
    && decide (([e, f] : List Expr).length + ([] : List Keyword).length + (if ([] : List Keyword).isEmpty then 0 else 1) < 30)) = true := by rfl) (m3 : (apos.endLine == cpos.line) = true := by rfl) (m4 : backTo cpos (starEach [e, f] X.env) = [(false, eval e X.env), (false, eval f X.env)] := by rfl) :
    DE X W (.Call (.Attribute o "get" apos) [e, f] [] cpos) (sGet2 fo fe ff) := PE.of (pe_dget2N (by omega) ho he hf ⟨m1, m2, m3, m4⟩) fun σ H Q => by
  rintro ⟨P, F, m, e, h, S, E, fin⟩
  refine rd_seq S E fin fun F1 m1 h1 H1 v d x1 S1 E1 r1 fin1 => ?_
  cases r1 with
  | @dct a kvs ks q r =>
    dsimp only at fin1
    refine ⟨a, rfl, .inl ⟨kvs, .inl (S1.sub _ _ q)⟩, ?_⟩
    refine rd_seq S1 E1 fin1 fun F2 m2 h2 H2 v2 d2 x2 S2 E2 r2 fin2 => ?_
    refine rd_seq S2 E2 fin2 fun F3 m3 h3 H3 v3 d3 x3 S3 E3 r3 fin3 => ?_
    have q3 := S3.sub _ _ (x3.s _ _ (x2.s _ _ q))
    have r2 := r2.mono x3
    have rr := r.mono (x2.trans x3)
    cases d2 with
    | non =>
      cases r2
      exact .inr ⟨kvs, rfl, .inl q3, fin3.ok S3 r3⟩
    | int i =>
      have := keyD_den r2 (k := .inl i) rfl
      subst this
      dsimp only [keyD] at fin3
      refine .inl ⟨_, DGet.k q3, ?_⟩
      cases eg : getK ks (.inl i) with
      | none =>
        rw [eg] at fin3
        rw [denK_no rr eg]
        exact fin3.ok S3 r3
      | some dv =>
        rw [eg] at fin3
        obtain ⟨w, e1, rw1⟩ := denK_get rr eg
        rw [e1]
        exact fin3.ok S3 rw1
    | str i =>
      have := keyD_den r2 (k := .inr i) rfl
      subst this
      dsimp only [keyD] at fin3
      refine .inl ⟨_, DGet.k q3, ?_⟩
      cases eg : getK ks (.inr i) with
      | none =>
        rw [eg] at fin3
        rw [denK_no rr eg]
        exact fin3.ok S3 r3
      | some dv =>
        rw [eg] at fin3
        obtain ⟨w, e1, rw1⟩ := denK_get rr eg
        rw [e1]
        exact fin3.ok S3 rw1
    | _ => exact fin3.bad_elim
  | _ => exact fin1.bad_elim
/-- range(a, b, c), c above 0 -/
def sRngP (a : SA) : SA := fun e h => (a e h).bind fun ds h1 => match ds with
  | [.int i, .int j, .int k] => if 0 ≤ i ∧ i ≤ 1000000 ∧ 0 ≤ j ∧ j ≤ 1000000 ∧ 0 < k ∧ k ≤ 1000 then .ok (rngS i k (if i < j then (j - i - 1) / k + 1 else 0).toNat) h1 else .bad
  | _ => .bad
theorem di_rngP {tg a b c : Expr} {f g k : SE} {p pos : Pos} (hg : Gl X "range") (hm : X.mg "range" = none) (ha : DE X W a f) (hb : DE X W b g) (hc : DE X W c k) (he : starEach [a, b, c] X.env = (false, eval a X.env) :: starEach [b, c] X.env := by rfl) (he2 : starEach [b, c] X.env = (false, eval b X.env) :: starEach [c] X.env := by rfl) (he3 : starEach [c] X.env = (false, eval c X.env) :: starEach [] X.env := by rfl)
    (hpl : (backTo pos (starEach [b, c] X.env)).any (·.1) = false := by rfl) : DI X W tg (.Call (.Name "range" p) [a, b, c] [] pos) (sRngP (sCons f (sCons g (sCons k sNil)))) :=
  PI.of (pi_range3 hg hm (da_cons ha (da_cons hb (da_cons hc da_nil he3) he2) he) he hpl) fun σ H R => by
    rintro ⟨P, F, m, e, h, S, E, fin⟩
    refine ⟨P, F, m, e, h, S, E, ?_⟩
    unfold sRngP at fin
    cases q : (sCons f (sCons g (sCons k sNil))) e h with
    | bad => rw [q] at fin; exact fin.elim
    | exc C p h1 => rw [q] at fin; exact fin
    | ok ds h1 =>
      rw [q] at fin
      simp only [Res.bind_ok] at fin
      intro vs F1 m1 H1 x S1 r
      match ds, fin, r with
      | [.int i, .int j, .int l], fin, r =>
        obtain ⟨u, v, w, rfl, r1, r2, r3⟩ := denL3 r
        cases den_int r1
        cases den_int r2
        cases den_int r3
        dsimp only at fin
        by_cases hk : 0 ≤ i ∧ i ≤ 1000000 ∧ 0 ≤ j ∧ j ≤ 1000000 ∧ 0 < l ∧ l ≤ 1000
        · rw [if_pos hk] at fin
          obtain ⟨i0, i1, j0, j1, l0, l1⟩ := hk
          refine ⟨i, j, l, _, rfl, ⟨by omega, by omega, ?_, ?_⟩, FinG.okX fin x S1 (walks_rngS i l _)⟩
          · unfold Builtin.Range.small
            unfold Builtin.Range.rangeSize
            rw [if_pos (by omega)]
            simp only [Builtin.Range.rangeFitsLong, Bool.and_eq_true, Bool.or_eq_true, decide_eq_true_eq, beq_iff_eq]
            have dn : 0 ≤ (if i < j then (j - i - 1) / l + 1 else 0) ∧ (if i < j then (j - i - 1) / l + 1 else 0) ≤ 1000002 := by
              split
              · have a1 := Int.ediv_nonneg (show 0 ≤ j - i - 1 by omega) (show 0 ≤ l by omega)
                have a2 : (j - i - 1) / l ≤ j - i - 1 := Int.ediv_le_self _ (by omega)
                omega
              · omega
            have p63 : (2 : Int) ^ 63 = 9223372036854775808 := by decide
            rw [if_pos (show l > 0 by omega)]
            simp only [Bool.and_eq_true, decide_eq_true_eq]
            generalize (if i < j then (j - i - 1) / l + 1 else 0) = N at dn ⊢
            omega
          · unfold Builtin.Range.rangeSize
            rw [if_pos (by omega)]
            have : 0 ≤ (if i < j then (j - i - 1) / l + 1 else 0) := by
              split
              · have := Int.ediv_nonneg (show 0 ≤ j - i - 1 by omega) (show 0 ≤ l by omega)
                omega
              · omega
            omega
        · rw [if_neg hk] at fin
          exact fin.elim
end
section
variable {PD : D → OH → Prop} {PL : List D → OH → Prop}
@[simp] theorem W_get2 (fo fe ff : SE) (e : Env') (h : OH) : (sGet2 fo fe ff e h).W PD = (fo e h).W fun x h1 => match x with
  | .dct ks => (fe e h1).W fun k h2 => (ff e h2).W fun z h3 => match k with
    | .non => PD z h3
    | k => (match keyD k with
      | some q => PD ((getK ks q).getD z) h3
      | none => False)
  | _ => False := by
  unfold sGet2; rw [W_bind]; congr; funext x h1
  cases x <;> first | rfl | skip
  rename_i ks
  dsimp only
  rw [W_bind]; congr; funext k h2
  rw [W_bind]; congr; funext z h3
  cases k <;> rfl
@[simp] theorem W_rngP (f g k : SE) (e : Env') (h : OH) : (sRngP (sCons f (sCons g (sCons k sNil))) e h).W PL = (f e h).W fun x h1 => (g e h1).W fun y h2 => (k e h2).W fun z h3 => match x, y, z with
  | .int i, .int j, .int k => if 0 ≤ i ∧ i ≤ 1000000 ∧ 0 ≤ j ∧ j ≤ 1000000 ∧ 0 < k ∧ k ≤ 1000 then PL (rngS i k (if i < j then (j - i - 1) / k + 1 else 0).toNat) h3 else False
  | _, _, _ => False := by
  unfold sRngP
  simp only [sCons, sNil]
  cases f e h with
  | ok x h1 =>
    simp only [Res.bind_ok, W_ok]
    cases g e h1 with
    | ok y h2 =>
      simp only [Res.bind_ok, W_ok]
      cases k e h2 with
      | ok z h3 =>
        simp only [Res.bind_ok, W_ok]
        cases x <;> first | rfl | skip
        cases y <;> first | rfl | skip
        cases z <;> first | rfl | skip
        dsimp only
        split <;> rfl
      | _ => rfl
    | _ => rfl
  | _ => rfl
end
end HR
set_option Elab.async false
set_option linter.all false
/-! the plain functions -/
namespace HR
open PySem L2
namespace Sh
/-- is_integer -/
def is_integer_b : SS := (sSeq (sIfS (sOr (sNot (sTest (sIsi ["int"] (sVar 0)))) (sTest (sIsi ["bool"] (sVar 0)))) (sRet (sC (.bl false))) sNext) (sRet (sAndV (sBin opGe (sVar 0) (sVar 1)) (sOrV (sBin (opIs false) (sVar 2) (sC .non)) (sBin opLe (sVar 0) (sVar 2))))))
def is_integer : FN := fnOf 3 is_integer_b
/-- is_sequence -/
def is_sequence_b : SS := (sRet (sIsi ["list", "tuple"] (sVar 0)))
def is_sequence : FN := fnOf 1 is_sequence_b
/-- is_name -/
def is_name_b : SS := (sRet (sAndV (sIsi ["str"] (sVar 0)) (sAndV (sChain opLe opLe (sC (.int 1)) (sCall bLen (sCons (sVar 0) sNil)) (sC (.int (8)))) (sCall (b1 opAll) (sCons (sLc false (sIt (sVar 0)) (gN 1) sYes (sBin (opInS false) (sVar 1) (sC (.str "abcdefghijklmnopqrstuvwxyz"))) [1]) sNil)))))
def is_name : FN := fnOf 2 is_name_b
/-- is_talk -/
def is_talk_b : SS := (sRet (sAndV (sCall (withD [] (pureF Sh.is_sequence)) (sCons (sVar 0) sNil)) (sAndV (sBin (opEq false) (sCall bLen (sCons (sVar 0) sNil)) (sC (.int 2))) (sCall (b1 opAll) (sCons (sLc false (sIt (sVar 0)) (gN 1) sYes (sCall (withD [] (pureF Sh.is_integer)) (sCons (sVar 1) (sCons (sC (.int 1)) (sCons (sC (.int (1000000000000000000000000000000))) sNil)))) [1]) sNil)))))
def is_talk : FN := fnOf 2 is_talk_b
/-- are_talks -/
def are_talks_b : SS := (sRet (sAndV (sCall (withD [] (pureF Sh.is_sequence)) (sCons (sVar 0) sNil)) (sAndV (sChain opLe opLe (sVar 1) (sCall bLen (sCons (sVar 0) sNil)) (sC (.int (8)))) (sCall (b1 opAll) (sCons (sLc false (sIt (sVar 0)) (gN 2) sYes (sCall (withD [] (pureF Sh.is_talk)) (sCons (sVar 2) sNil)) [2]) sNil)))))
def are_talks : FN := fnOf 3 are_talks_b
/-- is_talker -/
def is_talker_b : SS := (sSeq (sIfS (sOr (sNot (sTest (sCall (withD [] (pureF Sh.is_sequence)) (sCons (sVar 0) sNil)))) (sOr (sTest (sBin (opEq true) (sCall bLen (sCons (sVar 0) sNil)) (sC (.int 4)))) (sNot (sTest (sCall (withD [] (pureF Sh.is_name)) (sCons (sBin opIx (sVar 0) (sC (.int 0))) sNil)))))) (sRet (sC (.bl false))) sNext) (sRet (sAndV (sCall (withD [] (pureF Sh.is_integer)) (sCons (sBin opIx (sVar 0) (sC (.int 1))) (sCons (sC (.int 1)) (sCons (sC (.int (10))) sNil)))) (sAndV (sCall (withD [] (pureF Sh.are_talks)) (sCons (sBin opIx (sVar 0) (sC (.int 2))) (sCons (sC (.int 0)) sNil))) (sCall (withD [] (pureF Sh.are_talks)) (sCons (sBin opIx (sVar 0) (sC (.int 3))) (sCons (sC (.int 1)) sNil)))))))
def is_talker : FN := fnOf 1 is_talker_b
/-- is_hall -/
def is_hall_b : SS := (sSeq (sIfS (sOr (sNot (sTest (sCall (withD [] (pureF Sh.is_sequence)) (sCons (sVar 0) sNil)))) (sOr (sTest (sBin opGt (sCall bLen (sCons (sVar 0) sNil)) (sC (.int (10))))) (sNot (sTest (sCall (b1 opAll) (sCons (sLc false (sIt (sVar 0)) (gN 1) sYes (sCall (withD [] (pureF Sh.is_talker)) (sCons (sVar 1) sNil)) [1]) sNil)))))) (sRet (sC (.bl false))) sNext) (sRet (sBin (opEq false) (sLenSet (sLc false (sIt (sVar 0)) (gN 1) sYes (sBin opIx (sVar 1) (sC (.int 0))) [1])) (sCall bLen (sCons (sVar 0) sNil)))))
def is_hall : FN := fnOf 2 is_hall_b
/-- _law_spring -/
def l_spring_b : SS := (sSeq (sSet 1 (sC (.int 0))) (sSeq (sSet 2 (sC (.int 88651))) (sSeq (sFor (sIt (sCut false (sVar 0) sNoPart (sPart (sC (.int 63))))) (gN 3) (sSeq (sIfS (sTest (sBin opGe (sCall bAbs (sCons (sVar 3) sNil)) (sBin opPow (sC (.int 10)) (sC (.int 18))))) (sSet 1 (sBin opAdd (sBin opMul (sVar 1) (sBin opPow (sC (.int 10)) (sC (.int 60)))) (sBin opMod (sCall bAbs (sCons (sVar 3) sNil)) (sBin opPow (sC (.int 10)) (sC (.int 60)))))) sNext) (sSet 2 (sBin opMod (sBin opAdd (sBin opAdd (sBin opMul (sVar 2) (sC (.int 69069))) (sBin opMod (sVar 3) (sC (.int 2305843009213693921)))) (sC (.int 7))) (sC (.int 2305843009213693951)))))) (sRet (sLstO (sCons (sVar 1) (sCons (sVar 2) (sCons (sC (.int 0)) sNil))))))))
def l_spring : FN := fnOf 4 l_spring_b
/-- _law_draw -/
def l_draw_b : SS := (sSeq (sIfS (sTest (sBin opGt (sBin opIx (sVar 0) (sC (.int 0))) (sC (.int 0)))) (sSeq (sSet 2 (sBin opMod (sBin opIx (sVar 0) (sC (.int 0))) (sVar 1))) (sSeq (sIxS (sVar 0) (sC (.int 0)) (sBin opDiv (sBin opIx (sVar 0) (sC (.int 0))) (sVar 1))) (sRet (sVar 2)))) sNext) (sSeq (sIxS (sVar 0) (sC (.int 2)) (sBin opAdd (sBin opIx (sVar 0) (sC (.int 2))) (sC (.int 1)))) (sSeq (sSet 3 (sBin opMod (sBin opMul (sBin opIx (sVar 0) (sC (.int 1))) (sBin opIx (sVar 0) (sC (.int 1)))) (sC (.int 2305843009213693951)))) (sSeq (sIxS (sVar 0) (sC (.int 1)) (sBin opMod (sBin opAdd (sBin opAdd (sVar 3) (sBin opMul (sBin opMul (sC (.int 7919)) (sBin opIx (sVar 0) (sC (.int 2)))) (sBin opIx (sVar 0) (sC (.int 1))))) (sC (.int 104729))) (sC (.int 2305843009213693951)))) (sRet (sBin opMod (sBin opDiv (sBin opIx (sVar 0) (sC (.int 1))) (sC (.int 65537))) (sVar 1)))))))
def l_draw : FN := fnOf 4 l_draw_b
/-- _law_talks -/
def l_talks_b : SS := (sSeq (sSet 4 (sBin opAdd (sVar 1) (sCall (withD [] Sh.l_draw) (sCons (sVar 0) (sCons (sVar 2) sNil))))) (sRet (sLc false (sRng1 (sVar 4)) (gN 5) sYes (sTup (sCons (sBin opAdd (sC (.int 1)) (sCall (withD [] Sh.l_draw) (sCons (sVar 0) (sCons (sVar 3) sNil)))) (sCons (sBin opAdd (sC (.int 1)) (sCall (withD [] Sh.l_draw) (sCons (sVar 0) (sCons (sVar 3) sNil)))) sNil))) [5])))
def l_talks : FN := fnOf 6 l_talks_b
/-- _law_hall -/
def l_hall_b : SS := (sSeq (sSet 3 (sLstO (sCons (sC (.str "a")) (sCons (sC (.str "b")) (sCons (sC (.str "abcdefgh")) (sCons (sC (.str "zz")) (sCons (sC (.str "m")) (sCons (sC (.str "ba")) (sCons (sC (.str "q")) (sCons (sC (.str "xyz")) (sCons (sC (.str "cc")) (sCons (sC (.str "p")) sNil)))))))))))) (sSeq (sSet 4 (sBin opIx (sLst (sCons (sC (.int 1)) (sCons (sC (.int 3)) (sCons (sC (.int 10)) sNil)))) (sCall (withD [] Sh.l_draw) (sCons (sVar 0) (sCons (sC (.int 3)) sNil))))) (sSeq (sSet 5 (sLstO sNil)) (sSeq (sFor (sRng1 (sCall (withD [] Sh.l_draw) (sCons (sVar 0) (sCons (sBin opAdd (sVar 1) (sC (.int 1))) sNil)))) (gN 6) (sSeq (sSet 7 (sMtO gPopAt (sVar 3) (sCons (sCall (withD [] Sh.l_draw) (sCons (sVar 0) (sCons (sCall bLen (sCons (sVar 3) sNil)) sNil))) sNil))) (sSeq (sSet 8 (sCall (withD [] Sh.l_talks) (sCons (sVar 0) (sCons (sC (.int 0)) (sCons (sBin opIx (sLst (sCons (sC (.int 1)) (sCons (sC (.int 1)) (sCons (sC (.int 4)) (sCons (sC (.int 9)) sNil))))) (sCall (withD [] Sh.l_draw) (sCons (sVar 0) (sCons (sC (.int 4)) sNil)))) (sCons (sVar 2) sNil)))))) (sSeq (sSet 9 (sCall (withD [] Sh.l_talks) (sCons (sVar 0) (sCons (sC (.int 1)) (sCons (sBin opIx (sLst (sCons (sC (.int 1)) (sCons (sC (.int 3)) (sCons (sC (.int 8)) sNil)))) (sCall (withD [] Sh.l_draw) (sCons (sVar 0) (sCons (sC (.int 3)) sNil)))) (sCons (sVar 2) sNil)))))) (sExpr (sMtO gAppend (sVar 5) (sCons (sTup (sCons (sVar 7) (sCons (sBin opAdd (sC (.int 1)) (sCall (withD [] Sh.l_draw) (sCons (sVar 0) (sCons (sVar 4) sNil)))) (sCons (sVar 8) (sCons (sVar 9) sNil))))) sNil))))))) (sRet (frzE (sVar 5)))))))
def l_hall : FN := fnOf 10 l_hall_b
/-- _law_dressed -/
def l_dressed_b (rec_ : FN) : SS := (sSeq (sIfS (sNot (sTest (sIsi ["list", "tuple"] (sVar 1)))) (sRet (sVar 1)) sNext) (sSeq (sSet 2 (sLc false (sIt (sVar 1)) (gN 3) sYes (sCall (withD [] rec_) (sCons (sVar 0) (sCons (sVar 3) sNil))) [3])) (sRet (sIf (sTest (sBin (opEq false) (sCall (withD [] Sh.l_draw) (sCons (sVar 0) (sCons (sC (.int 2)) sNil))) (sC (.int 0)))) (sVar 2) (sCall (b1 opTuple) (sCons (sVar 2) sNil))))))
def l_dressed_n : Nat → FN
  | 0 => fun _ _ => .bad
  | j + 1 => fnOf 4 (l_dressed_b (l_dressed_n j))
/-- running_sums -/
def running_sums_b : SS := (sSeq (sSet 1 (sLstO (sCons (sC (.int 0)) sNil))) (sSeq (sFor (sIt (sVar 0)) (gN 2) (sExpr (sMtO gAppend (sVar 1) (sCons (sBin opAdd (sBin opIx (sVar 1) (sUn opNeg (sC (.int 1)))) (sVar 2)) sNil)))) (sRet (frzE (sVar 1)))))
def running_sums : FN := fnOf 3 running_sums_b
/-- Schedule.__init__ -/
def Schedule_init_b : SS := (sSeq (sFldS "Schedule" "prefix" (sVar 0) (sLc false (sIt (sVar 1)) (gN 3) sYes (sCall (b1 opTuple) (sCons (sVar 3) sNil)) [3])) (sSeq (sFldS "Schedule" "cycle" (sVar 0) (sLc false (sIt (sVar 2)) (gN 3) sYes (sCall (b1 opTuple) (sCons (sVar 3) sNil)) [3])) (sSeq (sFldS "Schedule" "prefix_silences" (sVar 0) (sCall (withD [] (pureF Sh.running_sums)) (sCons (sLc false (sIt (sUn (opFld "prefix") (sVar 0))) (gN 3) sYes (sBin opIx (sVar 3) (sC (.int 0))) [3]) sNil))) (sSeq (sFldS "Schedule" "prefix_lengths" (sVar 0) (sCall (withD [] (pureF Sh.running_sums)) (sCons (sLc false (sIt (sUn (opFld "prefix") (sVar 0))) (gN 3) sYes (sBin opIx (sVar 3) (sC (.int 1))) [3]) sNil))) (sSeq (sFldS "Schedule" "cycle_silences" (sVar 0) (sCall (withD [] (pureF Sh.running_sums)) (sCons (sLc false (sIt (sUn (opFld "cycle") (sVar 0))) (gN 3) sYes (sBin opIx (sVar 3) (sC (.int 0))) [3]) sNil))) (sFldS "Schedule" "cycle_lengths" (sVar 0) (sCall (withD [] (pureF Sh.running_sums)) (sCons (sLc false (sIt (sUn (opFld "cycle") (sVar 0))) (gN 3) sYes (sBin opIx (sVar 3) (sC (.int 1))) [3]) sNil))))))))
def Schedule_init : FN := fnOf 4 Schedule_init_b
/-- Schedule.sum_of_first -/
def Schedule_sum_of_first_b : SS := (sSeq (sIfS (sTest (sBin opLe (sVar 1) (sCall bLen (sCons (sUn (opFld "prefix") (sVar 0)) sNil)))) (sRet (sBin opIx (sVar 2) (sVar 1))) sNext) (sSeq (sAsg (gT 2 (gCs (gN 4) (gCs (gN 5) gNl))) (sCall bDivmod (sCons (sBin opSub (sVar 1) (sCall bLen (sCons (sUn (opFld "prefix") (sVar 0)) sNil))) (sCons (sCall bLen (sCons (sUn (opFld "cycle") (sVar 0)) sNil)) sNil)))) (sRet (sBin opAdd (sBin opAdd (sBin opIx (sVar 2) (sUn opNeg (sC (.int 1)))) (sBin opMul (sVar 4) (sBin opIx (sVar 3) (sUn opNeg (sC (.int 1)))))) (sBin opIx (sVar 3) (sVar 5))))))
def Schedule_sum_of_first : FN := fnOf 6 Schedule_sum_of_first_b
/-- Member.__init__ -/
def Member_init_b : SS := (sSeq (sFldS "Member" "name" (sVar 0) (sBin opIx (sVar 1) (sC (.int 0)))) (sSeq (sFldS "Member" "rank" (sVar 0) (sBin opIx (sVar 1) (sC (.int 1)))) (sFldS "Member" "schedule" (sVar 0) (sMakeP "Schedule" Sh.Schedule_init (sCons (sBin opIx (sVar 1) (sC (.int 2))) (sCons (sBin opIx (sVar 1) (sC (.int 3))) sNil))))))
def Member_init : FN := fnOf 2 Member_init_b
/-- checked_hall -/
def checked_hall_b : SS := (sSeq (sIfS (sNot (sTest (sCall (withD [] (pureF Sh.is_hall)) (sCons (sVar 0) sNil)))) (sRaise "InvalidHall") sNext) (sRet (sLc false (sIt (sVar 0)) (gN 1) sYes (sMakeP "Member" Sh.Member_init (sCons (sVar 1) sNil)) [1])))
def checked_hall : FN := fnOf 2 checked_hall_b
/-- Schedule.count_ready -/
def Schedule_count_ready_b : SS := (sSeq (sIfS (sTest (sBin opLt (sVar 1) (sBin opIx (sUn (opFld "prefix_silences") (sVar 0)) (sUn opNeg (sC (.int 1)))))) (sRet (sCall bLen (sCons (sLc false (sIt (sCut false (sUn (opFld "prefix_silences") (sVar 0)) (sPart (sC (.int 1))) sNoPart)) (gN 2) (sTest (sBin opLe (sVar 2) (sVar 1))) (sVar 2) [2]) sNil))) sNext) (sSeq (sAsg (gT 2 (gCs (gN 3) (gCs (gN 4) gNl))) (sCall bDivmod (sCons (sBin opSub (sVar 1) (sBin opIx (sUn (opFld "prefix_silences") (sVar 0)) (sUn opNeg (sC (.int 1))))) (sCons (sBin opIx (sUn (opFld "cycle_silences") (sVar 0)) (sUn opNeg (sC (.int 1)))) sNil)))) (sSeq (sSet 5 (sBin opAdd (sCall bLen (sCons (sUn (opFld "prefix") (sVar 0)) sNil)) (sBin opMul (sVar 3) (sCall bLen (sCons (sUn (opFld "cycle") (sVar 0)) sNil))))) (sRet (sBin opAdd (sVar 5) (sCall bLen (sCons (sLc false (sIt (sCut false (sUn (opFld "cycle_silences") (sVar 0)) (sPart (sC (.int 1))) sNoPart)) (gN 2) (sTest (sBin opLe (sVar 2) (sVar 4))) (sVar 2) [2]) sNil)))))))
def Schedule_count_ready : FN := fnOf 6 Schedule_count_ready_b
/-- Schedule.length_ready -/
def Schedule_length_ready_b : SS := (sRet (sMeth "Schedule" "sum_of_first" (pureF Sh.Schedule_sum_of_first) (sVar 0) (sCons (sMeth "Schedule" "count_ready" (pureF Sh.Schedule_count_ready) (sVar 0) (sCons (sVar 1) sNil)) (sCons (sUn (opFld "prefix_lengths") (sVar 0)) (sCons (sUn (opFld "cycle_lengths") (sVar 0)) sNil)))))
def Schedule_length_ready : FN := fnOf 2 Schedule_length_ready_b
/-- _law_nth -/
def l_nth_b : SS := (sSeq (sPar 2 3 (sCons (sBin opIx (sVar 0) (sC (.int 2))) (sCons (sBin opIx (sVar 0) (sC (.int 3))) sNil))) (sRet (sIf (sTest (sBin opLt (sVar 1) (sCall bLen (sCons (sVar 2) sNil)))) (sBin opIx (sVar 2) (sVar 1)) (sBin opIx (sVar 3) (sBin opMod (sBin opSub (sVar 1) (sCall bLen (sCons (sVar 2) sNil))) (sCall bLen (sCons (sVar 3) sNil)))))))
def l_nth : FN := fnOf 4 l_nth_b
/-- _law_run -/
def l_run_b : SS := (sSeq (sSet 2 (sLc true (sIt (sVar 0)) (gN 3) sYes (sLstO (sCons (sC (.str "silent")) (sCons (sC (.int 0)) (sCons (sCut false (sVar 3) (sPart (sC (.int 2))) (sPart (sC (.int 4)))) (sCons (sC (.int 0)) sNil))))) [3])) (sSeq (sFor (sEnum (sCons (sVar 0) sNil)) (gT 2 (gCs (gN 4) (gCs (gN 3) gNl))) (sIxS (sBin opIx (sVar 2) (sVar 4)) (sC (.int 2)) (sBin opIx (sCall (withD [] (pureF Sh.l_nth)) (sCons (sVar 3) (sCons (sC (.int 0)) sNil))) (sC (.int 0))))) (sSeq (sSet 5 (sLstO sNil)) (sSeq (sFor (sRng1 (sVar 1)) (gN 6) (sSeq (sSet 7 (sCall (b1 opSort3) (sCons (sLc false (sRng1 (sCall bLen (sCons (sVar 0) sNil))) (gN 4) (sTest (sBin (opEq false) (sBin opIx (sBin opIx (sVar 2) (sVar 4)) (sC (.int 0))) (sC (.str "ready")))) (sTup (sCons (sBin opIx (sBin opIx (sVar 0) (sVar 4)) (sC (.int 1))) (sCons (sCall (b1 opInt) (sCons (sBin (opEq false) (sBin opIx (sBin opIx (sVar 2) (sVar 4)) (sC (.int 3))) (sC (.int 0))) sNil)) (sCons (sVar 4) sNil)))) [4]) sNil))) (sSeq (sSet 8 (sIf (sTest (sBin (opNil true) (sVar 7) (sLst sNil))) (sBin opIx (sBin opIx (sVar 7) (sC (.int 0))) (sC (.int 2))) (sC .non))) (sSeq (sSet 9 (sLstO sNil)) (sSeq (sForE (sVar 2) (gT 2 (gCs (gN 4) (gCs (gN 10) gNl))) (sExpr (sMtO gAppend (sVar 9) (sCons (sTup (sCons (sIf (sTest (sBin (opEq false) (sVar 4) (sVar 8))) (sC (.str "speaking")) (sBin opIx (sVar 10) (sC (.int 0)))) (sCons (sBin opIx (sVar 10) (sC (.int 1))) (sCons (sBin opIx (sVar 10) (sC (.int 2))) sNil)))) sNil)))) (sSeq (sExpr (sMtO gAppend (sVar 5) (sCons (sTup (sCons (sIf (sTest (sBin (opIs false) (sVar 8) (sC .non))) (sC .non) (sBin opIx (sBin opIx (sVar 0) (sVar 8)) (sC (.int 0)))) (sCons (sVar 9) sNil))) sNil))) (sFor (sEnum (sCons (sCall (b1 (opList false)) (sCons (sVar 2) sNil)) sNil)) (gT 2 (gCs (gN 4) (gCs (gN 10) gNl))) (sIfS (sTest (sBin (opEq false) (sVar 4) (sVar 8))) (sSeq (sSubL (sVar 10) (sC (.int 2)) (sVar 10) (sC (.int 3)) (sTup (sCons (sBin opSub (sBin opIx (sVar 10) (sC (.int 2))) (sC (.int 1))) (sCons (sBin opAdd (sBin opIx (sVar 10) (sC (.int 3))) (sC (.int 1))) sNil)))) (sIfS (sTest (sBin (opEq false) (sBin opIx (sVar 10) (sC (.int 2))) (sC (.int 0)))) (sIxS (sVar 2) (sVar 4) (sLstO (sCons (sC (.str "silent")) (sCons (sBin opAdd (sBin opIx (sVar 10) (sC (.int 1))) (sC (.int 1))) (sCons (sBin opIx (sCall (withD [] (pureF Sh.l_nth)) (sCons (sBin opIx (sVar 0) (sVar 4)) (sCons (sBin opAdd (sBin opIx (sVar 10) (sC (.int 1))) (sC (.int 1))) sNil))) (sC (.int 0))) (sCons (sC (.int 0)) sNil)))))) sNext)) (sIfS (sAnd (sTest (sBin (opEq false) (sBin opIx (sVar 10) (sC (.int 0))) (sC (.str "silent")))) (sOr (sTest (sBin (opIs false) (sVar 8) (sC .non))) (sTest (sBin opGt (sBin opIx (sBin opIx (sVar 0) (sVar 8)) (sC (.int 1))) (sBin opIx (sBin opIx (sVar 0) (sVar 4)) (sC (.int 1))))))) (sSeq (sIxS (sVar 10) (sC (.int 2)) (sBin opSub (sBin opIx (sVar 10) (sC (.int 2))) (sC (.int 1)))) (sIfS (sTest (sBin (opEq false) (sBin opIx (sVar 10) (sC (.int 2))) (sC (.int 0)))) (sIxS (sVar 2) (sVar 4) (sLstO (sCons (sC (.str "ready")) (sCons (sBin opIx (sVar 10) (sC (.int 1))) (sCons (sBin opIx (sCall (withD [] (pureF Sh.l_nth)) (sCons (sBin opIx (sVar 0) (sVar 4)) (sCons (sBin opIx (sVar 10) (sC (.int 1))) sNil))) (sC (.int 1))) (sCons (sC (.int 0)) sNil)))))) sNext)) sNext))))))))) (sRet (sVar 5))))))
def l_run : FN := fnOf 11 l_run_b
/-- _law_scaled -/
def l_scaled_b : SS := (sSeq (sSet 2 (sLstO sNil)) (sSeq (sFor (sIt (sVar 0)) (gT 4 (gCs (gN 3) (gCs (gN 4) (gCs (gN 5) (gCs (gN 6) gNl))))) (sSeq (sSet 7 (sLc false (sIt (sLst (sCons (sVar 5) (sCons (sVar 6) sNil)))) (gN 10) sYes (sLc false (sIt (sVar 10)) (gT 2 (gCs (gN 8) (gCs (gN 9) gNl))) sYes (sTup (sCons (sBin opMul (sVar 8) (sVar 1)) (sCons (sBin opMul (sVar 9) (sVar 1)) sNil))) [8, 9]) [10])) (sExpr (sMtO gAppend (sVar 2) (sCons (sTup (sCons (sVar 3) (sCons (sVar 4) (sCons (sBin opIx (sVar 7) (sC (.int 0))) (sCons (sBin opIx (sVar 7) (sC (.int 1))) sNil))))) sNil))))) (sRet (frzE (sVar 2)))))
def l_scaled : FN := fnOf 11 l_scaled_b
/-- check_rank -/
def check_rank_b : SS := (sIfS (sNot (sTest (sCall (withD [] (pureF Sh.is_integer)) (sCons (sVar 0) (sCons (sC (.int 1)) (sCons (sC (.int (10))) sNil)))))) (sRaise "InvalidRank") sNext)
def check_rank : FN := fnOf 1 check_rank_b
/-- check_tick -/
def check_tick_b : SS := (sIfS (sNot (sTest (sCall (withD [.non] (pureF Sh.is_integer)) (sCons (sVar 0) (sCons (sC (.int 0)) sNil))))) (sRaise "InvalidTick") sNext)
def check_tick : FN := fnOf 1 check_tick_b
/-- rank_length -/
def rank_length_b : SS := (sRet (sCall (b1 opSum) (sCons (sLc false (sIt (sVar 0)) (gN 3) (sTest (sBin (opEq false) (sUn (opFld "rank") (sVar 3)) (sVar 1))) (sMeth "Schedule" "length_ready" (pureF Sh.Schedule_length_ready) (sUn (opFld "schedule") (sVar 3)) (sCons (sVar 2) sNil)) [3]) sNil)))
def rank_length : FN := fnOf 4 rank_length_b
/-- left_index -/
def left_index_b : SS := (sRet (sBin opAdd (sVar 2) (sCall (withD [] (pureF Sh.rank_length)) (sCons (sVar 0) (sCons (sVar 1) (sCons (sVar 2) sNil))))))
def left_index : FN := fnOf 3 left_index_b
/-- quiet_among -/
def quiet_among_b : SS := (sSeq (sPar 3 4 (sCons (sC (.int 0)) (sCons (sVar 2) sNil))) (sSeq (sWhile (sTest (sBin opLt (sVar 3) (sVar 4))) (sSeq (sSet 5 (sBin opDiv (sBin opAdd (sVar 3) (sVar 4)) (sC (.int 2)))) (sIfS (sTest (sBin opLt (sCall (withD [] (pureF Sh.left_index)) (sCons (sVar 0) (sCons (sVar 1) (sCons (sVar 5) sNil)))) (sVar 2))) (sSet 3 (sBin opAdd (sVar 5) (sC (.int 1)))) (sSet 4 (sVar 5))))) (sRet (sVar 3))))
def quiet_among : FN := fnOf 6 quiet_among_b
/-- left_among -/
def left_among_b : SS := (sSeq (sSet 3 (sVar 2)) (sSeq (sFor (sRng2 (sC (.int 1)) (sVar 1)) (gN 4) (sSet 3 (sCall (withD [] (pureF Sh.quiet_among)) (sCons (sVar 0) (sCons (sVar 4) (sCons (sVar 3) sNil)))))) (sRet (sVar 3))))
def left_among : FN := fnOf 5 left_among_b
/-- checked -/
def checked_b : SS := (sSeq (sSet 2 (sCall (withD [] (pureF Sh.checked_hall)) (sCons (sVar 0) sNil))) (sSeq (sExpr (sCall (withD [] (pureF Sh.check_rank)) (sCons (sVar 1) sNil))) (sRet (sVar 2))))
def checked : FN := fnOf 3 checked_b
/-- left_before -/
def left_before_b : SS := (sSeq (sSet 3 (sCall (withD [] (pureF Sh.checked)) (sCons (sVar 0) (sCons (sVar 1) sNil)))) (sSeq (sExpr (sCall (withD [] (pureF Sh.check_tick)) (sCons (sVar 2) sNil))) (sRet (sCall (withD [] (pureF Sh.left_among)) (sCons (sVar 3) (sCons (sVar 1) (sCons (sVar 2) sNil)))))))
def left_before : FN := fnOf 4 left_before_b
/-- quiet_before -/
def quiet_before_b : SS := (sSeq (sSet 3 (sCall (withD [] (pureF Sh.checked)) (sCons (sVar 0) (sCons (sVar 1) sNil)))) (sSeq (sExpr (sCall (withD [] (pureF Sh.check_tick)) (sCons (sVar 2) sNil))) (sRet (sCall (withD [] (pureF Sh.quiet_among)) (sCons (sVar 3) (sCons (sVar 1) (sCons (sCall (withD [] (pureF Sh.left_among)) (sCons (sVar 3) (sCons (sVar 1) (sCons (sVar 2) sNil)))) sNil)))))))
def quiet_before : FN := fnOf 4 quiet_before_b
/-- _law_key -/
def l_key_b : SS := (sSeq (sSet 2 (sLstO sNil)) (sSeq (sFor (sZip (sCons (sVar 0) (sCons (sVar 1) sNil))) (gT 2 (gCs (gN 3) (gCs (gN 4) gNl))) (sSeq (sSet 5 (sBin opSub (sBin opIx (sVar 4) (sC (.int 1))) (sCall bLen (sCons (sBin opIx (sVar 3) (sC (.int 2))) sNil)))) (sExpr (sMtO gAppend (sVar 2) (sCons (sTup (sCons (sBin opIx (sVar 4) (sC (.int 0))) (sCons (sIf (sTest (sBin opLt (sVar 5) (sC (.int 0)))) (sVar 5) (sBin opMod (sVar 5) (sCall bLen (sCons (sBin opIx (sVar 3) (sC (.int 3))) sNil)))) (sCons (sBin opIx (sVar 4) (sC (.int 2))) sNil)))) sNil))))) (sRet (frzE (sVar 2)))))
def l_key : FN := fnOf 6 l_key_b
/-- _law_period -/
def l_period_b : SS := (sSeq (sSet 2 (sCall (withD [] (lendZ Sh.l_run)) (sCons (sVar 0) (sCons (sVar 1) sNil)))) (sSeq (sFor (sRngP (sCons (sC (.int 0)) (sCons (sBin opDiv (sVar 1) (sC (.int 2))) (sCons (sC (.int 10)) sNil)))) (gN 3) (sSeq (sSet 4 (sCall (withD [] (pureF Sh.l_key)) (sCons (sVar 0) (sCons (sBin opIx (sBin opIx (sVar 2) (sVar 3)) (sC (.int 1))) sNil)))) (sIfS (sTest (sBin (opNil false) (sLc false (sIt (sVar 4)) (gN 5) (sTest (sBin opLt (sBin opIx (sVar 5) (sC (.int 1))) (sC (.int 0)))) (sC (.int 1)) [5]) (sLst sNil))) (sSeq (sSet 6 (sLc false (sRng2 (sBin opAdd (sVar 3) (sC (.int 1))) (sVar 1)) (gN 7) (sTest (sBin (opEq false) (sBin opIx (sBin opIx (sVar 2) (sVar 7)) (sC (.int 0))) (sBin opIx (sBin opIx (sVar 2) (sVar 3)) (sC (.int 0))))) (sVar 7) [7])) (sSeq (sSet 6 (sLc false (sIt (sVar 6)) (gN 7) (sTest (sBin (opEq false) (sCall (withD [] (pureF Sh.l_key)) (sCons (sVar 0) (sCons (sBin opIx (sBin opIx (sVar 2) (sVar 7)) (sC (.int 1))) sNil))) (sVar 4))) (sVar 7) [7])) (sRet (sIf (sTest (sBin (opNil true) (sVar 6) (sLst sNil))) (sLst (sCons (sVar 2) (sCons (sVar 3) (sCons (sBin opSub (sBin opIx (sVar 6) (sC (.int 0))) (sVar 3)) sNil)))) (sC .non))))) sNext))) (sRet (sC .non))))
def l_period : FN := fnOf 8 l_period_b
/-- _law_counts -/
def l_counts_b : SS := (sSeq (sSet 4 (sCall (b1 opDictP) (sCons (sLc false (sIt (sVar 0)) (gN 5) sYes (sTup (sCons (sBin opIx (sVar 5) (sC (.int 0))) (sCons (sBin opIx (sVar 5) (sC (.int 1))) sNil))) [5]) sNil))) (sSeq (sSet 6 (sLc false (sIt (sCut false (sVar 2) sNoPart (sPart (sVar 3)))) (gN 7) sYes (sGet2 (sVar 4) (sBin opIx (sVar 7) (sC (.int 0))) (sC (.int 11))) [7])) (sRet (sLst (sCons (sCall bLen (sCons (sLc false (sIt (sVar 6)) (gN 8) (sTest (sBin opGe (sVar 8) (sVar 1))) (sVar 8) [8]) sNil)) (sCons (sCall bLen (sCons (sLc false (sIt (sVar 6)) (gN 8) (sTest (sBin opGt (sVar 8) (sVar 1))) (sVar 8) [8]) sNil)) sNil))))))
def l_counts : FN := fnOf 9 l_counts_b
/-- _law_far_counts -/
def l_far_counts_b : SS := (sSeq (sAsg (gT 3 (gCs (gN 4) (gCs (gN 5) (gCs (gN 6) gNl)))) (sVar 2)) (sSeq (sSet 7 (sBin opDiv (sCall bMax (sCons (sC (.int 0)) (sCons (sBin opSub (sVar 3) (sVar 5)) sNil))) (sVar 6))) (sSeq (sSet 8 (sCall (withD [] (pureF Sh.l_counts)) (sCons (sVar 0) (sCons (sVar 1) (sCons (sVar 4) (sCons (sBin opSub (sVar 3) (sBin opMul (sVar 7) (sVar 6))) sNil)))))) (sSeq (sSet 9 (sCall (withD [] (pureF Sh.l_counts)) (sCons (sVar 0) (sCons (sVar 1) (sCons (sVar 4) (sCons (sBin opAdd (sVar 5) (sVar 6)) sNil)))))) (sSeq (sSet 10 (sCall (withD [] (pureF Sh.l_counts)) (sCons (sVar 0) (sCons (sVar 1) (sCons (sVar 4) (sCons (sVar 5) sNil)))))) (sRet (sLc false (sRng1 (sC (.int 2))) (gN 11) sYes (sBin opAdd (sBin opIx (sVar 8) (sVar 11)) (sBin opMul (sVar 7) (sBin opSub (sBin opIx (sVar 9) (sVar 11)) (sBin opIx (sVar 10) (sVar 11))))) [11])))))))
def l_far_counts : FN := fnOf 12 l_far_counts_b
/-- _law_right -/
def l_right_4_b : SS := (sSeq (sSet 4 (sCall (withD [] Sh.l_draw) (sCons (sVar 0) (sCons (sBin opIx (sLst (sCons (sC (.int 400)) (sCons (sBin opPow (sC (.int 10)) (sC (.int 18))) (sCons (sBin opPow (sC (.int 10)) (sC (.int 38))) sNil)))) (sCall (withD [] Sh.l_draw) (sCons (sVar 0) (sCons (sC (.int 3)) sNil)))) sNil)))) (sSeq (sIfS (sTest (sBin (opEq true) (sLst (sCons (sCall (withD [] (noXF (pureF Sh.left_before))) (sCons (sVar 1) (sCons (sVar 2) (sCons (sVar 4) sNil)))) (sCons (sCall (withD [] (noXF (pureF Sh.quiet_before))) (sCons (sVar 1) (sCons (sVar 2) (sCons (sVar 4) sNil)))) sNil))) (sCall (withD [] (pureF Sh.l_far_counts)) (sCons (sVar 1) (sCons (sVar 2) (sCons (sVar 3) (sCons (sVar 4) sNil))))))) (sRet (sC (.bl false))) sNext) (sSeq (sSet 5 (sBin opAdd (sC (.int 1)) (sCall (withD [] Sh.l_draw) (sCons (sVar 0) (sCons (sBin opPow (sC (.int 10)) (sC (.int 20))) sNil))))) (sSeq (sSet 6 (sCall (withD [] Sh.l_draw) (sCons (sVar 0) (sCons (sVar 5) sNil)))) (sSeq (sSet 4 (sBin opMod (sVar 4) (sBin opPow (sC (.int 10)) (sC (.int 18))))) (sSeq (sAsg (gT 2 (gCs (gN 7) (gCs (gN 8) gNl))) (sTup (sCons (sCall (withD [] (pureF Sh.l_far_counts)) (sCons (sVar 1) (sCons (sVar 2) (sCons (sVar 3) (sCons (sVar 4) sNil))))) (sCons (sCall (withD [] (pureF Sh.l_far_counts)) (sCons (sVar 1) (sCons (sVar 2) (sCons (sVar 3) (sCons (sBin opAdd (sVar 4) (sC (.int 1))) sNil))))) sNil)))) (sSeq (sSet 9 (sLc false (sRng1 (sC (.int 2))) (gN 10) sYes (sBin opAdd (sBin opMul (sBin opIx (sVar 7) (sVar 10)) (sVar 5)) (sBin opMul (sVar 6) (sBin opSub (sBin opIx (sVar 8) (sVar 10)) (sBin opIx (sVar 7) (sVar 10))))) [10])) (sSeq (sSet 11 (sCall (withD [] (pureF Sh.l_scaled)) (sCons (sVar 1) (sCons (sVar 5) sNil)))) (sSeq (sSet 12 (sBin opAdd (sBin opMul (sVar 4) (sVar 5)) (sVar 6))) (sRet (sBin (opEq false) (sLst (sCons (sCall (withD [] (noXF (pureF Sh.left_before))) (sCons (sVar 11) (sCons (sVar 2) (sCons (sVar 12) sNil)))) (sCons (sCall (withD [] (noXF (pureF Sh.quiet_before))) (sCons (sVar 11) (sCons (sVar 2) (sCons (sVar 12) sNil)))) sNil))) (sVar 9))))))))))))
def l_right_4 : FN := fnOf 13 l_right_4_b
/-- law -/
def law_k12_b : SS := (sSeq (sSet 1 (sCall (withD [] Sh.l_spring) (sCons (sVar 0) sNil))) (sSeq (sFor (sRng1 (sBin opAdd (sC (.int 2)) (sCall bMin (sCons (sCall bLen (sCons (sVar 0) sNil)) (sCons (sC (.int 5)) sNil))))) (gN 2) (sSeq (sSet 3 (sCall (withD [] Sh.l_hall) (sCons (sVar 1) (sCons (sC (.int 3)) (sCons (sBin opIx (sLst (sCons (sC (.int 2)) (sCons (sC (.int 3)) sNil))) (sCall (withD [] Sh.l_draw) (sCons (sVar 1) (sCons (sC (.int 2)) sNil)))) sNil))))) (sSeq (sSet 4 (sCall (withD [] (pureF Sh.l_period)) (sCons (sVar 3) (sCons (sC (.int 300)) sNil)))) (sIfS (sTest (sBin (opIs true) (sVar 4) (sC .non))) (sFor (sIt (sBin opAdd (sLst (sCons (sC (.int 1)) (sCons (sC (.int 10)) (sCons (sBin opAdd (sC (.int 1)) (sCall (withD [] Sh.l_draw) (sCons (sVar 1) (sCons (sC (.int 10)) sNil)))) sNil)))) (sLc false (sIt (sVar 3)) (gN 6) sYes (sBin opIx (sVar 6) (sC (.int 1))) [6]))) (gN 5) (sIfS (sNot (sTest (sCall (withD [] Sh.l_right_4) (sCons (sVar 1) (sCons (sVar 3) (sCons (sVar 5) (sCons (sVar 4) sNil))))))) (sRet (sC (.bl false))) sNext)) sNext)))) (sRet (sC (.bl true)))))
def law_k12 : FN := fnOf 7 law_k12_b
end Sh
end HR
set_option Elab.async false
set_option linter.all false
set_option maxRecDepth 20000
namespace HR
open PySem L2
/-! ### the spring: draw -/
/-- the spring at i -/
def Spr (h : OH) (i : Nat) : Prop := ∃ a b c : Int, h[i]? = some (.lst [.int a, .int b, .int c]) ∧ 0 ≤ b ∧ b < 2305843009213693951
/-- nothing but i is changed; the heap may have grown -/
def Chg (i : Nat) (h h' : OH) : Prop := h.length ≤ h'.length ∧ ∀ j, j < h.length → j ≠ i → h'[j]? = h[j]?
theorem Chg.refl (i : Nat) (h : OH) : Chg i h h := ⟨Nat.le_refl _, fun _ _ _ => rfl⟩
theorem Chg.trans {i : Nat} {h1 h2 h3 : OH} (a : Chg i h1 h2) (b : Chg i h2 h3) : Chg i h1 h3 := ⟨Nat.le_trans a.1 b.1, fun j hj n => (b.2 j (Nat.lt_of_lt_of_le hj a.1) n).trans (a.2 j hj n)⟩
theorem Chg.set (i : Nat) (h : OH) (o : OO) : Chg i h (h.set i o) := ⟨by simp, fun j hj n => by rw [List.getElem?_set_ne (Ne.symm n)]⟩
theorem Chg.get {i : Nat} {h h' : OH} (c : Chg i h h') {j : Nat} {o : OO} (e : h[j]? = some o) (n : j ≠ i) : h'[j]? = some o := (c.2 j (List.getElem?_eq_some_iff.mp e).1 n).trans e
theorem Chg.app (i : Nat) (h t : OH) : Chg i h (h ++ t) := ⟨by simp, fun j hj _ => List.getElem?_append_left hj⟩
/-- an object made since is changed -/
theorem Chg.setNew {i : Nat} {h h' : OH} (c : Chg i h h') {j : Nat} (hj : h.length ≤ j) (o : OO) : Chg i h (h'.set j o) := ⟨by simpa using c.1, fun k hk n => by rw [List.getElem?_set_ne (by omega)]; exact c.2 k hk n⟩
theorem Spr.lt {h : OH} {i : Nat} (s : Spr h i) : i < h.length := by
  obtain ⟨a, b, c, e, _⟩ := s
  exact (List.getElem?_eq_some_iff.mp e).1
theorem Spr.app {h : OH} {i : Nat} (s : Spr h i) (t : OH) : Spr (h ++ t) i := by
  have := s.lt
  obtain ⟨a, b, c, e, r⟩ := s
  exact ⟨a, b, c, by rw [List.getElem?_append_left this]; exact e, r⟩
theorem Spr.set {h : OH} {i j : Nat} (s : Spr h i) (n : j ≠ i) (o : OO) : Spr (h.set j o) i := by
  obtain ⟨a, b, c, e, r⟩ := s
  exact ⟨a, b, c, by rw [List.getElem?_set_ne n]; exact e, r⟩
theorem draw_ok {h : OH} {i : Nat} {n : Int} (hs : Spr h i) (hn : 0 < n) (hn2 : Small n) {P : D → OH → Prop} (q : ∀ v h', 0 ≤ v → v < n → Spr h' i → Chg i h h' → P (.int v) h') : (Sh.l_draw [.ref i, .int n] h).W P := by
  have hi := hs.lt
  obtain ⟨a, b, c, e, b0, b1⟩ := hs
  unfold Sh.l_draw
  rw [W_fn]
  unfold Sh.l_draw_b
  have hd := divOk_small (i := a) hn2 hn
  have k1 : ∀ x : Int, 0 ≤ x % n := fun x => Int.emod_nonneg _ (by omega)
  have k2 : ∀ x : Int, x % n < n := fun x => Int.emod_lt_of_pos _ hn
  have hdv : ∀ x : Int, divOk x 65537 = true := fun x => divOk_small (small_64 (by decide)) (by decide)
  have m1 : mulOk b b = true := mulOk_l (by omega)
  have m2 : mulOk 7919 (c + 1) = true := mulOk_l (by decide)
  have m3 : mulOk (7919 * (c + 1)) b = true := mulOk_r (by omega)
  have hset : ∀ o : OO, (h.set i o)[i]? = some o := fun o => by simp [hi]
  by_cases ha : 0 < a
  · simp [e, ha, hd, hn, hset]
    exact q _ _ (k1 _) (k2 _) ⟨_, _, _, hset _, b0, b1⟩ (Chg.set ..)
  · simp [e, ha, hn, hset, hdv, m1, m2, m3]
    exact q _ _ (k1 _) (k2 _) ⟨_, _, _, hset _, Int.emod_nonneg _ (by decide), Int.emod_lt_of_pos _ (by decide)⟩ (Chg.set ..)
theorem mulOk_pow {i j : Int} (k l : Nat) (a : i.natAbs < 2 ^ k) (b : j.natAbs < 2 ^ l) (hk : 0 < k) (hl : 0 < l) (h : k + l ≤ 900000) : mulOk i j = true := by
  have h1 := log2_small a hk
  have h2 := log2_small b hl
  simp only [mulOk, Bool.or_eq_true, decide_eq_true_eq]
  omega
theorem spring_ok (ns : List Int) (h : OH) {P : D → OH → Prop} (q : ∀ o, Spr (h ++ [o]) h.length → P (.ref h.length) (h ++ [o])) : (Sh.l_spring [.scr (ns.map D.int)] h).W P := by
  unfold Sh.l_spring
  rw [W_fn]
  unfold Sh.l_spring_b
  simp [cutD_take]
  rw [← List.map_take]
  refine W_forL (fun k e h' => h' = h ∧ ∃ (d s : Int) (c : Option D), e = [some (.scr (ns.map D.int)), some (.int d), some (.int s), c] ∧ 0 ≤ d ∧ d < (2 ^ (200 * k + 1) : Nat) ∧ 0 ≤ s ∧ s < 2305843009213693951) _ _ _ ⟨rfl, 0, 88651, none, rfl, by decide, by decide, by decide, by decide⟩ (fun k d hd e h' hI => ?_) (fun e h' hI => ?_)
  · obtain ⟨rfl, d0, s, c, rfl, d1, d2, s1, s2⟩ := hI
    rw [List.getElem?_map, Option.map_eq_some_iff] at hd
    obtain ⟨x, hx, rfl⟩ := hd
    have hk := (List.getElem?_eq_some_iff.mp hx).1
    rw [List.length_take] at hk
    refine ⟨_, rfl, ?_⟩
    have m1 : mulOk s 69069 = true := mulOk_r (by decide)
    have m2 : mulOk d0 (10 ^ 60) = true := mulOk_pow (200 * k + 1) 200 (by omega) (by decide) (by omega) (by decide) (by omega)
    have e0 : (10 : Int) ^ 60 = 1000000000000000000000000000000000000000000000000000000000000 := by decide
    rw [e0] at m2
    have hp : (2 : Nat) ^ (200 * (k + 1) + 1) = 2 ^ (200 * k + 1) * 2 ^ 200 := by rw [← Nat.pow_add]; congr 1
    have hp0 : 0 < (2 : Nat) ^ (200 * k + 1) := Nat.pow_pos (by decide)
    have hm : (2 : Nat) ^ (200 * k + 1) ≤ 2 ^ (200 * (k + 1) + 1) := Nat.pow_le_pow_right (by decide) (by omega)
    have s3 : ∀ y : Int, 0 ≤ y % 2305843009213693951 ∧ y % 2305843009213693951 < 2305843009213693951 := fun y => ⟨Int.emod_nonneg _ (by decide), Int.emod_lt_of_pos _ (by decide)⟩
    generalize (2 : Nat) ^ (200 * (k + 1) + 1) = B at hp hm ⊢
    simp only [show (2:Nat)^200 = 1606938044258990275541962092341162602522202993782792835301376 from by decide] at hp
    generalize (2 : Nat) ^ (200 * k + 1) = B0 at hp hm hp0 d2
    simp [m1, m2, s3]
    have big1 : ∀ y : Int, 0 ≤ d0 * 1000000000000000000000000000000000000000000000000000000000000 + y % 1000000000000000000000000000000000000000000000000000000000000 ∧ d0 * 1000000000000000000000000000000000000000000000000000000000000 + y % 1000000000000000000000000000000000000000000000000000000000000 < B := fun y => by omega
    have e2 : d0 < B := by omega
    split <;> split <;> exact ⟨_, _, ⟨rfl, rfl⟩, by first | exact d1 | exact (big1 _).1, by first | exact e2 | exact (big1 _).2, (s3 _).1, (s3 _).2⟩
  · obtain ⟨rfl, d0, s, c, rfl, d1, d2, s1, s2⟩ := hI
    simp
    exact q (.lst [.int d0, .int s, .int 0]) ⟨d0, s, 0, by simp, s1, s2⟩
end HR
set_option Elab.async false
set_option linter.all false
set_option maxRecDepth 20000
namespace HR
open PySem L2
/-! ### halls: the talks, the talkers -/
def dT (p : Int × Int) : D := .tup [.int p.1, .int p.2]
structure Tk where
  name : Str
  rank : Int
  pre : List (Int × Int)
  cyc : List (Int × Int)
def dTk (t : Tk) : D := .tup [.str t.name, .int t.rank, .lst (t.pre.map dT), .lst (t.cyc.map dT)]
def In1 (m : Int) (p : Int × Int) : Prop := 1 ≤ p.1 ∧ p.1 ≤ m ∧ 1 ≤ p.2 ∧ p.2 ≤ m
theorem talks_ok {h : OH} {i : Nat} {least more longest : Int} (hs : Spr h i) (hl : 0 ≤ least) (hl2 : least ≤ 100) (hm : 0 < more) (hm2 : more ≤ 100) (hg : 0 < longest) (hg2 : Small longest) {P : D → OH → Prop}
    (q : ∀ (ts : List (Int × Int)) h', Spr h' i → Chg i h h' → least ≤ ts.length → ts.length < least + more → (∀ p ∈ ts, In1 longest p) → P (.lst (ts.map dT)) h') : (Sh.l_talks [.ref i, .int least, .int more, .int longest] h).W P := by
  unfold Sh.l_talks
  rw [W_fn]
  unfold Sh.l_talks_b
  simp
  refine draw_ok hs hm (small_64 (by omega)) fun v h1 v0 v1 s1 c1 => ?_
  have r : rngOk (least + v) = true := by simp [rngOk]; omega
  simp [r]
  refine W_lcGo (fun k acc h' => Spr h' i ∧ Chg i h h' ∧ ∃ ts : List (Int × Int), acc = ts.map dT ∧ ts.length = k ∧ ∀ p ∈ ts, In1 longest p) _ _ _ ⟨s1, c1, [], rfl, rfl, by simp⟩ (fun k d hd acc h' hI => ?_) (fun acc h' hI => ?_)
  · obtain ⟨s2, c2, ts, rfl, hk, ht⟩ := hI
    obtain ⟨hk2, rfl⟩ := rngD_at hd
    refine ⟨_, rfl, ?_⟩
    simp [wipeD]
    refine draw_ok s2 hg hg2 fun a h2 a0 a1 s3 c3 => ?_
    simp
    refine draw_ok s3 hg hg2 fun b h3 b0 b1 s4 c4 => ?_
    simp
    refine ⟨by omega, s4, c2.trans (c3.trans c4), ts ++ [(1 + a, 1 + b)], by simp [dT], by simp [hk], fun p hp hq => ?_⟩
    rcases List.mem_append.mp hq with hq | hq
    · exact ht (p, hp) hq
    · simp only [List.mem_singleton, Prod.mk.injEq] at hq
      obtain ⟨rfl, rfl⟩ := hq
      refine ⟨?_, ?_, ?_, ?_⟩ <;> dsimp only <;> omega
  · obtain ⟨s2, c2, ts, rfl, hk, ht⟩ := hI
    rw [rngD_len] at hk
    exact q ts h' s2 c2 (by omega) (by omega) ht
theorem pickI {ns : List Int} {v : Int} {P : D → Prop} (h0 : 0 ≤ v) (h1 : v < ns.length) (q : ∀ n ∈ ns, P (.int n)) : lkS (atI (ns.map D.int) v) P := by
  have hl : v.toNat < ns.length := by omega
  refine lkS_of (x := .int ns[v.toNat]) ?_ (q _ (List.getElem_mem hl))
  rw [atI_z h0 (by simpa using h1)]
  simp [hl]
def WfN (x : Str) : Prop := 1 ≤ x.length ∧ x.length ≤ 8 ∧ ∀ c ∈ x.cps.toList, c ∈ ("abcdefghijklmnopqrstuvwxyz" : Str).cps.toList
structure WfTk (m : Int) (t : Tk) : Prop where
  name : WfN t.name
  r1 : 1 ≤ t.rank
  r2 : t.rank ≤ 10
  lp : t.pre.length ≤ 8
  lc1 : 1 ≤ t.cyc.length
  lc : t.cyc.length ≤ 8
  pre : ∀ p ∈ t.pre, In1 m p
  cyc : ∀ p ∈ t.cyc, In1 m p
structure WfHall (m : Int) (ts : List Tk) : Prop where
  len : ts.length ≤ 10
  tk : ∀ t ∈ ts, WfTk m t
  nd : (ts.map (·.name)).Nodup
def NAMES : List Str := ["a", "b", "abcdefgh", "zz", "m", "ba", "q", "xyz", "cc", "p"]
theorem names_wf : ∀ x ∈ NAMES, WfN x := by unfold WfN; decide +kernel
theorem names_nd : NAMES.Nodup := by decide +kernel
theorem eraseIdx_mapF {α β : Type} (f : α → β) : ∀ (l : List α) (n : Nat), (l.map f).eraseIdx n = (l.eraseIdx n).map f
  | [], _ => rfl
  | _ :: _, 0 => rfl
  | x :: l, n + 1 => by simp [eraseIdx_mapF f l n]
theorem eraseIdx_permF {α : Type} : ∀ (l : List α) (n : Nat) (h : n < l.length), (l[n] :: l.eraseIdx n).Perm l
  | [], _, h => absurd h (Nat.not_lt_zero _)
  | x :: l, 0, _ => List.Perm.refl _
  | x :: l, n + 1, h => (List.Perm.swap x _ _).trans ((eraseIdx_permF l n (Nat.lt_of_succ_lt_succ h)).cons x)
theorem hall_ok {h : OH} {i : Nat} {talkers longest : Int} (hs : Spr h i) (ht0 : 0 ≤ talkers) (ht1 : talkers ≤ 10) (hg : 0 < longest) (hg2 : Small longest) {P : D → OH → Prop}
    (q : ∀ (ts : List Tk) h', Spr h' i → Chg i h h' → ts.length ≤ talkers → WfHall longest ts → P (.lst (ts.map dTk)) h') : (Sh.l_hall [.ref i, .int talkers, .int longest] h).W P := by
  have hi := hs.lt
  unfold Sh.l_hall
  rw [W_fn]
  unfold Sh.l_hall_b
  try simp
  refine draw_ok (hs.app _) (by decide) (small_64 (by decide)) fun v h1 v0 v1 s1 c1 => ?_
  try simp
  refine pickI (ns := [1, 3, 10]) v0 v1 fun ranks hr => ?_
  have hr' : 1 ≤ ranks ∧ ranks ≤ 10 := by simp at hr; omega
  try simp
  have hl1 : h.length + 1 ≤ h1.length := by simpa using c1.1
  refine draw_ok (s1.app _) (by omega) (small_64 (by omega)) fun w h2 w0 w1 s2 c2 => ?_
  have r : rngOk w = true := by simp [rngOk]; omega
  simp [r]
  have hl2 : h1.length + 1 ≤ h2.length := by simpa using c2.1
  have hn1 : h1[h.length]? = some (.lst (NAMES.map D.str)) := c1.get (by simp; rfl) (by omega)
  have hn2 : h2[h.length]? = some (.lst (NAMES.map D.str)) := c2.get (by rw [List.getElem?_append_left (by omega)]; exact hn1) (by omega)
  have hf2 : h2[h1.length]? = some (.lst []) := c2.get (by simp) (by omega)
  have hc2 : Chg i h h2 := (Chg.app i h _).trans (c1.trans ((Chg.app i h1 _).trans c2))
  refine W_forL (fun k e h' => Spr h' i ∧ Chg i h h' ∧ ∃ (ts : List Tk) (ns : List Str) (a b c d : Option D), e = [some (.ref i), some (.int talkers), some (.int longest), some (.ref h.length), some (.int ranks), some (.ref h1.length), a, b, c, d] ∧
      h'[h.length]? = some (.lst (ns.map D.str)) ∧ h'[h1.length]? = some (.lst (ts.map dTk)) ∧ ts.length = k ∧ ns.length + k = 10 ∧ (ts.map (·.name) ++ ns).Perm NAMES ∧ ∀ t ∈ ts, WfTk longest t) _ _ _
    ⟨s2, hc2, [], NAMES, none, none, none, none, rfl, hn2, hf2, rfl, rfl, List.Perm.refl _, by simp⟩ (fun k d hd e h' hI => ?_) (fun e h' hI => ?_)
  · obtain ⟨s, c, ts, ns, ea, eb, ec, ed, rfl, g1, g2, hk, hns, hp, hw⟩ := hI
    obtain ⟨hk2, rfl⟩ := rngD_at hd
    have hk3 : k < 10 := by omega
    refine ⟨_, rfl, ?_⟩
    simp [g1]
    refine draw_ok s (by omega) (small_64 (by omega)) fun p h3 p0 p1 s3 c3 => ?_
    have g3 := c3.get g1 (by omega)
    simp [g3]
    have hpl : p.toNat < ns.length := by omega
    refine W_popAt p0 (y := .str ns[p.toNat]) (by simp [hpl]) (by omega) ?_
    have s3' := s3.set (j := h.length) (by omega) (.lst ((ns.map D.str).eraseIdx p.toNat))
    have c3' := (c.trans c3).setNew (j := h.length) (Nat.le_refl _) (.lst ((ns.map D.str).eraseIdx p.toNat))
    have f3 : (h3.set h.length (.lst ((ns.map D.str).eraseIdx p.toNat)))[h1.length]? = some (.lst (ts.map dTk)) := by rw [List.getElem?_set_ne (by omega)]; exact c3.get g2 (by omega)
    have n3 : (h3.set h.length (.lst ((ns.map D.str).eraseIdx p.toNat)))[h.length]? = some (.lst ((ns.eraseIdx p.toNat).map D.str)) := by
      rw [List.getElem?_set_self (List.getElem?_eq_some_iff.mp g3).1, eraseIdx_mapF]
    generalize h3.set h.length (.lst ((ns.map D.str).eraseIdx p.toNat)) = h4 at s3' c3' f3 n3 ⊢
    try simp
    refine draw_ok s3' (by decide) (small_64 (by decide)) fun a h5 a0 a1 s5 c5 => ?_
    try simp
    refine pickI (ns := [1, 1, 4, 9]) a0 a1 fun more hm => ?_
    have hm' : 1 ≤ more ∧ more ≤ 9 := by simp at hm; omega
    try simp
    refine talks_ok s5 (by decide) (by decide) (by omega) (by omega) hg hg2 fun pre h6 s6 c6 l6 l6' w6 => ?_
    try simp
    refine draw_ok s6 (by decide) (small_64 (by decide)) fun a h7 a0 a1 s7 c7 => ?_
    try simp
    refine pickI (ns := [1, 3, 8]) a0 a1 fun more2 hm2 => ?_
    have hm2' : 1 ≤ more2 ∧ more2 ≤ 8 := by simp at hm2; omega
    try simp
    refine talks_ok s7 (by decide) (by decide) (by omega) (by omega) hg hg2 fun cyc h8 s8 c8 l8 l8' w8 => ?_
    have cc := c5.trans (c6.trans (c7.trans c8))
    have f8 := cc.get f3 (by omega)
    have n8 := cc.get n3 (by omega)
    simp [f8]
    refine draw_ok s8 (by omega) (small_64 (by omega)) fun rk h9 rk0 rk1 s9 c9 => ?_
    have f9 := c9.get f8 (by omega)
    have n9 := c9.get n8 (by omega)
    have hx : ns[p.toNat] ∈ NAMES := hp.mem_iff.mp (List.mem_append_right _ (List.getElem_mem hpl))
    simp [f9]
    refine ⟨by omega, s9.set (by omega) _, (c3'.trans (cc.trans c9)).setNew (by omega) _, ts ++ [⟨ns[p.toNat], 1 + rk, pre, cyc⟩], ns.eraseIdx p.toNat, ?_, ?_, by simp [hk], ?_, ?_, ?_⟩
    · rw [List.getElem?_set_ne (by omega)]; exact n9
    · rw [List.getElem?_set_self (List.getElem?_eq_some_iff.mp f9).1]; simp [dTk]
    · rw [List.length_eraseIdx, if_pos hpl]; omega
    · refine List.Perm.trans ?_ hp
      simp only [List.map_append, List.map_cons, List.map_nil, List.append_assoc, List.singleton_append]
      exact List.Perm.append_left _ (eraseIdx_permF ns _ hpl)
    · intro t htm
      rcases List.mem_append.mp htm with htm | htm
      · exact hw t htm
      · simp only [List.mem_singleton] at htm
        subst htm
        exact ⟨names_wf _ hx, by dsimp only; omega, by dsimp only; omega, by dsimp only; omega, by dsimp only; omega, by dsimp only; omega, w6, w8⟩
  · obtain ⟨s, c, ts, ns, ea, eb, ec, ed, rfl, g1, g2, hk, hns, hp, hw⟩ := hI
    rw [rngD_len] at hk hns
    simp [g2]
    refine q ts _ (s.set (by omega) _) (c.setNew (by omega) _) (by omega) ⟨by omega, hw, ?_⟩
    have := hp.symm.nodup names_nd
    exact (List.nodup_append.mp this).1
end HR
set_option Elab.async false
set_option linter.all false
set_option maxRecDepth 20000
namespace HR
open PySem L2
/-! ### the checks of a hall -/
abbrev T30 : Int := 1000000000000000000000000000000
theorem pure_dT (p : Int × Int) : (dT p).pure = true := by simp [dT]
@[simp] theorem pureL_dT (ts : List (Int × Int)) : D.pureL (ts.map dT) = true := pureL_map _ pure_dT ts
theorem pure_dTk (t : Tk) : (dTk t).pure = true := by simp [dTk]
@[simp] theorem pureL_dTk (ts : List Tk) : D.pureL (ts.map dTk) = true := pureL_map _ pure_dTk ts
@[simp] theorem isseq_l (xs : List D) (h : OH) (hp : D.pureL xs = true) : pureF Sh.is_sequence [.lst xs] h = .ok (.bl true) h := by
  refine pure_eq h (by simp [hp]) rfl ?_
  unfold Sh.is_sequence; rw [W_fn]; unfold Sh.is_sequence_b; simp
@[simp] theorem isseq_t (xs : List D) (h : OH) (hp : D.pureL xs = true) : pureF Sh.is_sequence [.tup xs] h = .ok (.bl true) h := by
  refine pure_eq h (by simp [hp]) rfl ?_
  unfold Sh.is_sequence; rw [W_fn]; unfold Sh.is_sequence_b; simp
@[simp] theorem isint2 (v lo hi : Int) (h : OH) : pureF Sh.is_integer [.int v, .int lo, .int hi] h = .ok (.bl (decide (lo ≤ v) && decide (v ≤ hi))) h := by
  refine pure_eq h rfl rfl ?_
  unfold Sh.is_integer; rw [W_fn]; unfold Sh.is_integer_b; simp
  split
  · rename_i q; simp [q]
  · rename_i q; simp [q]
@[simp] theorem isint1 (v lo : Int) (h : OH) : pureF Sh.is_integer [.int v, .int lo, .non] h = .ok (.bl (decide (lo ≤ v))) h := by
  refine pure_eq h rfl rfl ?_
  unfold Sh.is_integer; rw [W_fn]; unfold Sh.is_integer_b; simp
theorem istalk (p : Int × Int) (h : OH) (w : In1 T30 p) : pureF Sh.is_talk [dT p] h = .ok (.bl true) h := by
  refine pure_eq h (by simp [pure_dT]) rfl ?_
  obtain ⟨a, b, c, d⟩ := w
  unfold Sh.is_talk; rw [W_fn]; unfold Sh.is_talk_b; simp [dT, wipeD, a, b, c, d]
theorem aretalks (ts : List (Int × Int)) (least : Int) (h : OH) (w : ∀ p ∈ ts, In1 T30 p) (l1 : least ≤ ts.length) (l2 : ts.length ≤ 8) : pureF Sh.are_talks [.lst (ts.map dT), .int least] h = .ok (.bl true) h := by
  refine pure_eq h (by simp) rfl ?_
  have l2' : (ts.length : Int) ≤ 8 := by omega
  unfold Sh.are_talks; rw [W_fn]; unfold Sh.are_talks_b; simp [wipeD, l1, l2']
  refine W_lcMap1 ts dT (fun _ => .bl true) [] (by simp [big]; omega) (fun x hx => ⟨_, rfl, ?_⟩) ?_
  · simp [istalk x _ (w x hx)]
  · rw [bs_mapF]; simp
theorem isname (x : Str) (h : OH) (w : WfN x) : pureF Sh.is_name [.str x] h = .ok (.bl true) h := by
  refine pure_eq h rfl rfl ?_
  obtain ⟨l1, l2, lc⟩ := w
  have l1' : (1 : Int) ≤ x.length := by omega
  have l2' : (x.length : Int) ≤ 8 := by omega
  have lb : x.length ≤ big := by simp [big]; omega
  have ln : x.cps.toList.length = x.length := by simp [Str.length]
  unfold Sh.is_name; rw [W_fn]; unfold Sh.is_name_b; simp [wipeD, W_lenS, lb, l1', l2', signsD]
  refine W_lcMap1 x.cps.toList (fun c => .str ⟨#[c]⟩) (fun _ => .bl true) [] (by simp only [big]; omega) (fun c hc => ⟨_, rfl, ?_⟩) ?_
  · simp
    exact Array.mem_toList_iff.mp (lc c hc)
  · rw [bs_mapF]; simp
theorem istalker (t : Tk) (h : OH) (w : WfTk T30 t) : pureF Sh.is_talker [dTk t] h = .ok (.bl true) h := by
  refine pure_eq h (by simp [pure_dTk]) rfl ?_
  have r1 := w.r1
  have r2 := w.r2
  have lc := w.lc1
  unfold Sh.is_talker; rw [W_fn]; unfold Sh.is_talker_b
  simp [dTk, isname t.name _ w.name, aretalks t.pre 0 _ w.pre (by omega) w.lp, aretalks t.cyc 1 _ w.cyc (by omega) w.lc, r1, r2]
theorem ishall (ts : List Tk) (h : OH) (w : WfHall T30 ts) : pureF Sh.is_hall [.lst (ts.map dTk)] h = .ok (.bl true) h := by
  refine pure_eq h (by simp) rfl ?_
  have hl := w.len
  have l10 : ¬ (10 : Int) < ts.length := by omega
  unfold Sh.is_hall; rw [W_fn]; unfold Sh.is_hall_b
  simp [wipeD, l10]
  refine W_lcMap1 ts dTk (fun _ => .bl true) [] (by simp [big]; omega) (fun x hx => ⟨_, rfl, ?_⟩) ?_
  · simp [istalker x _ (w.tk x hx)]
  · rw [bs_mapF]; simp [sLenSet, wipeD]
    refine W_lcMap1 ts dTk (fun t => .str t.name) [] (by simp [big]; omega) (fun x hx => ⟨_, rfl, ?_⟩) ?_
    · simp [dTk]
    · have e : ts.map (fun t => D.str t.name) = (ts.map (·.name)).map D.str := by simp
      rw [e]
      simp only [lsqAt, seqAt, Option.bind_some, keys_strs]
      have e2 : ((ts.map (·.name)).map (Sum.inr : Str → Key)).Nodup := by
        refine List.Pairwise.map _ (fun a b hab he => hab (Sum.inr.inj he)) w.nd
      rw [ddK_nodup _ [] e2 (by simp)]
      simp
      omega
end HR
set_option Elab.async false
set_option linter.all false
set_option maxRecDepth 20000
namespace HR
open PySem L2
/-! ### schedules -/
/-- 0, x0, x0 + x1, .. -/
def sums (l : List Int) : List Int := (List.range (l.length + 1)).map fun k => (l.take k).sum
theorem sums_at {l : List Int} {k : Nat} (h : k ≤ l.length) : (sums l)[k]? = some (l.take k).sum := by
  simp [sums, Nat.lt_succ_of_le h]
theorem sums_D (l : List Int) : (sums l).map D.int = (List.range l.length).map (fun k => D.int (l.take k).sum) ++ [.int l.sum] := by
  simp [sums, List.range_succ]
theorem sum_take (l : List Int) (k : Nat) (x : Int) (h : l[k]? = some x) : (l.take (k + 1)).sum = (l.take k).sum + x := by
  rw [List.take_succ, h]; simp
theorem running (l : List Int) (h : OH) (hl : l.length ≤ 1000) : pureF Sh.running_sums [.lst (l.map D.int)] h = .ok (.lst ((sums l).map D.int)) h := by
  refine pure_eq h (by simp) (by simp) ?_
  unfold Sh.running_sums; rw [W_fn]; unfold Sh.running_sums_b; simp
  refine W_forL (fun k e h' => h' = [.lst ((List.range k).map (fun j => D.int (l.take j).sum) ++ [.int (l.take k).sum])] ∧ ∃ c, e = [some (.lst (l.map D.int)), some (.ref 0), c]) _ _ _ ⟨rfl, none, rfl⟩ (fun k d hd e h' hI => ?_) (fun e h' hI => ?_)
  · obtain ⟨rfl, c, rfl⟩ := hI
    rw [List.getElem?_map, Option.map_eq_some_iff] at hd
    obtain ⟨x, hx, rfl⟩ := hd
    have hk := (List.getElem?_eq_some_iff.mp hx).1
    refine ⟨_, rfl, ?_⟩
    simp [L2.atI_last]
    refine ⟨by omega, ?_⟩
    first
      | exact (sum_take l k x hx).symm
      | (rw [sum_take l k x hx, List.range_succ]; simp)
  · obtain ⟨rfl, c, rfl⟩ := hI
    simp [sums_D]
def dSch (p c : List (Int × Int)) : D := .obj "Schedule" [("prefix", .lst (p.map dT)), ("cycle", .lst (c.map dT)), ("prefix_silences", .lst ((sums (p.map (·.1))).map D.int)), ("prefix_lengths", .lst ((sums (p.map (·.2))).map D.int)), ("cycle_silences", .lst ((sums (c.map (·.1))).map D.int)), ("cycle_lengths", .lst ((sums (c.map (·.2))).map D.int))]
@[simp] theorem pure_dSch (p c : List (Int × Int)) : (dSch p c).pure = true := by simp [dSch]
theorem map_dT1 (l : List (Int × Int)) : l.map (fun x => D.int x.1) = (l.map (·.1)).map D.int := by simp
theorem map_dT2 (l : List (Int × Int)) : l.map (fun x => D.int x.2) = (l.map (·.2)).map D.int := by simp
theorem mkSch {a : SA} {e : Env'} {h : OH} {PD : D → OH → Prop} (p c : List (Int × Int)) (lp : p.length ≤ 8) (lc : c.length ≤ 8) (w : (a e h).W fun ys h1 => ys = [.lst (p.map dT), .lst (c.map dT)] ∧ PD (dSch p c) h1) : (sMakeP "Schedule" Sh.Schedule_init a e h).W PD := by
  refine W_makeP (w.mono fun ys h1 z => ?_)
  obtain ⟨rfl, z⟩ := z
  refine ⟨by simp, ?_⟩
  unfold Sh.Schedule_init; rw [W_fn]; unfold Sh.Schedule_init_b
  simp [wipeD]
  refine W_lcMap1 p dT dT _ (by simp [big]; omega) (fun x hx => ⟨_, rfl, by simp [dT]⟩) ?_
  simp [wipeD]
  refine W_lcMap1 c dT dT _ (by simp [big]; omega) (fun x hx => ⟨_, rfl, by simp [dT]⟩) ?_
  simp [wipeD]
  refine W_lcMap1 p dT (fun x => .int x.1) _ (by simp [big]; omega) (fun x hx => ⟨_, rfl, by simp [dT]⟩) ?_
  rw [map_dT1, running _ _ (by simp; omega)]
  simp [wipeD]
  refine W_lcMap1 p dT (fun x => .int x.2) _ (by simp [big]; omega) (fun x hx => ⟨_, rfl, by simp [dT]⟩) ?_
  rw [map_dT2, running _ _ (by simp; omega)]
  simp [wipeD]
  refine W_lcMap1 c dT (fun x => .int x.1) _ (by simp [big]; omega) (fun x hx => ⟨_, rfl, by simp [dT]⟩) ?_
  rw [map_dT1, running _ _ (by simp; omega)]
  simp [wipeD]
  refine W_lcMap1 c dT (fun x => .int x.2) _ (by simp [big]; omega) (fun x hx => ⟨_, rfl, by simp [dT]⟩) ?_
  rw [map_dT2, running _ _ (by simp; omega)]
  simp
  exact z
def dMem (t : Tk) : D := .obj "Member" [("name", .str t.name), ("rank", .int t.rank), ("schedule", dSch t.pre t.cyc)]
@[simp] theorem pure_dMem (t : Tk) : (dMem t).pure = true := by simp [dMem]
@[simp] theorem pureL_dMem (ts : List Tk) : D.pureL (ts.map dMem) = true := pureL_map _ pure_dMem ts
theorem mkMem {a : SA} {e : Env'} {h : OH} {PD : D → OH → Prop} (t : Tk) (lp : t.pre.length ≤ 8) (lc : t.cyc.length ≤ 8) (w : (a e h).W fun ys h1 => ys = [dTk t] ∧ PD (dMem t) h1) : (sMakeP "Member" Sh.Member_init a e h).W PD := by
  refine W_makeP (w.mono fun ys h1 z => ?_)
  obtain ⟨rfl, z⟩ := z
  refine ⟨by simp [pure_dTk], ?_⟩
  unfold Sh.Member_init; rw [W_fn]; unfold Sh.Member_init_b
  simp [dTk]
  refine mkSch t.pre t.cyc lp lc ?_
  simp
  exact z
theorem checked (ts : List Tk) (h : OH) (w : WfHall T30 ts) : pureF Sh.checked_hall [.lst (ts.map dTk)] h = .ok (.lst (ts.map dMem)) h := by
  refine pure_eq h (by simp) (by simp) ?_
  have hl := w.len
  unfold Sh.checked_hall; rw [W_fn]; unfold Sh.checked_hall_b
  simp [wipeD, ishall ts _ w]
  refine W_lcMap1 ts dTk dMem _ (by simp [big]; omega) (fun x hx => ⟨_, rfl, ?_⟩) (by simp)
  simp
  exact mkMem x (w.tk x hx).lp (w.tk x hx).lc (by simp)
end HR
set_option Elab.async false
set_option linter.all false
set_option maxRecDepth 20000
namespace HR
open PySem L2
/-! ### the talks of a schedule, their sums -/
def nth (p c : List (Int × Int)) (i : Nat) : Int × Int := if i < p.length then p.getD i (0, 0) else c.getD ((i - p.length) % c.length) (0, 0)
/-- the sum over the first n talks -/
def acc (f : Int × Int → Int) (p c : List (Int × Int)) : Nat → Int
  | 0 => 0
  | n + 1 => acc f p c n + f (nth p c n)
section
variable {f : Int × Int → Int} {p c : List (Int × Int)}
theorem acc_pre : ∀ {n : Nat}, n ≤ p.length → acc f p c n = ((p.map f).take n).sum
  | 0, _ => rfl
  | n + 1, h => by
    have hn : n < p.length := h
    rw [acc, acc_pre (by omega), sum_take _ n (f p[n]) (by simp [hn])]
    simp [nth, hn]
theorem acc_row (q : Nat) (e : acc f p c (p.length + q * c.length) = (p.map f).sum + q * (c.map f).sum) : ∀ r, r ≤ c.length → acc f p c (p.length + q * c.length + r) = (p.map f).sum + q * (c.map f).sum + ((c.map f).take r).sum
  | 0, _ => by simp [e]
  | r + 1, h => by
    have hr : r < c.length := h
    have ih := acc_row q e r (by omega)
    have em : (p.length + q * c.length + r - p.length) % c.length = r := by
      rw [show p.length + q * c.length + r - p.length = r + c.length * q from by rw [Nat.mul_comm]; omega, Nat.add_mul_mod_self_left, Nat.mod_eq_of_lt hr]
    have en : nth p c (p.length + q * c.length + r) = c[r] := by
      have : ¬ (p.length + q * c.length + r < p.length) := by omega
      simp only [nth, if_neg this, em]
      simp [hr]
    rw [← Nat.add_assoc, acc, ih, en, sum_take _ r (f c[r]) (by simp [hr])]
    omega
theorem acc_rows : ∀ q : Nat, acc f p c (p.length + q * c.length) = (p.map f).sum + q * (c.map f).sum
  | 0 => by
    rw [Nat.zero_mul, Nat.add_zero, acc_pre (Nat.le_refl _), List.take_of_length_le (by simp)]
    simp
  | q + 1 => by
    have e := acc_row q (acc_rows q) c.length (Nat.le_refl _)
    rw [List.take_of_length_le (by simp)] at e
    rw [Nat.add_mul, Nat.one_mul, ← Nat.add_assoc, e]
    push_cast
    rw [Int.add_mul]
    omega
theorem acc_cyc (q r : Nat) (h : r ≤ c.length) : acc f p c (p.length + q * c.length + r) = (p.map f).sum + q * (c.map f).sum + ((c.map f).take r).sum := acc_row q (acc_rows q) r h
/-- each talk's part is at least 1 -/
def Pos1 (f : Int × Int → Int) (p c : List (Int × Int)) : Prop := 1 ≤ c.length ∧ (∀ x ∈ p, 1 ≤ f x) ∧ ∀ x ∈ c, 1 ≤ f x
theorem nth_mem (hc : 1 ≤ c.length) (n : Nat) : nth p c n ∈ p ∨ nth p c n ∈ c := by
  unfold nth
  by_cases h : n < p.length
  · rw [if_pos h]; left; simp [h]
  · rw [if_neg h]; right
    have : (n - p.length) % c.length < c.length := Nat.mod_lt _ hc
    simp [this]
theorem nth_pos (h : Pos1 f p c) (n : Nat) : 1 ≤ f (nth p c n) := by
  rcases nth_mem (p := p) h.1 n with m | m
  · exact h.2.1 _ m
  · exact h.2.2 _ m
theorem acc_lt (h : Pos1 f p c) {a : Nat} : ∀ {b : Nat}, a < b → acc f p c a + (b - a : Nat) ≤ acc f p c b
  | 0, h0 => absurd h0 (Nat.not_lt_zero _)
  | b + 1, h0 => by
    have := nth_pos h b
    rcases Nat.lt_or_ge a b with h1 | h1
    · have := acc_lt h h1
      rw [acc]; omega
    · have : a = b := by omega
      subst this
      rw [acc]; omega
theorem acc_ge (h : Pos1 f p c) (n : Nat) : (n : Int) ≤ acc f p c n := by
  rcases Nat.eq_zero_or_pos n with h0 | h0
  · subst h0; exact Int.le_refl _
  · have := acc_lt h h0
    have e : acc f p c 0 = 0 := rfl
    omega
theorem acc_inj (h : Pos1 f p c) {a b : Nat} {q : Int} (a1 : acc f p c a ≤ q) (a2 : q < acc f p c (a + 1)) (b1 : acc f p c b ≤ q) (b2 : q < acc f p c (b + 1)) : a = b := by
  rcases Nat.lt_trichotomy a b with l | l | l
  · exfalso
    rcases Nat.lt_or_ge (a + 1) b with m | m
    · have := acc_lt h m; omega
    · have : a + 1 = b := by omega
      subst this; omega
  · exact l
  · exfalso
    rcases Nat.lt_or_ge (b + 1) a with m | m
    · have := acc_lt h m; omega
    · have : b + 1 = a := by omega
      subst this; omega
end
/-- how many of s 1, .., s m are at most q -/
theorem count_at (s : Nat → Int) (q : Int) (h0 : s 0 ≤ q) (m : Nat) (mono : ∀ a b, a < b → b ≤ m → s a < s b) : ∀ k, k ≤ m → s (((List.range k).filter fun j => decide (s (j + 1) ≤ q)).length) ≤ q ∧ ((List.range k).filter fun j => decide (s (j + 1) ≤ q)).length ≤ k ∧ (((List.range k).filter fun j => decide (s (j + 1) ≤ q)).length < k → q < s (((List.range k).filter fun j => decide (s (j + 1) ≤ q)).length + 1))
  | 0, _ => ⟨h0, Nat.le_refl _, fun z => absurd z (Nat.not_lt_zero _)⟩
  | k + 1, hk => by
    obtain ⟨i1, i2, i3⟩ := count_at s q h0 m mono k (by omega)
    rw [List.range_succ, List.filter_append, List.length_append]
    generalize ((List.range k).filter fun j => decide (s (j + 1) ≤ q)).length = n at i1 i2 i3 ⊢
    by_cases h : s (k + 1) ≤ q
    · have e : n = k := by
        rcases Nat.lt_or_ge n k with l | l
        · have := i3 l
          have := mono (n + 1) (k + 1) (by omega) hk
          omega
        · omega
      subst e
      simp [h]
    · simp [h]
      refine ⟨i1, by omega, fun l => ?_⟩
      rcases Nat.lt_or_ge n k with l2 | l2
      · exact i3 l2
      · have : n = k := by omega
        subst this; omega
end HR
set_option Elab.async false
set_option linter.all false
set_option maxRecDepth 20000
namespace HR
open PySem L2
section
variable {p c : List (Int × Int)}
theorem atI_nat' {α : Type} (xs : List α) (n : Nat) : atI xs (n : Int) = xs[n]? := by
  by_cases h : n < xs.length
  · rw [atI_z (by omega) (by omega), Int.toNat_natCast]
  · have : ¬ ((n : Int) < xs.length) := by omega
    simp [atI, ixN, this, List.getElem?_eq_none (Nat.le_of_not_lt h)]
theorem atI_m1 (l : List Int) : atI ((sums l).map D.int) (-1) = some (.int l.sum) := by rw [sums_D, L2.atI_last]
theorem sumsD_at {l : List Int} {k : Nat} (h : k ≤ l.length) : atI ((sums l).map D.int) (k : Int) = some (.int (l.take k).sum) := by rw [atI_nat', List.getElem?_map, sums_at h]; rfl
/-- the two lists of sums -/
def dSums (f : Int × Int → Int) (l : List (Int × Int)) : D := .lst ((sums (l.map f)).map D.int)
theorem sumFirst (f : Int × Int → Int) (n : Nat) (h : OH) (hc : 1 ≤ c.length) (hc2 : c.length ≤ 8) (hn : Small n) (hs : Small (c.map f).sum) : pureF Sh.Schedule_sum_of_first [dSch p c, .int n, dSums f p, dSums f c] h = .ok (.int (acc f p c n)) h := by
  refine pure_eq h (by simp [dSums]) rfl ?_
  unfold Sh.Schedule_sum_of_first; rw [W_fn]; unfold Sh.Schedule_sum_of_first_b
  simp [dSch, List.lookup, dSums]
  by_cases hp : n ≤ p.length
  · simp [hp, sumsD_at (l := p.map f) (k := n) (by simpa using hp), acc_pre hp]
  · have hd : divOk ((n : Int) - p.length) c.length = true := divOk_small (small_64 (by omega)) (by omega)
    have hk : (n : Int) - p.length = ((n - p.length : Nat) : Int) := by omega
    have e1 : ((n : Int) - p.length) / c.length = (((n - p.length) / c.length : Nat) : Int) := by rw [hk]; rfl
    have e2 : ((n : Int) - p.length) % c.length = (((n - p.length) % c.length : Nat) : Int) := by rw [hk]; rfl
    have hm : (n - p.length) % c.length < c.length := Nat.mod_lt _ hc
    have hsm : Small (((n - p.length) / c.length : Nat) : Int) := by
      have : (n - p.length) / c.length ≤ n := Nat.le_trans (Nat.div_le_self _ _) (Nat.sub_le _ _)
      have hn' : n < 2 ^ 4000 := hn
      show (((n - p.length) / c.length : Nat) : Int).natAbs < 2 ^ 4000
      rw [Int.natAbs_natCast]
      exact Nat.lt_of_le_of_lt this hn'
    have ea := acc_cyc (f := f) (p := p) (c := c) ((n - p.length) / c.length) ((n - p.length) % c.length) (by omega)
    have en : p.length + (n - p.length) / c.length * c.length + (n - p.length) % c.length = n := by
      have := Nat.div_add_mod (n - p.length) c.length
      rw [Nat.mul_comm] at this
      omega
    rw [en] at ea
    have ml := mulOk_small hsm hs
    generalize (n - p.length) % c.length = r at e2 hm ea
    generalize (n - p.length) / c.length = u at e1 hsm ea ml
    simp [hp, hd, gT, gCs, gN, gNl, seqAt, atI_m1, e1, e2, ml, sumsD_at (l := c.map f) (k := r) (by simp; omega), ea]
end
end HR
set_option Elab.async false
set_option linter.all false
set_option maxRecDepth 20000
namespace HR
open PySem L2
section
variable {p c : List (Int × Int)}
def schFs (p c : List (Int × Int)) : List (String × D) := [("prefix", .lst (p.map dT)), ("cycle", .lst (c.map dT)), ("prefix_silences", dSums (·.1) p), ("prefix_lengths", dSums (·.2) p), ("cycle_silences", dSums (·.1) c), ("cycle_lengths", dSums (·.2) c)]
@[simp] theorem ins_dSch (h : OH) : insAt h (dSch p c) = some ("Schedule", schFs p c) := rfl
@[simp] theorem fs_1 : (schFs p c).lookup "prefix" = some (.lst (p.map dT)) := rfl
@[simp] theorem fs_2 : (schFs p c).lookup "cycle" = some (.lst (c.map dT)) := rfl
@[simp] theorem fs_3 : (schFs p c).lookup "prefix_silences" = some (dSums (·.1) p) := rfl
@[simp] theorem fs_4 : (schFs p c).lookup "prefix_lengths" = some (dSums (·.2) p) := rfl
@[simp] theorem fs_5 : (schFs p c).lookup "cycle_silences" = some (dSums (·.1) c) := rfl
@[simp] theorem fs_6 : (schFs p c).lookup "cycle_lengths" = some (dSums (·.2) c) := rfl
@[simp] theorem fs_m1 : hasNo (schFs p c) "sum_of_first" = True := eq_true rfl
@[simp] theorem fs_m2 : hasNo (schFs p c) "nth_ready" = True := eq_true rfl
@[simp] theorem fs_m3 : hasNo (schFs p c) "nth_talk" = True := eq_true rfl
@[simp] theorem fs_m4 : hasNo (schFs p c) "count_ready" = True := eq_true rfl
@[simp] theorem fs_m5 : hasNo (schFs p c) "length_ready" = True := eq_true rfl
theorem drop_sums (l : List Int) : ((sums l).map D.int).drop 1 = (List.range l.length).map fun j => D.int (l.take (j + 1)).sum := by
  simp [sums, List.range_succ_eq_map, List.map_drop]
theorem sum_sub {l : List Int} (hl : ∀ x ∈ l, 1 ≤ x) {a : Nat} : ∀ {b : Nat}, a < b → b ≤ l.length → (l.take a).sum < (l.take b).sum
  | 0, h0, _ => absurd h0 (Nat.not_lt_zero _)
  | b + 1, h0, hb => by
    have hb' : b < l.length := hb
    have e := sum_take l b l[b] (by simp [hb'])
    have := hl _ (List.getElem_mem hb')
    rcases Nat.lt_or_ge a b with h1 | h1
    · have := sum_sub hl h1 (by omega)
      omega
    · have : a = b := by omega
      subst this
      omega
theorem countReady (q : Int) (h : OH) (w : Pos1 (·.1) p c) (hp2 : p.length ≤ 8) (hc2 : c.length ≤ 8) (hq : 0 ≤ q) (hs : Small (c.map (·.1)).sum) :
    ∃ n : Nat, (∀ h, pureF Sh.Schedule_count_ready [dSch p c, .int q] h = .ok (.int n) h) ∧ acc (·.1) p c n ≤ q ∧ q < acc (·.1) p c (n + 1) := by
  have hc := w.1
  have P1 : ∀ x ∈ p.map (·.1), (1 : Int) ≤ x := by simpa using w.2.1
  have C1 : ∀ x ∈ c.map (·.1), (1 : Int) ≤ x := by simpa using w.2.2
  have aP : acc (·.1) p c p.length = (p.map (·.1)).sum := by
    rw [acc_pre (Nat.le_refl _), List.take_of_length_le (by simp)]
  by_cases hlt : q < (p.map (·.1)).sum
  · have k := count_at (fun j => ((p.map (·.1)).take j).sum) q (by simpa using hq) p.length (fun a b l1 l2 => sum_sub P1 l1 (by simpa using l2)) p.length (Nat.le_refl _)
    generalize hn : ((List.range p.length).filter fun j => decide (((p.map (·.1)).take (j + 1)).sum ≤ q)).length = n at k
    obtain ⟨k1, k2, k3⟩ := k
    have nl : n < p.length := by
      rcases Nat.lt_or_ge n p.length with l | l
      · exact l
      · exfalso
        have : n = p.length := by omega
        subst this
        rw [List.take_of_length_le (by simp)] at k1
        omega
    refine ⟨n, fun h => ?_, by rw [acc_pre (by omega)]; exact k1, by rw [acc_pre (by omega)]; exact k3 nl⟩
    refine pure_eq h (by simp) rfl ?_
    unfold Sh.Schedule_count_ready; rw [W_fn]; unfold Sh.Schedule_count_ready_b
    simp [dSums, atI_m1, hlt, wipeD, cutD_drop]
    rw [← List.drop_one, drop_sums]
    refine W_lcMap (List.range (p.map (·.1)).length) (fun j => D.int ((p.map (·.1)).take (j + 1)).sum) (fun j => decide (((p.map (·.1)).take (j + 1)).sum ≤ q)) (fun j => D.int ((p.map (·.1)).take (j + 1)).sum) _ (by simp [big]; omega) (fun x hx => ⟨_, rfl, by simp⟩) ?_
    simp
    simpa using congrArg (fun z : Nat => (z : Int)) hn
  · have hC : 0 < (c.map (·.1)).sum := by
      have := sum_sub C1 (a := 0) (b := c.length) hc (by simp)
      rw [show (c.map (·.1)).take c.length = c.map (·.1) from List.take_of_length_le (by simp)] at this
      simpa using this
    obtain ⟨u, hu⟩ : ∃ u : Nat, (q - (p.map (·.1)).sum) / (c.map (·.1)).sum = u := ⟨_, (Int.toNat_of_nonneg (Int.ediv_nonneg (by omega) (by omega))).symm⟩
    obtain ⟨r, hr⟩ : ∃ r : Int, (q - (p.map (·.1)).sum) % (c.map (·.1)).sum = r := ⟨_, rfl⟩
    have r0 : 0 ≤ r := by rw [← hr]; exact Int.emod_nonneg _ (by omega)
    have r1 : r < (c.map (·.1)).sum := by rw [← hr]; exact Int.emod_lt_of_pos _ hC
    have er : q = (p.map (·.1)).sum + u * (c.map (·.1)).sum + r := by
      have := Int.mul_ediv_add_emod (q - (p.map (·.1)).sum) (c.map (·.1)).sum
      rw [hu, hr, Int.mul_comm] at this
      omega
    have k := count_at (fun j => ((c.map (·.1)).take j).sum) r (by simpa using r0) c.length (fun a b l1 l2 => sum_sub C1 l1 (by simpa using l2)) c.length (Nat.le_refl _)
    generalize hn : ((List.range c.length).filter fun j => decide (((c.map (·.1)).take (j + 1)).sum ≤ r)).length = n at k
    obtain ⟨k1, k2, k3⟩ := k
    have nl : n < c.length := by
      rcases Nat.lt_or_ge n c.length with l | l
      · exact l
      · exfalso
        have : n = c.length := by omega
        subst this
        rw [List.take_of_length_le (by simp)] at k1
        omega
    have a1 := acc_cyc (f := (·.1)) (p := p) (c := c) u n (by omega)
    have a2 := acc_cyc (f := (·.1)) (p := p) (c := c) u (n + 1) (by omega)
    have k3' := k3 nl
    refine ⟨p.length + u * c.length + n, fun h => ?_, by omega, by rw [Nat.add_assoc]; omega⟩
    refine pure_eq h (by simp) rfl ?_
    have hd : divOk (q - (p.map (·.1)).sum) (c.map (·.1)).sum = true := divOk_small hs hC
    have ml : mulOk (u : Int) (c.length : Int) = true := mulOk_r (by omega)
    unfold Sh.Schedule_count_ready; rw [W_fn]; unfold Sh.Schedule_count_ready_b
    simp [dSums, atI_m1, hlt, wipeD, cutD_drop, hd, gT, gCs, gN, gNl, seqAt, hu, hr, ml]
    rw [← List.drop_one, drop_sums]
    refine W_lcMap (List.range (c.map (·.1)).length) (fun j => D.int ((c.map (·.1)).take (j + 1)).sum) (fun j => decide (((c.map (·.1)).take (j + 1)).sum ≤ r)) (fun j => D.int ((c.map (·.1)).take (j + 1)).sum) _ (by simp [big]; omega) (fun x hx => ⟨_, rfl, by simp⟩) ?_
    simp
    simpa using congrArg (fun z : Nat => (z : Int)) hn
theorem lengthReady (q : Int) (n : Nat) (h : OH) (hc : 1 ≤ c.length) (hc2 : c.length ≤ 8) (hn : Small n) (hs : Small (c.map (·.2)).sum) (e : ∀ h, pureF Sh.Schedule_count_ready [dSch p c, .int q] h = .ok (.int n) h) : pureF Sh.Schedule_length_ready [dSch p c, .int q] h = .ok (.int (acc (·.2) p c n)) h := by
  refine pure_eq h (by simp) rfl ?_
  unfold Sh.Schedule_length_ready; rw [W_fn]; unfold Sh.Schedule_length_ready_b
  simp [e, sumFirst (p := p) (c := c) (·.2) n [] hc hc2 hn hs]
end
theorem sum_le {l : List Int} {m : Int} (hm : 0 ≤ m) : (∀ x ∈ l, x ≤ m) → l.sum ≤ l.length * m := by
  induction l with
  | nil => intro _; simp
  | cons x r ih =>
    intro hl
    have a := hl x List.mem_cons_self
    have b := ih fun y hy => hl y (List.mem_cons_of_mem _ hy)
    rw [List.sum_cons, List.length_cons]
    push_cast
    rw [Int.add_mul]
    omega
theorem sum_ge {l : List Int} : (∀ x ∈ l, 1 ≤ x) → (0 : Int) ≤ l.sum := by
  induction l with
  | nil => intro _; simp
  | cons x r ih =>
    intro hl
    have a := hl x List.mem_cons_self
    have b := ih fun y hy => hl y (List.mem_cons_of_mem _ hy)
    rw [List.sum_cons]
    omega
theorem WfTk.pos1 {m : Int} {t : Tk} (w : WfTk m t) : Pos1 (·.1) t.pre t.cyc := ⟨w.lc1, fun x hx => (w.pre x hx).1, fun x hx => (w.cyc x hx).1⟩
theorem WfTk.pos2 {m : Int} {t : Tk} (w : WfTk m t) : Pos1 (·.2) t.pre t.cyc := ⟨w.lc1, fun x hx => (w.pre x hx).2.2.1, fun x hx => (w.cyc x hx).2.2.1⟩
theorem WfTk.s1 {t : Tk} (w : WfTk T30 t) : Small (t.cyc.map (·.1)).sum := by
  have a := sum_ge (l := t.cyc.map (·.1)) (by simpa using fun a b hx => (w.cyc (a, b) hx).1)
  have b := sum_le (l := t.cyc.map (·.1)) (m := T30) (by decide) (by simpa using fun a b hx => (w.cyc (a, b) hx).2.1)
  have c := w.lc
  rw [List.length_map] at b
  exact small_lt 200 a (by simp only [T30] at b; omega)
theorem WfTk.s2 {t : Tk} (w : WfTk T30 t) : Small (t.cyc.map (·.2)).sum := by
  have a := sum_ge (l := t.cyc.map (·.2)) (by simpa using fun a b hx => (w.cyc (b, a) hx).2.2.1)
  have b := sum_le (l := t.cyc.map (·.2)) (m := T30) (by decide) (by simpa using fun a b hx => (w.cyc (b, a) hx).2.2.2)
  have c := w.lc
  rw [List.length_map] at b
  exact small_lt 200 a (by simp only [T30] at b; omega)
end HR
set_option Elab.async false
set_option linter.all false
set_option maxRecDepth 20000
set_option Elab.async false
set_option linter.all false
set_option maxRecDepth 20000
namespace HR
open PySem L2
/-! ### inverse of a growing function: the plain law -/
/-- g l: the least q with l ≤ f q -/
def Gal (f g : Nat → Nat) : Prop := ∀ q l, l ≤ f q ↔ g l ≤ q
def Inc (f : Nat → Nat) : Prop := ∀ q, f q < f (q + 1)
section
variable {f g f' g' : Nat → Nat}
theorem Inc.lt (i : Inc f) {a : Nat} : ∀ {b : Nat}, a < b → f a < f b
  | 0, h => absurd h (Nat.not_lt_zero _)
  | b + 1, h => by
    rcases Nat.lt_or_ge a b with h1 | h1
    · exact Nat.lt_trans (i.lt h1) (i b)
    · have : a = b := by omega
      subst this; exact i a
theorem Inc.le (i : Inc f) {a b : Nat} (h : a ≤ b) : f a ≤ f b := by
  rcases Nat.lt_or_ge a b with h1 | h1
  · exact Nat.le_of_lt (i.lt h1)
  · have : a = b := by omega
    subst this; exact Nat.le_refl _
theorem Inc.ge (i : Inc f) : ∀ q, q ≤ f q
  | 0 => Nat.zero_le _
  | q + 1 => Nat.lt_of_le_of_lt (i.ge q) (i q)
theorem Inc.comp (i : Inc f) (j : Inc f') : Inc fun q => f (f' q) := fun q => i.lt (j q)
theorem Gal.comp (a : Gal f g) (b : Gal f' g') : Gal (fun q => f (f' q)) fun l => g' (g l) := fun q l => (a (f' q) l).trans (b q (g l))
theorem Gal.le (a : Gal f g) (l : Nat) : l ≤ f (g l) := (a (g l) l).mpr (Nat.le_refl _)
theorem Gal.lt (a : Gal f g) {q l : Nat} (h : q < g l) : f q < l := by
  rcases Nat.lt_or_ge (f q) l with k | k
  · exact k
  · have := (a q l).mp k; omega
theorem Gal.small (a : Gal f g) (i : Inc f) (l : Nat) : g l ≤ l := (a l l).mp (i.ge l)
/-- the inverse -/
def inv (f : Nat → Nat) : Nat → Nat
  | 0 => 0
  | l + 1 => if l + 1 ≤ f (inv f l) then inv f l else inv f l + 1
theorem inv_gal (i : Inc f) : Gal f (inv f) := by
  have key : ∀ l, l ≤ f (inv f l) ∧ ∀ q, q < inv f l → f q < l := by
    intro l
    induction l with
    | zero => exact ⟨Nat.zero_le _, fun q h => absurd h (Nat.not_lt_zero _)⟩
    | succ l ih =>
      unfold inv
      by_cases h : l + 1 ≤ f (inv f l)
      · rw [if_pos h]
        exact ⟨h, fun q hq => by have := ih.2 q hq; omega⟩
      · rw [if_neg h]
        have := i (inv f l)
        refine ⟨by omega, fun q hq => ?_⟩
        rcases Nat.lt_or_ge q (inv f l) with l1 | l1
        · have := ih.2 q l1; omega
        · have : q = inv f l := by omega
          subst this; omega
  intro q l
  obtain ⟨k1, k2⟩ := key l
  constructor
  · intro h
    rcases Nat.lt_or_ge q (inv f l) with l1 | l1
    · have := k2 q l1; omega
    · exact l1
  · intro h
    exact Nat.le_trans k1 (i.le h)
end
/-! ### how many talks are ready, how long they are -/
section
variable {p c : List (Int × Int)}
def cnt (p c : List (Int × Int)) : Nat → Nat
  | 0 => 0
  | q + 1 => if acc (·.1) p c (cnt p c q + 1) ≤ ((q + 1 : Nat) : Int) then cnt p c q + 1 else cnt p c q
theorem cnt_at (w : Pos1 (·.1) p c) : ∀ q : Nat, acc (·.1) p c (cnt p c q) ≤ q ∧ (q : Int) < acc (·.1) p c (cnt p c q + 1)
  | 0 => by
    have := nth_pos w 0
    refine ⟨by simp [cnt, acc], ?_⟩
    simp only [cnt, acc]
    omega
  | q + 1 => by
    obtain ⟨a, b⟩ := cnt_at w q
    unfold cnt
    by_cases h : acc (·.1) p c (cnt p c q + 1) ≤ ((q + 1 : Nat) : Int)
    · rw [if_pos h]
      refine ⟨h, ?_⟩
      have := nth_pos w (cnt p c q + 1)
      have d : acc (·.1) p c (cnt p c q + 1 + 1) = acc (·.1) p c (cnt p c q + 1) + (nth p c (cnt p c q + 1)).1 := rfl
      omega
    · rw [if_neg h]
      exact ⟨by omega, by omega⟩
theorem cnt_le (w : Pos1 (·.1) p c) (q : Nat) : cnt p c q ≤ q := by
  have a := (cnt_at w q).1
  have b := acc_ge w (cnt p c q)
  omega
theorem cnt_mono (q : Nat) : cnt p c q ≤ cnt p c (q + 1) ∧ cnt p c (q + 1) ≤ cnt p c q + 1 := by
  rw [cnt]; split <;> omega
/-- ticks of the talks that are ready at q -/
def len2 (p c : List (Int × Int)) (q : Nat) : Nat := (acc (·.2) p c (cnt p c q)).toNat
theorem len2_z (w : Pos1 (·.2) p c) (q : Nat) : (len2 p c q : Int) = acc (·.2) p c (cnt p c q) := Int.toNat_of_nonneg (by have := acc_ge w (cnt p c q); omega)
theorem acc_mono {f : Int × Int → Int} (w : Pos1 f p c) {a b : Nat} (h : a ≤ b) : acc f p c a ≤ acc f p c b := by
  rcases Nat.lt_or_ge a b with l | l
  · have := acc_lt w l; omega
  · have : a = b := by omega
    subst this; exact Int.le_refl _
theorem len2_mono (w : Pos1 (·.2) p c) (q : Nat) : len2 p c q ≤ len2 p c (q + 1) := by
  have a := len2_z w q
  have b := len2_z w (q + 1)
  have := acc_mono w (cnt_mono (p := p) (c := c) q).1
  omega
end
theorem lenReady {t : Tk} (w : WfTk T30 t) (q : Nat) (hq : Small q) (h : OH) : pureF Sh.Schedule_length_ready [dSch t.pre t.cyc, .int q] h = .ok (.int (len2 t.pre t.cyc q)) h := by
  obtain ⟨n, e, a, b⟩ := countReady (p := t.pre) (c := t.cyc) q [] w.pos1 w.lp w.lc (by omega) w.s1
  have hn : n = cnt t.pre t.cyc q := acc_inj w.pos1 a b (cnt_at w.pos1 q).1 (cnt_at w.pos1 q).2
  subst hn
  rw [len2_z w.pos2]
  refine lengthReady (p := t.pre) (c := t.cyc) q _ h w.lc1 w.lc ?_ w.s2 e
  have := cnt_le w.pos1 q
  have hq' : q < 2 ^ 4000 := hq
  exact Nat.lt_of_le_of_lt this hq'
/-! ### the clocks -/
def LL (ts : List Tk) (r q : Nat) : Nat := ((ts.filter fun t => t.rank == (r : Int)).map fun t => len2 t.pre t.cyc q).sum
def LI (ts : List Tk) (r q : Nat) : Nat := q + LL ts r q
theorem LL_mono {ts : List Tk} (w : ∀ t ∈ ts, WfTk T30 t) (r q : Nat) : LL ts r q ≤ LL ts r (q + 1) := by
  unfold LL
  induction ts with
  | nil => exact Nat.le_refl _
  | cons t ts ih =>
    have i := ih fun x hx => w x (List.mem_cons_of_mem _ hx)
    have m := len2_mono (w t List.mem_cons_self).pos2 q
    by_cases h : (t.rank == (r : Int)) = true
    · simp only [List.filter_cons_of_pos (p := fun t : Tk => t.rank == (r : Int)) h, List.map_cons, List.sum_cons]; omega
    · simp only [List.filter_cons_of_neg (p := fun t : Tk => t.rank == (r : Int)) h]; exact i
theorem LI_inc {ts : List Tk} (w : ∀ t ∈ ts, WfTk T30 t) (r : Nat) : Inc (LI ts r) := fun q => by
  have := LL_mono w r q
  unfold LI; omega
end HR
set_option Elab.async false
set_option linter.all false
set_option maxRecDepth 20000
namespace HR
open PySem L2
/-! ### the clocks: what the functions of the program compute -/
def memFs (t : Tk) : List (String × D) := [("name", .str t.name), ("rank", .int t.rank), ("schedule", dSch t.pre t.cyc)]
@[simp] theorem ins_dMem (t : Tk) (h : OH) : insAt h (dMem t) = some ("Member", memFs t) := rfl
@[simp] theorem mem_1 (t : Tk) : (memFs t).lookup "name" = some (.str t.name) := rfl
@[simp] theorem mem_2 (t : Tk) : (memFs t).lookup "rank" = some (.int t.rank) := rfl
@[simp] theorem mem_3 (t : Tk) : (memFs t).lookup "schedule" = some (dSch t.pre t.cyc) := rfl
theorem ints_mapF {ξ : Type} (f : ξ → Int) : ∀ l : List ξ, intsOf (l.map fun x => .int (f x)) = some (l.map f)
  | [] => rfl
  | x :: l => by simp [intsOf, ints_mapF f l]
theorem sum_cast {ξ : Type} (f : ξ → Nat) : ∀ l : List ξ, (l.map fun x => ((f x : Nat) : Int)).sum = (((l.map f).sum : Nat) : Int)
  | [] => rfl
  | x :: l => by simp [sum_cast f l]
section
variable {ts : List Tk}
theorem rankLength (w : WfHall T30 ts) (r q : Nat) (hq : Small q) (h : OH) : pureF Sh.rank_length [.lst (ts.map dMem), .int r, .int q] h = .ok (.int (LL ts r q)) h := by
  refine pure_eq h (by simp) rfl ?_
  have hl := w.len
  unfold Sh.rank_length; rw [W_fn]; unfold Sh.rank_length_b
  simp [wipeD]
  refine W_lcMap ts dMem (fun t => t.rank == (r : Int)) (fun t => .int (len2 t.pre t.cyc q)) _ (by simp [big]; omega) (fun t ht => ⟨_, rfl, ?_⟩) ?_
  · simp [lenReady (w.tk t ht) q hq]
  · rw [ints_mapF fun t : Tk => ((len2 t.pre t.cyc q : Nat) : Int)]
    simp only [W_sumL, lkS_some, ints_mapF, sum_cast]
    simp [LL, sum_cast, ints_mapF]
theorem leftIndex (w : WfHall T30 ts) (r q : Nat) (hq : Small q) (h : OH) : pureF Sh.left_index [.lst (ts.map dMem), .int r, .int q] h = .ok (.int (LI ts r q)) h := by
  refine pure_eq h (by simp) rfl ?_
  unfold Sh.left_index; rw [W_fn]; unfold Sh.left_index_b
  simp [rankLength w r q hq, LI]
def bits (n : Nat) : Nat := if n = 0 then 0 else n.log2 + 1
theorem bits_half {n m : Nat} (hn : 0 < n) (h : 2 * m ≤ n) : bits m < bits n := by
  unfold bits
  by_cases hm : m = 0
  · have hn' : ¬ n = 0 := by omega
    simp [hm, hn']
  · have hm0 : 0 < m := by omega
    rw [if_neg hm, if_neg (by omega)]
    have a : 2 ^ m.log2 ≤ m := Nat.log2_self_le hm
    have b : n < 2 ^ (n.log2 + 1) := Nat.lt_log2_self
    have c : 2 ^ (m.log2 + 1) ≤ n := by rw [Nat.pow_succ]; omega
    have d : 2 ^ (m.log2 + 1) < 2 ^ (n.log2 + 1) := Nat.lt_of_le_of_lt c b
    have e := (Nat.pow_lt_pow_iff_right (a := 2) (by decide)).mp d
    omega
theorem bits_small {n : Nat} (h : n < 2 ^ 4000) : bits n < 1000000 := by
  unfold bits
  split
  · decide
  · have := log2_small h (by decide)
    omega
theorem quietAmong (w : WfHall T30 ts) (r l : Nat) (hl : l < 2 ^ 4000) (h : OH) : pureF Sh.quiet_among [.lst (ts.map dMem), .int r, .int l] h = .ok (.int (inv (LI ts r) l)) h := by
  refine pure_eq h (by simp) rfl ?_
  have inc := LI_inc w.tk r
  have gal := inv_gal inc
  have top := gal.small inc l
  unfold Sh.quiet_among; rw [W_fn]; unfold Sh.quiet_among_b
  simp [sPar]
  refine W_while (I := fun e h => h = [] ∧ ∃ (lo hi : Nat) (m : Option D), e = [some (.lst (ts.map dMem)), some (.int r), some (.int l), some (.int lo), some (.int hi), m] ∧ lo ≤ inv (LI ts r) l ∧ inv (LI ts r) l ≤ hi ∧ hi ≤ l)
    (fun e _ => match e with
      | [_, _, _, some (.int lo), some (.int hi), _] => bits (hi - lo).toNat
      | _ => 0) ⟨rfl, 0, l, none, rfl, Nat.zero_le _, top, Nat.le_refl _⟩ (by
        dsimp only
        exact bits_small (by omega)) (fun e h hI => ?_)
  obtain ⟨rfl, lo, hi, m, rfl, h1, h2, h3⟩ := hI
  have hd : divOk ((lo : Int) + hi) 2 = true := divOk_small (small_64 (by decide)) (by decide)
  by_cases hlt : (lo : Int) < hi
  · have e1 : ((lo : Int) + hi) / 2 = (((lo + hi) / 2 : Nat) : Int) := by omega
    obtain ⟨mid, hmid⟩ : ∃ mid, mid = (lo + hi) / 2 := ⟨_, rfl⟩
    rw [← hmid] at e1
    simp [hlt, hd, e1, leftIndex w r mid (Nat.lt_of_le_of_lt (show mid ≤ l by omega) hl)]
    by_cases hc : LI ts r mid < l
    · have hc' : mid < inv (LI ts r) l := by
        rcases Nat.lt_or_ge mid (inv (LI ts r) l) with k | k
        · exact k
        · have := (gal mid l).mpr k; omega
      simp [hc]
      refine ⟨⟨mid + 1, hi, ⟨by simp, rfl⟩, by omega, h2, h3⟩, bits_half (by omega) (by omega)⟩
    · have hc' : inv (LI ts r) l ≤ mid := (gal mid l).mp (by omega)
      simp [hc]
      refine ⟨⟨lo, mid, ⟨rfl, rfl⟩, h1, hc', by omega⟩, bits_half (by omega) (by omega)⟩
  · have e : lo = inv (LI ts r) l := by omega
    have hlt' : ¬ lo < hi := by omega
    simp [hlt']
    exact congrArg (fun z : Nat => (z : Int)) e
/-- the i-th tick left for rank k + 1, as a tick -/
def TO (ts : List Tk) : Nat → Nat → Nat
  | 0, q => q
  | k + 1, q => TO ts k (LI ts (k + 1) q)
/-- how many ticks before l are left for rank k + 1 -/
def LB (ts : List Tk) : Nat → Nat → Nat
  | 0, l => l
  | k + 1, l => inv (LI ts (k + 1)) (LB ts k l)
theorem TO_inc (w : ∀ t ∈ ts, WfTk T30 t) : ∀ k, Inc (TO ts k)
  | 0 => fun q => Nat.lt_succ_self q
  | k + 1 => fun q => (TO_inc w k).lt (LI_inc w (k + 1) q)
theorem TO_gal (w : ∀ t ∈ ts, WfTk T30 t) : ∀ k, Gal (TO ts k) (LB ts k)
  | 0 => fun _ _ => Iff.rfl
  | k + 1 => (TO_gal w k).comp (inv_gal (LI_inc w (k + 1)))
theorem LB_le (w : ∀ t ∈ ts, WfTk T30 t) (k l : Nat) : LB ts k l ≤ l := (TO_gal w k).small (TO_inc w k) l
theorem leftAmong (w : WfHall T30 ts) (k l : Nat) (hk : k ≤ 10) (hl : l < 2 ^ 4000) (h : OH) : pureF Sh.left_among [.lst (ts.map dMem), .int ((k + 1 : Nat) : Int), .int l] h = .ok (.int (LB ts k l)) h := by
  refine pure_eq h (by simp) rfl ?_
  unfold Sh.left_among; rw [W_fn]; unfold Sh.left_among_b
  have r1 : rngOk 1 = true := by decide
  have r2 : rngOk (k + 1) = true := by simp [rngOk]; omega
  simp [r1, r2]
  refine W_forL (fun j e h' => h' = [] ∧ ∃ c : Option D, e = [some (.lst (ts.map dMem)), some (.int (k + 1)), some (.int l), some (.int (LB ts j l)), c]) _ _ _ ⟨rfl, none, rfl⟩ (fun j d hd e h' hI => ?_) (fun e h' hI => ?_)
  · obtain ⟨rfl, c, rfl⟩ := hI
    obtain ⟨hj, rfl⟩ := rngD_at hd
    refine ⟨_, rfl, ?_⟩
    have e1 : (1 : Int) + (j : Int) = ((j + 1 : Nat) : Int) := by simp; omega
    simp only [e1]
    have e2 := quietAmong w (j + 1) (LB ts j l) (Nat.lt_of_le_of_lt (LB_le w.tk j l) hl)
    generalize ((j + 1 : Nat) : Int) = z at e2 ⊢
    simp [e2, LB]
  · obtain ⟨rfl, c, rfl⟩ := hI
    rw [rngD_len]
    simp
end
end HR
set_option Elab.async false
set_option linter.all false
set_option maxRecDepth 20000
set_option exponentiation.threshold 5000
namespace HR
open PySem L2
section
variable {ts : List Tk}
theorem checkRank (k : Nat) (hk : k < 10) (h : OH) : pureF Sh.check_rank [.int ((k : Int) + 1)] h = .ok .non h := by
  refine pure_eq h rfl rfl ?_
  unfold Sh.check_rank; rw [W_fn]; unfold Sh.check_rank_b
  have a : (1 : Int) ≤ k + 1 := by omega
  have b : (k : Int) + 1 ≤ 10 := by omega
  simp [a, b]
theorem checkTick (l : Nat) (h : OH) : pureF Sh.check_tick [.int l] h = .ok .non h := by
  refine pure_eq h rfl rfl ?_
  unfold Sh.check_tick; rw [W_fn]; unfold Sh.check_tick_b; simp
/-- the program takes d for the hall ts -/
structure Hallish (d : D) (ts : List Tk) : Prop where
  pure : d.pure = true
  chk : ∀ h, pureF Sh.checked_hall [d] h = .ok (.lst (ts.map dMem)) h
theorem hallish (w : WfHall T30 ts) : Hallish (.lst (ts.map dTk)) ts := ⟨by simp, fun h => checked ts h w⟩
theorem checkedHD {d : D} (hd : Hallish d ts) (k : Nat) (hk : k < 10) (h : OH) : pureF Sh.checked [d, .int ((k : Int) + 1)] h = .ok (.lst (ts.map dMem)) h := by
  refine pure_eq h (by simp [hd.pure]) (by simp) ?_
  unfold Sh.checked; rw [W_fn]; unfold Sh.checked_b
  simp [hd.chk, checkRank k hk]
theorem leftAmong' (w : WfHall T30 ts) (k l : Nat) (hk : k < 10) (hl : l < 2 ^ 4000) (h : OH) : pureF Sh.left_among [.lst (ts.map dMem), .int ((k : Int) + 1), .int l] h = .ok (.int (LB ts k l)) h := leftAmong w k l (Nat.le_of_lt hk) hl h
theorem quietAmong' (w : WfHall T30 ts) (k l : Nat) (hl : l < 2 ^ 4000) (h : OH) : pureF Sh.quiet_among [.lst (ts.map dMem), .int ((k : Int) + 1), .int l] h = .ok (.int (inv (LI ts (k + 1)) l)) h := quietAmong w (k + 1) l hl h
theorem leftBeforeD {d : D} (hd : Hallish d ts) (w : WfHall T30 ts) (k l : Nat) (hk : k < 10) (hl : l < 2 ^ 4000) (h : OH) : pureF Sh.left_before [d, .int ((k : Int) + 1), .int l] h = .ok (.int (LB ts k l)) h := by
  refine pure_eq h (by simp [hd.pure]) rfl ?_
  unfold Sh.left_before; rw [W_fn]; unfold Sh.left_before_b
  simp [checkedHD hd k hk, checkTick, leftAmong' w k l hk hl]
theorem quietBeforeD {d : D} (hd : Hallish d ts) (w : WfHall T30 ts) (k l : Nat) (hk : k < 10) (hl : l < 2 ^ 4000) (h : OH) : pureF Sh.quiet_before [d, .int ((k : Int) + 1), .int l] h = .ok (.int (LB ts (k + 1) l)) h := by
  refine pure_eq h (by simp [hd.pure]) rfl ?_
  have := LB_le w.tk k l
  unfold Sh.quiet_before; rw [W_fn]; unfold Sh.quiet_before_b
  simp [checkedHD hd k hk, checkTick, leftAmong' w k l hk hl, quietAmong' w k (LB ts k l) (by omega), LB]
end
end HR
set_option Elab.async false
set_option linter.all false
set_option maxRecDepth 20000
namespace HR
open PySem L2
/-! small things of many laws -/
theorem W_eqL2 (neg : Bool) (a b c d : Int) (h : OH) {PD : D → OH → Prop} : (opEq neg (.lst [.int a, .int b]) (.lst [.int c, .int d]) h).W PD = PD (.bl (if neg then !((a == c) && (b == d)) else ((a == c) && (b == d)))) h := by
  simp [opEq, pyAt, pyG, pyGL, SeqAt.shaped, PyData.canLay0, PyData.canLayAll0, PyData.depth, PyData.depthAll, PyData.eqv, PyData.eqvAll]
theorem In1.mono {m m' : Int} {p : Int × Int} (w : In1 m p) (h : m ≤ m') : In1 m' p := ⟨w.1, by have := w.2.1; omega, w.2.2.1, by have := w.2.2.2; omega⟩
theorem WfHall.mono {m m' : Int} {ts : List Tk} (w : WfHall m ts) (h : m ≤ m') : WfHall m' ts := ⟨w.len, fun t ht => let a := w.tk t ht; ⟨a.name, a.r1, a.r2, a.lp, a.lc1, a.lc, fun p hp => (a.pre p hp).mono h, fun p hp => (a.cyc p hp).mono h⟩, w.nd⟩
@[simp] theorem W_addLL (xs ys : List D) (h : OH) {PD : D → OH → Prop} : (opAdd (.lst xs) (.lst ys) h).W PD = if xs.length + ys.length ≤ 1000000 then PD (.lst (xs ++ ys)) h else False := by
  simp [opAdd, lstAt, big]
@[simp] theorem SW_aug (i : Nat) (g : D → D → OH → Res D) (f : SE) (e : Env') (h : OH) {N C B : Env' → OH → Prop} {R : D → OH → Prop} : (sAug i g f e h).W N C B R = (sVar i e h).W fun x _ => (f e h).W fun y h1 => (g x y h1).W fun z h2 => N (e.set i (some z)) h2 := by
  unfold sAug sVar
  rcases e[i]? with _ | _ | x
  · rfl
  · rfl
  · simp
@[simp] theorem W_tointB (b : Bool) (h : OH) {PD : D → OH → Prop} : (opInt (.bl b) h).W PD = PD (.int (if b then 1 else 0)) h := rfl
@[simp] theorem W_tointI (b : Int) (h : OH) {PD : D → OH → Prop} : (opInt (.int b) h).W PD = PD (.int b) h := rfl
end HR
set_option Elab.async false
set_option linter.all false
set_option maxRecDepth 20000
set_option exponentiation.threshold 5000
namespace HR
open PySem L2
/-! ### who speaks: the talks that stand in line at a quiet tick -/
/-- a talk in line: whose, which, how long -/
structure Run where
  t : Tk
  i : Nat
  len : Int
def dRun (x : Run) : D := .tup [dMem x.t, .int x.i, .int x.len]
theorem pure_dRun (x : Run) : (dRun x).pure = true := by simp [dRun]
@[simp] theorem pureL_dRun (l : List Run) : D.pureL (l.map dRun) = true := pureL_map _ pure_dRun l
section
variable {ts : List Tk}
/-! ### the descent -/
abbrev Trip := Nat × Nat × Nat
def dTrip (x : Trip) : D := .tup [.int x.1, .int x.2.1, .int x.2.2]
theorem pure_dTrip (x : Trip) : (dTrip x).pure = true := by simp [dTrip]
@[simp] theorem pureL_dTrip (l : List Trip) : D.pureL (l.map dTrip) = true := pureL_map _ pure_dTrip l
/-! ### the talk at a tick -/
end
end HR
set_option Elab.async false
set_option linter.all false
set_option maxRecDepth 20000
set_option exponentiation.threshold 5000
set_option Elab.async false
set_option linter.all false
set_option maxRecDepth 20000
set_option exponentiation.threshold 5000
set_option Elab.async false
set_option linter.all false
set_option maxRecDepth 20000
set_option exponentiation.threshold 5000
set_option Elab.async false
set_option linter.all false
set_option maxRecDepth 20000
namespace HR
open PySem L2
/-! ### how long a repr may be -/
/-- d is read as p: shown within n signs, of depth at most k -/
structure RpP (d : D) (p : PyData) (k n : Nat) : Prop where
  py : ∀ get, pyR get d = some p
  sh : p.showable = true
  dp : p.depth ≤ k
  ln : p.shown.length ≤ n
def Rp (d : D) (k n : Nat) : Prop := ∃ p, RpP d p k n
theorem Rp.mono {d : D} {k n k' n' : Nat} (h : Rp d k n) (hk : k ≤ k') (hn : n ≤ n') : Rp d k' n' := let ⟨p, a, b, c, e⟩ := h; ⟨p, a, b, Nat.le_trans c hk, Nat.le_trans e hn⟩
end HR
set_option Elab.async false
set_option linter.all false
set_option maxRecDepth 20000
set_option exponentiation.threshold 5000
namespace HR
open PySem L2
/-! ### values that are no halls -/
def gTk : Tk := ⟨"k", 1, [], [(1, 1)]⟩
/-! what they are to repr -/
/-! the def that draws one -/
@[simp] theorem W_dct0 (e : Env') (h : OH) {PD : D → OH → Prop} : (sDct0 e h).W PD = PD (.dct []) h := rfl
end HR
set_option Elab.async false
set_option linter.all false
set_option maxRecDepth 20000
set_option exponentiation.threshold 5000
set_option Elab.async false
set_option linter.all false
set_option maxRecDepth 20000
set_option exponentiation.threshold 5000
namespace HR
open PySem L2
/-! ### small things of the laws of errors -/
@[simp] theorem W_eqNS (neg : Bool) (y : Str) (h : OH) {PD : D → OH → Prop} (hy : PyData.strOk y = true) : (opEq neg .non (.str y) h).W PD = PD (.bl neg) h := by
  simp [opEq, SeqAt.shaped, PyData.canLay0, PyData.depth, PyData.eqv, hy]
end HR
set_option Elab.async false
set_option linter.all false
set_option maxRecDepth 20000
set_option exponentiation.threshold 5000
namespace HR
open PySem L2
/-! ### the simulation: it runs through -/
def runFs (t : Tk) (i : Nat) (b : Bool) (sp wt : Int) : List (String × D) := [("member", dMem t), ("index", .int i), ("is_ready", .bl b), ("spoken", .int sp), ("waited", .int wt)]
def oRun (t : Tk) (i : Nat) (b : Bool) (sp wt : Int) : OO := .ins "Running" (runFs t i b sp wt)
@[simp] theorem W_make (K : String) (g : FN) (a : SA) (e : Env') (h : OH) {PD : D → OH → Prop} : (sMake K g a e h).W PD = (a e h).W fun ys h1 => (g (.ref h1.length :: ys) (h1 ++ [.ins K []])).W fun d h2 => (match d with | .non => PD (.ref h1.length) h2 | _ => False) := by
  unfold sMake
  rw [W_bind]
  congr; funext ys h1
  rw [W_bind, W_noX]
  congr; funext d h2
  cases d <;> rfl
@[simp] theorem SW_fldA (K f : String) (o v : SE) (e : Env') (h : OH) {N C B : Env' → OH → Prop} {R : D → OH → Prop} : (sFldA K f o v e h).W N C B R = (o e h).W fun x h1 => isR x fun n => lkI h1[n]? fun K' fs => if K' = K then (lkS (fs.lookup f) fun d => match d with
    | .int i => (v e h1).W fun y h2 => (match y with
      | .int j => lkI h2[n]? fun K2 fs2 => if K2 = K ∧ fs2.length < 900 then N e (h2.set n (.ins K (putS f (.int (i + j)) fs2))) else False
      | _ => False)
    | _ => False) else False := by
  unfold sFldA
  rw [W_toS]
  congr; funext x h1
  cases x with
  | ref n =>
    dsimp only [isR]
    cases h1[n]? with
    | none => rfl
    | some ob =>
      cases ob with
      | ins K' fs =>
        simp only [lkI_ins]
        by_cases q : K' = K
        · rw [if_pos q, if_pos q]
          cases fs.lookup f with
          | none => rfl
          | some d =>
            simp only [lkS_some]
            cases d with
            | int i =>
              dsimp only
              rw [W_toS]
              congr; funext y h2
              cases y with
              | int j =>
                cases h2[n]? with
                | none => rfl
                | some ob2 =>
                  cases ob2 with
                  | ins K2 fs2 => simp only [lkI_ins]; split <;> rfl
                  | _ => rfl
              | _ => cases h2[n]? <;> rfl
            | _ => rfl
        · rw [if_neg q, if_neg q]; rfl
      | _ => rfl
  | _ => rfl
section
variable {t : Tk} {i : Nat} {b : Bool} {sp wt : Int}
@[simp] theorem rf_member : (runFs t i b sp wt).lookup "member" = some (dMem t) := rfl
@[simp] theorem rf_index : (runFs t i b sp wt).lookup "index" = some (.int i) := rfl
@[simp] theorem rf_ready : (runFs t i b sp wt).lookup "is_ready" = some (.bl b) := rfl
@[simp] theorem rf_spoken : (runFs t i b sp wt).lookup "spoken" = some (.int sp) := rfl
@[simp] theorem rf_waited : (runFs t i b sp wt).lookup "waited" = some (.int wt) := rfl
@[simp] theorem rf_len : (runFs t i b sp wt).length = 5 := rfl
@[simp] theorem rf_wait : hasNo (runFs t i b sp wt) "wait" = True := eq_true rfl
@[simp] theorem rf_speak : hasNo (runFs t i b sp wt) "speak" = True := eq_true rfl
@[simp] theorem put_index : putS "index" (.int ((i : Int) + 1)) (runFs t i b sp wt) = runFs t (i + 1) b sp wt := by simp [putS, runFs]
@[simp] theorem put_ready (x : Bool) : putS "is_ready" (.bl x) (runFs t i b sp wt) = runFs t i x sp wt := by simp [putS, runFs]
@[simp] theorem put_spoken (x : Int) : putS "spoken" (.int x) (runFs t i b sp wt) = runFs t i b x wt := by simp [putS, runFs]
@[simp] theorem put_waited (x : Int) : putS "waited" (.int x) (runFs t i b sp wt) = runFs t i b sp x := by simp [putS, runFs]
@[simp] theorem put_all : putS "waited" (.int 0) (putS "spoken" (.int 0) (putS "is_ready" (.bl false) (putS "index" (.int 0) (putS "member" (dMem t) [])))) = runFs t 0 false 0 0 := by simp [putS, runFs]
@[simp] theorem ins_set {h : OH} {n : Nat} {C : String} {fs : List (String × D)} (lt : n < h.length) : insAt (h.set n (.ins C fs)) (.ref n) = some (C, fs) := ins_ref (by simp [lt])
end
/-- the instances of all talkers, in order, from 0 on; K: no index is above -/
def RunSt (ts : List Tk) (h : OH) (K : Nat) : Prop := ∀ (k : Nat) (t : Tk), ts[k]? = some t → ∃ (i : Nat) (b : Bool) (sp wt : Int), i ≤ K ∧ h[k]? = some (oRun t i b sp wt)
end HR
set_option Elab.async false
set_option linter.all false
set_option maxRecDepth 20000
set_option exponentiation.threshold 5000
namespace HR
open PySem L2
section
variable {ts : List Tk} {h : OH} {K : Nat}
theorem RunSt.mono {K' : Nat} (S : RunSt ts h K) (hk : K ≤ K') : RunSt ts h K' := fun k t e => by
  obtain ⟨i, b, sp, wt, a, q⟩ := S k t e
  exact ⟨i, b, sp, wt, by omega, q⟩
theorem RunSt.lt (S : RunSt ts h K) {k : Nat} (hk : k < ts.length) : k < h.length := by
  obtain ⟨i, b, sp, wt, _, q⟩ := S k ts[k] (by simp [hk])
  exact (List.getElem?_eq_some_iff.mp q).1
theorem RunSt.other (S : RunSt ts h K) {n : Nat} (hn : ts.length ≤ n) (o : OO) : RunSt ts (h.set n o) K := fun k t e => by
  obtain ⟨i, b, sp, wt, a, q⟩ := S k t e
  have := (List.getElem?_eq_some_iff.mp e).1
  exact ⟨i, b, sp, wt, a, by rw [List.getElem?_set_ne (by omega)]; exact q⟩
theorem RunSt.app (S : RunSt ts h K) (o : OH) : RunSt ts (h ++ o) K := fun k t e => by
  obtain ⟨i, b, sp, wt, a, q⟩ := S k t e
  exact ⟨i, b, sp, wt, a, by rw [List.getElem?_append_left (List.getElem?_eq_some_iff.mp q).1]; exact q⟩
theorem RunSt.put (S : RunSt ts h K) {k : Nat} {t : Tk} (e : ts[k]? = some t) {i : Nat} {b : Bool} {sp wt : Int} {K' : Nat} (hi : i ≤ K') (hK : K ≤ K') : RunSt ts (h.set k (oRun t i b sp wt)) K' := fun j u q => by
  by_cases z : k = j
  · subst z
    rw [e] at q
    cases q
    have lt := S.lt (List.getElem?_eq_some_iff.mp e).1
    exact ⟨i, b, sp, wt, hi, by rw [List.getElem?_set_self lt]⟩
  · obtain ⟨i2, b2, sp2, wt2, a, r⟩ := S j u q
    exact ⟨i2, b2, sp2, wt2, by omega, by rw [List.getElem?_set_ne z]; exact r⟩
theorem RunSt.at_ (S : RunSt ts h K) {k : Nat} (hk : k < ts.length) : ∃ (i : Nat) (b : Bool) (sp wt : Int), i ≤ K ∧ h[k]? = some (oRun ts[k] i b sp wt) := S k ts[k] (by simp [hk])
end
end HR
set_option Elab.async false
set_option linter.all false
set_option maxRecDepth 20000
set_option Elab.async false
set_option linter.all false
set_option maxRecDepth 20000
set_option exponentiation.threshold 5000
namespace HR
open PySem L2
/-! ### the simulation, exactly -/
/-- who is chosen: the ready ones of the least rank, the started ones of them first -/
def chooseG {α : Type} (rk : α → Int) (b st : α → Bool) (L : List α) : Option α := match L.filter b with
  | [] => none
  | x :: r => (((x :: r).filter fun y => rk y == (r.map rk).foldl min (rk x)).filter st ++ (x :: r).filter fun y => rk y == (r.map rk).foldl min (rk x)).head?
theorem chooseG_map {α β : Type} (f : α → β) (rk : β → Int) (b st : β → Bool) (L : List α) : chooseG rk b st (L.map f) = (chooseG (rk ∘ f) (b ∘ f) (st ∘ f) L).map f := by
  unfold chooseG
  rw [List.filter_map]
  cases L.filter (b ∘ f) with
  | nil => rfl
  | cons x r =>
    simp only [List.map_cons, List.map_map]
    rw [← List.map_cons, List.filter_map, List.filter_map, ← List.map_append, List.head?_map]
    rfl
theorem chooseG_congr {α : Type} {rk rk' : α → Int} {b b' st st' : α → Bool} {L : List α} (h1 : ∀ x ∈ L, rk x = rk' x) (h2 : ∀ x ∈ L, b x = b' x) (h3 : ∀ x ∈ L, st x = st' x) : chooseG rk b st L = chooseG rk' b' st' L := by
  unfold chooseG
  rw [List.filter_congr h2]
  have sub : ∀ x ∈ L.filter b', x ∈ L := fun x hx => (List.mem_filter.mp hx).1
  generalize L.filter b' = M at sub
  cases M with
  | nil => rfl
  | cons x r =>
    dsimp only
    have e1 : (r.map rk).foldl min (rk x) = (r.map rk').foldl min (rk' x) := by
      rw [h1 x (sub x List.mem_cons_self), List.map_congr_left fun y hy => h1 y (sub y (List.mem_cons_of_mem _ hy))]
    rw [e1]
    have e2 : ((x :: r).filter fun y => rk y == (r.map rk').foldl min (rk' x)) = (x :: r).filter fun y => rk' y == (r.map rk').foldl min (rk' x) := List.filter_congr fun y hy => by rw [h1 y (sub y hy)]
    rw [e2]
    have e3 : ∀ K : List α, (∀ y ∈ K, y ∈ L) → K.filter st = K.filter st' := fun K hK => List.filter_congr fun y hy => h3 y (hK y hy)
    rw [e3 _ fun y hy => sub y (List.mem_filter.mp hy).1]
/-- what it means to be chosen -/
theorem foldl_min_le : ∀ (l : List Int) (x : Int), l.foldl min x ≤ x ∧ (∀ y ∈ l, l.foldl min x ≤ y) ∧ (l.foldl min x = x ∨ l.foldl min x ∈ l)
  | [], x => ⟨Int.le_refl _, by simp, .inl rfl⟩
  | z :: l, x => by
    obtain ⟨a, b, c⟩ := foldl_min_le l (min x z)
    simp only [List.foldl_cons]
    refine ⟨by omega, fun y hy => ?_, ?_⟩
    · rcases List.mem_cons.mp hy with rfl | hy
      · omega
      · exact b y hy
    · rcases c with c | c
      · rw [c]
        by_cases h : x ≤ z
        · left; omega
        · right
          have : min x z = z := by omega
          rw [this]
          exact List.mem_cons_self
      · right
        exact List.mem_cons_of_mem _ c
theorem chooseG_none {α : Type} {rk : α → Int} {b st : α → Bool} {L : List α} : chooseG rk b st L = none ↔ ∀ x ∈ L, b x = false := by
  unfold chooseG
  constructor
  · intro h
    cases e : L.filter b with
    | nil =>
      intro x hx
      have := List.filter_eq_nil_iff.mp e x hx
      simpa using this
    | cons x r =>
      rw [e] at h
      dsimp only at h
      rw [List.head?_eq_none_iff, List.append_eq_nil_iff] at h
      exfalso
      obtain ⟨a, _, c⟩ := foldl_min_le (r.map rk) (rk x)
      have h2 := List.filter_eq_nil_iff.mp h.2
      rcases c with c | c
      · exact h2 x List.mem_cons_self (by simp [c])
      · obtain ⟨y, hy, e2⟩ := List.mem_map.mp c
        exact h2 y (List.mem_cons_of_mem _ hy) (by simp [e2])
  · intro h
    rw [List.filter_eq_nil_iff.mpr fun x hx => by simp [h x hx]]
/-- the least rank of the ready ones -/
def IsMin {α : Type} (rk : α → Int) (b : α → Bool) (L : List α) (m : Int) : Prop := (∀ x ∈ L, b x = true → m ≤ rk x) ∧ ∃ x ∈ L, b x = true ∧ rk x = m
theorem chooseG_min {α : Type} {rk : α → Int} {b st : α → Bool} {L : List α} {m : Int} (h : IsMin rk b L m) : chooseG rk b st L = (((L.filter b).filter fun y => rk y == m).filter st ++ (L.filter b).filter fun y => rk y == m).head? := by
  obtain ⟨h1, x0, hx0, hb0, hm0⟩ := h
  unfold chooseG
  have m0 : x0 ∈ L.filter b := List.mem_filter.mpr ⟨hx0, hb0⟩
  have sub : ∀ x ∈ L.filter b, m ≤ rk x := fun x hx => h1 x (List.mem_filter.mp hx).1 (List.mem_filter.mp hx).2
  cases e : L.filter b with
  | nil => rw [e] at m0; cases m0
  | cons x r =>
    rw [e] at m0 sub
    dsimp only
    obtain ⟨p, q, s⟩ := foldl_min_le (r.map rk) (rk x)
    have em : (r.map rk).foldl min (rk x) = m := by
      have le : (r.map rk).foldl min (rk x) ≤ m := by
        rw [← hm0]
        rcases List.mem_cons.mp m0 with rfl | hx
        · exact p
        · exact q _ (List.mem_map_of_mem hx)
      have ge : m ≤ (r.map rk).foldl min (rk x) := by
        rcases s with s | s
        · rw [s]; exact sub x List.mem_cons_self
        · obtain ⟨y, hy, e2⟩ := List.mem_map.mp s
          rw [← e2]
          exact sub y (List.mem_cons_of_mem _ hy)
      omega
    rw [em]
theorem chooseG_has {α : Type} {rk : α → Int} {b st : α → Bool} {L : List α} {u : α} (h : chooseG rk b st L = some u) : ∃ m, IsMin rk b L m ∧ u ∈ L ∧ b u = true ∧ rk u = m := by
  have ne : chooseG rk b st L ≠ none := by rw [h]; simp
  have ex : ∃ x ∈ L, b x = true := by
    refine Classical.byContradiction fun z => ne (chooseG_none.mpr fun x hx => ?_)
    cases e : b x with
    | false => rfl
    | true => exact absurd ⟨x, hx, e⟩ z
  have mn : ∃ m, IsMin rk b L m := by
    obtain ⟨x, hx, hb⟩ := ex
    have hm : x ∈ L.filter b := List.mem_filter.mpr ⟨hx, hb⟩
    cases e : L.filter b with
    | nil => rw [e] at hm; cases hm
    | cons y r =>
      obtain ⟨p, q, s⟩ := foldl_min_le (r.map rk) (rk y)
      have mem : ∀ z, z ∈ y :: r ↔ z ∈ L ∧ b z = true := fun z => by rw [← e]; exact List.mem_filter
      refine ⟨(r.map rk).foldl min (rk y), fun z hz hbz => ?_, ?_⟩
      · rcases List.mem_cons.mp ((mem z).mpr ⟨hz, hbz⟩) with rfl | hz
        · exact p
        · exact q _ (List.mem_map_of_mem hz)
      · rcases s with s | s
        · obtain ⟨a, c⟩ := (mem y).mp List.mem_cons_self
          exact ⟨y, a, c, s.symm⟩
        · obtain ⟨z, hz, e2⟩ := List.mem_map.mp s
          obtain ⟨a, c⟩ := (mem z).mp (List.mem_cons_of_mem _ hz)
          exact ⟨z, a, c, e2⟩
  obtain ⟨m, hm⟩ := mn
  rw [chooseG_min hm] at h
  have hu := List.mem_of_mem_head? h
  have hu2 : u ∈ (L.filter b).filter fun y => rk y == m := by
    rcases List.mem_append.mp hu with z | z
    · exact (List.mem_filter.mp z).1
    · exact z
  obtain ⟨a, c⟩ := List.mem_filter.mp hu2
  obtain ⟨a1, a2⟩ := List.mem_filter.mp a
  exact ⟨m, hm, a1, a2, by simpa using c⟩
/-- who has spoken a tick is chosen again -/
theorem chooseG_again {α : Type} {rk : α → Int} {b st st' : α → Bool} {L : List α} {u : α} (h : chooseG rk b st L = some u) (hs : ∀ x ∈ L, x ≠ u → st' x = st x) (hu : st u = true → st' u = true) : chooseG rk b st' L = some u := by
  obtain ⟨m, hm, hul, hb, rfl⟩ := chooseG_has h
  rw [chooseG_min hm] at h ⊢
  have sub : ∀ x ∈ (L.filter b).filter (fun y => rk y == rk u), x ∈ L := fun x hx => (List.mem_filter.mp (List.mem_filter.mp hx).1).1
  generalize (L.filter b).filter (fun y => rk y == rk u) = S at h sub
  have key : ∀ K : List α, (∀ x ∈ K, x ∈ L) → (K.filter st).head? = some u → (K.filter st').head? = some u := by
    intro K
    induction K with
    | nil => intro _ h; simp at h
    | cons x K ih =>
      intro hK h
      by_cases e : x = u
      · subst e
        by_cases q : st x = true
        · rw [List.filter_cons_of_pos (hu q)]
          rfl
        · rw [List.filter_cons_of_neg q] at h
          have r := ih (fun y hy => hK y (List.mem_cons_of_mem _ hy)) h
          by_cases q2 : st' x = true
          · rw [List.filter_cons_of_pos q2]
            rfl
          · rw [List.filter_cons_of_neg q2]
            exact r
      · have e2 := hs x (hK x List.mem_cons_self) e
        by_cases q : st x = true
        · rw [List.filter_cons_of_pos q] at h
          simp at h
          exact absurd h e
        · rw [List.filter_cons_of_neg q] at h
          rw [List.filter_cons_of_neg (by rw [e2]; exact q)]
          exact ih (fun y hy => hK y (List.mem_cons_of_mem _ hy)) h
  cases e : S.filter st with
  | nil =>
    rw [e] at h
    simp only [List.nil_append] at h
    have no := List.filter_eq_nil_iff.mp e
    cases S with
    | nil => simp at h
    | cons x S =>
      simp at h
      subst h
      by_cases q : st' x = true
      · rw [List.filter_cons_of_pos q]
        rfl
      · have : (x :: S).filter st' = [] := List.filter_eq_nil_iff.mpr fun y hy => by
          by_cases z : y = x
          · rw [z]; exact q
          · rw [hs y (sub y hy) z]
            exact no y hy
        rw [this]
        rfl
  | cons y K =>
    have e1 : (S.filter st).head? = some u := by
      rw [e] at h ⊢
      simpa using h
    have := key S sub e1
    rw [List.head?_append, this]
    rfl
end HR
set_option Elab.async false
set_option linter.all false
set_option maxRecDepth 20000
set_option exponentiation.threshold 5000
namespace HR
open PySem L2
structure Rs where
  i : Nat
  b : Bool
  sp : Int
  wt : Int
abbrev Cf := Tk × Rs
def who (S : List Cf) : Option Cf := chooseG (fun x : Cf => x.1.rank) (fun x => x.2.b) (fun x => decide (0 < x.2.sp)) S
def waitR (t : Tk) (r : Rs) : Rs := ⟨r.i, r.wt + 1 == (nth t.pre t.cyc r.i).1, r.sp, r.wt + 1⟩
def speakR (t : Tk) (r : Rs) : Rs := if r.sp + 1 = (nth t.pre t.cyc r.i).2 then ⟨r.i + 1, false, 0, 0⟩ else ⟨r.i, r.b, r.sp + 1, r.wt⟩
/-- does one wait at a tick -/
def waits (c : Option Tk) (x : Cf) : Bool := !x.2.b && (match c with | none => true | some u => decide (x.1.rank < u.rank))
def afterW (c : Option Tk) (x : Cf) : Cf := if waits c x then (x.1, waitR x.1 x.2) else x
def afterS (c : Option Tk) (x : Cf) : Cf := match c with
  | none => x
  | some u => if x.1.name = u.name then (x.1, speakR x.1 x.2) else x
def stepS (S : List Cf) : List Cf := S.map fun x => afterS ((who S).map Prod.fst) (afterW ((who S).map Prod.fst) x)
def itS (S : List Cf) : Nat → List Cf
  | 0 => S
  | n + 1 => stepS (itS S n)
def start (ts : List Tk) : List Cf := ts.map fun t => (t, ⟨0, false, 0, 0⟩)
def dN : Option Str → D
  | none => .non
  | some x => .str x
def oCf (x : Cf) : OO := oRun x.1 x.2.i x.2.b x.2.sp x.2.wt
theorem afterW_fst (c : Option Tk) (x : Cf) : (afterW c x).1 = x.1 := by
  unfold afterW
  split <;> rfl
theorem afterS_fst (c : Option Tk) (x : Cf) : (afterS c x).1 = x.1 := by
  unfold afterS
  split
  · rfl
  · split <;> rfl
theorem stepS_fst (S : List Cf) : (stepS S).map Prod.fst = S.map Prod.fst := by
  unfold stepS
  rw [List.map_map]
  refine List.map_congr_left fun x _ => ?_
  simp [Function.comp, afterS_fst, afterW_fst]
theorem itS_fst (S : List Cf) : ∀ n, (itS S n).map Prod.fst = S.map Prod.fst
  | 0 => rfl
  | n + 1 => by
    show (stepS (itS S n)).map Prod.fst = _
    rw [stepS_fst, itS_fst S n]
theorem start_fst (ts : List Tk) : (start ts).map Prod.fst = ts := by
  simp [start, Function.comp_def]
/-! ### the program -/
end HR
set_option Elab.async false
set_option linter.all false
set_option maxRecDepth 20000
set_option exponentiation.threshold 5000
namespace HR
open PySem L2
/-- the heap in the midst of the waiting: the first i are through -/
def WaitIs (c : Option Tk) (S : List Cf) (i : Nat) (h : OH) : Prop := ∀ (k : Nat) (x : Cf), S[k]? = some x → h[k]? = some (oCf (if k < i then afterW c x else x))
theorem WaitIs.put {c : Option Tk} {S : List Cf} {i : Nat} {h : OH} (R : WaitIs c S i h) {x : Cf} (e : S[i]? = some x) {y : Cf} (q : afterW c x = y) : WaitIs c S (i + 1) (h.set i (oCf y)) := fun k z ez => by
  have lt : i < h.length := (List.getElem?_eq_some_iff.mp (R i x e)).1
  by_cases n : k = i
  · subst n
    rw [e] at ez
    cases ez
    rw [if_pos (by omega), q, List.getElem?_set_self lt]
  · have := R k z ez
    rw [List.getElem?_set_ne (by omega)]
    by_cases l : k < i
    · rw [if_pos l] at this
      rw [if_pos (by omega)]
      exact this
    · rw [if_neg l] at this
      rw [if_neg (by omega)]
      exact this
theorem WaitIs.tk {c : Option Tk} {S : List Cf} {i : Nat} {h : OH} (R : WaitIs c S i h) {k : Nat} {x : Cf} (e : S[k]? = some x) : ∃ r, h[k]? = some (oCf (x.1, r)) := by
  have := R k x e
  split at this
  · refine ⟨(afterW c x).2, ?_⟩
    rw [this, ← afterW_fst c x]
  · exact ⟨x.2, this⟩
theorem who_mem {S : List Cf} {x : Cf} (h : who S = some x) : x ∈ S ∧ x.2.b = true := by
  obtain ⟨m, hm, a, b, c⟩ := chooseG_has h
  exact ⟨a, b⟩
end HR
set_option Elab.async false
set_option linter.all false
set_option maxRecDepth 20000
set_option exponentiation.threshold 5000
namespace HR
open PySem L2
/-! ### a record, read tick by tick -/
/-- what it shows of one member: the talks that are over, the one that may go on, the quiet ticks since -/
structure Ob where
  done : List (Int × Int)
  cur : Option (Int × Int)
  q : Int
def Ob.tk (o : Ob) : List (Int × Int) := o.done ++ o.cur.toList
structure RdS where
  obs : Nat → Ob
  lp : Int → Int
variable (rk : Nat → Int)
def S0 : RdS := ⟨fun _ => ⟨[], none, 0⟩, fun _ => -1⟩
/-! ### a record without a fault: what the end tells of what came before -/
end HR
set_option Elab.async false
set_option linter.all false
set_option maxRecDepth 20000
set_option exponentiation.threshold 5000
namespace HR
open PySem L2
/-! ### the hall with the talks of a record produces the record -/
def rkT (ts : List Tk) (j : Nat) : Int := (ts.getD j gTk).rank
section
variable {ts : List Tk} {L : Nat → List (Int × Int)} {N : Int} {S : RdS} {x : Option Nat}
theorem name_ne (nd : (ts.map (·.name)).Nodup) {j k : Nat} (hj : j < ts.length) (hk : k < ts.length) (e : (ts.getD j gTk).name = (ts.getD k gTk).name) : j = k := by
  have a : (ts.map (·.name))[j]? = some (ts.getD j gTk).name := by simp [hj]
  have b : (ts.map (·.name))[k]? = some (ts.getD k gTk).name := by simp [hk]
  exact (List.getElem?_inj (by simpa using hj) nd).mp (by rw [a, b, e])
theorem getD_map_gTk (j : Nat) (hj : j < ts.length) : ts[j]? = some (ts.getD j gTk) := by simp [hj]
end
end HR
set_option Elab.async false
set_option linter.all false
set_option maxRecDepth 20000
set_option exponentiation.threshold 5000
namespace HR
open PySem L2
/-! ### what a hall produces has no fault -/
theorem choose_some {n k : Nat} {rk : Nat → Int} {b st : Nat → Bool} (h : chooseG rk b st (List.range n) = some k) :
    k < n ∧ b k = true ∧ (∀ j, j < n → b j = true → rk k ≤ rk j) ∧ (st k = true ∨ ∀ j, j < n → b j = true → rk j = rk k → st j = false ∧ k ≤ j) := by
  obtain ⟨m, hm, hk, hb, rfl⟩ := chooseG_has h
  refine ⟨List.mem_range.mp hk, hb, fun j hj hbj => hm.1 j (List.mem_range.mpr hj) hbj, ?_⟩
  rw [chooseG_min hm] at h
  simp only [List.filter_filter, List.head?_append, List.head?_filter] at h
  cases e : (List.range n).find? (fun a => st a && (rk a == rk k && b a)) with
  | some u =>
    rw [e] at h
    have : u = k := by simpa using h
    subst this
    have := List.find?_some e
    simp only [Bool.and_eq_true] at this
    exact .inl this.1
  | none =>
    rw [e] at h
    right
    intro j hj hbj er
    have n1 := List.find?_eq_none.mp e j (List.mem_range.mpr hj)
    refine ⟨by simpa [hbj, er] using n1, ?_⟩
    have h : (List.range n).find? (fun a => rk a == rk k && b a) = some k := by simpa using h
    rw [List.find?_range_eq_some] at h
    refine Nat.le_of_not_lt fun lt => ?_
    have := h.2.2 j lt
    simp [hbj, er] at this
def mkC (ts : List Tk) (r : Nat → Rs) : List Cf := (List.range ts.length).map fun j => (ts.getD j gTk, r j)
def whoI (ts : List Tk) (r : Nat → Rs) : Option Nat := chooseG (rkT ts) (fun j => (r j).b) (fun j => decide (0 < (r j).sp)) (List.range ts.length)
def stepI (ts : List Tk) (r : Nat → Rs) (j : Nat) : Rs := match whoI ts r with
  | none => if (r j).b then r j else waitR (ts.getD j gTk) (r j)
  | some k => if j = k then speakR (ts.getD j gTk) (r j) else if !(r j).b && decide (rkT ts j < rkT ts k) then waitR (ts.getD j gTk) (r j) else r j
section
variable {ts : List Tk} {S : RdS} {r : Nat → Rs}
theorem who_mk (ts : List Tk) (r : Nat → Rs) : who (mkC ts r) = (whoI ts r).map fun k => (ts.getD k gTk, r k) := by
  unfold who mkC
  rw [chooseG_map]
  rfl
theorem step_mk (nd : (ts.map (·.name)).Nodup) (r : Nat → Rs) : stepS (mkC ts r) = mkC ts (stepI ts r) := by
  unfold stepS
  rw [who_mk]
  unfold mkC
  rw [List.map_map]
  refine List.map_congr_left fun j hj => ?_
  have hj := List.mem_range.mp hj
  simp only [Function.comp, stepI]
  cases e : whoI ts r with
  | none =>
    simp only [Option.map_none, afterS, afterW, waits]
    by_cases c : (r j).b = true
    · simp [-List.getD_eq_getElem?_getD, c]
    · simp [-List.getD_eq_getElem?_getD, c]
  | some k =>
    have hk := (choose_some e).1
    have bk := (choose_some e).2.1
    have bk : (r k).b = true := bk
    simp only [Option.map_some]
    by_cases c : j = k
    · subst c
      simp [-List.getD_eq_getElem?_getD, afterS, afterW, waits, bk]
    · have ne : (ts.getD j gTk).name ≠ (ts.getD k gTk).name := fun z => c (name_ne nd hj hk z)
      have fst := afterW_fst (some (ts.getD k gTk)) (ts.getD j gTk, r j)
      simp only [if_neg c, afterS, fst, ne, if_false]
      have ew : waits (some (ts.getD k gTk)) (ts.getD j gTk, r j) = (!(r j).b && decide (rkT ts j < rkT ts k)) := rfl
      unfold afterW
      rw [ew]
      by_cases c2 : (!(r j).b && decide (rkT ts j < rkT ts k)) = true
      · rw [if_pos c2, if_pos c2]
      · rw [if_neg c2, if_neg c2]
theorem start_mk : start ts = mkC ts fun _ => ⟨0, false, 0, 0⟩ := by
  unfold start mkC
  refine List.ext_getElem? fun j => ?_
  rw [List.getElem?_map, List.getElem?_map]
  by_cases hj : j < ts.length
  · rw [getD_map_gTk j hj, List.getElem?_range hj]
    rfl
  · rw [List.getElem?_eq_none (by omega), List.getElem?_eq_none (by simp; omega)]
    rfl
end
end HR
set_option Elab.async false
set_option linter.all false
set_option maxRecDepth 20000
set_option exponentiation.threshold 5000
namespace HR
open PySem L2
/-! ### what the program takes for halls: any frozen value -/
mutual
def szD : D → Bool
  | .lst xs => decide (xs.length ≤ 1000) && szL xs
  | .tup xs => decide (xs.length ≤ 1000) && szL xs
  | .str x => decide (x.length ≤ 1000)
  | .non => true
  | .bl _ => true
  | .int _ => true
  | .dct [] => true
  | _ => false
def szL : List D → Bool
  | [] => true
  | x :: xs => szD x && szL xs
end
def sqD : D → Option (List D)
  | .lst xs => some xs
  | .tup xs => some xs
  | _ => none
@[simp] theorem isi_t1 : isiB "NoneType" "list" = false := by decide
@[simp] theorem isi_t2 : isiB "NoneType" "tuple" = false := by decide
@[simp] theorem isi_t3 : isiB "bool" "list" = false := by decide
@[simp] theorem isi_t4 : isiB "bool" "tuple" = false := by decide
@[simp] theorem isi_t5 : isiB "dict" "list" = false := by decide
@[simp] theorem isi_t6 : isiB "dict" "tuple" = false := by decide
@[simp] theorem isi_t7 : isiB "NoneType" "int" = false := by decide
@[simp] theorem isi_t8 : isiB "list" "int" = false := by decide
@[simp] theorem isi_t9 : isiB "tuple" "int" = false := by decide
@[simp] theorem isi_ta : isiB "dict" "int" = false := by decide
@[simp] theorem isi_tb : isiB "bool" "bool" = true := by decide
@[simp] theorem isi_tc : isiB "NoneType" "str" = false := by decide
@[simp] theorem isi_td : isiB "list" "str" = false := by decide
@[simp] theorem isi_te : isiB "tuple" "str" = false := by decide
@[simp] theorem isi_tf : isiB "dict" "str" = false := by decide
@[simp] theorem isi_tg : isiB "bool" "str" = false := by decide
/-! ### halls with lists and tuples exchanged -/
def AllR {ξ : Type} (R : D → ξ → Prop) (xs : List D) (ps : List ξ) : Prop := xs.length = ps.length ∧ ∀ (k : Nat) (x : D), xs[k]? = some x → ∃ p, ps[k]? = some p ∧ R x p
def DrT (d : D) (p : Int × Int) : Prop := sqD d = some [.int p.1, .int p.2]
theorem AllR.all {ξ : Type} {R : D → ξ → Prop} {xs : List D} {ps : List ξ} (ar : AllR R xs ps) {p : D → Bool} (h : ∀ x q, x ∈ xs → q ∈ ps → R x q → p x = true) : xs.all p = true := by
  rw [List.all_eq_true]
  intro x hx
  obtain ⟨k, hk⟩ := List.mem_iff_getElem?.mp hx
  obtain ⟨q, hq, r⟩ := ar.2 k x hk
  exact h x q hx (List.mem_of_getElem? hq) r
end HR
set_option Elab.async false
set_option linter.all false
set_option maxRecDepth 20000
set_option exponentiation.threshold 5000
set_option Elab.async false
set_option linter.all false
set_option maxRecDepth 20000
set_option exponentiation.threshold 5000
namespace HR
open PySem L2
/-! ### law k01: lists and tuples exchanged at random -/
def Drs (j i : Nat) (x : D) (R : D → Prop) : Prop := ∀ (h : OH) (P : D → OH → Prop), Spr h i → (∀ d h', R d → Spr h' i → Chg i h h' → P d h') → (Sh.l_dressed_n j [.ref i, x] h).W P
theorem Drs.mono {j i : Nat} {x : D} {R R' : D → Prop} (a : Drs j i x R) (q : ∀ d, R d → R' d) : Drs j i x R' := fun h P s z => a h P s fun d h' r => z d h' (q d r)
structure RT (p : Int × Int) (d : D) : Prop where
  dr : DrT d p
  sz : szD d = true
  rp : Rp d 1 209
end HR
set_option Elab.async false
set_option linter.all false
set_option maxRecDepth 20000
set_option exponentiation.threshold 5000
set_option Elab.async false
set_option linter.all false
set_option maxRecDepth 20000
set_option exponentiation.threshold 5000
namespace HR
open PySem L2
/-! ### law k01: names with one other character; a hall that is changed in place -/
def dL (t : Tk) : D := .lst [.str t.name, .int t.rank, .lst (t.pre.map dT), .lst (t.cyc.map dT)]
/-- n own talkers in a row -/
structure Sb (n : Nat) (f : Nat → Tk) (h : OH) : Prop where
  pre : ∀ m, m < n → h[3 * m]? = some (.lst ((f m).pre.map dT))
  cyc : ∀ m, m < n → h[3 * m + 1]? = some (.lst ((f m).cyc.map dT))
  tk : ∀ m, m < n → h[3 * m + 2]? = some (.lst [.str (f m).name, .int (f m).rank, .ref (3 * m), .ref (3 * m + 1)])
def rf (m : Nat) : D := .ref (3 * m + 2)
def upd1 (f : Nat → Tk) (k : Nat) (t : Tk) : Nat → Tk := fun m => if m = k then t else f m
theorem Sb.rank {n k : Nat} {f : Nat → Tk} {h : OH} (s : Sb n f h) (hk : k < n) (hl : 3 * n ≤ h.length) (r : Int) : Sb n (upd1 f k { f k with rank := r }) (h.set (3 * k + 2) (.lst [.str (f k).name, .int r, .ref (3 * k), .ref (3 * k + 1)])) := by
  refine ⟨fun m hm => ?_, fun m hm => ?_, fun m hm => ?_⟩
  · rw [List.getElem?_set_ne (by omega)]
    unfold upd1
    split
    · subst m; exact s.pre k hk
    · exact s.pre m hm
  · rw [List.getElem?_set_ne (by omega)]
    unfold upd1
    split
    · subst m; exact s.cyc k hk
    · exact s.cyc m hm
  · unfold upd1
    split
    · subst m
      rw [List.getElem?_set_self (by omega)]
    · rw [List.getElem?_set_ne (by omega)]
      exact s.tk m hm
end HR
set_option Elab.async false
set_option linter.all false
set_option maxRecDepth 20000
set_option exponentiation.threshold 5000
namespace HR
open PySem L2
/-! ### the law's own run (maths) -/
theorem choose_full {n k : Nat} {rk : Nat → Int} {b st : Nat → Bool} (h : chooseG rk b st (List.range n) = some k) :
    k < n ∧ b k = true ∧ (∀ j, j < n → b j = true → rk k ≤ rk j) ∧ (∀ j, j < n → b j = true → rk j = rk k → st j = true → st k = true) ∧ (∀ j, j < n → b j = true → rk j = rk k → st j = st k → k ≤ j) := by
  obtain ⟨m, hm, hk, hb, rfl⟩ := chooseG_has h
  refine ⟨List.mem_range.mp hk, hb, fun j hj hbj => hm.1 j (List.mem_range.mpr hj) hbj, ?_⟩
  rw [chooseG_min hm] at h
  simp only [List.filter_filter, List.head?_append, List.head?_filter] at h
  cases e : (List.range n).find? (fun a => st a && (rk a == rk k && b a)) with
  | some u =>
    rw [e] at h
    have : u = k := by simpa using h
    subst this
    have s := List.find?_some e
    simp only [Bool.and_eq_true] at s
    refine ⟨fun _ _ _ _ _ => s.1, fun j hj hbj er es => ?_⟩
    rw [List.find?_range_eq_some] at e
    refine Nat.le_of_not_lt fun lt => ?_
    have := e.2.2 j lt
    simp [hbj, er, es, s.1] at this
  | none =>
    rw [e] at h
    have no : ∀ j, j < n → b j = true → rk j = rk k → st j = false := fun j hj hbj er => by
      have n1 := List.find?_eq_none.mp e j (List.mem_range.mpr hj)
      simpa [hbj, er] using n1
    refine ⟨fun j hj hbj er es => ?_, fun j hj hbj er _ => ?_⟩
    · rw [no j hj hbj er] at es; cases es
    · have h : (List.range n).find? (fun a => rk a == rk k && b a) = some k := by simpa using h
      rw [List.find?_range_eq_some] at h
      refine Nat.le_of_not_lt fun lt => ?_
      have := h.2.2 j lt
      simp [hbj, er] at this
section
variable {ts : List Tk} {r : Nat → Rs}
def stI (r : Nat → Rs) (j : Nat) : Int := if (r j).sp = 0 then 1 else 0
def keyI (ts : List Tk) (r : Nat → Rs) (j : Nat) : T3 := (rkT ts j, stI r j, (j : Int))
def rdyL (ts : List Tk) (r : Nat → Rs) : List T3 := ((List.range ts.length).filter fun j => (r j).b).map (keyI ts r)
theorem rkT_bd (w : WfHall T30 ts) {j : Nat} (hj : j < ts.length) : 1 ≤ rkT ts j ∧ rkT ts j ≤ 10 := by
  have : ts.getD j gTk ∈ ts := by simp [hj]
  exact ⟨(w.tk _ this).r1, (w.tk _ this).r2⟩
theorem keyI_ok (w : WfHall T30 ts) {j : Nat} (hj : j < ts.length) : ok3 (keyI ts r j) = true := by
  have := rkT_bd w hj
  have l := w.len
  have s : 0 ≤ stI r j ∧ stI r j ≤ 1 := by unfold stI; split <;> omega
  refine decide_eq_true ?_
  show 0 ≤ rkT ts j ∧ rkT ts j < 1000000 ∧ 0 ≤ stI r j ∧ stI r j < 1000000 ∧ 0 ≤ (j : Int) ∧ (j : Int) < 1000000
  omega
theorem rdyL_ok (w : WfHall T30 ts) : (rdyL ts r).all ok3 = true := List.all_eq_true.mpr fun p hp => by
  obtain ⟨j, hj, rfl⟩ := List.mem_map.mp hp
  exact keyI_ok w (List.mem_range.mp (List.mem_filter.mp hj).1)
theorem rdyL_len (w : WfHall T30 ts) : (rdyL ts r).length ≤ 10 := by
  have := w.len
  have l : ((List.range ts.length).filter fun j => (r j).b).length ≤ (List.range ts.length).length := List.length_filter_le _ _
  simp only [rdyL, List.length_map, List.length_range] at l ⊢
  omega
/-- the first of the sorted ones speaks -/
theorem first_who (w : WfHall T30 ts) (sp0 : ∀ j, j < ts.length → 0 ≤ (r j).sp) : match whoI ts r with
    | none => sort3 (rdyL ts r) = []
    | some k => k < ts.length ∧ (r k).b = true ∧ ∃ rest, sort3 (rdyL ts r) = keyI ts r k :: rest := by
  cases e : whoI ts r with
  | none =>
    have : rdyL ts r = [] := by
      unfold rdyL
      rw [List.map_eq_nil_iff, List.filter_eq_nil_iff]
      intro j hj
      rw [chooseG_none.mp e j hj]
      decide
    dsimp only
    rw [this]
    rfl
  | some k =>
    obtain ⟨hk, hb, h1, h2, h3⟩ := choose_full e
    refine ⟨hk, hb, ?_⟩
    have mk : keyI ts r k ∈ rdyL ts r := List.mem_map.mpr ⟨k, List.mem_filter.mpr ⟨List.mem_range.mpr hk, hb⟩, rfl⟩
    cases es : sort3 (rdyL ts r) with
    | nil =>
      have := (sort3_perm (rdyL ts r)).mem_iff.mpr mk
      rw [es] at this
      cases this
    | cons x rest =>
      refine ⟨rest, ?_⟩
      have mx : x ∈ rdyL ts r := (sort3_perm _).mem_iff.mp (by rw [es]; exact List.mem_cons_self)
      have so := sort3_le (rdyL ts r)
      rw [es] at so
      have l1 : cd3 x ≤ cd3 (keyI ts r k) := by
        have := (sort3_perm (rdyL ts r)).mem_iff.mpr mk
        rw [es] at this
        rcases List.mem_cons.mp this with e | m
        · rw [e]; exact Int.le_refl _
        · exact (List.pairwise_cons.mp so).1 _ m
      obtain ⟨j, hj, rfl⟩ := List.mem_map.mp mx
      obtain ⟨hj, hbj⟩ := List.mem_filter.mp hj
      have hj := List.mem_range.mp hj
      have l2 : cd3 (keyI ts r k) ≤ cd3 (keyI ts r j) := by
        rw [cd3_eq, cd3_eq]
        simp only [keyI]
        have a := h1 j hj hbj
        have b := h2 j hj hbj
        have c := h3 j hj hbj
        have l := w.len
        have s1 : 0 ≤ stI r j ∧ stI r j ≤ 1 := by unfold stI; split <;> omega
        have s2 : 0 ≤ stI r k ∧ stI r k ≤ 1 := by unfold stI; split <;> omega
        by_cases er : rkT ts j = rkT ts k
        · have b := b er
          have c := c er
          have p1 := sp0 j hj
          have p2 := sp0 k hk
          have s3 : stI r k ≤ stI r j := by
            unfold stI
            by_cases z : (r j).sp = 0
            · rw [if_pos z]; split <;> omega
            · have := b (by simp; omega)
              simp at this
              rw [if_neg z, if_neg (by omega)]
              omega
          by_cases es : stI r j = stI r k
          · have : k ≤ j := c (by
              unfold stI at es
              by_cases z : (r j).sp = 0
              · rw [if_pos z] at es
                by_cases z2 : (r k).sp = 0
                · rw [z, z2]
                · rw [if_neg z2] at es; omega
              · rw [if_neg z] at es
                by_cases z2 : (r k).sp = 0
                · rw [if_pos z2] at es; omega
                · have a1 : 0 < (r j).sp := by omega
                  have a2 : 0 < (r k).sp := by omega
                  simp [a1, a2])
            omega
          · omega
        · omega
      rw [cd3_inj (keyI_ok w hj) (keyI_ok w hk) (Int.le_antisymm l1 l2)]
def restR (t : Tk) (r : Rs) : Int := if r.b then (nth t.pre t.cyc r.i).2 - r.sp else (nth t.pre t.cyc r.i).1 - r.wt
def stN (b : Bool) : Str := if b then "ready" else "silent"
def partL (t : Tk) (r : Rs) : List D := [.str (stN r.b), .int r.i, .int (restR t r), .int r.sp]
/-- what is kept of the states -/
structure InvQ (ts : List Tk) (r : Nat → Rs) : Prop where
  sp : ∀ j, j < ts.length → 0 ≤ (r j).sp
  sil : ∀ j, j < ts.length → (r j).b = false → (r j).sp = 0
theorem who_bd {k : Nat} (e : whoI ts r = some k) : k < ts.length ∧ (r k).b = true := by
  obtain ⟨a, b, _⟩ := choose_full e
  exact ⟨a, b⟩
theorem InvQ.step (I : InvQ ts r) : InvQ ts (stepI ts r) := by
  have key : ∀ j, j < ts.length → 0 ≤ (stepI ts r j).sp ∧ ((stepI ts r j).b = false → (stepI ts r j).sp = 0) := fun j hj => by
    have a := I.sp j hj
    have b := I.sil j hj
    unfold stepI
    cases e : whoI ts r with
    | none =>
      dsimp only
      split
      · exact ⟨a, b⟩
      · rename_i c
        exact ⟨a, fun _ => b (by simpa using c)⟩
    | some k =>
      dsimp only
      have hk := who_bd e
      split
      · rename_i c
        subst c
        unfold speakR
        split
        · exact ⟨Int.le_refl _, fun _ => rfl⟩
        · refine ⟨by dsimp only; omega, fun z => ?_⟩
          dsimp only at z
          rw [hk.2] at z
          cases z
      · split
        · rename_i c
          simp only [Bool.and_eq_true, Bool.not_eq_true'] at c
          exact ⟨a, fun _ => b c.1⟩
        · exact ⟨a, b⟩
  exact ⟨fun j hj => (key j hj).1, fun j hj => (key j hj).2⟩
def r00 : Nat → Rs := fun _ => ⟨0, false, 0, 0⟩
theorem invQ_0 : InvQ ts r00 := ⟨fun _ _ => Int.le_refl _, fun _ _ _ => rfl⟩
/-- the states at the ticks -/
def itI (ts : List Tk) : Nat → Nat → Rs
  | 0 => r00
  | n + 1 => stepI ts (itI ts n)
theorem invQ_it : ∀ n, InvQ ts (itI ts n)
  | 0 => invQ_0
  | n + 1 => (invQ_it n).step
theorem start_mk0 : start ts = mkC ts r00 := start_mk
theorem it_mk (nd : (ts.map (·.name)).Nodup) : ∀ n, itS (start ts) n = mkC ts (itI ts n)
  | 0 => start_mk0
  | n + 1 => by
    show stepS (itS (start ts) n) = _
    rw [it_mk nd n, step_mk nd]
    rfl
/-- who speaks at a tick -/
def spkI (ts : List Tk) (n : Nat) : Option Str := (whoI ts (itI ts n)).map fun k => (ts.getD k gTk).name
def stS (b sp : Bool) : Str := if sp then "speaking" else stN b
def stateD (ts : List Tk) (r : Nat → Rs) (j : Nat) : D := .tup [.str (stS (r j).b (decide (whoI ts r = some j))), .int (r j).i, .int (restR (ts.getD j gTk) (r j))]
def statesD (ts : List Tk) (r : Nat → Rs) : List D := (List.range ts.length).map (stateD ts r)
def runD (ts : List Tk) (n : Nat) : D := .lst ((List.range n).map fun k => .tup [dN (spkI ts k), .lst (statesD ts (itI ts k))])
end
end HR
set_option Elab.async false
set_option linter.all false
set_option maxRecDepth 20000
namespace HR
open PySem L2
/-! ### the clocks count the simulation's ticks -/
section
variable {ts : List Tk}
/-- is a tick quiet for rank k -/
def qt (ts : List Tk) (k n : Nat) : Bool := match whoI ts (itI ts n) with
  | none => true
  | some j => decide ((k : Int) < rkT ts j)
def Qs (ts : List Tk) (k : Nat) : Nat → Nat
  | 0 => 0
  | n + 1 => Qs ts k n + if qt ts k n then 1 else 0
theorem qt_none {k n : Nat} (e : whoI ts (itI ts n) = none) : qt ts k n = true := by simp [qt, e]
theorem qt_some {k n a : Nat} (e : whoI ts (itI ts n) = some a) : qt ts k n = decide ((k : Int) < rkT ts a) := by simp [qt, e]
structure InvT (t : Tk) (Q : Nat) (r : Rs) : Prop where
  sil : r.b = false → acc (·.1) t.pre t.cyc r.i + r.wt = (Q : Int) ∧ 0 ≤ r.wt ∧ r.wt < (nth t.pre t.cyc r.i).1 ∧ r.sp = 0
  rdy : r.b = true → acc (·.1) t.pre t.cyc (r.i + 1) = (Q : Int) ∧ 0 ≤ r.sp ∧ r.sp < (nth t.pre t.cyc r.i).2
def spk (t : Tk) (r : Rs) : Int := acc (·.2) t.pre t.cyc r.i + r.sp
theorem acc_s (f : Int × Int → Int) (p c : List (Int × Int)) (n : Nat) : acc f p c (n + 1) = acc f p c n + f (nth p c n) := rfl
theorem invT_wait {t : Tk} (w : WfTk T30 t) {Q : Nat} {r : Rs} (I : InvT t Q r) (hb : r.b = false) : InvT t (Q + 1) (waitR t r) := by
  obtain ⟨a, b, c, d⟩ := I.sil hb
  have l1 := nth_pos w.pos2 r.i
  unfold waitR
  refine ⟨fun h => ?_, fun h => ?_⟩
  · have h : ¬ r.wt + 1 = (nth t.pre t.cyc r.i).1 := by simpa using h
    exact ⟨by dsimp only; omega, by dsimp only; omega, by dsimp only; omega, d⟩
  · have h : r.wt + 1 = (nth t.pre t.cyc r.i).1 := by simpa using h
    refine ⟨?_, by dsimp only; omega, by dsimp only; omega⟩
    rw [acc_s]
    dsimp only
    omega
theorem invT_speak {t : Tk} (w : WfTk T30 t) {Q : Nat} {r : Rs} (I : InvT t Q r) (hb : r.b = true) : InvT t Q (speakR t r) := by
  obtain ⟨a, b, c⟩ := I.rdy hb
  have l1 := nth_pos w.pos1 (r.i + 1)
  unfold speakR
  split
  · refine ⟨fun _ => ⟨by dsimp only; omega, by dsimp only; omega, by dsimp only; omega, rfl⟩, fun h => by cases h⟩
  · refine ⟨fun h => ?_, fun h => ⟨a, by dsimp only; omega, by dsimp only; omega⟩⟩
    dsimp only at h
    rw [hb] at h
    cases h
theorem invT_cnt {t : Tk} (w : WfTk T30 t) {Q : Nat} {r : Rs} (I : InvT t Q r) : cnt t.pre t.cyc Q = r.i + if r.b then 1 else 0 := by
  obtain ⟨c1, c2⟩ := cnt_at w.pos1 Q
  cases hb : r.b with
  | false =>
    obtain ⟨a, b, c, d⟩ := I.sil hb
    simp only [Bool.false_eq_true, if_false, Nat.add_zero]
    exact acc_inj w.pos1 (q := (Q : Int)) c1 c2 (by omega) (by rw [acc_s]; omega)
  | true =>
    obtain ⟨a, b, c⟩ := I.rdy hb
    have l1 := nth_pos w.pos1 (r.i + 1)
    simp only [if_true]
    refine acc_inj w.pos1 (q := (Q : Int)) c1 c2 (by omega) ?_
    rw [acc_s (·.1) t.pre t.cyc (r.i + 1)]
    omega
theorem invT_len {t : Tk} (w : WfTk T30 t) {Q : Nat} {r : Rs} (I : InvT t Q r) : (len2 t.pre t.cyc Q : Int) = spk t r + if r.b then (nth t.pre t.cyc r.i).2 - r.sp else 0 := by
  rw [len2_z w.pos2, invT_cnt w I]
  unfold spk
  cases hb : r.b with
  | false =>
    obtain ⟨_, _, _, d⟩ := I.sil hb
    simp [d]
  | true =>
    simp only [if_true, acc_s]
    omega
theorem rk_pos (w : WfHall T30 ts) {j : Nat} (hj : j < ts.length) : 1 ≤ rkT ts j ∧ rkT ts j ≤ 10 ∧ ((rkT ts j).toNat : Int) = rkT ts j := by
  have := rkT_bd w hj
  omega
theorem invA (w : WfHall T30 ts) : ∀ n j, j < ts.length → InvT (ts.getD j gTk) (Qs ts (rkT ts j).toNat n) (itI ts n j)
  | 0, j, hj => by
    have wt := w.tk (ts.getD j gTk) (by simp [hj])
    have l1 := nth_pos wt.pos1 0
    refine ⟨fun _ => ⟨?_, ?_, ?_, rfl⟩, fun h => by cases h⟩
    · simp [itI, r00, acc, Qs]
    · exact Int.le_refl _
    · simp only [itI, r00]; omega
  | n + 1, j, hj => by
    have I := invA w n j hj
    have wt := w.tk (ts.getD j gTk) (by simp [hj])
    have rp := rk_pos w hj
    have er : rkT ts j = (ts.getD j gTk).rank := rfl
    show InvT _ (Qs ts (rkT ts j).toNat n + if qt ts (rkT ts j).toNat n then 1 else 0) (stepI ts (itI ts n) j)
    unfold stepI qt
    cases e : whoI ts (itI ts n) with
    | none =>
      have nb : (itI ts n j).b = false := chooseG_none.mp e j (List.mem_range.mpr hj)
      simp only [nb, Bool.false_eq_true, if_false, if_true]
      exact invT_wait wt I nb
    | some k0 =>
      obtain ⟨hk, hb, hmin, _⟩ := choose_full e
      dsimp only
      by_cases c : j = k0
      · subst c
        have : ¬ ((rkT ts j).toNat : Int) < rkT ts j := by omega
        simp only [this, decide_false, Bool.false_eq_true, if_false, if_true, Nat.add_zero]
        exact invT_speak wt I hb
      · rw [if_neg c]
        by_cases d : rkT ts j < rkT ts k0
        · have nb : (itI ts n j).b = false := by
            cases h : (itI ts n j).b with
            | false => rfl
            | true => have := hmin j hj h; omega
          have d2 : ((rkT ts j).toNat : Int) < rkT ts k0 := by omega
          simp only [d, nb, d2, decide_true, Bool.not_false, Bool.and_self, if_true]
          exact invT_wait wt I nb
        · have d2 : ¬ ((rkT ts j).toNat : Int) < rkT ts k0 := by omega
          simp only [d, d2, decide_false, Bool.and_false, Bool.false_eq_true, if_false, Nat.add_zero]
          exact I
/-- one more tick spoken, by the speaker -/
theorem spk_step (w : WfHall T30 ts) (n : Nat) {j : Nat} (hj : j < ts.length) : spk (ts.getD j gTk) (itI ts (n + 1) j) = spk (ts.getD j gTk) (itI ts n j) + if whoI ts (itI ts n) = some j then 1 else 0 := by
  have I := invA w n j hj
  show spk _ (stepI ts (itI ts n) j) = _
  unfold stepI
  cases e : whoI ts (itI ts n) with
  | none =>
    dsimp only
    split
    · simp
    · simp [spk, waitR]
  | some k0 =>
    obtain ⟨hk, hb, _⟩ := choose_full e
    dsimp only
    by_cases c : j = k0
    · subst c
      obtain ⟨_, s0, s1⟩ := I.rdy hb
      simp only [if_true]
      unfold speakR
      split
      · simp only [spk, acc_s]; omega
      · simp only [spk]; omega
    · have : ¬ (some k0 = some j) := fun z => c (Option.some.inj z).symm
      rw [if_neg c, if_neg this]
      split <;> simp [spk, waitR]
theorem sum_one (f : Nat → Int) (P : Nat → Prop) [DecidablePred P] (j0 : Option Nat) : ∀ m : Nat, ((List.range m).map fun j => if P j then f j + (if j0 = some j then 1 else 0) else 0).sum = ((List.range m).map fun j => if P j then f j else 0).sum + (match j0 with | none => 0 | some a => if a < m ∧ P a then 1 else 0)
  | 0 => by cases j0 <;> simp
  | m + 1 => by
    have ih := sum_one f P j0 m
    rw [List.range_succ, List.map_append, List.map_append, List.sum_append, List.sum_append, ih]
    cases j0 with
    | none => simp
    | some a =>
      by_cases c : a = m
      · subst c
        have h1 : ¬ (a < a ∧ P a) := fun z => Nat.lt_irrefl _ z.1
        by_cases p : P a
        · have h2 : a < a + 1 ∧ P a := ⟨by omega, p⟩
          simp [p]; omega
        · simp [p]
      · have c2 : ¬ some a = some m := fun z => c (Option.some.inj z)
        have h1 : (a < m ∧ P a) ↔ (a < m + 1 ∧ P a) := by constructor <;> (intro z; exact ⟨by omega, z.2⟩)
        by_cases p : P m
        · simp only [List.map_cons, List.map_nil, List.sum_cons, List.sum_nil, c2, if_false, p, if_true]
          by_cases q : a < m ∧ P a
          · rw [if_pos q, if_pos (h1.mp q)]; omega
          · rw [if_neg q, if_neg fun z => q (h1.mpr z)]; omega
        · simp only [List.map_cons, List.map_nil, List.sum_cons, List.sum_nil, c2, if_false, p]
          by_cases q : a < m ∧ P a
          · rw [if_pos q, if_pos (h1.mp q)]; omega
          · rw [if_neg q, if_neg fun z => q (h1.mpr z)]; omega
/-- what the talkers of a rank have spoken -/
def Ssp (ts : List Tk) (k n : Nat) : Int := ((List.range ts.length).map fun j => if rkT ts j = (k : Int) then spk (ts.getD j gTk) (itI ts n j) else 0).sum
theorem Ssp_step (w : WfHall T30 ts) (k n : Nat) : Ssp ts k (n + 1) = Ssp ts k n + (match whoI ts (itI ts n) with | none => 0 | some a => if rkT ts a = (k : Int) then 1 else 0) := by
  have e := sum_one (fun j => spk (ts.getD j gTk) (itI ts n j)) (fun j => rkT ts j = (k : Int)) (whoI ts (itI ts n)) ts.length
  have e1 : Ssp ts k (n + 1) = ((List.range ts.length).map fun j => if rkT ts j = (k : Int) then spk (ts.getD j gTk) (itI ts n j) + (if whoI ts (itI ts n) = some j then 1 else 0) else 0).sum := by
    unfold Ssp
    congr 1
    refine List.map_congr_left fun j hj => ?_
    rw [spk_step w n (List.mem_range.mp hj)]
  rw [e1, e]
  unfold Ssp
  congr 1
  cases ew : whoI ts (itI ts n) with
  | none => rfl
  | some a =>
    have := (who_bd ew).1
    simp [this]
theorem Ssp_eq (w : WfHall T30 ts) (k : Nat) : ∀ n, Ssp ts (k + 1) n = (Qs ts k n : Int) - Qs ts (k + 1) n
  | 0 => by
    have : ∀ l : List Nat, (l.map fun j => if rkT ts j = ((k + 1 : Nat) : Int) then spk (ts.getD j gTk) (itI ts 0 j) else 0).sum = 0 := fun l => by
      induction l with
      | nil => rfl
      | cons a l ih =>
        rw [List.map_cons, List.sum_cons, ih]
        split <;> simp [spk, itI, r00, acc]
    simp only [Ssp, this, Qs]
    omega
  | n + 1 => by
    rw [Ssp_step w, Ssp_eq w k n]
    cases ew : whoI ts (itI ts n) with
    | none => simp [Qs, qt_none ew]; omega
    | some a =>
      simp only [Qs, qt_some ew]
      by_cases c1 : rkT ts a = ((k + 1 : Nat) : Int)
      · have h1 : (k : Int) < rkT ts a := by omega
        have h2 : ¬ ((k + 1 : Nat) : Int) < rkT ts a := by omega
        simp only [c1, if_true, h1, h2, decide_true, decide_false, Bool.false_eq_true, if_false]
        have h3 : (k : Int) < ((k + 1 : Nat) : Int) := by omega
        have h4 : ¬ ((k + 1 : Nat) : Int) < ((k + 1 : Nat) : Int) := by omega
        simp only [h3, h4, decide_true, decide_false, Bool.false_eq_true, if_false, if_true]
        omega
      · by_cases c2 : ((k + 1 : Nat) : Int) < rkT ts a
        · have h1 : (k : Int) < rkT ts a := by omega
          simp only [c1, if_false, h1, c2, decide_true, if_true]
          omega
        · have h1 : ¬ (k : Int) < rkT ts a := by omega
          simp only [c1, if_false, h1, c2, decide_false, Bool.false_eq_true]
          omega
theorem LL_sum (k Q : Nat) : (LL ts k Q : Int) = ((List.range ts.length).map fun j => if rkT ts j = (k : Int) then (len2 (ts.getD j gTk).pre (ts.getD j gTk).cyc Q : Int) else 0).sum := by
  have e : ts = (List.range ts.length).map fun j => ts.getD j gTk := by
    refine List.ext_getElem? fun i => ?_
    rw [List.getElem?_map]
    by_cases c : i < ts.length
    · rw [List.getElem?_range c]; simp [c]
    · rw [List.getElem?_eq_none (by omega), List.getElem?_eq_none (by simp; omega)]; rfl
  have key : ∀ l : List Nat, ((((l.map fun j => ts.getD j gTk).filter fun t => t.rank == (k : Int)).map fun t => len2 t.pre t.cyc Q).sum : Int) = (l.map fun j => if rkT ts j = (k : Int) then (len2 (ts.getD j gTk).pre (ts.getD j gTk).cyc Q : Int) else 0).sum := fun l => by
    induction l with
    | nil => rfl
    | cons a l ih =>
      rw [List.map_cons, List.map_cons, List.sum_cons, ← ih]
      by_cases c : rkT ts a = (k : Int)
      · have c2 : ((ts.getD a gTk).rank == (k : Int)) = true := by simpa [rkT] using c
        rw [List.filter_cons_of_pos (by exact c2), List.map_cons, List.sum_cons, if_pos c]
        simp
      · have c2 : ¬ ((ts.getD a gTk).rank == (k : Int)) = true := by simpa [rkT] using c
        rw [List.filter_cons_of_neg (by exact c2), if_neg c]
        simp
  have := key (List.range ts.length)
  rw [← e] at this
  exact this
/-- the talks that are ready, and what of them is spoken -/
theorem Ssp_le (w : WfHall T30 ts) (k n : Nat) : Ssp ts k n ≤ LL ts k (Qs ts k n) ∧ ((∀ j, j < ts.length → rkT ts j = (k : Int) → (itI ts n j).b = false) → Ssp ts k n = LL ts k (Qs ts k n)) := by
  rw [LL_sum]
  unfold Ssp
  have key : ∀ l : List Nat, (∀ j ∈ l, j < ts.length) → (l.map fun j => if rkT ts j = (k : Int) then spk (ts.getD j gTk) (itI ts n j) else 0).sum ≤ (l.map fun j => if rkT ts j = (k : Int) then (len2 (ts.getD j gTk).pre (ts.getD j gTk).cyc (Qs ts k n) : Int) else 0).sum ∧ ((∀ j ∈ l, rkT ts j = (k : Int) → (itI ts n j).b = false) → (l.map fun j => if rkT ts j = (k : Int) then spk (ts.getD j gTk) (itI ts n j) else 0).sum = (l.map fun j => if rkT ts j = (k : Int) then (len2 (ts.getD j gTk).pre (ts.getD j gTk).cyc (Qs ts k n) : Int) else 0).sum) := fun l => by
    induction l with
    | nil => exact fun _ => ⟨Int.le_refl _, fun _ => rfl⟩
    | cons a l ih =>
      intro hl
      obtain ⟨i1, i2⟩ := ih fun j hj => hl j (List.mem_cons_of_mem _ hj)
      have ha := hl a List.mem_cons_self
      simp only [List.map_cons, List.sum_cons]
      by_cases c : rkT ts a = (k : Int)
      · have I := invA w n a ha
        rw [show (rkT ts a).toNat = k by omega] at I
        have wt := w.tk (ts.getD a gTk) (by simp [ha])
        have L := invT_len wt I
        rw [if_pos c, if_pos c, L]
        cases hb : (itI ts n a).b with
        | false =>
          simp only [Bool.false_eq_true, if_false]
          refine ⟨by omega, fun h => ?_⟩
          rw [i2 fun j hj => h j (List.mem_cons_of_mem _ hj)]
          omega
        | true =>
          obtain ⟨_, _, s⟩ := I.rdy hb
          simp only [if_true]
          refine ⟨by omega, fun h => ?_⟩
          have := h a List.mem_cons_self c
          rw [hb] at this
          cases this
      · rw [if_neg c, if_neg c]
        exact ⟨by omega, fun h => by rw [i2 fun j hj => h j (List.mem_cons_of_mem _ hj)]⟩
  obtain ⟨a, b⟩ := key (List.range ts.length) fun j hj => List.mem_range.mp hj
  exact ⟨a, fun h => b fun j hj => h j (List.mem_range.mp hj)⟩
theorem Qs_zero (w : WfHall T30 ts) : ∀ n, Qs ts 0 n = n
  | 0 => rfl
  | n + 1 => by
    simp only [Qs, Qs_zero w n]
    cases e : whoI ts (itI ts n) with
    | none => simp [qt_none e]
    | some a =>
      rw [qt_some e]
      have := rk_pos w (who_bd e).1
      have h : ((0 : Nat) : Int) < rkT ts a := by omega
      simp only [h, decide_true, if_true]
theorem Qs_low (w : WfHall T30 ts) (k : Nat) : ∀ n q, Qs ts (k + 1) n = q + 1 → LI ts (k + 1) q < Qs ts k n
  | 0, q, h => by simp [Qs] at h
  | n + 1, q, h => by
    have mono : Qs ts k n ≤ Qs ts k (n + 1) := by simp [Qs]
    by_cases c : qt ts (k + 1) n = true
    · simp only [Qs, c, if_true] at h
      have hq : Qs ts (k + 1) n = q := by omega
      have c0 : qt ts k n = true := by
        unfold qt at c ⊢
        cases e : whoI ts (itI ts n) with
        | none => rfl
        | some a =>
          rw [e] at c
          have c := of_decide_eq_true c
          exact decide_eq_true (by omega)
      have nb : ∀ j, j < ts.length → rkT ts j = ((k + 1 : Nat) : Int) → (itI ts n j).b = false := fun j hj er => by
        unfold qt at c
        cases e : whoI ts (itI ts n) with
        | none => exact chooseG_none.mp e j (List.mem_range.mpr hj)
        | some a =>
          rw [e] at c
          have c := of_decide_eq_true c
          cases hb : (itI ts n j).b with
          | false => rfl
          | true =>
            obtain ⟨_, _, hm, _⟩ := choose_full e
            have := hm j hj hb
            omega
      have s := (Ssp_le w (k + 1) n).2 nb
      rw [Ssp_eq w k n, hq] at s
      simp only [Qs, c0, if_true]
      unfold LI
      omega
    · simp only [Qs, c] at h
      have := Qs_low w k n q (by simpa using h)
      omega
/-- the clocks count the simulation's ticks -/
theorem core (w : WfHall T30 ts) : ∀ k n, Qs ts k n = LB ts k n
  | 0, n => Qs_zero w n
  | k + 1, n => by
    show _ = inv (LI ts (k + 1)) (LB ts k n)
    rw [← core w k n]
    have g := inv_gal (LI_inc w.tk (k + 1))
    refine Nat.le_antisymm ?_ ((g _ _).mp ?_)
    · cases e : Qs ts (k + 1) n with
      | zero => exact Nat.zero_le _
      | succ q =>
        have := Qs_low w k n q e
        refine Nat.lt_of_not_le fun z => ?_
        have := (g q _).mpr z
        omega
    · have a := (Ssp_le w (k + 1) n).1
      rw [Ssp_eq w k n] at a
      unfold LI
      omega
end
end HR
set_option Elab.async false
set_option linter.all false
set_option maxRecDepth 20000
set_option exponentiation.threshold 5000
namespace HR
open PySem L2
/-! ### law k08: without the lower ranks; all numbers multiplied (plain) -/
theorem name_inj : ∀ {S : List Cf}, ((S.map Prod.fst).map (·.name)).Nodup → ∀ {x y : Cf}, x ∈ S → y ∈ S → x.1.name = y.1.name → x = y
  | [], _, x, _, hx, _, _ => by cases hx
  | z :: S, nd, x, y, hx, hy, e => by
    simp only [List.map_cons, List.nodup_cons] at nd
    have key : ∀ w ∈ S, z.1.name ≠ w.1.name := fun w hw q => nd.1 (by rw [q]; exact List.mem_map_of_mem (List.mem_map_of_mem hw))
    rcases List.mem_cons.mp hx with hx1 | hx1
    · rcases List.mem_cons.mp hy with hy1 | hy1
      · rw [hx1, hy1]
      · rw [hx1] at e
        exact absurd e (key y hy1)
    · rcases List.mem_cons.mp hy with hy1 | hy1
      · rw [hy1] at e
        exact absurd e.symm (key x hx1)
      · exact name_inj nd.2 hx1 hy1 e
/-! all numbers multiplied -/
def scP (m : Int) (p : Int × Int) : Int × Int := (p.1 * m, p.2 * m)
def scT (m : Int) (t : Tk) : Tk := { t with pre := t.pre.map (scP m), cyc := t.cyc.map (scP m) }
def scC (m : Int) (x : Cf) : Cf := (scT m x.1, ⟨x.2.i, x.2.b, x.2.sp * m, x.2.wt * m⟩)
def isSp (c : Option Tk) (x : Cf) : Bool := match c with
  | none => false
  | some u => x.1.name == u.name
def midC (m : Int) (c : Option Tk) (j : Int) (x : Cf) : Cf :=
  if isSp c x then (scT m x.1, ⟨x.2.i, x.2.b, x.2.sp * m + j, x.2.wt * m⟩)
  else if waits c x then (scT m x.1, ⟨x.2.i, x.2.b, x.2.sp * m, x.2.wt * m + j⟩) else scC m x
theorem midC_fst (m : Int) (c : Option Tk) (j : Int) (x : Cf) : (midC m c j x).1 = scT m x.1 := by
  unfold midC
  repeat' split
  all_goals rfl
theorem midC_b (m : Int) (c : Option Tk) (j : Int) (x : Cf) : (midC m c j x).2.b = x.2.b := by
  unfold midC
  repeat' split
  all_goals rfl
theorem midC_zero (m : Int) (c : Option Tk) (x : Cf) : midC m c 0 x = scC m x := by
  unfold midC
  repeat' split
  all_goals simp [scC]
theorem nth_sc (m : Int) (t : Tk) (i : Nat) : nth (scT m t).pre (scT m t).cyc i = scP m (nth t.pre t.cyc i) := by
  have z : scP m (0, 0) = (0, 0) := by simp [scP]
  have g : ∀ (xs : List (Int × Int)) (k : Nat), (xs.map (scP m)).getD k (0, 0) = scP m (xs.getD k (0, 0)) := fun xs k => by
    simp only [List.getD_eq_getElem?_getD, List.getElem?_map]
    cases xs[k]? with
    | none => exact z.symm
    | some p => rfl
  simp only [nth, scT, List.length_map, g]
  split <;> rfl
theorem who_mid {m : Int} (hm : 0 < m) {S : List Cf} (nd : ((S.map Prod.fst).map (·.name)).Nodup) {j : Int} (j0 : 0 ≤ j) {c : Option Tk} (hc : c = (who S).map Prod.fst) : who (S.map (midC m c j)) = (who S).map (midC m c j) := by
  conv => lhs; unfold who
  rw [chooseG_map]
  have key : chooseG ((fun x : Cf => x.1.rank) ∘ midC m c j) ((fun x : Cf => x.2.b) ∘ midC m c j) ((fun x : Cf => decide (0 < x.2.sp)) ∘ midC m c j) S = who S := by
    have e1 : ((fun x : Cf => x.1.rank) ∘ midC m c j) = fun x : Cf => x.1.rank := by
      funext x
      simp only [Function.comp, midC_fst]
      rfl
    have e2 : ((fun x : Cf => x.2.b) ∘ midC m c j) = fun x : Cf => x.2.b := by
      funext x
      simp only [Function.comp, midC_b]
    rw [e1, e2]
    have pos : ∀ sp : Int, decide (0 < sp * m) = decide (0 < sp) := fun sp => by
      rw [decide_eq_decide]
      constructor
      · intro h
        refine Classical.byContradiction fun q => ?_
        have : sp * m ≤ 0 * m := Int.mul_le_mul_of_nonneg_right (by omega) (by omega)
        omega
      · intro h
        exact Int.mul_pos h hm
    cases e : who S with
    | none =>
      rw [e] at hc
      subst hc
      have := chooseG_none.mp (show chooseG (fun x : Cf => x.1.rank) (fun x => x.2.b) (fun x => decide (0 < x.2.sp)) S = none from e)
      exact chooseG_none.mpr this
    | some u =>
      rw [e] at hc
      subst hc
      have hu := (who_mem e).1
      refine chooseG_again (show chooseG (fun x : Cf => x.1.rank) (fun x => x.2.b) (fun x => decide (0 < x.2.sp)) S = some u from e) (fun x hx ne => ?_) fun h => ?_
      · have nn : (x.1.name == u.1.name) = false := by
          rw [beq_eq_false_iff_ne]
          exact fun q => ne (name_inj nd hx hu q)
        simp only [Function.comp, Option.map_some, midC, isSp, nn, Bool.false_eq_true, if_false]
        split
        · exact pos _
        · exact pos _
      · simp only [Function.comp, Option.map_some, midC, isSp, beq_self_eq_true, if_true]
        have h : 0 < u.2.sp := by simpa using h
        have := Int.mul_pos h hm
        simp
        omega
  rw [key]
theorem no_dvd {m a b j : Int} (h0 : 0 < j) (h1 : j < m) : ¬ a * m + j = b * m := fun h => by
  have e : j = (b - a) * m := by rw [Int.sub_mul]; omega
  have : 0 < b - a := by
    refine Classical.byContradiction fun q => ?_
    have : (b - a) * m ≤ 0 * m := Int.mul_le_mul_of_nonneg_right (by omega) (by omega)
    omega
  have : 1 * m ≤ (b - a) * m := Int.mul_le_mul_of_nonneg_right (by omega) (by omega)
  omega
theorem mul_inj {m a b : Int} (hm : 0 < m) : a * m + m = b * m ↔ a + 1 = b := by
  have e : a * m + m = (a + 1) * m := by rw [Int.add_mul, Int.one_mul]
  rw [e]
  constructor
  · intro h
    exact Int.eq_of_mul_eq_mul_right (by omega) h
  · intro h
    rw [h]
section
variable {m j : Int} {c : Option Tk} {x : Cf}
theorem afterW_t (h : waits c x = true) : afterW c x = (x.1, waitR x.1 x.2) := by simp [afterW, h]
theorem afterW_f (h : waits c x = false) : afterW c x = x := by simp [afterW, h]
theorem afterS_t (h : isSp c x = true) : afterS c x = (x.1, speakR x.1 x.2) := by
  cases c with
  | none => cases h
  | some u =>
    have : x.1.name = u.name := by simpa [isSp] using h
    simp [afterS, this]
theorem afterS_f (h : isSp c x = false) : afterS c x = x := by
  cases c with
  | none => rfl
  | some u =>
    have : x.1.name ≠ u.name := by simpa [isSp] using h
    simp [afterS, this]
theorem midC_t (h : isSp c x = true) : midC m c j x = (scT m x.1, ⟨x.2.i, x.2.b, x.2.sp * m + j, x.2.wt * m⟩) := by simp [midC, h]
theorem midC_w (h : isSp c x = false) (w : waits c x = true) : midC m c j x = (scT m x.1, ⟨x.2.i, x.2.b, x.2.sp * m, x.2.wt * m + j⟩) := by simp [midC, h, w]
theorem midC_n (h : isSp c x = false) (w : waits c x = false) : midC m c j x = scC m x := by simp [midC, h, w]
end
theorem isSp_sc (m : Int) (c : Option Tk) (x y : Cf) (h : y.1 = scT m x.1) : isSp (c.map (scT m)) y = isSp c x := by
  cases c with
  | none => rfl
  | some u =>
    simp only [isSp, Option.map_some, h]
    rfl
theorem waits_sc (m : Int) (c : Option Tk) (x y : Cf) (h : y.1 = scT m x.1) (b : y.2.b = x.2.b) : waits (c.map (scT m)) y = waits c x := by
  cases c with
  | none => simp only [waits, Option.map_none, b]
  | some u =>
    simp only [waits, Option.map_some, b, h]
    rfl
theorem step_mid {m : Int} (hm : 0 < m) {S : List Cf} (nd : ((S.map Prod.fst).map (·.name)).Nodup) {j : Int} (j0 : 0 ≤ j) {c : Option Tk} (hc : c = (who S).map Prod.fst) :
    (j + 1 < m → stepS (S.map (midC m c j)) = S.map (midC m c (j + 1))) ∧ (j + 1 = m → stepS (S.map (midC m c j)) = (stepS S).map (scC m)) := by
  have w := who_mid hm nd j0 hc
  have wc : (who (S.map (midC m c j))).map Prod.fst = c.map (scT m) := by
    rw [w, hc]
    cases who S with
    | none => rfl
    | some u => simp [midC_fst]
  have spk : ∀ x ∈ S, isSp c x = true → waits c x = false := fun x hx e => by
    cases ew : who S with
    | none => rw [ew] at hc; rw [hc] at e; cases e
    | some y =>
      rw [ew] at hc
      obtain ⟨hy, by_⟩ := who_mem ew
      have en : x.1.name = y.1.name := by
        rw [hc] at e
        simpa [isSp] using e
      rw [name_inj nd hx hy en]
      simp [waits, by_]
  have is_ := fun x => isSp_sc m c x (midC m c j x) (midC_fst m c j x)
  have wt := fun x => waits_sc m c x (midC m c j x) (midC_fst m c j x) (midC_b m c j x)
  unfold stepS
  rw [wc, ← hc, List.map_map, List.map_map]
  constructor
  · intro lt
    refine List.map_congr_left fun x hx => ?_
    simp only [Function.comp]
    cases e : isSp c x with
    | true =>
      have ew := spk x hx e
      rw [afterW_f (by rw [wt, ew]), afterS_t (by rw [is_, e]), midC_t e, midC_t e]
      have nd := no_dvd (a := x.2.sp) (b := (nth x.1.pre x.1.cyc x.2.i).2) (show 0 < j + 1 by omega) lt
      simp only [speakR, nth_sc, scP]
      rw [if_neg (by omega), Int.add_assoc]
    | false =>
      cases ew : waits c x with
      | true =>
        rw [afterW_t (by rw [wt, ew])]
        have i2 : isSp (c.map (scT m)) ((midC m c j x).1, waitR (midC m c j x).1 (midC m c j x).2) = false := (isSp_sc m c x (_, _) (midC_fst m c j x)).trans e
        rw [afterS_f i2, midC_w e ew, midC_w e ew]
        have nd := no_dvd (a := x.2.wt) (b := (nth x.1.pre x.1.cyc x.2.i).1) (show 0 < j + 1 by omega) lt
        have b : x.2.b = false := by
          simp only [waits, Bool.and_eq_true, Bool.not_eq_true'] at ew
          exact ew.1
        have e2 : (x.2.wt * m + j + 1 == (nth x.1.pre x.1.cyc x.2.i).1 * m) = false := by
          rw [beq_eq_false_iff_ne]
          omega
        simp only [waitR, nth_sc, scP, e2, b]
        rw [Int.add_assoc]
      | false =>
        rw [afterW_f (by rw [wt, ew]), afterS_f (by rw [is_, e]), midC_n e ew, midC_n e ew]
  · intro eq
    refine List.map_congr_left fun x hx => ?_
    simp only [Function.comp]
    cases e : isSp c x with
    | true =>
      have ew := spk x hx e
      rw [afterW_f (by rw [wt, ew]), afterS_t (by rw [is_, e]), midC_t e, afterW_f ew, afterS_t e]
      have mi := mul_inj (a := x.2.sp) (b := (nth x.1.pre x.1.cyc x.2.i).2) hm
      simp only [speakR, nth_sc, scP, scC]
      by_cases q : x.2.sp + 1 = (nth x.1.pre x.1.cyc x.2.i).2
      · rw [if_pos q, if_pos (by have := mi.mpr q; omega)]
        simp
      · rw [if_neg q, if_neg (fun z => q (mi.mp (by omega)))]
        have : x.2.sp * m + j + 1 = (x.2.sp + 1) * m := by rw [Int.add_mul, Int.one_mul]; omega
        simp only [this]
    | false =>
      cases ew : waits c x with
      | true =>
        rw [afterW_t (by rw [wt, ew])]
        have i2 : isSp (c.map (scT m)) ((midC m c j x).1, waitR (midC m c j x).1 (midC m c j x).2) = false := (isSp_sc m c x (_, _) (midC_fst m c j x)).trans e
        have i3 : isSp c (x.1, waitR x.1 x.2) = false := by
          rw [← e]
          cases c <;> rfl
        rw [afterS_f i2, midC_w e ew, afterW_t ew, afterS_f i3]
        have mi := mul_inj (a := x.2.wt) (b := (nth x.1.pre x.1.cyc x.2.i).1) hm
        have e1 : x.2.wt * m + j + 1 = (x.2.wt + 1) * m := by rw [Int.add_mul, Int.one_mul]; omega
        have e2 : ((x.2.wt + 1) * m == (nth x.1.pre x.1.cyc x.2.i).1 * m) = (x.2.wt + 1 == (nth x.1.pre x.1.cyc x.2.i).1) := by
          rw [Bool.eq_iff_iff, beq_iff_eq, beq_iff_eq, ← e1]
          constructor
          · intro z
            exact mi.mp (by omega)
          · intro z
            have := mi.mpr z
            omega
        simp only [waitR, nth_sc, scP, scC, e1, e2]
      | false =>
        rw [afterW_f (by rw [wt, ew]), afterS_f (by rw [is_, e]), midC_n e ew, afterW_f ew, afterS_f e]
theorem itS_sc {m : Nat} (hm : 0 < m) {S : List Cf} (nd : ((S.map Prod.fst).map (·.name)).Nodup) : ∀ q : Nat, itS (S.map (scC m)) (m * q) = (itS S q).map (scC m) ∧ ∀ j : Nat, j < m → itS (S.map (scC m)) (m * q + j) = (itS S q).map (midC m ((who (itS S q)).map Prod.fst) j) := by
  have ndq : ∀ q, (((itS S q).map Prod.fst).map (·.name)).Nodup := fun q => by rw [itS_fst]; exact nd
  have mid : ∀ q : Nat, itS (S.map (scC m)) (m * q) = (itS S q).map (scC m) → ∀ j : Nat, j < m → itS (S.map (scC m)) (m * q + j) = (itS S q).map (midC m ((who (itS S q)).map Prod.fst) j) := by
    intro q h0 j
    induction j with
    | zero =>
      intro _
      show itS _ (m * q + 0) = _
      rw [Nat.add_zero, h0]
      refine List.map_congr_left fun x _ => ?_
      exact (midC_zero _ _ x).symm
    | succ j ih =>
      intro hj
      have r := ih (by omega)
      show stepS (itS _ (m * q + j)) = _
      rw [r]
      have := (step_mid (m := (m : Int)) (by omega) (ndq q) (j := (j : Int)) (by omega) rfl).1 (by omega)
      rw [this]
      rfl
  intro q
  induction q with
  | zero =>
    have h0 : itS (S.map (scC m)) (m * 0) = (itS S 0).map (scC m) := rfl
    exact ⟨h0, mid 0 h0⟩
  | succ q ih =>
    have h1 : itS (S.map (scC m)) (m * (q + 1)) = (itS S (q + 1)).map (scC m) := by
      have r := ih.2 (m - 1) (by omega)
      have e : m * (q + 1) = (m * q + (m - 1)) + 1 := by rw [Nat.mul_add, Nat.mul_one]; omega
      rw [e]
      show stepS (itS _ (m * q + (m - 1))) = (stepS (itS S q)).map (scC m)
      rw [r]
      have c : ((m - 1 : Nat) : Int) = (m : Int) - 1 := by omega
      rw [c]
      exact (step_mid (m := (m : Int)) (by omega) (ndq q) (j := (m : Int) - 1) (by omega) rfl).2 (by omega)
    exact ⟨h1, mid (q + 1) h1⟩
theorem start_sc (m : Int) (ts : List Tk) : start (ts.map (scT m)) = (start ts).map (scC m) := by
  simp [start, Function.comp_def, scC]
/-! slices with a step -/
end HR
set_option Elab.async false
set_option linter.all false
set_option maxRecDepth 20000
set_option exponentiation.threshold 5000
namespace HR
open PySem L2
theorem okNm {x : Str} (w : WfN x) : PyData.strOk x = true := by
  have e : ∀ c ∈ ("abcdefghijklmnopqrstuvwxyz" : Str).cps.toList, c < 0x110000 := by decide +kernel
  simp only [PyData.strOk, Array.all_eq_true_iff_forall_mem, decide_eq_true_eq]
  exact fun c hc => e c (w.2.2 c (Array.mem_toList_iff.mpr hc))
/-! records in == and in -/
end HR
set_option Elab.async false
set_option linter.all false
set_option maxRecDepth 20000
set_option exponentiation.threshold 5000
namespace HR
open PySem L2
/-! ### law k08 -/
theorem pureL_dTk' (f : Tk → Tk) : ∀ ts : List Tk, D.pureL (ts.map (dTk ∘ f)) = true
  | [] => rfl
  | t :: ts => by simp [pure_dTk, pureL_dTk' f ts]
theorem scT_wf {ts : List Tk} {k m : Int} (w : WfHall k ts) (hm : 1 ≤ m) (hk : k * m ≤ T30) : WfHall T30 (ts.map (scT m)) := by
  refine ⟨by simpa using w.len, fun t ht => ?_, ?_⟩
  · obtain ⟨u, hu, rfl⟩ := List.mem_map.mp ht
    have wu := w.tk u hu
    have one : ∀ a : Int, 1 ≤ a → a ≤ k → 1 ≤ a * m ∧ a * m ≤ T30 := fun a h1 h2 => by
      have a1 : 1 * m ≤ a * m := Int.mul_le_mul_of_nonneg_right h1 (by omega)
      have a2 : a * m ≤ k * m := Int.mul_le_mul_of_nonneg_right h2 (by omega)
      omega
    have key : ∀ xs : List (Int × Int), (∀ p ∈ xs, In1 k p) → ∀ p ∈ xs.map (scP m), In1 T30 p := fun xs hx p hp => by
      obtain ⟨q, hq, rfl⟩ := List.mem_map.mp hp
      obtain ⟨b1, b2, b3, b4⟩ := hx q hq
      have c1 := one _ b1 b2
      have c2 := one _ b3 b4
      exact ⟨c1.1, c1.2, c2.1, c2.2⟩
    exact ⟨wu.name, wu.r1, wu.r2, by simpa [scT] using wu.lp, by simpa [scT] using wu.lc1, by simpa [scT] using wu.lc, key _ wu.pre, key _ wu.cyc⟩
  · have : (ts.map (scT m)).map (·.name) = ts.map (·.name) := by simp [Function.comp_def, scT]
    rw [this]
    exact w.nd
end HR
set_option Elab.async false
set_option linter.all false
set_option maxRecDepth 20000
set_option exponentiation.threshold 5000
namespace HR
open PySem L2
/-! ### a state that comes back; all lengths multiplied (maths) -/
section
variable {ts : List Tk}
/-- the same but for whole cycles -/
structure Alike (t : Tk) (r r' : Rs) : Prop where
  b : r'.b = r.b
  sp : r'.sp = r.sp
  wt : r.b = false → r'.wt = r.wt
  i1 : t.pre.length ≤ r.i
  i2 : t.pre.length ≤ r'.i
  md : (r'.i - t.pre.length) % t.cyc.length = (r.i - t.pre.length) % t.cyc.length
theorem Alike.nth {t : Tk} {r r' : Rs} (a : Alike t r r') : nth t.pre t.cyc r'.i = nth t.pre t.cyc r.i := by
  have h1 : ¬ r.i < t.pre.length := by have := a.i1; omega
  have h2 : ¬ r'.i < t.pre.length := by have := a.i2; omega
  simp only [HR.nth, h1, h2, if_false, a.md]
theorem Alike.wait {t : Tk} {r r' : Rs} (a : Alike t r r') (hb : r.b = false) : Alike t (waitR t r) (waitR t r') := by
  have w := a.wt hb
  refine ⟨?_, a.sp, fun _ => ?_, a.i1, a.i2, a.md⟩
  · simp only [waitR, w, a.nth]
  · simp only [waitR, w]
theorem Alike.speak {t : Tk} {r r' : Rs} (a : Alike t r r') (hb : r.b = true) : Alike t (speakR t r) (speakR t r') := by
  have i1 := a.i1
  have i2 := a.i2
  have md : (r'.i + 1 - t.pre.length) % t.cyc.length = (r.i + 1 - t.pre.length) % t.cyc.length := by
    rw [show r'.i + 1 - t.pre.length = (r'.i - t.pre.length) + 1 by omega, show r.i + 1 - t.pre.length = (r.i - t.pre.length) + 1 by omega, Nat.add_mod, a.md, ← Nat.add_mod]
  unfold speakR
  rw [a.sp, a.nth]
  by_cases c : r.sp + 1 = (HR.nth t.pre t.cyc r.i).2
  · rw [if_pos c, if_pos c]
    exact ⟨rfl, rfl, fun _ => rfl, by dsimp only; omega, by dsimp only; omega, md⟩
  · rw [if_neg c, if_neg c]
    exact ⟨a.b, rfl, fun z => absurd (hb.symm.trans z) (by decide), i1, i2, a.md⟩
def AlikeA (ts : List Tk) (r r' : Nat → Rs) : Prop := ∀ j, j < ts.length → Alike (ts.getD j gTk) (r j) (r' j)
theorem AlikeA.who {r r' : Nat → Rs} (a : AlikeA ts r r') : whoI ts r' = whoI ts r := by
  unfold whoI
  refine chooseG_congr (fun _ _ => rfl) (fun j hj => (a j (List.mem_range.mp hj)).b) (fun j hj => ?_)
  rw [(a j (List.mem_range.mp hj)).sp]
theorem AlikeA.step {r r' : Nat → Rs} (a : AlikeA ts r r') : AlikeA ts (stepI ts r) (stepI ts r') := fun j hj => by
  have x := a j hj
  unfold stepI
  rw [a.who]
  cases e : whoI ts r with
  | none =>
    have nb : (r j).b = false := chooseG_none.mp e j (List.mem_range.mpr hj)
    simp only [x.b, nb, Bool.false_eq_true, if_false]
    exact x.wait nb
  | some k0 =>
    obtain ⟨hk, hb, _⟩ := choose_full e
    dsimp only
    by_cases c : j = k0
    · subst c
      simp only [if_true]
      exact x.speak hb
    · rw [if_neg c, if_neg c, x.b]
      split
      · rename_i d
        simp only [Bool.and_eq_true, Bool.not_eq_true'] at d
        exact x.wait d.1
      · exact x
theorem alike_on {a L : Nat} (h : AlikeA ts (itI ts a) (itI ts (a + L))) : ∀ s, AlikeA ts (itI ts (a + s)) (itI ts (a + s + L))
  | 0 => h
  | s + 1 => by
    have := (alike_on h s).step
    show AlikeA ts (stepI ts (itI ts (a + s))) (itI ts (a + (s + 1) + L))
    rw [show a + (s + 1) + L = (a + s + L) + 1 by omega]
    exact this
theorem qt_on {a L : Nat} (h : AlikeA ts (itI ts a) (itI ts (a + L))) (k s : Nat) : qt ts k (a + s + L) = qt ts k (a + s) := by
  have := (alike_on h s).who
  unfold qt
  rw [this]
theorem Qs_once {a L : Nat} (h : AlikeA ts (itI ts a) (itI ts (a + L))) (k : Nat) : ∀ s, Qs ts k (a + s + L) + Qs ts k a = Qs ts k (a + s) + Qs ts k (a + L)
  | 0 => by rw [Nat.add_zero]; omega
  | s + 1 => by
    have ih := Qs_once h k s
    have e := qt_on h k s
    rw [show a + (s + 1) + L = (a + s + L) + 1 by omega, show a + (s + 1) = (a + s) + 1 by omega]
    simp only [Qs, e]
    omega
/-- the counts of distant ticks -/
theorem Qs_far {a L : Nat} (h : AlikeA ts (itI ts a) (itI ts (a + L))) (k s : Nat) : ∀ c, (Qs ts k (a + s + c * L) : Int) = Qs ts k (a + s) + c * ((Qs ts k (a + L) : Int) - Qs ts k a)
  | 0 => by simp
  | c + 1 => by
    have ih := Qs_far h k s c
    have o := Qs_once h k (s + c * L)
    rw [show a + (s + c * L) = a + s + c * L by omega] at o
    rw [show a + s + (c + 1) * L = a + s + c * L + L by rw [Nat.add_mul, Nat.one_mul]; omega]
    have e : ((c + 1 : Nat) : Int) * ((Qs ts k (a + L) : Int) - Qs ts k a) = (c : Int) * ((Qs ts k (a + L) : Int) - Qs ts k a) + ((Qs ts k (a + L) : Int) - Qs ts k a) := by
      rw [Int.natCast_add, Int.add_mul]
      simp
    rw [e]
    omega
/-! all silences and lengths multiplied -/
theorem qt_who (nd : (ts.map (·.name)).Nodup) (k n : Nat) : qt ts k n = match who (itS (start ts) n) with
    | none => true
    | some x => decide ((k : Int) < x.1.rank) := by
  rw [it_mk nd n, who_mk]
  unfold qt
  cases whoI ts (itI ts n) <;> rfl
theorem qt_sc (nd : (ts.map (·.name)).Nodup) {m : Nat} (hm : 0 < m) (k q j : Nat) (hj : j < m) : qt (ts.map (scT m)) k (m * q + j) = qt ts k q := by
  have nd2 : ((ts.map (scT m)).map (·.name)).Nodup := by
    have : (ts.map (scT m)).map (·.name) = ts.map (·.name) := by rw [List.map_map]; rfl
    rw [this]; exact nd
  have nds : (((start ts).map Prod.fst).map (·.name)).Nodup := by rw [start_fst]; exact nd
  have ndq : (((itS (start ts) q).map Prod.fst).map (·.name)).Nodup := by rw [itS_fst]; exact nds
  rw [qt_who nd2, qt_who nd, start_sc, (itS_sc hm nds q).2 j hj, who_mid (by omega) ndq (by omega) rfl]
  cases who (itS (start ts) q) with
  | none => rfl
  | some x =>
    simp only [Option.map_some, midC_fst]
    rfl
theorem Qs_sc (nd : (ts.map (·.name)).Nodup) {m : Nat} (hm : 0 < m) (k : Nat) : ∀ q, Qs (ts.map (scT m)) k (m * q) = m * Qs ts k q ∧ ∀ j, j ≤ m → Qs (ts.map (scT m)) k (m * q + j) = m * Qs ts k q + j * (Qs ts k (q + 1) - Qs ts k q) := by
  have step : ∀ q, Qs (ts.map (scT m)) k (m * q) = m * Qs ts k q → ∀ j, j ≤ m → Qs (ts.map (scT m)) k (m * q + j) = m * Qs ts k q + j * (Qs ts k (q + 1) - Qs ts k q) := fun q h0 j => by
    have e1 : Qs ts k (q + 1) - Qs ts k q = if qt ts k q then 1 else 0 := by simp [Qs]
    induction j with
    | zero => intro _; simp [h0]
    | succ j ih =>
      intro hj
      have := ih (by omega)
      show Qs _ k (m * q + j) + (if qt _ k (m * q + j) then 1 else 0) = _
      rw [this, qt_sc nd hm k q j (by omega), e1, Nat.add_mul, Nat.one_mul, Nat.add_assoc]
  intro q
  induction q with
  | zero =>
    have h0 : Qs (ts.map (scT m)) k (m * 0) = m * Qs ts k 0 := by simp [Qs]
    exact ⟨h0, step 0 h0⟩
  | succ q ih =>
    have h1 : Qs (ts.map (scT m)) k (m * (q + 1)) = m * Qs ts k (q + 1) := by
      have := ih.2 m (Nat.le_refl _)
      rw [Nat.mul_add, Nat.mul_one, this, ← Nat.mul_add]
      congr 1
      simp [Qs]
    exact ⟨h1, step (q + 1) h1⟩
end
end HR
set_option Elab.async false
set_option linter.all false
set_option maxRecDepth 20000
set_option exponentiation.threshold 5000
namespace HR
open PySem L2
/-! ### the law's own run -/
/-- a talker as a tuple or as a list -/
def tkV (b : Bool) (t : Tk) : D := if b then dTk t else dL t
theorem pure_tkV (b : Bool) (t : Tk) : (tkV b t).pure = true := by cases b <;> simp [tkV, dTk, dL]
theorem lNth (b : Bool) {m : Int} {t : Tk} (w : WfTk m t) (i : Nat) (h : OH) : pureF Sh.l_nth [tkV b t, .int i] h = .ok (dT (nth t.pre t.cyc i)) h := by
  refine pure_eq h (by simp [pure_tkV]) rfl ?_
  have wc := w.lc1
  unfold Sh.l_nth; rw [W_fn]; unfold Sh.l_nth_b
  have a2 : ∀ h (PD : D → OH → Prop), (opIx (tkV b t) (.int 2) h).W PD = PD (.lst (t.pre.map dT)) h := fun h PD => by cases b <;> simp [tkV, dTk, dL]
  have a3 : ∀ h (PD : D → OH → Prop), (opIx (tkV b t) (.int 3) h).W PD = PD (.lst (t.cyc.map dT)) h := fun h PD => by cases b <;> simp [tkV, dTk, dL]
  generalize tkV b t = tv at a2 a3 ⊢
  refine SW_seqK fun K hK => ?_
  simp [sPar, a2, a3]
  refine hK _ _ ?_
  clear hK K
  by_cases c : i < t.pre.length
  · have c2 : (i : Int) < t.pre.length := by omega
    have e : atI (t.pre.map dT) (i : Int) = some (dT (nth t.pre t.cyc i)) := by
      rw [atI_z (by omega) (by simpa using c), Int.toNat_natCast]
      simp [nth, c]
    simp [c, e]
  · have c2 : ¬ (i : Int) < t.pre.length := by omega
    have hm : (i - t.pre.length) % t.cyc.length < t.cyc.length := Nat.mod_lt _ (by omega)
    have e0 : ((i : Int) - t.pre.length) % t.cyc.length = (((i - t.pre.length) % t.cyc.length : Nat) : Int) := by
      rw [Int.natCast_emod, Int.ofNat_sub (by omega)]
    have e : atI (t.cyc.map dT) (((i - t.pre.length) % t.cyc.length : Nat) : Int) = some (dT (nth t.pre t.cyc i)) := by
      rw [atI_z (by omega) (by simp only [List.length_map]; exact Int.ofNat_lt.mpr hm), Int.toNat_natCast]
      simp [nth, c, hm]
    have z : ¬ (t.cyc.length : Int) = 0 := by omega
    simp [c, z]
    rw [e0]
    exact ⟨by omega, by rw [e]; rfl⟩
theorem W_eqIN (i : Int) (h : OH) {PD : D → OH → Prop} : (opEq false (.int i) .non h).W PD = PD (.bl false) h := by
  have : opEq false (.int i) .non h = .ok (.bl false) h := rfl
  rw [this]; rfl
theorem stN_ok (b : Bool) : PyData.strOk (stN b) = true := by cases b <;> decide +kernel
theorem stN_ready (b : Bool) : (stN b == ("ready" : Str)) = b := by cases b <;> decide +kernel
theorem stN_silent (b : Bool) : (stN b == ("silent" : Str)) = !b := by cases b <;> decide +kernel
theorem okR : PyData.strOk "ready" = true ∧ PyData.strOk "silent" = true := by decide +kernel
def itsD (ts : List Tk) (k : Nat) : D × List D := (dN (spkI ts k), statesD ts (itI ts k))
/-- the run's objects -/
structure NowI (ts : List Tk) (r : Nat → Rs) (na fa : Nat) (P : Nat → Nat) (h : OH) : Prop where
  now : h[na]? = some (.lst ((List.range ts.length).map fun j => .ref (P j)))
  prt : ∀ j, j < ts.length → h[P j]? = some (.lst (partL (ts.getD j gTk) (r j)))
  inj : ∀ i j, i < ts.length → j < ts.length → P i = P j → i = j
  nn : na ≠ fa
  pn : ∀ j, j < ts.length → P j ≠ na ∧ P j ≠ fa
structure FndI (ts : List Tk) (k na fa : Nat) (P Sq : Nat → Nat) (h : OH) : Prop where
  fnd : h[fa]? = some (.lst ((List.range k).map fun i => .tup [(itsD ts i).1, .ref (Sq i)]))
  sts : ∀ i, i < k → h[Sq i]? = some (.lst (itsD ts i).2)
  sn : ∀ i, i < k → Sq i ≠ na ∧ Sq i ≠ fa
  ps : ∀ i j, i < k → j < ts.length → P j ≠ Sq i
section
variable {ts : List Tk} {ds : List D} {b : Bool} {h : OH}
theorem ownFnd {na fa n : Nat} {P Sq : Nat → Nat} (F : FndI ts n na fa P Sq h) : ownG (ownGet h 5) (.ref fa) = some (runD ts n) := by
  have fl : ∀ (get : Nat → Option (List D)) (r : Nat → Rs) (l : List Nat), ownGL get (l.map (stateD ts r)) = some (l.map (stateD ts r)) := fun get r l => by
    induction l with
    | nil => rfl
    | cons j l ih => simp [ownGL, ih, stateD, ownG]
  have it : ∀ (l : List Nat), (∀ i ∈ l, i < n) → ownGL (ownGet h 4) (l.map fun i => D.tup [(itsD ts i).1, .ref (Sq i)]) = some (l.map fun k => .tup [dN (spkI ts k), .lst (statesD ts (itI ts k))]) := fun l hl => by
    induction l with
    | nil => rfl
    | cons i l ih =>
      have a := F.sts i (hl i List.mem_cons_self)
      have e1 : ownGet h 4 (Sq i) = some (statesD ts (itI ts i)) := by
        show (match h[Sq i]? with | some (.lst xs) => ownGL (ownGet h 3) xs | _ => none) = _
        rw [a]
        exact fl _ _ _
      have e2 : ownG (ownGet h 4) (dN (spkI ts i)) = some (dN (spkI ts i)) := by cases spkI ts i <;> rfl
      have ih := ih fun x hx => hl x (List.mem_cons_of_mem _ hx)
      simp only [itsD] at ih
      simp only [List.map_cons, ownGL, ownG, e1, itsD, e2, Option.map_some, ih]
  have e1 : ownGet h 5 fa = some ((List.range n).map fun k => .tup [dN (spkI ts k), .lst (statesD ts (itI ts k))]) := by
    show (match h[fa]? with | some (.lst xs) => ownGL (ownGet h 4) xs | _ => none) = _
    rw [F.fnd]
    exact it _ fun i hi => List.mem_range.mp hi
  simp only [ownG, e1, Option.map_some]
  rfl
theorem tkV_0 (b : Bool) (t : Tk) (h : OH) {PD : D → OH → Prop} : (opIx (tkV b t) (.int 0) h).W PD = PD (.str t.name) h := by cases b <;> simp [tkV, dTk, dL]
theorem tkV_1 (b : Bool) (t : Tk) (h : OH) {PD : D → OH → Prop} : (opIx (tkV b t) (.int 1) h).W PD = PD (.int t.rank) h := by cases b <;> simp [tkV, dTk, dL]
theorem hall_at (b : Bool) {j : Nat} (hj : j < ts.length) : atI (ts.map (tkV b)) (j : Int) = some (tkV b (ts.getD j gTk)) := by
  rw [atI_z (by omega) (by simpa using hj), Int.toNat_natCast]
  simp [hj]
end
end HR
set_option Elab.async false
set_option linter.all false
set_option maxRecDepth 20000
set_option exponentiation.threshold 5000
namespace HR
open PySem L2
section
variable {ts : List Tk} {h : OH}
/-- one tick's changes, up to the j-th talker -/
def midI (ts : List Tk) (r : Nat → Rs) (j : Nat) (i : Nat) : Rs := if i < j then stepI ts r i else r i
theorem partL_speak {t : Tk} {r : Rs} (hb : r.b = true) : (restR t r - 1 = 0 ↔ r.sp + 1 = (nth t.pre t.cyc r.i).2) := by
  simp only [restR, hb, if_true]; omega
theorem partL_wait {t : Tk} {r : Rs} (hb : r.b = false) : (restR t r - 1 = 0 ↔ r.wt + 1 = (nth t.pre t.cyc r.i).1) := by
  simp only [restR, hb, Bool.false_eq_true, if_false]; omega
theorem speak_end {t : Tk} {r : Rs} (e : r.sp + 1 = (nth t.pre t.cyc r.i).2) : partL t (speakR t r) = [.str "silent", .int ((r.i : Int) + 1), .int (nth t.pre t.cyc (r.i + 1)).1, .int 0] := by
  simp [partL, speakR, e, stN, restR]
theorem speak_on {t : Tk} {r : Rs} (hb : r.b = true) (e : ¬ r.sp + 1 = (nth t.pre t.cyc r.i).2) : partL t (speakR t r) = [.str (stN r.b), .int r.i, .int (restR t r - 1), .int (r.sp + 1)] := by
  simp [partL, speakR, e, stN, restR, hb]
  omega
theorem wait_end {t : Tk} {r : Rs} (hs : r.sp = 0) (e : r.wt + 1 = (nth t.pre t.cyc r.i).1) : partL t (waitR t r) = [.str "ready", .int r.i, .int (nth t.pre t.cyc r.i).2, .int 0] := by
  simp [partL, waitR, e, stN, restR, hs]
theorem wait_on {t : Tk} {r : Rs} (hb : r.b = false) (e : ¬ r.wt + 1 = (nth t.pre t.cyc r.i).1) : partL t (waitR t r) = [.str (stN r.b), .int r.i, .int (restR t r - 1), .int r.sp] := by
  have e2 : (r.wt + 1 == (nth t.pre t.cyc r.i).1) = false := by simpa using e
  simp [partL, waitR, e2, stN, restR, hb]
  omega
/-- a part is changed in place -/
theorem NowI.put {r : Nat → Rs} {na fa : Nat} {P : Nat → Nat} (N : NowI ts r na fa P h) {k : Nat} (hk : k < ts.length) (x : Rs) : NowI ts (fun i => if i = k then x else r i) na fa P (h.set (P k) (.lst (partL (ts.getD k gTk) x))) where
  now := by rw [List.getElem?_set_ne (N.pn k hk).1]; exact N.now
  prt := fun j hj => by
    by_cases e : j = k
    · subst e
      rw [List.getElem?_set_self (List.getElem?_eq_some_iff.mp (N.prt j hj)).1]
      simp
    · rw [List.getElem?_set_ne fun z => e (N.inj k j hk hj z).symm]
      simp [e, N.prt j hj]
  inj := N.inj
  nn := N.nn
  pn := N.pn
theorem NowI.congr {r r' : Nat → Rs} {na fa : Nat} {P : Nat → Nat} (N : NowI ts r na fa P h) (e : ∀ j, j < ts.length → r' j = r j) : NowI ts r' na fa P h where
  now := N.now
  prt := fun j hj => by rw [e j hj]; exact N.prt j hj
  inj := N.inj
  nn := N.nn
  pn := N.pn
theorem NowI.lt {r : Nat → Rs} {na fa : Nat} {P : Nat → Nat} (N : NowI ts r na fa P h) : na < h.length ∧ ∀ j, j < ts.length → P j < h.length := ⟨(List.getElem?_eq_some_iff.mp N.now).1, fun j hj => (List.getElem?_eq_some_iff.mp (N.prt j hj)).1⟩
/-- a part is replaced by a new one -/
theorem NowI.repl {r : Nat → Rs} {na fa : Nat} {P : Nat → Nat} (N : NowI ts r na fa P h) {k : Nat} (hk : k < ts.length) (hf : fa < h.length) (x : Rs) {h' : OH} (e0 : h'[na]? = some (.lst ((List.range ts.length).map fun j => .ref (if j = k then h.length else P j)))) (e1 : h'[h.length]? = some (.lst (partL (ts.getD k gTk) x))) (e2 : ∀ i, i < h.length → i ≠ na → i ≠ P k → h'[i]? = h[i]?) :
    NowI ts (fun i => if i = k then x else r i) na fa (fun j => if j = k then h.length else P j) h' where
  now := e0
  prt := fun j hj => by
    by_cases e : j = k
    · subst e
      simp [e1]
    · simp only [e, if_false]
      rw [e2 _ (N.lt.2 j hj) (N.pn j hj).1 fun z => e (N.inj j k hj hk z)]
      exact N.prt j hj
  inj := fun i j hi hj e => by
    have a := N.lt.2 i hi
    have b := N.lt.2 j hj
    split at e <;> split at e
    · omega
    · omega
    · omega
    · exact N.inj i j hi hj e
  nn := N.nn
  pn := fun j hj => by
    have a := N.pn j hj
    have b := N.lt.1
    split
    · exact ⟨by omega, by omega⟩
    · exact a
/-- what was found stays -/
theorem FndI.keep {k na fa : Nat} {P P' Sq : Nat → Nat} {h' : OH} (F : FndI ts k na fa P Sq h) (e0 : h'[fa]? = h[fa]?) (e1 : ∀ i, i < k → h'[Sq i]? = h[Sq i]?) (e2 : ∀ i j, i < k → j < ts.length → P' j ≠ Sq i) : FndI ts k na fa P' Sq h' :=
  ⟨by rw [e0]; exact F.fnd, fun i hi => by rw [e1 i hi]; exact F.sts i hi, F.sn, e2⟩
theorem FndI.lt {k na fa : Nat} {P Sq : Nat → Nat} (F : FndI ts k na fa P Sq h) : fa < h.length ∧ ∀ i, i < k → Sq i < h.length := ⟨(List.getElem?_eq_some_iff.mp F.fnd).1, fun i hi => (List.getElem?_eq_some_iff.mp (F.sts i hi)).1⟩
theorem set_now (P : Nat → Nat) (k v n : Nat) : ((List.range n).map fun j => D.ref (P j)).set k (.ref v) = (List.range n).map fun j => D.ref (if j = k then v else P j) := by
  refine List.ext_getElem? fun i => ?_
  rw [List.getElem?_set, List.getElem?_map, List.getElem?_map]
  by_cases c : i < n
  · rw [List.getElem?_range c]
    by_cases e : k = i
    · subst e; simp [c]
    · have : ¬ i = k := fun z => e z.symm
      simp [e, this]
  · rw [List.getElem?_eq_none (by simp; omega)]
    by_cases e : k = i
    · subst e; simp; omega
    · simp [e]
end
end HR
set_option Elab.async false
set_option linter.all false
set_option maxRecDepth 20000
set_option exponentiation.threshold 5000
namespace HR
open PySem L2
section
variable {ts : List Tk} {h : OH} {m : Int}
def bestD : Option Nat → D
  | none => .non
  | some k => .int k
theorem bestEq (o : Option Nat) (i : Nat) (h : OH) {PD : D → OH → Prop} : (opEq false (.int i) (bestD o) h).W PD = PD (.bl (decide (o = some i))) h := by
  cases o with
  | none => rw [bestD, W_eqIN]; rfl
  | some k =>
    rw [bestD, W_eqI]
    have : ((i : Int) == (k : Int)) = decide (some k = some i) := by
      by_cases c : k = i
      · subst c; simp
      · have : ¬ i = k := fun z => c z.symm
        simp [c]; omega
    simp only [Bool.false_eq_true, if_false, this]
theorem bestIs (o : Option Nat) (h : OH) {PD : D → OH → Prop} : (opIs false (bestD o) .non h).W PD = PD (.bl o.isNone) h := by
  cases o <;> simp [bestD, opIs, Res.W]
theorem lRunW (b : Bool) (w : WfHall T30 ts) {n : Nat} (hn : n ≤ 2000) : (Sh.l_run [.lst (ts.map (tkV b)), .int n] []).W fun d h2 => ∃ (na fa : Nat) (P Sq : Nat → Nat), d = .ref fa ∧ FndI ts n na fa P Sq h2 := by
  have hlen := w.len
  have ln := fun (t : Tk) (ht : t ∈ ts) (i : Nat) (h : OH) => lNth b (w.tk t ht) i h
  have hm : ∀ j, j < ts.length → ts.getD j gTk ∈ ts := fun j hj => by simp [hj]
  have ha := fun (j : Nat) (hj : j < ts.length) => hall_at (ts := ts) b hj
  have t0 := fun (t : Tk) (h : OH) (PD : D → OH → Prop) => tkV_0 b t h (PD := PD)
  have t1 := fun (t : Tk) (h : OH) (PD : D → OH → Prop) => tkV_1 b t h (PD := PD)
  have tc : ∃ X : Tk → D, ∀ t h (PD : D → OH → Prop), (opCut false (tkV b t) (some 2) (some 4) h).W PD = PD (X t) h := by
    cases b
    · exact ⟨fun t => .lst [.lst (t.pre.map dT), .lst (t.cyc.map dT)], fun _ _ _ => rfl⟩
    · exact ⟨fun t => .tup [.lst (t.pre.map dT), .lst (t.cyc.map dT)], fun _ _ _ => rfl⟩
  obtain ⟨X, tc⟩ := tc
  generalize tkV b = tv at ln ha t0 t1 tc ⊢
  unfold Sh.l_run; rw [W_fn]; unfold Sh.l_run_b
  generalize pureF Sh.l_nth = LN at ln ⊢
  have lh : ∀ h (PD : D → OH → Prop), (opLen (.lst (ts.map tv)) h).W PD = PD (.int ts.length) h := fun h PD => by simp
  have en : enumD (ts.map tv) = (List.range ts.length).map fun (j : Nat) => D.tup [.int (j : Int), tv (ts.getD j gTk)] := by
    refine List.ext_getElem? fun i => ?_
    unfold enumD
    rw [List.getElem?_mapIdx, List.getElem?_map, List.getElem?_map]
    by_cases c : i < ts.length
    · rw [List.getElem?_range c, List.getElem?_eq_getElem c]
      simp [c]
    · rw [List.getElem?_eq_none (by omega), List.getElem?_eq_none (by simp; omega)]
      rfl
  -- the parts
  refine SW_seqK fun K hK => ?_
  simp [wipeD]
  refine W_lcGo (fun k acc h' => h' = (List.range k).map (fun j => OO.lst [.str "silent", .int 0, X (ts.getD j gTk), .int 0]) ∧ acc = (List.range k).map fun j => D.ref j) _ _ _ ⟨rfl, rfl⟩ (fun k d hd acc h' hI => ?_) (fun acc h' hI => ?_)
  · obtain ⟨rfl, rfl⟩ := hI
    rw [List.getElem?_map, Option.map_eq_some_iff] at hd
    obtain ⟨t, et, rfl⟩ := hd
    have hk := (List.getElem?_eq_some_iff.mp et).1
    have eg : ts[k]?.getD gTk = t := by simp [et]
    refine ⟨_, rfl, ?_⟩
    simp [tc]
    exact ⟨by omega, by rw [List.range_succ, List.map_append]; simp only [List.map_cons, List.map_nil, eg], by rw [List.range_succ, List.map_append]; rfl⟩
  obtain ⟨rfl, rfl⟩ := hI
  rw [List.length_map]
  refine hK _ _ ?_
  clear hK K
  -- the first silences
  refine SW_seqK fun K hK => ?_
  simp [-List.getD_eq_getElem?_getD, en]
  refine W_forL (fun k e h' => (h'.length = ts.length + 1 ∧ h'[ts.length]? = some (.lst ((List.range ts.length).map fun j => D.ref j)) ∧ ∀ j, j < ts.length → h'[j]? = some (.lst [.str "silent", .int 0, if j < k then .int (nth (ts.getD j gTk).pre (ts.getD j gTk).cyc 0).1 else X (ts.getD j gTk), .int 0])) ∧ ∃ a3 a4 : Option D, e = [some (.lst (ts.map tv)), some (.int n), some (.ref ts.length), a3, a4, none, none, none, none, none, none]) _ _ _ ⟨⟨?_, ?_, ?_⟩, _, _, rfl⟩ (fun k d hd e h' hI => ?_) (fun e h' hI => ?_)
  · simp
  · simp
  · intro j hj
    rw [List.getElem?_append_left (by simpa using hj)]
    simp [hj]
  · obtain ⟨⟨l1, l2, l3⟩, a3, a4, rfl⟩ := hI
    rw [List.getElem?_map, Option.map_eq_some_iff] at hd
    obtain ⟨k', hk', rfl⟩ := hd
    obtain ⟨hk, rfl⟩ : k < ts.length ∧ k = k' := by
      have := (List.getElem?_eq_some_iff.mp hk').1
      simp at this
      exact ⟨this, by rw [List.getElem?_range this] at hk'; exact Option.some.inj hk'⟩
    refine ⟨_, rfl, ?_⟩
    have nt : ∀ h : OH, LN [tv (ts.getD k gTk), .int 0] h = .ok (dT (nth (ts.getD k gTk).pre (ts.getD k gTk).cyc 0)) h := fun h => ln _ (hm k hk) 0 h
    have e3 := l3 k hk
    have e4 : atI ((List.range ts.length).map fun j => D.ref j) (k : Int) = some (.ref k) := by
      rw [atI_z (by omega) (by simpa using hk), Int.toNat_natCast]
      simp [hk]
    generalize et : ts.getD k gTk = t at nt e3
    rw [List.getD_eq_getElem?_getD] at et
    simp [nt, dT, l2, e4, e3, ixN, seqAt, lsqAt]
    refine ⟨by simpa using l1, ?_, fun j hj => ?_⟩
    · rw [List.getElem?_set_ne (by omega)]; exact l2
    · by_cases c : k = j
      · subst c
        rw [List.getElem?_set_self (by omega), if_pos (by omega)]
        simp [et]
      · rw [List.getElem?_set_ne c]
        have := l3 j hj
        rw [show (if j < k + 1 then D.int (nth (ts[j]?.getD gTk).pre (ts[j]?.getD gTk).cyc 0).fst else X (ts[j]?.getD gTk)) = if j < k then D.int (nth (ts[j]?.getD gTk).pre (ts[j]?.getD gTk).cyc 0).fst else X (ts[j]?.getD gTk) by
          by_cases d : j < k
          · rw [if_pos d, if_pos (by omega)]
          · rw [if_neg d, if_neg (by omega)]]
        rw [← List.getD_eq_getElem?_getD]
        exact this
  obtain ⟨⟨l1, l2, l3⟩, a3, a4, rfl⟩ := hI
  simp only [List.length_map, List.length_range] at l3
  have N0 : NowI ts r00 ts.length (ts.length + 1) (fun j => j) (h' ++ [OO.lst []]) := ⟨by rw [List.getElem?_append_left (by omega)]; exact l2, fun j hj => by
    rw [List.getElem?_append_left (by omega), l3 j hj, if_pos hj]
    simp [partL, r00, stN, restR], fun _ _ _ _ e => e, by omega, fun j hj => ⟨by omega, by omega⟩⟩
  have F0 : FndI ts 0 ts.length (ts.length + 1) (fun j => j) (fun _ => 0) (h' ++ [OO.lst []]) := ⟨by rw [← l1]; simp, fun _ h => absurd h (Nat.not_lt_zero _), fun _ h => absurd h (Nat.not_lt_zero _), fun _ _ h => absurd h (Nat.not_lt_zero _)⟩
  refine hK _ _ ?_
  clear hK K
  generalize e0 : [some (D.lst (ts.map tv)), some (D.int n), some (D.ref ts.length), a3, a4, none, none, none, none, none, none] = env
  refine SW_seqK fun K hK => ?_
  subst e0
  simp [-List.getD_eq_getElem?_getD]
  refine hK _ _ ?_
  clear hK K
  rw [l1]
  generalize h' ++ [OO.lst []] = h0 at N0 F0 ⊢
  clear l1 l2 l3 h'
  have r2 : rngOk (n : Int) = true := by simp [rngOk]; omega
  generalize e0 : [some (D.lst (ts.map tv)), some (D.int n), some (D.ref ts.length), a3, a4, some (D.ref (ts.length + 1)), none, none, none, none, none] = env
  refine SW_seqK fun K hK => ?_
  subst e0
  simp [-List.getD_eq_getElem?_getD, r2]
  refine W_forL (fun k e h' => (∃ P Sq : Nat → Nat, NowI ts (itI ts k) ts.length (ts.length + 1) P h' ∧ FndI ts k ts.length (ts.length + 1) P Sq h') ∧ ∃ a3 a4 a6 a7 a8 a9 a10 : Option D, e = [some (.lst (ts.map tv)), some (.int n), some (.ref ts.length), a3, a4, some (.ref (ts.length + 1)), a6, a7, a8, a9, a10]) _ _ _ ⟨⟨_, _, N0, F0⟩, _, _, _, _, _, _, _, rfl⟩ (fun k d hd e h' hI => ?_) (fun e h' hI => ?_)
  · obtain ⟨⟨P, Sq, N, F⟩, a3, a4, a6, a7, a8, a9, a10, rfl⟩ := hI
    clear N0 F0
    obtain ⟨hk, rfl⟩ := rngD_at hd
    have I := invQ_it (ts := ts) k
    have fw := first_who w I.sp
    refine Exists.intro _ (And.intro (show _ = some [some (.lst (ts.map tv)), some (.int n), some (.ref ts.length), a3, a4, some (.ref (ts.length + 1)), some (.int (0 + (k : Int))), a7, a8, a9, a10] from rfl) ?_)
    -- the ready ones, sorted
    generalize e0 : [some (D.lst (ts.map tv)), some (D.int n), some (D.ref ts.length), a3, a4, some (D.ref (ts.length + 1)), some (D.int (0 + (k : Int))), a7, a8, a9, a10] = env
    refine SW_seqK fun K hK => ?_
    subst e0
    have r3 : rngOk (ts.length : Int) = true := by simp [rngOk]; omega
    have na := N.now
    have pa := fun (j : Nat) (hj : j < ts.length) => (show atI ((List.range ts.length).map fun j => D.ref (P j)) (j : Int) = some (.ref (P j)) by
      rw [atI_z (by omega) (by simpa using hj), Int.toNat_natCast]
      simp [hj])
    have so := okR
    simp [-List.getD_eq_getElem?_getD, lh, r3, wipeD]
    rw [show rngD 0 ts.length = (List.range ts.length).map fun (j : Nat) => D.int (j : Int) by
      unfold rngD
      refine List.map_congr_left fun j _ => ?_
      simp]
    refine W_lcMap (List.range ts.length) (fun (j : Nat) => D.int (j : Int)) (fun j => (itI ts k j).b) (fun j => d3 (keyI ts (itI ts k) j)) _ (by simp [big]; omega) (fun j hj => ⟨_, rfl, ?_⟩) ?_
    · have hj := List.mem_range.mp hj
      have pr := N.prt j hj
      simp [lsqAt, seqAt, na, pa j hj, pr, partL, W_eqS _ _ _ _ (stN_ok _) so.1]
      refine ⟨stN_ready _, fun hb => ?_⟩
      rw [ha j hj]
      simp [t1, na, pa j hj, pr, partL, d3, keyI, stI, rkT]
    have e1 : ((List.range ts.length).filter fun j => (itI ts k j).b).map (fun j => d3 (keyI ts (itI ts k) j)) = (rdyL ts (itI ts k)).map d3 := by
      unfold rdyL
      rw [List.map_map]
      rfl
    rw [e1]
    simp only [lsqAt, seqAt, Option.bind_some, tripsOf_map]
    refine ⟨⟨fun a b c hm => List.all_eq_true.mp (rdyL_ok w) _ hm, by have := rdyL_len (r := itI ts k) w; omega⟩, ?_⟩
    refine hK _ _ ?_
    clear hK K e1
    -- who is first
    obtain ⟨o, ho⟩ : ∃ o, o = whoI ts (itI ts k) := ⟨_, rfl⟩
    rw [← ho] at fw
    generalize e0 : [some (D.lst (ts.map tv)), some (D.int n), some (D.ref ts.length), a3, a4, some (D.ref (ts.length + 1)), some (D.int (k : Int)), some (D.lst ((sort3 (rdyL ts (itI ts k))).map d3)), a8, a9, a10] = env
    refine SW_seqK fun K hK => ?_
    subst e0
    have s8 : K [some (D.lst (ts.map tv)), some (D.int n), some (D.ref ts.length), a3, a4, some (D.ref (ts.length + 1)), some (D.int (k : Int)), some (D.lst ((sort3 (rdyL ts (itI ts k))).map d3)), some (bestD o), a9, a10] h' := by
      refine hK _ _ ?_
      clear hK K
      generalize sort3 (rdyL ts (itI ts k)) = SL at fw ⊢
      clear fw
      generalize List.map d3 SL = SD
      -- the states
      generalize e0 : [some (D.lst (ts.map tv)), some (D.int n), some (D.ref ts.length), a3, a4, some (D.ref (ts.length + 1)), some (D.int (k : Int)), some (D.lst SD), some (bestD o), a9, a10] = env
      refine SW_seqK fun K hK => ?_
      subst e0
      simp [-List.getD_eq_getElem?_getD]
      refine hK _ _ ?_
      clear hK K
      have bE := fun (i : Nat) (h : OH) (PD : D → OH → Prop) => bestEq o i h (PD := PD)
      have bI := fun (h : OH) (PD : D → OH → Prop) => bestIs o h (PD := PD)
      generalize e0 : [some (D.lst (ts.map tv)), some (D.int n), some (D.ref ts.length), a3, a4, some (D.ref (ts.length + 1)), some (D.int (k : Int)), some (D.lst SD), some (bestD o), some (D.ref h'.length), a10] = env
      refine SW_seqK fun K hK => ?_
      subst e0
      have na0 : ∀ x : OO, (h' ++ [x])[ts.length]? = some (.lst ((List.range ts.length).map fun j => D.ref (P j))) := fun x => by rw [List.getElem?_append_left N.lt.1]; exact na
      simp [-List.getD_eq_getElem?_getD, na0, lkO]
      have fe := fun (g : TF) (b : SS) (e : Env') (h : OH) (N C B : Env' → OH → Prop) (R : D → OH → Prop) I hx i0 st fin => W_forE (N := N) (C := C) (B := B) (R := R) (g := g) (b := b) (i := ts.length) (xs := (List.range ts.length).map fun j => D.ref (P j)) I e h hx i0 st fin
      simp only [List.length_map, List.length_range] at fe
      refine fe _ _ _ _ _ _ _ _ (fun i e h2 => h2 = h' ++ [.lst ((List.range i).map (stateD ts (itI ts k)))] ∧ ∃ a4 a10 : Option D, e = [some (.lst (ts.map tv)), some (.int n), some (.ref ts.length), a3, a4, some (.ref (ts.length + 1)), some (.int (k : Int)), some (.lst SD), some (bestD o), some (.ref h'.length), a10]) (fun i e h2 hI => ?_) ⟨rfl, _, _, rfl⟩ (fun i d hd e h2 hI => ?_) (fun e h2 hI => ?_)
      · obtain ⟨rfl, _⟩ := hI
        exact na0 _
      · obtain ⟨rfl, a4, a10, rfl⟩ := hI
        rw [List.getElem?_map, Option.map_eq_some_iff] at hd
        obtain ⟨i', hi', rfl⟩ := hd
        obtain ⟨hi, rfl⟩ : i < ts.length ∧ i = i' := by
          have := (List.getElem?_eq_some_iff.mp hi').1
          simp at this
          exact ⟨this, by rw [List.getElem?_range this] at hi'; exact Option.some.inj hi'⟩
        refine Exists.intro _ (And.intro (show _ = some [some (.lst (ts.map tv)), some (.int n), some (.ref ts.length), a3, some (.int (i : Int)), some (.ref (ts.length + 1)), some (.int (k : Int)), some (.lst SD), some (bestD o), some (.ref h'.length), some (.ref (P i))] from rfl) ?_)
        have pr : ∀ x : OO, (h' ++ [x])[P i]? = some (.lst (partL (ts.getD i gTk) (itI ts k i))) := fun x => by rw [List.getElem?_append_left (N.lt.2 i hi)]; exact N.prt i hi
        have li : i < 1000000 := by omega
        simp [-List.getD_eq_getElem?_getD, bE, lsqAt, seqAt, pr, partL, lstAt]
        have hs : (List.range (i + 1)).map (stateD ts (itI ts k)) = (List.range i).map (stateD ts (itI ts k)) ++ [stateD ts (itI ts k) i] := by rw [List.range_succ, List.map_append]; rfl
        rw [hs]
        unfold stateD
        rw [← ho]
        split
        · rename_i c
          exact ⟨li, by simp [stS, c]⟩
        · rename_i c
          exact ⟨li, by simp [stS, c]⟩
      obtain ⟨rfl, a4, a10, rfl⟩ := hI
      refine hK _ _ ?_
      clear hK K
      have hst : (List.range ts.length).map (stateD ts (itI ts k)) = statesD ts (itI ts k) := rfl
      rw [hst]
      clear fe na0
      have st0 : (h' ++ [OO.lst (statesD ts (itI ts k))])[h'.length]? = some (.lst (statesD ts (itI ts k))) := by simp
      generalize e0 : [some (D.lst (ts.map tv)), some (D.int n), some (D.ref ts.length), a3, a4, some (D.ref (ts.length + 1)), some (D.int (k : Int)), some (D.lst SD), some (bestD o), some (D.ref h'.length), a10] = env
      refine SW_seqK fun K hK => ?_
      subst e0
      have fa0 : (h' ++ [OO.lst (statesD ts (itI ts k))])[ts.length + 1]? = some (.lst ((List.range k).map fun i => .tup [(itsD ts i).1, .ref (Sq i)])) := by rw [List.getElem?_append_left F.lt.1]; exact F.fnd
      have nm : ∀ (h : OH) (PD : D → OH → Prop), ((sIf (sTest (sBin (opIs false) (sVar 8) (sC .non))) (sC .non) (sBin opIx (sBin opIx (sVar 0) (sVar 8)) (sC (.int 0)))) [some (D.lst (ts.map tv)), some (D.int n), some (D.ref ts.length), a3, a4, some (D.ref (ts.length + 1)), some (D.int (k : Int)), some (D.lst SD), some (bestD o), some (D.ref h'.length), a10] h).W PD = PD (dN (spkI ts k)) h := fun h PD => by
        unfold spkI
        rw [← ho]
        cases o with
        | none => simp [bI, dN]
        | some k0 =>
          have hk0 := (who_bd ho.symm).1
          simp [bI]
          simp [bestD, ha k0 hk0, t0, dN]
      have hk9 : k < 1000000 := by omega
      simp [-List.getD_eq_getElem?_getD, nm, fa0, lstAt]
      refine ⟨hk9, ?_⟩
      refine hK _ _ ?_
      clear hK K nm hst
      have nl := N.lt
      have fl := F.lt
      have N1 : NowI ts (itI ts k) ts.length (ts.length + 1) P (List.set (h' ++ [OO.lst (statesD ts (itI ts k))]) (ts.length + 1) (OO.lst (List.map (fun i => D.tup [(itsD ts i).fst, D.ref (Sq i)]) (List.range k) ++ [D.tup [dN (spkI ts k), D.ref (List.length h')]]))) :=
        ⟨by rw [List.getElem?_set_ne (by omega), List.getElem?_append_left nl.1]; exact N.now, fun j hj => by
          have := (N.pn j hj).2
          rw [List.getElem?_set_ne (by omega), List.getElem?_append_left (nl.2 j hj)]; exact N.prt j hj, N.inj, N.nn, N.pn⟩
      have F1 : FndI ts (k + 1) ts.length (ts.length + 1) P (fun i => if i = k then h'.length else Sq i) (List.set (h' ++ [OO.lst (statesD ts (itI ts k))]) (ts.length + 1) (OO.lst (List.map (fun i => D.tup [(itsD ts i).fst, D.ref (Sq i)]) (List.range k) ++ [D.tup [dN (spkI ts k), D.ref (List.length h')]]))) := by
        refine ⟨?_, fun i hi => ?_, fun i hi => ?_, fun i j hi hj => ?_⟩
        · rw [List.getElem?_set_self (by simp; omega), List.range_succ, List.map_append]
          have : (List.range k).map (fun i => D.tup [(itsD ts i).fst, D.ref (Sq i)]) = (List.range k).map fun i => D.tup [(itsD ts i).fst, D.ref (if i = k then h'.length else Sq i)] := List.map_congr_left fun i hi => by
            have := List.mem_range.mp hi
            rw [if_neg (by omega)]
          rw [this]
          simp [itsD]
        · by_cases c : i = k
          · subst c
            rw [if_pos rfl, List.getElem?_set_ne (by omega)]
            exact st0
          · have hi2 : i < k := by omega
            have := (F.sn i hi2).2
            rw [if_neg c, List.getElem?_set_ne (by omega), List.getElem?_append_left (fl.2 i hi2)]
            exact F.sts i hi2
        · by_cases c : i = k
          · rw [if_pos c]; exact ⟨by omega, by omega⟩
          · rw [if_neg c]; exact F.sn i (by omega)
        · by_cases c : i = k
          · rw [if_pos c]
            have := nl.2 j hj
            omega
          · rw [if_neg c]; exact F.ps i j (by omega) hj
      generalize (fun i => if i = k then h'.length else Sq i) = Sq1 at F1
      generalize List.set (h' ++ [OO.lst (statesD ts (itI ts k))]) (ts.length + 1) _ = h1 at N1 F1 ⊢
      generalize h'.length = sa
      clear st0 fa0 fl nl na N F pa hd
      have enR : enumD ((List.range ts.length).map fun j => D.ref (P j)) = (List.range ts.length).map fun (j : Nat) => D.tup [.int (j : Int), .ref (P j)] := by
        refine List.ext_getElem? fun i => ?_
        unfold enumD
        rw [List.getElem?_mapIdx, List.getElem?_map, List.getElem?_map]
        by_cases c : i < ts.length
        · rw [List.getElem?_range c]
          rfl
        · rw [List.getElem?_eq_none (by simp; omega)]
          rfl
      have n1 := N1.now
      simp [-List.getD_eq_getElem?_getD, opList, seqAt, n1, enR]
      refine W_forL (fun i e h' => (∃ P' : Nat → Nat, NowI ts (midI ts (itI ts k) i) ts.length (ts.length + 1) P' h' ∧ FndI ts (k + 1) ts.length (ts.length + 1) P' Sq1 h' ∧ ∀ j, i ≤ j → j < ts.length → P' j = P j) ∧ ∃ a4 a10 : Option D, e = [some (.lst (ts.map tv)), some (.int n), some (.ref ts.length), a3, a4, some (.ref (ts.length + 1)), some (.int (k : Int)), some (.lst SD), some (bestD o), some (.ref sa), a10]) _ _ _ ⟨⟨P, N1.congr (fun j _ => by simp [midI]), F1, fun _ _ _ => rfl⟩, _, _, rfl⟩ (fun i d hd e h2 hI => ?_) (fun e h2 hI => ?_)
      · obtain ⟨⟨P', N, F, hP⟩, a4, a10, rfl⟩ := hI
        rw [List.getElem?_map, Option.map_eq_some_iff] at hd
        obtain ⟨i', hi', rfl⟩ := hd
        obtain ⟨hi, rfl⟩ : i < ts.length ∧ i = i' := by
          have := (List.getElem?_eq_some_iff.mp hi').1
          simp at this
          exact ⟨this, by rw [List.getElem?_range this] at hi'; exact Option.some.inj hi'⟩
        refine Exists.intro _ (And.intro (show _ = some [some (.lst (ts.map tv)), some (.int n), some (.ref ts.length), a3, some (.int (i : Int)), some (.ref (ts.length + 1)), some (.int (k : Int)), some (.lst SD), some (bestD o), some (.ref sa), some (.ref (P i))] from rfl) ?_)
        have hPi := hP i (Nat.le_refl _) hi
        have pr := N.prt i hi
        rw [show midI ts (itI ts k) i i = itI ts k i by simp [midI], hPi] at pr
        have plt := (List.getElem?_eq_some_iff.mp pr).1
        have nlt := N.lt
        have flt := F.lt
        -- the two ways on
        have done_ : ∀ (x : Rs) (h3 : OH) (P3 : Nat → Nat) (a4 a10 : Option D), stepI ts (itI ts k) i = x → NowI ts (fun j => if j = i then x else midI ts (itI ts k) i j) ts.length (ts.length + 1) P3 h3 → FndI ts (k + 1) ts.length (ts.length + 1) P3 Sq1 h3 → (∀ j, i + 1 ≤ j → j < ts.length → P3 j = P j) →
            (∃ P' : Nat → Nat, NowI ts (midI ts (itI ts k) (i + 1)) ts.length (ts.length + 1) P' h3 ∧ FndI ts (k + 1) ts.length (ts.length + 1) P' Sq1 h3 ∧ ∀ j, i + 1 ≤ j → j < ts.length → P' j = P j) := fun x h3 P3 a4 a10 ex N3 F3 h => by
          refine ⟨P3, N3.congr (fun j hj => ?_), F3, h⟩
          unfold midI
          by_cases c : j = i
          · subst c; simp [ex]
          · by_cases d : j < i
            · simp [c, d, show j < i + 1 by omega]
            · simp [c, d, show ¬ j < i + 1 by omega]
        have wayA : ∀ (x : Rs), stepI ts (itI ts k) i = x → (∃ P' : Nat → Nat, NowI ts (midI ts (itI ts k) (i + 1)) ts.length (ts.length + 1) P' (h2.set (P i) (.lst (partL (ts.getD i gTk) x))) ∧ FndI ts (k + 1) ts.length (ts.length + 1) P' Sq1 (h2.set (P i) (.lst (partL (ts.getD i gTk) x))) ∧ ∀ j, i + 1 ≤ j → j < ts.length → P' j = P j) := fun x ex => by
          have N3 := N.put hi x
          rw [hPi] at N3
          have pn := N.pn i hi
          rw [hPi] at pn
          refine done_ x _ P' none none ex N3 (F.keep ?_ (fun j hj => ?_) F.ps) fun j h1 h2 => hP j (by omega) h2
          · rw [List.getElem?_set_ne pn.2]
          · have := F.ps j i hj hi
            rw [List.getElem?_set_ne (by rw [← hPi]; exact this)]
        have wayB : ∀ (x : Rs) (junk : List D), stepI ts (itI ts k) i = x → (∃ P'' : Nat → Nat, NowI ts (midI ts (itI ts k) (i + 1)) ts.length (ts.length + 1) P'' (((h2.set (P i) (.lst junk)) ++ [OO.lst (partL (ts.getD i gTk) x)]).set ts.length (.lst (((List.range ts.length).map fun j => D.ref (P' j)).set i (.ref h2.length)))) ∧ FndI ts (k + 1) ts.length (ts.length + 1) P'' Sq1 (((h2.set (P i) (.lst junk)) ++ [OO.lst (partL (ts.getD i gTk) x)]).set ts.length (.lst (((List.range ts.length).map fun j => D.ref (P' j)).set i (.ref h2.length)))) ∧ ∀ j, i + 1 ≤ j → j < ts.length → P'' j = P j) := fun x junk ex => by
          have pn := N.pn i hi
          rw [hPi] at pn
          rw [set_now]
          have old : ∀ y, y < h2.length → y ≠ ts.length → y ≠ P i → ((((h2.set (P i) (.lst junk)) ++ [OO.lst (partL (ts.getD i gTk) x)]).set ts.length (.lst ((List.range ts.length).map fun j => D.ref (if j = i then h2.length else P' j))))[y]?) = h2[y]? := fun y h1 h2 h3 => by
            rw [List.getElem?_set_ne (Ne.symm h2), List.getElem?_append_left (by simpa using h1), List.getElem?_set_ne (Ne.symm h3)]
          have N3 := N.repl hi flt.1 x (h' := ((h2.set (P i) (.lst junk)) ++ [OO.lst (partL (ts.getD i gTk) x)]).set ts.length (.lst ((List.range ts.length).map fun j => D.ref (if j = i then h2.length else P' j)))) (by rw [List.getElem?_set_self (by simp; omega)]) (by
            rw [List.getElem?_set_ne (by omega)]
            simp) (fun y h1 h2 h3 => old y h1 h2 (by rw [← hPi]; exact h3))
          refine done_ x _ _ none none ex N3 (F.keep (old _ flt.1 (by omega) (by omega)) (fun j hj => old _ (flt.2 j hj) (F.sn j hj).1 ?_) fun j y hj hy => ?_) fun j h1 h2 => ?_
          · have := F.ps j i hj hi
            rw [hPi] at this
            exact Ne.symm this
          · split
            · have := flt.2 j hj
              omega
            · exact F.ps j y hj hy
          · rw [if_neg (by omega)]
            exact hP j (by omega) h2
        have wayC : stepI ts (itI ts k) i = itI ts k i → (∃ P' : Nat → Nat, NowI ts (midI ts (itI ts k) (i + 1)) ts.length (ts.length + 1) P' h2 ∧ FndI ts (k + 1) ts.length (ts.length + 1) P' Sq1 h2 ∧ ∀ j, i + 1 ≤ j → j < ts.length → P' j = P j) := fun ex =>
          done_ _ _ P' none none ex (N.congr fun j hj => by
            by_cases c : j = i
            · subst c; simp [midI]
            · simp [c]) F fun j h1 h2 => hP j (by omega) h2
        have gs : ∀ xs : List D, (h2.set (P i) (OO.lst xs))[P i]? = some (OO.lst xs) := fun xs => List.getElem?_set_self plt
        have gn : ∀ X Y : OO, ((h2.set (P i) X) ++ [Y])[ts.length]? = some (.lst ((List.range ts.length).map fun j => D.ref (P' j))) := fun X Y => by
          have := N.pn i hi
          rw [hPi] at this
          rw [List.getElem?_append_left (by simpa using nlt.1), List.getElem?_set_ne this.1]
          exact N.now
        clear plt
        have li : i < 1000000 := by omega
        have hPn := N.pn i hi
        rw [hPi] at hPn
        have g0 := N.now
        have ai : atI (ts.map tv) (i : Int) = some (tv (ts.getD i gTk)) := ha i hi
        have ixi : ixN ts.length (i : Int) = some i := by simp [ixN, hi]
        have rkI : ∀ j, (ts.getD j gTk).rank = rkT ts j := fun j => rfl
        have rsp := I.sp i hi
        have rsi := I.sil i hi
        by_cases c1 : o = some i
        · have bT := fun (h : OH) (PD : D → OH → Prop) => bE i h PD
          simp only [c1, decide_true] at bT
          have hb := (who_bd (ho.symm.trans c1)).2
          have est : stepI ts (itI ts k) i = speakR (ts.getD i gTk) (itI ts k i) := by
            unfold stepI
            rw [← ho, c1]
            simp
          have l1 : ∀ h : OH, LN [tv (ts.getD i gTk), .int (((itI ts k i).i : Int) + 1)] h = .ok (dT (nth (ts.getD i gTk).pre (ts.getD i gTk).cyc ((itI ts k i).i + 1))) h := fun h => ln _ (hm i hi) ((itI ts k i).i + 1) h
          have pe := partL_speak (t := ts.getD i gTk) hb
          have se := speak_end (t := ts.getD i gTk) (r := itI ts k i)
          have so2 := speak_on (t := ts.getD i gTk) hb
          have wA := wayA _ est
          have wB := fun junk => wayB _ junk est
          clear wayA wayB wayC done_
          generalize ts.getD i gTk = t at ai pr l1 pe se so2 wA wB
          simp only [partL] at pr
          rw [c1]
          simp [-List.getD_eq_getElem?_getD, -List.getElem?_set_self, bT, lsqAt, seqAt, pr, ixN, gs, List.set_set, ai, l1, dT]
          by_cases e : restR t (itI ts k i) - 1 = 0
          · rw [if_pos e, gn]
            rw [se (pe.mp e)] at wB
            simp [-List.getD_eq_getElem?_getD, hi]
            have := wB [D.str (stN (itI ts k i).b), D.int (itI ts k i).i, D.int (restR t (itI ts k i) - 1), D.int ((itI ts k i).sp + 1)]
            exact this
          · rw [if_neg e]
            rw [so2 fun z => e (pe.mpr z)] at wA
            exact wA
        · have bF := fun (h : OH) (PD : D → OH → Prop) => bE i h PD
          simp only [c1, decide_false] at bF
          have l1 : ∀ h : OH, LN [tv (ts.getD i gTk), .int ((itI ts k i).i : Int)] h = .ok (dT (nth (ts.getD i gTk).pre (ts.getD i gTk).cyc (itI ts k i).i)) h := fun h => ln _ (hm i hi) (itI ts k i).i h
          cases hb : (itI ts k i).b with
          | true =>
            have est : stepI ts (itI ts k) i = itI ts k i := by
              unfold stepI
              rw [← ho]
              cases o with
              | none => simp [hb]
              | some k0 =>
                have : ¬ i = k0 := fun z => c1 (by rw [z])
                simp [hb, this]
            have wC := wayC est
            simp only [partL, hb] at pr
            have e1 : (stN true == ("silent" : Str)) = false := stN_silent true
            simp [-List.getD_eq_getElem?_getD, -List.getElem?_set_self, bF, lsqAt, seqAt, pr, W_eqS _ _ _ _ (stN_ok true) okR.2, e1]
            exact wC
          | false =>
            have hs := rsi hb
            have e1 : (stN false == ("silent" : Str)) = true := stN_silent false
            have pe := partL_wait (t := ts.getD i gTk) hb
            have we := wait_end (t := ts.getD i gTk) hs
            have wo := wait_on (t := ts.getD i gTk) hb
            have key : (o = none ∨ ∃ k0, o = some k0 ∧ rkT ts i < rkT ts k0) ∨ ∃ k0, o = some k0 ∧ ¬ rkT ts i < rkT ts k0 := by
              cases o with
              | none => exact .inl (.inl rfl)
              | some k0 =>
                by_cases d : rkT ts i < rkT ts k0
                · exact .inl (.inr ⟨k0, rfl, d⟩)
                · exact .inr ⟨k0, rfl, d⟩
            rcases key with key | ⟨k0, rfl, d⟩
            · have est : stepI ts (itI ts k) i = waitR (ts.getD i gTk) (itI ts k i) := by
                unfold stepI
                rw [← ho]
                rcases key with rfl | ⟨k0, rfl, d⟩
                · simp [hb]
                · have : ¬ i = k0 := fun z => c1 (by rw [z])
                  simp [hb, this, d]
              have wA := wayA _ est
              have wB := fun junk => wayB _ junk est
              clear wayA wayB wayC done_
              have prk := rkI i
              have bI0 := bI
              simp only [partL, hb] at pr
              have fin3 : (if restR (ts.getD i gTk) (itI ts k i) - 1 = 0 then (∃ P'', NowI ts (midI ts (itI ts k) (i + 1)) ts.length (ts.length + 1) P'' (List.set ((List.set h2 (P i) (OO.lst [D.str (stN false), D.int (itI ts k i).i, D.int (restR (ts.getD i gTk) (itI ts k i) - 1), D.int (itI ts k i).sp])) ++ [OO.lst [D.str "ready", D.int (itI ts k i).i, D.int (nth (ts.getD i gTk).pre (ts.getD i gTk).cyc (itI ts k i).i).2, D.int 0]]) ts.length (OO.lst (((List.range ts.length).map fun j => D.ref (P' j)).set i (D.ref h2.length)))) ∧ FndI ts (k + 1) ts.length (ts.length + 1) P'' Sq1 (List.set ((List.set h2 (P i) (OO.lst [D.str (stN false), D.int (itI ts k i).i, D.int (restR (ts.getD i gTk) (itI ts k i) - 1), D.int (itI ts k i).sp])) ++ [OO.lst [D.str "ready", D.int (itI ts k i).i, D.int (nth (ts.getD i gTk).pre (ts.getD i gTk).cyc (itI ts k i).i).2, D.int 0]]) ts.length (OO.lst (((List.range ts.length).map fun j => D.ref (P' j)).set i (D.ref h2.length)))) ∧ ∀ j, i + 1 ≤ j → j < ts.length → P'' j = P j)
                  else ∃ P'', NowI ts (midI ts (itI ts k) (i + 1)) ts.length (ts.length + 1) P'' (List.set h2 (P i) (OO.lst [D.str (stN false), D.int (itI ts k i).i, D.int (restR (ts.getD i gTk) (itI ts k i) - 1), D.int (itI ts k i).sp])) ∧ FndI ts (k + 1) ts.length (ts.length + 1) P'' Sq1 (List.set h2 (P i) (OO.lst [D.str (stN false), D.int (itI ts k i).i, D.int (restR (ts.getD i gTk) (itI ts k i) - 1), D.int (itI ts k i).sp])) ∧ ∀ j, i + 1 ≤ j → j < ts.length → P'' j = P j) := by
                by_cases e : restR (ts.getD i gTk) (itI ts k i) - 1 = 0
                · rw [if_pos e]
                  rw [we (pe.mp e)] at wB
                  exact wB _
                · rw [if_neg e]
                  rw [wo fun z => e (pe.mpr z), hb] at wA
                  exact wA
              clear wA wB we wo pe est
              rcases key with rfl | ⟨k0, rfl, d⟩
              · simp [-List.getD_eq_getElem?_getD, -List.getElem?_set_self, bF, lsqAt, seqAt, pr, W_eqS _ _ _ _ (stN_ok false) okR.2, e1, bI, ixN, gs, ai, l1, dT, gn, hi]
                simpa [-List.getD_eq_getElem?_getD, -List.getElem?_set_self] using fin3
              · have hk0 := (who_bd ho.symm).1
                simp [-List.getD_eq_getElem?_getD, -List.getElem?_set_self, bF, lsqAt, seqAt, pr, W_eqS _ _ _ _ (stN_ok false) okR.2, e1, bI]
                simp [-List.getD_eq_getElem?_getD, -List.getElem?_set_self, bestD, ha k0 hk0, ai, t1, rkI, d, ixN, gs, l1, dT, gn, hi, pr, lsqAt, seqAt]
                simpa [-List.getD_eq_getElem?_getD, -List.getElem?_set_self] using fin3
            · have est : stepI ts (itI ts k) i = itI ts k i := by
                unfold stepI
                rw [← ho]
                have : ¬ i = k0 := fun z => c1 (by rw [z])
                simp [hb, this, d]
              have wC := wayC est
              have hk0 := (who_bd ho.symm).1
              simp only [partL, hb] at pr
              simp [-List.getD_eq_getElem?_getD, -List.getElem?_set_self, bF, lsqAt, seqAt, pr, W_eqS _ _ _ _ (stN_ok false) okR.2, e1, bI]
              simp [-List.getD_eq_getElem?_getD, bestD, ha k0 hk0, ai, t1, rkI, d]
              exact wC
      · obtain ⟨⟨P', N, F, hP⟩, a4, a10, rfl⟩ := hI
        rw [List.length_map, List.length_range] at N
        exact ⟨⟨P', N.congr (fun j hj => by simp [midI, hj, itI]), Sq1, F⟩, _, _, _, _, _, _, _, rfl⟩
    cases o with
    | none =>
      dsimp only at fw
      rw [fw] at s8 ⊢
      simp only [List.map_nil, bestD] at s8 ⊢
      simp
      exact s8
    | some k0 =>
      obtain ⟨_, _, rest, fw⟩ := fw
      rw [fw] at s8 ⊢
      simp only [List.map_cons, bestD] at s8 ⊢
      have e3 : d3 (keyI ts (itI ts k) k0) = .tup [.int (rkT ts k0), .int (stI (itI ts k) k0), .int (k0 : Int)] := rfl
      rw [e3] at s8 ⊢
      simp
      exact s8
  · obtain ⟨⟨P, Sq, N, F⟩, a3, a4, a6, a7, a8, a9, a10, rfl⟩ := hI
    refine hK _ _ ?_
    clear hK K
    rw [rngD_len] at F
    simp
    exact ⟨_, P, Sq, F⟩
/-- what the law's run answers, for values that read as these talkers -/
theorem lRun (b : Bool) (w : WfHall T30 ts) {n : Nat} (hn : n ≤ 2000) {ds : List D} {h : OH} (e : snapGL (snapGet h 5) ds = some [.lst (ts.map (tkV b)), .int n]) : lendZ Sh.l_run ds h = .ok (runD ts n) h := by
  obtain ⟨d, h2, e2, na, fa, P, Sq, rfl, F⟩ := (lRunW b w hn).out
  unfold lendZ
  rw [e]
  dsimp only
  rw [e2]
  dsimp only
  rw [ownFnd F]
end
end HR
set_option Elab.async false
set_option linter.all false
set_option maxRecDepth 20000
set_option exponentiation.threshold 5000
set_option Elab.async false
set_option linter.all false
set_option maxRecDepth 20000
set_option exponentiation.threshold 5000
set_option Elab.async false
set_option linter.all false
set_option maxRecDepth 20000
set_option exponentiation.threshold 5000
set_option Elab.async false
set_option linter.all false
set_option maxRecDepth 20000
set_option exponentiation.threshold 5000
namespace HR
open PySem L2
section
variable {ts : List Tk} {t u : Tk}
/-- the rank of u, from 0 on -/
def rk0 (u : Tk) : Nat := (u.rank - 1).toNat
end
end HR
set_option Elab.async false
set_option linter.all false
set_option maxRecDepth 20000
set_option exponentiation.threshold 5000
set_option Elab.async false
set_option linter.all false
set_option maxRecDepth 20000
set_option exponentiation.threshold 5000
namespace HR
open PySem L2
abbrev K3 := Str × Int × Int
def dK3 (p : K3) : D := .tup [.str p.1, .int p.2.1, .int p.2.2]
def pK3 (p : K3) : PyData := .tuple [.str p.1, .int p.2.1, .int p.2.2]
theorem eqvK3 : ∀ (a b : List K3), PyData.eqvAll (a.map pK3) (b.map pK3) = decide (a = b)
  | [], [] => rfl
  | [], _ :: _ => rfl
  | _ :: _, [] => rfl
  | p :: a, q :: b => by
    have ih := eqvK3 a b
    obtain ⟨p1, p2, p3⟩ := p
    obtain ⟨q1, q2, q3⟩ := q
    simp only [List.map_cons, PyData.eqvAll, pK3, PyData.eqv, ih, Bool.and_true]
    rw [Bool.eq_iff_iff]
    simp [and_assoc]
theorem W_eqK {a b : List K3} (ha : ∀ p ∈ a, PyData.strOk p.1 = true) (hb : ∀ p ∈ b, PyData.strOk p.1 = true) (h : OH) {PD : D → OH → Prop} : (opEq false (.lst (a.map dK3)) (.lst (b.map dK3)) h).W PD = PD (.bl (decide (a = b))) h := by
  have key : ∀ (get : Nat → Option (List PyData)) (l : List K3), pyGL get (l.map dK3) = some (l.map pK3) := fun get l => by
    induction l with
    | nil => rfl
    | cons p l ih => simp [pyGL, pyG, dK3, pK3, ih]
  have lay : ∀ l : List K3, (∀ p ∈ l, PyData.strOk p.1 = true) → PyData.canLayAll0 (l.map pK3) = true := fun l => by
    induction l with
    | nil => exact fun _ => rfl
    | cons p l ih => exact fun hl => by simp [PyData.canLayAll0, pK3, PyData.canLay0, hl p List.mem_cons_self, ih fun q hq => hl q (List.mem_cons_of_mem _ hq)]
  have dep : ∀ l : List K3, PyData.depthAll (l.map pK3) ≤ 2 := fun l => by
    induction l with
    | nil => simp [PyData.depthAll]
    | cons p l ih =>
      have : (pK3 p).depth ≤ 2 := by simp [pK3, PyData.depth, PyData.depthAll]
      simp only [List.map_cons, PyData.depthAll]
      omega
  have sh : ∀ l : List K3, (∀ p ∈ l, PyData.strOk p.1 = true) → SeqAt.shaped (.list (l.map pK3)) = true := fun l hl => by
    have := dep l
    simp [SeqAt.shaped, PyData.canLay0, lay l hl, PyData.depth]
    omega
  have p1 : ∀ l : List K3, pyAt h (.lst (l.map dK3)) = some (.list (l.map pK3)) := fun l => by
    simp only [pyAt, pyG, key, Option.map_some]
  have e : PyData.eqv (.list (a.map pK3)) (.list (b.map pK3)) = decide (a = b) := eqvK3 a b
  simp only [opEq, p1, sh a ha, sh b hb, e, Bool.and_self, if_true]
  rfl
/-- names and None compared -/
theorem W_eqON {x y : Option Str} (hx : ∀ z, x = some z → PyData.strOk z = true) (hy : ∀ z, y = some z → PyData.strOk z = true) (h : OH) {PD : D → OH → Prop} : (opEq false (dN x) (dN y) h).W PD = PD (.bl (decide (x = y))) h := by
  cases x with
  | none =>
    cases y with
    | none => rfl
    | some z =>
      have s1 := hy z rfl
      simp [dN, opEq, SeqAt.shaped, PyData.canLay0, PyData.depth, PyData.eqv, s1]
  | some z =>
    cases y with
    | none =>
      have s1 := hx z rfl
      simp [dN, opEq, SeqAt.shaped, PyData.canLay0, PyData.depth, PyData.eqv, s1]
    | some u =>
      simp only [dN]
      rw [W_eqS _ _ _ _ (hx z rfl) (hy u rfl)]
      have : (z == u) = decide (some z = some u) := by
        by_cases c : z = u
        · subst c; simp
        · have c2 : ¬ some z = some u := fun e => c (Option.some.inj e)
          simp [c]
      simp [this]
section
variable {ts : List Tk}
def atV (t : Tk) (i : Nat) : Int := if (i : Int) - t.pre.length < 0 then (i : Int) - t.pre.length else ((i : Int) - t.pre.length) % t.cyc.length
def keyV (ts : List Tk) (r : Nat → Rs) (j : Nat) : K3 := (stS (r j).b (decide (whoI ts r = some j)), atV (ts.getD j gTk) (r j).i, restR (ts.getD j gTk) (r j))
def keyL (ts : List Tk) (r : Nat → Rs) : List K3 := (List.range ts.length).map (keyV ts r)
theorem stS_ok (b s : Bool) : PyData.strOk (stS b s) = true := by cases b <;> cases s <;> decide +kernel
theorem keyL_ok (r : Nat → Rs) : ∀ p ∈ keyL ts r, PyData.strOk p.1 = true := fun p hp => by
  obtain ⟨j, _, rfl⟩ := List.mem_map.mp hp
  exact stS_ok _ _
theorem stS_b {b s b' s' : Bool} (h1 : s = true → b = true) (h2 : s' = true → b' = true) (e : stS b s = stS b' s') : b = b' := by
  have d : ∀ b s b' s' : Bool, (s = true → b = true) → (s' = true → b' = true) → stS b s = stS b' s' → b = b' := by decide +kernel
  exact d b s b' s' h1 h2 e
/-- the same keys, all cycles begun: alike but for whole cycles -/
theorem key_alike (w : WfHall T30 ts) {a b : Nat} (e : keyL ts (itI ts b) = keyL ts (itI ts a)) (h0 : ∀ j, j < ts.length → 0 ≤ atV (ts.getD j gTk) (itI ts a j).i) : AlikeA ts (itI ts a) (itI ts b) := fun j hj => by
  have ej : keyV ts (itI ts b) j = keyV ts (itI ts a) j := by
    have := congrArg (fun l => l[j]?) e
    simpa [keyL, hj] using this
  have wt := w.tk (ts.getD j gTk) (by simp [hj])
  have hc := wt.lc1
  obtain ⟨e1, e2⟩ := Prod.mk.inj ej
  obtain ⟨e2, e3⟩ := Prod.mk.inj e2
  have sb : ∀ n, (decide (whoI ts (itI ts n) = some j)) = true → (itI ts n j).b = true := fun n h => (who_bd (of_decide_eq_true h)).2
  have eb := stS_b (sb b) (sb a) e1
  have z := h0 j hj
  have nn : ∀ {n : Nat}, 0 ≤ atV (ts.getD j gTk) n → (ts.getD j gTk).pre.length ≤ n := fun {n} h => by
    unfold atV at h
    split at h
    · omega
    · omega
  have i1 := nn z
  have i2 : (ts.getD j gTk).pre.length ≤ (itI ts b j).i := nn (by rw [e2]; exact z)
  have md : ((itI ts b j).i - (ts.getD j gTk).pre.length) % (ts.getD j gTk).cyc.length = ((itI ts a j).i - (ts.getD j gTk).pre.length) % (ts.getD j gTk).cyc.length := by
    unfold atV at e2
    rw [if_neg (by omega), if_neg (by omega)] at e2
    have c : ∀ n : Nat, (ts.getD j gTk).pre.length ≤ n → ((n : Int) - (ts.getD j gTk).pre.length) % (ts.getD j gTk).cyc.length = (((n - (ts.getD j gTk).pre.length) % (ts.getD j gTk).cyc.length : Nat) : Int) := fun n hn => by
      rw [Int.natCast_emod, Int.ofNat_sub hn]
    rw [c _ i2, c _ i1] at e2
    omega
  have en : nth (ts.getD j gTk).pre (ts.getD j gTk).cyc (itI ts b j).i = nth (ts.getD j gTk).pre (ts.getD j gTk).cyc (itI ts a j).i := by
    have h1 : ¬ (itI ts a j).i < (ts.getD j gTk).pre.length := by omega
    have h2 : ¬ (itI ts b j).i < (ts.getD j gTk).pre.length := by omega
    simp only [nth, h1, h2, if_false, md]
  have e3 : restR (ts.getD j gTk) (itI ts b j) = restR (ts.getD j gTk) (itI ts a j) := e3
  unfold restR at e3
  rw [eb, en] at e3
  have Ia := (invQ_it (ts := ts) a).sil j hj
  have Ib := (invQ_it (ts := ts) b).sil j hj
  refine ⟨eb, ?_, fun hb => ?_, i1, i2, md⟩
  · cases hb : (itI ts a j).b with
    | true => rw [hb] at e3; simp only [if_true] at e3; omega
    | false => rw [Ia hb, Ib (eb.trans hb)]
  · rw [hb] at e3
    simp only [Bool.false_eq_true, if_false] at e3
    omega
/-! the program's texts -/
theorem lKey (w : WfHall T30 ts) (r : Nat → Rs) (h : OH) : pureF Sh.l_key [.lst (ts.map dTk), .lst (statesD ts r)] h = .ok (.lst ((keyL ts r).map dK3)) h := by
  have hlen := w.len
  have pS : D.pureL (statesD ts r) = true := pureL_map _ (fun j => rfl) _
  refine pure_eq h (by simp [pS]) (pureL_map _ (fun p => rfl) _) ?_
  have ez : zipAt (.lst (ts.map dTk)) (.lst (statesD ts r)) = some ((List.range ts.length).map fun j => D.tup [dTk (ts.getD j gTk), stateD ts r j]) := by
    simp only [zipAt, frzAt, zipD, Option.some.injEq, statesD]
    refine List.ext_getElem? fun i => ?_
    rw [List.getElem?_zipWith, List.getElem?_map, List.getElem?_map, List.getElem?_map]
    by_cases c : i < ts.length
    · rw [List.getElem?_range c, List.getElem?_eq_getElem c]
      simp [c]
    · rw [List.getElem?_eq_none (l := ts) (by omega), List.getElem?_eq_none (l := List.range ts.length) (by simp; omega)]
      rfl
  unfold Sh.l_key; rw [W_fn]; unfold Sh.l_key_b
  generalize D.lst (statesD ts r) = SD at ez ⊢
  refine SW_seqK fun K hK => ?_
  simp
  refine hK _ _ ?_
  clear hK K
  generalize e0 : [some (D.lst (ts.map dTk)), some SD, some (D.ref 0), none, none, none] = env
  refine SW_seqK fun K hK => ?_
  subst e0
  simp [ez]
  refine W_forL (fun k e h' => h' = [.lst ((List.range k).map fun j => dK3 (keyV ts r j))] ∧ ∃ a3 a4 a5 : Option D, e = [some (.lst (ts.map dTk)), some SD, some (.ref 0), a3, a4, a5]) _ _ _ ⟨rfl, _, _, _, rfl⟩ (fun k d hd e h' hI => ?_) (fun e h' hI => ?_)
  · obtain ⟨rfl, a3, a4, a5, rfl⟩ := hI
    rw [List.getElem?_map, Option.map_eq_some_iff] at hd
    obtain ⟨k', hk', rfl⟩ := hd
    obtain ⟨hk, rfl⟩ : k < ts.length ∧ k = k' := by
      have := (List.getElem?_eq_some_iff.mp hk').1
      simp at this
      exact ⟨this, by rw [List.getElem?_range this] at hk'; exact Option.some.inj hk'⟩
    refine Exists.intro _ (And.intro (show _ = some [some (D.lst (ts.map dTk)), some SD, some (D.ref 0), some (dTk (ts.getD k gTk)), some (stateD ts r k), a5] from rfl) ?_)
    have wt := w.tk (ts.getD k gTk) (by simp [hk])
    have hs : (List.range (k + 1)).map (fun j => dK3 (keyV ts r j)) = (List.range k).map (fun j => dK3 (keyV ts r j)) ++ [dK3 (keyV ts r k)] := by rw [List.range_succ, List.map_append]; rfl
    rw [hs]
    unfold keyV stateD
    generalize decide (whoI ts r = some k) = sp
    generalize r k = rk
    generalize ts.getD k gTk = t at wt ⊢
    have hc := wt.lc1
    have hc8 := wt.lc
    have hdv : divOk ((rk.i : Int) - t.pre.length) t.cyc.length = true := divOk_small (small_64 (by omega)) (by omega)
    refine SW_seqK fun K2 hK2 => ?_
    simp [dTk]
    refine hK2 _ _ ?_
    clear hK2 K2
    by_cases c : (rk.i : Int) - t.pre.length < 0
    · simp [c, lstAt, dTk]
      exact ⟨by omega, by simp [dK3, atV, c]⟩
    · simp [c, lstAt, dTk, hdv]
      exact ⟨by omega, by omega, by simp [dK3, atV, c]⟩
  · obtain ⟨rfl, a3, a4, a5, rfl⟩ := hI
    refine hK _ _ ?_
    clear hK K
    simp [frzE]
    simp [keyL, Function.comp_def]
/-- the rank that speaks, 11 if it is silent -/
def spR (ts : List Tk) (n : Nat) : Int := match whoI ts (itI ts n) with
  | none => 11
  | some j => rkT ts j
theorem Qs_cnt (k : Nat) : ∀ n, ((List.range n).filter fun i => qt ts k i).length = Qs ts k n
  | 0 => rfl
  | n + 1 => by
    rw [List.range_succ, List.filter_append, List.length_append, Qs_cnt k n]
    simp only [Qs]
    congr 1
    by_cases c : qt ts k n = true <;> simp [c]
end
end HR
set_option Elab.async false
set_option linter.all false
set_option maxRecDepth 20000
set_option exponentiation.threshold 5000
set_option Elab.async false
set_option linter.all false
set_option maxRecDepth 20000
set_option exponentiation.threshold 5000
namespace HR
open PySem L2
theorem Sb.app {n : Nat} {f : Nat → Tk} {h : OH} (s : Sb n f h) (l : OH) : Sb n f (h ++ l) := by
  have g : ∀ (i : Nat) o, h[i]? = some o → (h ++ l)[i]? = some o := fun i o e => by rw [List.getElem?_append_left (List.getElem?_eq_some_iff.mp e).1]; exact e
  exact ⟨fun m hm => g _ _ (s.pre m hm), fun m hm => g _ _ (s.cyc m hm), fun m hm => g _ _ (s.tk m hm)⟩
end HR
set_option Elab.async false
set_option linter.all false
set_option maxRecDepth 20000
set_option exponentiation.threshold 5000
set_option Elab.async false
set_option linter.all false
set_option maxRecDepth 20000
set_option exponentiation.threshold 5000
namespace HR
open PySem L2
/-! ### law k11 -/
/-- own talkers in a row from b on -/
def HL (h : OH) (b : Nat) (ts : List Tk) : Prop := ∀ m t, ts[m]? = some t → h[b + 3 * m]? = some (.lst (t.pre.map dT)) ∧ h[b + 3 * m + 1]? = some (.lst (t.cyc.map dT)) ∧ h[b + 3 * m + 2]? = some (.lst [.str t.name, .int t.rank, .ref (b + 3 * m), .ref (b + 3 * m + 1)])
theorem HL.app {h : OH} {b : Nat} {ts : List Tk} (s : HL h b ts) (l : OH) : HL (h ++ l) b ts := fun m t e => by
  have g : ∀ (i : Nat) o, h[i]? = some o → (h ++ l)[i]? = some o := fun i o e => by rw [List.getElem?_append_left (List.getElem?_eq_some_iff.mp e).1]; exact e
  obtain ⟨a, b, c⟩ := s m t e
  exact ⟨g _ _ a, g _ _ b, g _ _ c⟩
end HR
set_option Elab.async false
set_option linter.all false
set_option maxRecDepth 20000
set_option exponentiation.threshold 5000
set_option Elab.async false
set_option linter.all false
set_option maxRecDepth 20000
set_option exponentiation.threshold 5000
set_option Elab.async false
set_option linter.all false
set_option maxRecDepth 20000
set_option exponentiation.threshold 5000
namespace HR
open PySem L2
section
variable {ts : List Tk}
theorem runD_at {m n : Nat} (h : n < m) : atI ((List.range m).map fun k => D.tup [dN (spkI ts k), .lst (statesD ts (itI ts k))]) (n : Int) = some (.tup [dN (spkI ts n), .lst (statesD ts (itI ts n))]) := by
  rw [atI_z (by omega) (by simpa using h), Int.toNat_natCast]
  simp [h]
theorem spk_ok (w : WfHall T30 ts) (n : Nat) : ∀ z, spkI ts n = some z → PyData.strOk z = true := fun z e => by
  unfold spkI at e
  cases ew : whoI ts (itI ts n) with
  | none => rw [ew] at e; cases e
  | some j =>
    rw [ew] at e
    cases e
    have hj := (who_bd ew).1
    exact okNm (w.tk (ts.getD j gTk) (by simp [hj])).name
/-- what the law's period is -/
def GoodP (ts : List Tk) (d : D) : Prop := d = .non ∨ ∃ a L : Nat, d = .lst [runD ts 300, .int a, .int L] ∧ 0 < L ∧ a + L < 300 ∧ AlikeA ts (itI ts a) (itI ts (a + L))
theorem lPeriod (w : WfHall T30 ts) : ∃ d : D, d.pure = true ∧ GoodP ts d ∧ ∀ h, pureF Sh.l_period [.lst (ts.map dTk), .int 300] h = .ok d h := by
  have hlen := w.len
  suffices fin : (Sh.l_period [.lst (ts.map dTk), .int 300] []).W fun d _ => d.pure = true ∧ GoodP ts d by
    obtain ⟨d, h', e, p, g⟩ := fin.out
    refine ⟨d, p, g, fun h => ?_⟩
    unfold pureF
    rw [if_pos (by simp), e]
    dsimp only
    rw [if_pos p]
  have snap : ∀ h, snapGL (snapGet h 5) [.lst (ts.map dTk), .int 300] = some [.lst (ts.map dTk), .int 300] := fun h => by
    have st : ∀ (l : List (Int × Int)), snapGL (snapGet h 5) (l.map dT) = some (l.map dT) := fun l => by
      induction l with
      | nil => rfl
      | cons p l ih => simp [snapGL, snapG, dT, ih]
    have key : ∀ l : List Tk, snapGL (snapGet h 5) (l.map dTk) = some (l.map dTk) := fun l => by
      induction l with
      | nil => rfl
      | cons t l ih => simp [snapGL, snapG, dTk, ih, st]
    simp [snapGL, snapG, key]
  have rn : ∀ h, lendZ Sh.l_run [.lst (ts.map dTk), .int 300] h = .ok (runD ts 300) h := fun h => lRun (n := 300) true w (by decide) (snap h)
  have lk := fun (n : Nat) (h : OH) => lKey w (itI ts n) h
  obtain ⟨M, eM, hM⟩ : ∃ M : Nat, (300 : Int) = (M : Int) ∧ M = 300 := ⟨300, rfl, rfl⟩
  have pR : ∀ n, (runD ts n).pure = true := fun n => pureL_map _ (fun k => by
    have : D.pureL (statesD ts (itI ts k)) = true := pureL_map _ (fun j => rfl) _
    cases spkI ts k <;> simp [dN, this]) _
  unfold Sh.l_period; rw [W_fn]; unfold Sh.l_period_b
  generalize lendZ Sh.l_run = RN at rn ⊢
  generalize pureF Sh.l_key = LK at lk ⊢
  rw [eM] at rn ⊢
  rw [show runD ts 300 = runD ts M by rw [hM]] at rn
  have GP : ∀ d, GoodP ts d ↔ (d = .non ∨ ∃ a L : Nat, d = .lst [runD ts M, .int a, .int L] ∧ 0 < L ∧ a + L < M ∧ AlikeA ts (itI ts a) (itI ts (a + L))) := fun d => by
    unfold GoodP; rw [hM]
  simp only [GP]
  have pM := pR M
  have rat := fun (n : Nat) (h : n < M) => runD_at (ts := ts) h
  have len : (((List.range M).map fun k => D.tup [dN (spkI ts k), .lst (statesD ts (itI ts k))])).length = M := by simp
  unfold runD at rn pM ⊢
  generalize ((List.range M).map fun k => D.tup [dN (spkI ts k), .lst (statesD ts (itI ts k))]) = RL at rn pM rat len ⊢
  have lM : M ≤ 300 := by omega
  refine SW_seqK fun K hK => ?_
  simp [rn]
  refine hK _ _ ?_
  clear hK K
  generalize e0 : [some (D.lst (ts.map dTk)), some (D.int (M : Int)), some (D.lst RL), none, none, none, none, none] = env
  refine SW_seqK fun K hK => ?_
  subst e0
  have hdv : divOk (M : Int) 2 = true := divOk_small (small_64 (by decide)) (by decide)
  simp [hdv]
  refine ⟨by omega, ?_⟩
  refine W_forL (fun k e h' => h' = [] ∧ ∃ a3 a4 a5 a6 a7 : Option D, e = [some (D.lst (ts.map dTk)), some (D.int (M : Int)), some (D.lst RL), a3, a4, a5, a6, a7]) _ _ _ ⟨rfl, _, _, _, _, _, rfl⟩ (fun i d hd e h' hI => ?_) (fun e h' hI => ?_)
  · obtain ⟨rfl, a3, a4, a5, a6, a7, rfl⟩ := hI
    obtain ⟨hi, rfl⟩ := rngS_at hd
    obtain ⟨a, ea, ha⟩ : ∃ a : Nat, (0 + (i : Int) * 10) = (a : Int) ∧ a < M := ⟨10 * i, by omega, by
      split at hi
      · omega
      · omega⟩
    refine Exists.intro _ (And.intro (show _ = some [some (D.lst (ts.map dTk)), some (D.int (M : Int)), some (D.lst RL), some (D.int (0 + (i : Int) * 10)), a4, a5, a6, a7] from rfl) ?_)
    rw [ea]
    generalize e0 : [some (D.lst (ts.map dTk)), some (D.int (M : Int)), some (D.lst RL), some (D.int (a : Int)), a4, a5, a6, a7] = env
    refine SW_seqK fun K2 hK2 => ?_
    subst e0
    simp [rat a ha, lk a]
    refine hK2 _ _ ?_
    clear hK2 K2
    have okA := keyL_ok (ts := ts) (itI ts a)
    have kl : ∀ r : Nat → Rs, (keyL ts r).length = ts.length := fun r => by simp [keyL]
    simp [wipeD]
    refine W_lcMap (keyL ts (itI ts a)) dK3 (fun p => decide (p.2.1 < 0)) (fun _ => D.int 1) _ (by rw [kl]; simp [big]; omega) (fun x hx => ⟨_, rfl, by simp [dK3]⟩) ?_
    simp only [List.map_eq_nil_iff]
    by_cases c : (keyL ts (itI ts a)).filter (fun p => decide (p.2.1 < 0)) = []
    · rw [if_pos c]
      have h0 : ∀ j, j < ts.length → 0 ≤ atV (ts.getD j gTk) (itI ts a j).i := fun j hj => by
        have := List.filter_eq_nil_iff.mp c (keyV ts (itI ts a) j) (List.mem_map.mpr ⟨j, List.mem_range.mpr hj, rfl⟩)
        simp only [decide_eq_true_eq] at this
        have e2 : (keyV ts (itI ts a) j).2.1 = atV (ts.getD j gTk) (itI ts a j).i := rfl
        omega
      refine ⟨⟨by simp [rngOk]; omega, by simp [rngOk]; omega⟩, ?_⟩
      have er : rngD ((a : Int) + 1) ((M : Int) - ((a : Int) + 1)).toNat = (List.range (M - (a + 1))).map fun (s : Nat) => D.int ((a + 1 + s : Nat) : Int) := by
        unfold rngD
        rw [show ((M : Int) - ((a : Int) + 1)).toNat = M - (a + 1) by omega]
        refine List.map_congr_left fun s _ => ?_
        simp
      rw [er]
      refine W_lcMap (List.range (M - (a + 1))) (fun (s : Nat) => D.int ((a + 1 + s : Nat) : Int)) (fun s => decide (spkI ts (a + 1 + s) = spkI ts a)) (fun (s : Nat) => D.int ((a + 1 + s : Nat) : Int)) _ (by simp [big]; omega) (fun s hs => ⟨_, rfl, ?_⟩) ?_
      · have hs := List.mem_range.mp hs
        have r1 := rat (a + 1 + s) (by omega)
        have r2 := rat a ha
        have eq := fun (h : OH) (PD : D → OH → Prop) => W_eqON (spk_ok w (a + 1 + s)) (spk_ok w a) h (PD := PD)
        generalize spkI ts (a + 1 + s) = u at r1 eq ⊢
        generalize spkI ts a = v at r2 eq ⊢
        generalize D.lst (statesD ts (itI ts (a + 1 + s))) = x1 at r1
        generalize D.lst (statesD ts (itI ts a)) = x2 at r2
        generalize ((a + 1 + s : Nat) : Int) = z at r1 ⊢
        simp [r1, r2, eq]
      have mem1 : ∀ s ∈ (List.range (M - (a + 1))).filter (fun s => decide (spkI ts (a + 1 + s) = spkI ts a)), s < M - (a + 1) := fun s hs => List.mem_range.mp (List.mem_filter.mp hs).1
      have len1 : ((List.range (M - (a + 1))).filter (fun s => decide (spkI ts (a + 1 + s) = spkI ts a))).length ≤ 300 := by
        have := List.length_filter_le (fun s => decide (spkI ts (a + 1 + s) = spkI ts a)) (List.range (M - (a + 1)))
        rw [List.length_range] at this
        omega
      generalize (List.range (M - (a + 1))).filter (fun s => decide (spkI ts (a + 1 + s) = spkI ts a)) = S1 at mem1 len1 ⊢
      refine W_lcMap S1 (fun (s : Nat) => D.int ((a + 1 + s : Nat) : Int)) (fun s => decide (keyL ts (itI ts (a + 1 + s)) = keyL ts (itI ts a))) (fun (s : Nat) => D.int ((a + 1 + s : Nat) : Int)) _ (by simp [big]; omega) (fun s hs => ⟨_, rfl, ?_⟩) ?_
      · have hs := mem1 s hs
        have r1 := rat (a + 1 + s) (by omega)
        have k1 := fun h => lk (a + 1 + s) h
        have eq := fun (h : OH) (PD : D → OH → Prop) => W_eqK (keyL_ok (ts := ts) (itI ts (a + 1 + s))) okA h (PD := PD)
        generalize D.lst (statesD ts (itI ts (a + 1 + s))) = x1 at r1 k1
        generalize keyL ts (itI ts (a + 1 + s)) = u at k1 eq ⊢
        generalize keyL ts (itI ts a) = v at eq ⊢
        generalize dN (spkI ts (a + 1 + s)) = x3 at r1
        generalize ((a + 1 + s : Nat) : Int) = z at r1 ⊢
        simp [r1, k1, eq]
      have mem2 : ∀ s ∈ S1.filter (fun s => decide (keyL ts (itI ts (a + 1 + s)) = keyL ts (itI ts a))), s < M - (a + 1) ∧ keyL ts (itI ts (a + 1 + s)) = keyL ts (itI ts a) := fun s hs => ⟨mem1 s (List.mem_filter.mp hs).1, of_decide_eq_true (List.mem_filter.mp hs).2⟩
      generalize S1.filter (fun s => decide (keyL ts (itI ts (a + 1 + s)) = keyL ts (itI ts a))) = S2 at mem2 ⊢
      intro hne
      cases S2 with
      | nil => exact absurd rfl hne
      | cons s rest =>
        obtain ⟨s1, s2⟩ := mem2 s List.mem_cons_self
        have al := key_alike w s2 h0
        rw [show a + 1 + s = a + (s + 1) by omega] at al
        simp
        exact ⟨by simpa using pM, a, s + 1, ⟨rfl, by omega⟩, by omega, by omega, al⟩
    · rw [if_neg c]
      trivial
  · obtain ⟨rfl, a3, a4, a5, a6, a7, rfl⟩ := hI
    refine hK _ _ ?_
    clear hK K
    simp
end
end HR
set_option Elab.async false
set_option linter.all false
set_option maxRecDepth 20000
set_option exponentiation.threshold 5000
namespace HR
open PySem L2
section
variable {ts : List Tk}
theorem spR_ge (w : WfHall T30 ts) (k n : Nat) (hk : k < 10) : decide ((k : Int) + 1 ≤ spR ts n) = qt ts k n ∧ decide ((k : Int) + 1 < spR ts n) = qt ts (k + 1) n := by
  unfold spR
  cases e : whoI ts (itI ts n) with
  | none =>
    rw [qt_none e, qt_none e]
    dsimp only
    exact ⟨decide_eq_true (by omega), decide_eq_true (by omega)⟩
  | some j =>
    rw [qt_some e, qt_some e]
    dsimp only
    refine ⟨?_, ?_⟩
    · by_cases c : (k : Int) < rkT ts j
      · rw [decide_eq_true c, decide_eq_true (by omega)]
      · rw [decide_eq_false c, decide_eq_false (by omega)]
    · by_cases c : ((k + 1 : Nat) : Int) < rkT ts j
      · rw [decide_eq_true c, decide_eq_true (by omega)]
      · rw [decide_eq_false c, decide_eq_false (by omega)]
def cntD (ts : List Tk) (k n : Nat) : D := .lst [.int (Qs ts k n), .int (Qs ts (k + 1) n)]
theorem lCounts (w : WfHall T30 ts) {k n m : Nat} (hk : k < 10) (hn : n ≤ m) (hm : m ≤ 300) (h : OH) : pureF Sh.l_counts [.lst (ts.map dTk), .int ((k : Int) + 1), runD ts m, .int n] h = .ok (cntD ts k n) h := by
  have hlen := w.len
  have pR : (runD ts m).pure = true := pureL_map _ (fun k => by
    have : D.pureL (statesD ts (itI ts k)) = true := pureL_map _ (fun j => rfl) _
    cases spkI ts k <;> simp [dN, this]) _
  refine pure_eq h (by simp [pR]) rfl ?_
  have ct : cutD ((List.range m).map fun k => D.tup [dN (spkI ts k), .lst (statesD ts (itI ts k))]) none (some (n : Int)) = (List.range n).map fun k => D.tup [dN (spkI ts k), .lst (statesD ts (itI ts k))] := by
    rw [cutD_take _ _ (by omega), Int.toNat_natCast, ← List.map_take, List.take_range]
    congr 2
    omega
  have knd : ((ts.map fun t => ((Sum.inr t.name : Key), D.int t.rank)).map (·.1)).Nodup := by
    have : (ts.map fun t => ((Sum.inr t.name : Key), D.int t.rank)).map (·.1) = (ts.map (·.name)).map (Sum.inr : Str → Key) := by simp
    rw [this]
    exact List.Pairwise.map _ (fun a b hab he => hab (Sum.inr.inj he)) w.nd
  have kd : ∀ h, (lsqAt h (.lst (ts.map fun t => D.tup [.str t.name, .int t.rank]))).bind pairsK = some (ts.map fun t => ((Sum.inr t.name : Key), D.int t.rank)) := fun h => by
    have key : ∀ l : List Tk, pairsK (l.map fun t => D.tup [.str t.name, .int t.rank]) = some (l.map fun t => ((Sum.inr t.name : Key), D.int t.rank)) := fun l => by
      induction l with
      | nil => rfl
      | cons t l ih => simp [pairsK, pairK, keyD, ih]
    simp [lsqAt, seqAt, key]
  have getnd : ∀ {ks : List (Key × D)} (nd : (ks.map (·.1)).Nodup) {k : Key} {d : D}, (k, d) ∈ ks → getK ks k = some d := fun {ks} => by
    induction ks with
    | nil => intro _ _ _ h; cases h
    | cons p ks ih =>
      obtain ⟨k0, d0⟩ := p
      intro nd k d h
      simp only [List.map_cons, List.nodup_cons] at nd
      by_cases c : k0 = k
      · subst c
        rcases List.mem_cons.mp h with e | e
        · cases e; simp [getK]
        · exact absurd (List.mem_map_of_mem (f := (·.1)) e) nd.1
      · rcases List.mem_cons.mp h with e | e
        · cases e; exact absurd rfl c
        · have := ih nd.2 e
          simpa [getK, c] using this
  have hg : ∀ j, j < ts.length → getK (ts.map fun t => ((Sum.inr t.name : Key), D.int t.rank)) (Sum.inr (ts.getD j gTk).name) = some (.int (rkT ts j)) := fun j hj => getnd knd (List.mem_map.mpr ⟨ts.getD j gTk, by simp [hj], rfl⟩)
  unfold Sh.l_counts; rw [W_fn]; unfold Sh.l_counts_b
  unfold runD
  generalize ((List.range m).map fun k => D.tup [dN (spkI ts k), .lst (statesD ts (itI ts k))]) = RL at ct ⊢
  refine SW_seqK fun K hK => ?_
  simp [wipeD]
  refine W_lcMap1 ts dTk (fun t => D.tup [.str t.name, .int t.rank]) _ (by simp [big]; omega) (fun t ht => ⟨_, rfl, by simp [dTk]⟩) ?_
  rw [W_dictP (kd _) knd]
  generalize (ts.map fun t => ((Sum.inr t.name : Key), D.int t.rank)) = KS at hg ⊢
  refine hK _ _ ?_
  clear hK K kd knd
  refine SW_seqK fun K hK => ?_
  simp [wipeD, ct]
  refine W_lcMap1 (List.range n) (fun k => D.tup [dN (spkI ts k), .lst (statesD ts (itI ts k))]) (fun i => D.int (spR ts i)) _ (by simp [big]; omega) (fun i hi => ⟨_, rfl, ?_⟩) ?_
  · generalize D.lst (statesD ts (itI ts i)) = x1
    cases e : whoI ts (itI ts i) with
    | none => simp [spkI, spR, e, dN]
    | some j =>
      have hg := hg j (who_bd e).1
      simp only [spkI, spR, e, Option.map_some, dN]
      generalize (ts.getD j gTk).name = nm at hg ⊢
      simp [keyD, hg]
  refine hK _ _ ?_
  clear hK K
  simp [wipeD]
  refine W_lcMap (List.range n) (fun i => D.int (spR ts i)) (fun i => qt ts k i) (fun i => D.int (spR ts i)) _ (by simp [big]; omega) (fun i hi => ⟨_, rfl, ?_⟩) ?_
  · have a := (spR_ge w k i hk).1
    generalize spR ts i = s at a ⊢
    simp [← a]
  refine W_lcMap (List.range n) (fun i => D.int (spR ts i)) (fun i => qt ts (k + 1) i) (fun i => D.int (spR ts i)) _ (by simp [big]; omega) (fun i hi => ⟨_, rfl, ?_⟩) ?_
  · have a := (spR_ge w k i hk).2
    generalize spR ts i = s at a ⊢
    simp [← a]
  have q1 := Qs_cnt (ts := ts) k n
  have q2 := Qs_cnt (ts := ts) (k + 1) n
  simp [cntD, q1, q2]
end
end HR
set_option Elab.async false
set_option linter.all false
set_option maxRecDepth 20000
set_option exponentiation.threshold 5000
namespace HR
open PySem L2
section
variable {ts : List Tk}
theorem Qs_le (k : Nat) : ∀ n, Qs ts k n ≤ n
  | 0 => Nat.le_refl _
  | n + 1 => by
    have := Qs_le k n
    simp only [Qs]
    split <;> omega
theorem far_val {a L T : Nat} (hL : 0 < L) (al : AlikeA ts (itI ts a) (itI ts (a + L))) (k : Nat) : T - (T - a) / L * L < a + L ∧ (T - a) / L * L ≤ T ∧ (Qs ts k (T - (T - a) / L * L) : Int) + ((T - a) / L : Nat) * ((Qs ts k (a + L) : Int) - Qs ts k a) = Qs ts k T := by
  by_cases c : T < a
  · have e : T - a = 0 := by omega
    rw [e, Nat.zero_div, Nat.zero_mul, Nat.sub_zero]
    refine ⟨by omega, by omega, by simp⟩
  · have dm := Nat.div_add_mod (T - a) L
    have ml := Nat.mod_lt (T - a) hL
    rw [Nat.mul_comm] at dm
    have e1 : T - (T - a) / L * L = a + (T - a) % L := by omega
    have e2 : T = a + (T - a) % L + (T - a) / L * L := by omega
    refine ⟨by omega, by omega, ?_⟩
    rw [e1]
    have := Qs_far al k ((T - a) % L) ((T - a) / L)
    rw [← e2] at this
    omega
theorem lFar (w : WfHall T30 ts) {k a L T : Nat} (hk : k < 10) (hL : 0 < L) (haL : a + L < 300) (al : AlikeA ts (itI ts a) (itI ts (a + L))) (hT : T < 2 ^ 200) (h : OH) : pureF Sh.l_far_counts [.lst (ts.map dTk), .int ((k : Int) + 1), .lst [runD ts 300, .int a, .int L], .int T] h = .ok (cntD ts k T) h := by
  have pR : (runD ts 300).pure = true := pureL_map _ (fun k => by
    have : D.pureL (statesD ts (itI ts k)) = true := pureL_map _ (fun j => rfl) _
    cases spkI ts k <;> simp [dN, this]) _
  refine pure_eq h (by simp [pR]) rfl ?_
  obtain ⟨f1, f2, f3⟩ := far_val (T := T) hL al k
  obtain ⟨_, _, f4⟩ := far_val (T := T) hL al (k + 1)
  have lc := fun (n : Nat) (hn : n ≤ 300) (h : OH) => lCounts w hk hn (Nat.le_refl 300) h
  have q1 := Qs_le (ts := ts) k (a + L)
  have q2 := Qs_le (ts := ts) (k + 1) (a + L)
  have q3 := Qs_le (ts := ts) k a
  have q4 := Qs_le (ts := ts) (k + 1) a
  obtain ⟨R, eR⟩ : ∃ R, R = (T - a) / L := ⟨_, rfl⟩
  have hR : R ≤ T := by rw [eR]; exact Nat.le_trans (Nat.div_le_self _ _) (by omega)
  rw [← eR] at f1 f2 f3 f4
  unfold Sh.l_far_counts; rw [W_fn]; unfold Sh.l_far_counts_b
  generalize pureF Sh.l_counts = LC at lc ⊢
  generalize runD ts 300 = RD at lc ⊢
  generalize D.lst (ts.map dTk) = HD at lc ⊢
  have c1 := lc (T - R * L) (by omega)
  have c2 := lc (a + L) (by omega)
  have c3 := lc a (by omega)
  clear lc
  refine SW_seqK fun K hK => ?_
  simp [gT, gCs, gN, gNl, seqAt]
  refine hK _ _ ?_
  clear hK K
  refine SW_seqK fun K hK => ?_
  have dv : divOk (((T - a : Nat) : Int)) (L : Int) = true := divOk_small (small_64 (by omega)) (by omega)
  have mx : (if a < T then (T : Int) - a else 0) = ((T - a : Nat) : Int) := by split <;> omega
  have dz : ((T - a : Nat) : Int) / (L : Int) = (R : Int) := by rw [eR]; rfl
  simp
  rw [mx, dz]
  refine ⟨dv, ?_⟩
  refine hK _ _ ?_
  clear hK K mx dz dv
  have sR : Small (R : Int) := small_of (k := 200) (by rw [Int.natAbs_natCast]; omega) (by decide)
  have sL : Small (L : Int) := small_64 (by omega)
  have m1 : mulOk (R : Int) (L : Int) = true := mulOk_small sR sL
  have eT : (T : Int) - (R : Int) * (L : Int) = ((T - R * L : Nat) : Int) := by
    rw [Int.ofNat_sub f2, Int.natCast_mul]
  refine SW_seqK fun K hK => ?_
  simp [m1, eT, c1]
  refine hK _ _ ?_
  clear hK K
  have eA : (a : Int) + (L : Int) = ((a + L : Nat) : Int) := by omega
  refine SW_seqK fun K hK => ?_
  simp only [SW_set, W_sCall, W_sCons, W_sNil, W_withD, List.append_nil, W_sBin, W_varS, W_var0, W_addI, eA]
  rw [c2]
  simp only [W_ok, List.set_cons_succ, List.set_cons_zero]
  refine hK _ _ ?_
  clear hK K
  refine SW_seqK fun K hK => ?_
  simp [c3]
  refine hK _ _ ?_
  clear hK K
  have bd : ∀ x y : Nat, x ≤ a + L → y ≤ a + L → mulOk (R : Int) ((x : Int) - y) = true := fun x y hx hy => mulOk_small sR (small_64 (by omega))
  have r2 : rngOk 2 = true := by decide
  have rg : rngD 0 2 = [.int 0, .int 1] := rfl
  have m3 := bd (Qs ts k (a + L)) (Qs ts k a) q1 (by omega)
  have m4 := bd (Qs ts (k + 1) (a + L)) (Qs ts (k + 1) a) q2 (by omega)
  simp only [cntD]
  rw [← f3, ← f4]
  simp [r2, wipeD, rg, lcGo, gN, m3, m4, big]
end
end HR
set_option Elab.async false
set_option linter.all false
set_option maxRecDepth 20000
set_option exponentiation.threshold 5000
namespace HR
open PySem L2
theorem p12_18 : sBin opPow (sC (.int 10)) (sC (.int 18)) = sC (.int 1000000000000000000) := by
  funext e h; rfl
theorem p12_20 : sBin opPow (sC (.int 10)) (sC (.int 20)) = sC (.int 100000000000000000000) := by
  funext e h; rfl
theorem p12_38 : sBin opPow (sC (.int 10)) (sC (.int 38)) = sC (.int 100000000000000000000000000000000000000) := by
  funext e h; rfl
section
variable {ts : List Tk}
theorem scaledB (w : WfHall 3 ts) (m : Int) (h : OH) : pureF Sh.l_scaled [.lst (ts.map dTk), .int m] h = .ok (.lst ((ts.map (scT m)).map dTk)) h := by
  refine pure_eq h (by simp) (by simp [pureL_dTk']) ?_
  have hl := w.len
  unfold Sh.l_scaled; rw [W_fn]; unfold Sh.l_scaled_b
  refine SW_seqK fun K hK => ?_
  simp
  refine hK _ _ ?_
  clear hK K
  refine SW_seqK fun K hK => ?_
  simp
  refine W_forL (fun k e h' => h' = [.lst (((ts.take k).map (scT m)).map dTk)] ∧ ∃ a3 a4 a5 a6 a7 a8 a9 a10 : Option D, e = [some (.lst (ts.map dTk)), some (.int m), some (.ref 0), a3, a4, a5, a6, a7, a8, a9, a10]) _ _ _ ⟨by simp, _, _, _, _, _, _, _, _, rfl⟩ (fun k d hd e h' hI => ?_) (fun e h' hI => ?_)
  · obtain ⟨rfl, a3, a4, a5, a6, a7, a8, a9, a10, rfl⟩ := hI
    rw [List.getElem?_map, Option.map_eq_some_iff] at hd
    obtain ⟨t, ht, rfl⟩ := hd
    have wt := w.tk t (List.mem_of_getElem? ht)
    have lp := wt.lp
    have lc := wt.lc
    have hk := (List.getElem?_eq_some_iff.mp ht).1
    have mo : ∀ {p : Int × Int}, In1 3 p → mulOk p.1 m = true ∧ mulOk p.2 m = true := fun {p} i => by
      obtain ⟨b1, b2, b3, b4⟩ := i
      exact ⟨mulOk_l (by omega), mulOk_l (by omega)⟩
    refine ⟨_, by simp [gT, gCs, gN, gNl, seqAt, dTk]; rfl, ?_⟩
    refine SW_seqK fun K2 hK2 => ?_
    simp [wipeD]
    refine W_lcMap1 t.pre dT (fun p => dT (scP m p)) _ (by simp only [big]; omega) (fun p hp => ⟨_, by simp [gT, gCs, gN, gNl, seqAt, dT]; rfl, by simp [dT, scP, mo (wt.pre p hp)]⟩) ?_
    refine W_lcMap1 t.cyc dT (fun p => dT (scP m p)) _ (by simp only [big]; omega) (fun p hp => ⟨_, by simp [gT, gCs, gN, gNl, seqAt, dT]; rfl, by simp [dT, scP, mo (wt.cyc p hp)]⟩) ?_
    refine hK2 _ _ ?_
    clear hK2 K2
    simp
    refine ⟨by omega, ?_⟩
    rw [List.take_succ, List.getElem?_map, ht]
    simp [dTk, scT]
  · obtain ⟨rfl, a3, a4, a5, a6, a7, a8, a9, a10, rfl⟩ := hI
    refine hK _ _ ?_
    clear hK K
    simp [frzE]
theorem sc_val (w : WfHall T30 ts) {m q j : Nat} (hm : 0 < m) (hj : j < m) (k : Nat) : (Qs (ts.map (scT m)) k (q * m + j) : Int) = (Qs ts k q : Int) * m + (j : Int) * ((Qs ts k (q + 1) : Int) - Qs ts k q) := by
  have e := (Qs_sc w.nd hm k q).2 j (by omega)
  rw [Nat.mul_comm q m, e]
  have mono : Qs ts k q ≤ Qs ts k (q + 1) := by simp [Qs]
  rw [Int.natCast_add, Int.natCast_mul, Int.natCast_mul, Int.ofNat_sub mono, Int.mul_comm (m : Int)]
theorem right12 {h : OH} {i k a L : Nat} (hs : Spr h i) (w3 : WfHall 3 ts) (hk : k < 10) (hL : 0 < L) (haL : a + L < 300) (al : AlikeA ts (itI ts a) (itI ts (a + L))) {P : D → OH → Prop} (q : ∀ h', Spr h' i → P (.bl true) h') : (Sh.l_right_4 [.ref i, .lst (ts.map dTk), .int ((k : Int) + 1), .lst [runD ts 300, .int a, .int L]] h).W P := by
  have w : WfHall T30 ts := w3.mono (by decide)
  have lb := fun (l : Nat) (hl : l < 2 ^ 4000) (h : OH) => leftBeforeD (hallish w) w k l hk hl h
  have qb := fun (l : Nat) (hl : l < 2 ^ 4000) (h : OH) => quietBeforeD (hallish w) w k l hk hl h
  have far := fun (T : Nat) (hT : T < 2 ^ 200) (h : OH) => lFar w hk hL haL al hT h
  have sc := fun (m : Int) (h : OH) => scaledB w3 m h
  have lbS := fun (m : Nat) (wS : WfHall T30 (ts.map (scT m))) (l : Nat) (hl : l < 2 ^ 4000) (h : OH) => leftBeforeD (hallish wS) wS k l hk hl h
  have qbS := fun (m : Nat) (wS : WfHall T30 (ts.map (scT m))) (l : Nat) (hl : l < 2 ^ 4000) (h : OH) => quietBeforeD (hallish wS) wS k l hk hl h
  unfold Sh.l_right_4; rw [W_fn]; unfold Sh.l_right_4_b
  rw [p12_18, p12_38, p12_20]
  generalize pureF Sh.left_before = LBF at lb lbS ⊢
  generalize pureF Sh.quiet_before = QBF at qb qbS ⊢
  generalize pureF Sh.l_far_counts = FAR at far ⊢
  generalize pureF Sh.l_scaled = SC at sc ⊢
  generalize D.lst [runD ts 300, .int a, .int L] = PD at far ⊢
  generalize hHD : D.lst (ts.map dTk) = HD at lb qb far sc ⊢
  refine SW_seqK fun K hK => ?_
  simp
  refine draw_ok hs (by decide) (small_64 (by decide)) fun v h1 y0 y1 s1 c1 => ?_
  rw [W_ixL]
  refine pickI (ns := [400, 1000000000000000000, 100000000000000000000000000000000000000]) y0 y1 fun far_ hfar => ?_
  have hfar' : 0 < far_ ∧ far_ ≤ 100000000000000000000000000000000000000 := by simp at hfar; omega
  refine draw_ok s1 hfar'.1 (small_lt 200 (by omega) (by omega)) fun t h2 t0 t1 s2 c2 => ?_
  obtain ⟨t, rfl⟩ : ∃ n : Nat, t = (n : Int) := ⟨t.toNat, by omega⟩
  have p200 : 100000000000000000000000000000000000000000000 < (2 : Nat) ^ 200 := by decide
  have p4000 : (2 : Nat) ^ 200 < 2 ^ 4000 := Nat.pow_lt_pow_right (by decide) (by decide)
  have ht : t < 2 ^ 200 := by omega
  refine hK _ _ ?_
  clear hK K
  have e1 := lb t (by omega)
  have e2 := qb t (by omega)
  have e3 := far t ht
  rw [← core w] at e1 e2
  refine SW_seqK fun K hK => ?_
  simp [e1, e2, e3, noXF, cntD, W_eqL2]
  refine hK _ _ ?_
  clear hK K e1 e2 e3
  refine SW_seqK fun K hK => ?_
  simp
  refine draw_ok s2 (by decide) (small_lt 200 (by decide) (by decide)) fun m0 h3 m00 m01 s3 c3 => ?_
  refine hK _ _ ?_
  clear hK K
  obtain ⟨m, em, hm, hm2⟩ : ∃ m : Nat, 1 + m0 = (m : Int) ∧ 0 < m ∧ m ≤ 100000000000000000000 := ⟨(1 + m0).toNat, by omega, by omega, by omega⟩
  rw [em]
  refine SW_seqK fun K hK => ?_
  simp
  refine draw_ok s3 (by omega) (small_lt 200 (by omega) (by omega)) fun j h4 j0 j1 s4 c4 => ?_
  obtain ⟨j, rfl⟩ : ∃ n : Nat, j = (n : Int) := ⟨j.toNat, by omega⟩
  refine hK _ _ ?_
  clear hK K
  refine SW_seqK fun K hK => ?_
  have dv : divOk (t : Int) 1000000000000000000 = true := divOk_small (small_lt 200 (by decide) (by decide)) (by decide)
  simp [dv]
  have eq : (t : Int) % 1000000000000000000 = ((t % 1000000000000000000 : Nat) : Int) := by omega
  rw [eq]
  have hq : t % 1000000000000000000 < 1000000000000000000 := Nat.mod_lt _ (by decide)
  generalize t % 1000000000000000000 = q0 at hq ⊢
  refine hK _ _ ?_
  clear hK K eq dv
  have f1 := far q0 (by omega)
  have f2 := far (q0 + 1) (by omega)
  have eq1 : (q0 : Int) + 1 = ((q0 + 1 : Nat) : Int) := by omega
  rw [eq1.symm] at f2
  refine SW_seqK fun K hK => ?_
  simp [f1, f2, gT, gCs, gN, gNl, seqAt]
  refine hK _ _ ?_
  clear hK K f1 f2
  have jm : j < m := by omega
  have b1 := Qs_le (ts := ts) k q0
  have b2 := Qs_le (ts := ts) (k + 1) q0
  have b3 := Qs_le (ts := ts) k (q0 + 1)
  have b4 := Qs_le (ts := ts) (k + 1) (q0 + 1)
  have sm : Small (m : Int) := small_lt 200 (by omega) (by omega)
  have sj : Small (j : Int) := small_lt 200 (by omega) (by omega)
  have d1 : (Qs ts k (q0 + 1) : Int) - Qs ts k q0 = if qt ts k q0 then 1 else 0 := by simp only [Qs]; split <;> omega
  have d2 : (Qs ts (k + 1) (q0 + 1) : Int) - Qs ts (k + 1) q0 = if qt ts (k + 1) q0 then 1 else 0 := by simp only [Qs]; split <;> omega
  have m1 : mulOk (Qs ts k q0 : Int) m = true := mulOk_small (small_lt 200 (by omega) (by omega)) sm
  have m2 : mulOk (Qs ts (k + 1) q0 : Int) m = true := mulOk_small (small_lt 200 (by omega) (by omega)) sm
  have m3 : mulOk (j : Int) ((Qs ts k (q0 + 1) : Int) - Qs ts k q0) = true := mulOk_r (by rw [d1]; split <;> decide)
  have m4 : mulOk (j : Int) ((Qs ts (k + 1) (q0 + 1) : Int) - Qs ts (k + 1) q0) = true := mulOk_r (by rw [d2]; split <;> decide)
  have r2 : rngOk 2 = true := by decide
  have rg : rngD 0 2 = [.int 0, .int 1] := rfl
  have v1 := sc_val w hm jm (k := k) (q := q0)
  have v2 := sc_val w hm jm (k := k + 1) (q := q0)
  refine SW_seqK fun K hK => ?_
  simp [cntD, r2, wipeD, rg, lcGo, gN, m1, m2, m3, m4, big]
  rw [← v1, ← v2]
  refine hK _ _ ?_
  clear hK K
  have wS : WfHall T30 (ts.map (scT (m : Int))) := scT_wf w3 (by omega) (by simp only [T30]; omega)
  have m5 : mulOk (q0 : Int) m = true := mulOk_small (small_lt 200 (by omega) (by omega)) sm
  have ep : (q0 : Int) * m + j = ((q0 * m + j : Nat) : Int) := by rw [Int.natCast_add, Int.natCast_mul]
  have hp : q0 * m + j < 2 ^ 4000 := by
    have x1 : q0 * m ≤ 1000000000000000000 * 100000000000000000000 := Nat.mul_le_mul (by omega) hm2
    omega
  have e1 := lbS m wS (q0 * m + j) hp
  have e2 := qbS m wS (q0 * m + j) hp
  rw [← core wS] at e1 e2
  have sc1 := sc m
  generalize D.lst ((ts.map (scT (m : Int))).map dTk) = HS at e1 e2 sc1
  rw [← ep] at e1 e2
  refine SW_seqK fun K hK => ?_
  simp [sc1]
  refine hK _ _ ?_
  clear hK K
  refine SW_seqK fun K hK => ?_
  simp [m5]
  refine hK _ _ ?_
  clear hK K
  simp [e1, e2, noXF, W_eqL2]
  exact q _ s4
end
theorem law12 (ns : List Int) (hl : ns.length ≤ 63) : ∃ h', Sh.law_k12 [.scr (ns.map D.int)] [] = .ok (.bl true) h' := by
  suffices w : (Sh.law_k12 [.scr (ns.map D.int)] []).W fun d _ => d = .bl true by
    obtain ⟨a, h', e, rfl⟩ := w.out
    exact ⟨h', e⟩
  have rt := fun {ts : List Tk} {h : OH} {k a L : Nat} (hs : Spr h 0) (w3 : WfHall 3 ts) (hk : k < 10) (hL : 0 < L) (haL : a + L < 300) (al : AlikeA ts (itI ts a) (itI ts (a + L))) (P : D → OH → Prop) q => right12 (P := P) hs w3 hk hL haL al q
  have pe := fun {ts : List Tk} (w : WfHall T30 ts) => lPeriod w
  unfold Sh.law_k12; rw [W_fn]; unfold Sh.law_k12_b
  generalize Sh.l_right_4 = RT at rt ⊢
  generalize pureF Sh.l_period = PE at pe ⊢
  refine SW_seqK fun K hK => ?_
  simp
  refine spring_ok ns [] fun o so => ?_
  simp only [List.length_nil, List.nil_append] at so ⊢
  refine hK _ _ ?_
  clear hK K
  have r : rngOk (2 + if 5 < (ns.length : Int) then 5 else (ns.length : Int)) = true := by
    simp only [rngOk, Bool.and_eq_true, decide_eq_true_eq]
    split <;> omega
  refine SW_seqK fun K hK => ?_
  simp
  refine ⟨r, ?_⟩
  refine W_forL (fun k e h' => Spr h' 0 ∧ ∃ a2 a3 a4 a5 a6 : Option D, e = [some (.scr (ns.map D.int)), some (.ref 0), a2, a3, a4, a5, a6]) _ _ _ ⟨so, _, _, _, _, _, rfl⟩ (fun k d hd e h' hI => ?_) (fun e h' hI => ?_)
  · obtain ⟨s, a2, a3, a4, a5, a6, rfl⟩ := hI
    refine Exists.intro _ (And.intro (show _ = some [some (.scr (ns.map D.int)), some (.ref 0), some d, a3, a4, a5, a6] from rfl) ?_)
    generalize e0 : [some (D.scr (ns.map D.int)), some (D.ref 0), some d, a3, a4, a5, a6] = env
    refine SW_seqK fun K1 hK1 => ?_
    subst e0
    simp
    refine draw_ok s (by decide) (small_64 (by decide)) fun size h1 z0 z1 s1 c1 => ?_
    rw [W_ixL]
    refine pickI (ns := [2, 3]) z0 z1 fun longest hlg => ?_
    have hlg' : 0 < longest ∧ longest ≤ 3 := by simp at hlg; omega
    refine hall_ok s1 (by decide) (by decide) hlg'.1 (small_64 (by omega)) fun ts h2 s2 c2 lts wf0 => ?_
    have w3 := wf0.mono hlg'.2
    have wf : WfHall T30 ts := w3.mono (by decide)
    have hlen := wf.len
    refine hK1 _ _ ?_
    clear hK1 K1 wf0 c2 c1 s1
    obtain ⟨pd, pp, good, pe1⟩ := pe wf
    generalize e0 : [some (D.scr (ns.map D.int)), some (D.ref 0), some d, some (D.lst (ts.map dTk)), a4, a5, a6] = env
    refine SW_seqK fun K1 hK1 => ?_
    subst e0
    simp [pe1]
    refine hK1 _ _ ?_
    clear hK1 K1
    rcases good with rfl | ⟨a, L, rfl, hL, haL, al⟩
    · simp
      exact s2
    · have isn : ∀ (x : List D) (h : OH) (PD : D → OH → Prop), (opIs true (.lst x) .non h).W PD = PD (.bl true) h := fun _ _ _ => rfl
      simp [isn, wipeD]
      refine draw_ok s2 (by decide) (small_64 (by decide)) fun v h3 y0 y1 s3 c3 => ?_
      simp
      refine W_lcMap1 ts dTk (fun t => .int t.rank) _ (by simp only [big]; omega) (fun t ht => ⟨_, rfl, by simp [dTk]⟩) ?_
      refine ⟨by rw [List.length_map]; omega, ?_⟩
      have rk : ∀ d ∈ (D.int 1 :: D.int 10 :: D.int (1 + v) :: ts.map fun t => D.int t.rank), ∃ k : Nat, d = .int ((k : Int) + 1) ∧ k < 10 := fun d hd => by
        simp only [List.mem_cons, List.mem_map] at hd
        rcases hd with rfl | rfl | rfl | ⟨t, ht, rfl⟩
        · exact ⟨0, rfl, by decide⟩
        · exact ⟨9, rfl, by decide⟩
        · exact ⟨v.toNat, by congr 1; omega, by omega⟩
        · have wt := wf.tk t ht
          have := wt.r1
          have := wt.r2
          exact ⟨(t.rank - 1).toNat, by congr 1; omega, by omega⟩
      generalize (D.int 1 :: D.int 10 :: D.int (1 + v) :: ts.map fun t => D.int t.rank) = rks at rk ⊢
      refine W_forL (fun k e h' => Spr h' 0 ∧ ∃ a5 a6 : Option D, e = [some (.scr (ns.map D.int)), some (.ref 0), some d, some (.lst (ts.map dTk)), some (.lst [runD ts 300, .int a, .int L]), a5, a6]) _ _ _ ⟨s3, _, _, rfl⟩ (fun k2 d2 hd2 e h4 hI => ?_) (fun e h4 hI => ?_)
      · obtain ⟨s4, a5, a6, rfl⟩ := hI
        obtain ⟨k0, rfl, hk0⟩ := rk d2 (List.mem_of_getElem? hd2)
        refine Exists.intro _ (And.intro (show _ = some [some (.scr (ns.map D.int)), some (.ref 0), some d, some (.lst (ts.map dTk)), some (.lst [runD ts 300, .int a, .int L]), some (.int ((k0 : Int) + 1)), a6] from rfl) ?_)
        simp
        refine rt s4 w3 hk0 hL haL al _ fun h5 s5 => ?_
        simp
        exact s5
      · obtain ⟨s4, a5, a6, rfl⟩ := hI
        exact ⟨s4, _, _, _, _, _, rfl⟩
  · obtain ⟨s, a2, a3, a4, a5, a6, rfl⟩ := hI
    refine hK _ _ ?_
    clear hK K
    simp
end HR
set_option Elab.async false
set_option linter.all false
set_option maxRecDepth 100000
set_option maxHeartbeats 4000000
/-! the text of law_k12_distant_clocks: facts of its head, the derivations -/
namespace HR
open PySem L2
open PyProof.Rows (envOfC)
namespace Tk12
def top (i : Nat) : Stmt := PySem.Challenge.pw_hushranks_k12_distant_clocks.main.body.getD i (.Pass ⟨0, 0, 0, 0⟩)
def d_is_integer : He.DefD := ⟨("is_integer", none), "is_integer", "is_integer", defArgs (top 13), defBody (top 13), defScope (top 13), [.non], []⟩
def d_is_sequence : He.DefD := ⟨("is_sequence", none), "is_sequence", "is_sequence", defArgs (top 14), defBody (top 14), defScope (top 14), [], []⟩
def d_is_name : He.DefD := ⟨("is_name", none), "is_name", "is_name", defArgs (top 15), defBody (top 15), defScope (top 15), [], []⟩
def d_is_talk : He.DefD := ⟨("is_talk", none), "is_talk", "is_talk", defArgs (top 16), defBody (top 16), defScope (top 16), [], []⟩
def d_are_talks : He.DefD := ⟨("are_talks", none), "are_talks", "are_talks", defArgs (top 17), defBody (top 17), defScope (top 17), [], []⟩
def d_is_talker : He.DefD := ⟨("is_talker", none), "is_talker", "is_talker", defArgs (top 18), defBody (top 18), defScope (top 18), [], []⟩
def d_is_hall : He.DefD := ⟨("is_hall", none), "is_hall", "is_hall", defArgs (top 19), defBody (top 19), defScope (top 19), [], []⟩
def d_running_sums : He.DefD := ⟨("running_sums", none), "running_sums", "running_sums", defArgs (top 20), defBody (top 20), defScope (top 20), [], []⟩
def d_Schedule_init : He.DefD := ⟨("Schedule", some "__init__"), "__init__", "Schedule.__init__", defArgs (inClass (top 21) 0), defBody (inClass (top 21) 0), defScope (inClass (top 21) 0), [], []⟩
def d_Schedule_sum_of_first : He.DefD := ⟨("Schedule", some "sum_of_first"), "sum_of_first", "Schedule.sum_of_first", defArgs (inClass (top 21) 2), defBody (inClass (top 21) 2), defScope (inClass (top 21) 2), [], []⟩
def d_Schedule_count_ready : He.DefD := ⟨("Schedule", some "count_ready"), "count_ready", "Schedule.count_ready", defArgs (inClass (top 21) 4), defBody (inClass (top 21) 4), defScope (inClass (top 21) 4), [], []⟩
def d_Schedule_length_ready : He.DefD := ⟨("Schedule", some "length_ready"), "length_ready", "Schedule.length_ready", defArgs (inClass (top 21) 5), defBody (inClass (top 21) 5), defScope (inClass (top 21) 5), [], []⟩
def d_Member_init : He.DefD := ⟨("Member", some "__init__"), "__init__", "Member.__init__", defArgs (inClass (top 22) 0), defBody (inClass (top 22) 0), defScope (inClass (top 22) 0), [], []⟩
def d_checked_hall : He.DefD := ⟨("checked_hall", none), "checked_hall", "checked_hall", defArgs (top 23), defBody (top 23), defScope (top 23), [], []⟩
def d_check_rank : He.DefD := ⟨("check_rank", none), "check_rank", "check_rank", defArgs (top 25), defBody (top 25), defScope (top 25), [], []⟩
def d_check_tick : He.DefD := ⟨("check_tick", none), "check_tick", "check_tick", defArgs (top 26), defBody (top 26), defScope (top 26), [], []⟩
def d_rank_length : He.DefD := ⟨("rank_length", none), "rank_length", "rank_length", defArgs (top 27), defBody (top 27), defScope (top 27), [], []⟩
def d_left_index : He.DefD := ⟨("left_index", none), "left_index", "left_index", defArgs (top 28), defBody (top 28), defScope (top 28), [], []⟩
def d_quiet_among : He.DefD := ⟨("quiet_among", none), "quiet_among", "quiet_among", defArgs (top 29), defBody (top 29), defScope (top 29), [], []⟩
def d_left_among : He.DefD := ⟨("left_among", none), "left_among", "left_among", defArgs (top 30), defBody (top 30), defScope (top 30), [], []⟩
def d_checked : He.DefD := ⟨("checked", none), "checked", "checked", defArgs (top 31), defBody (top 31), defScope (top 31), [], []⟩
def d_left_before : He.DefD := ⟨("left_before", none), "left_before", "left_before", defArgs (top 32), defBody (top 32), defScope (top 32), [], []⟩
def d_quiet_before : He.DefD := ⟨("quiet_before", none), "quiet_before", "quiet_before", defArgs (top 33), defBody (top 33), defScope (top 33), [], []⟩
def d_l_spring : He.DefD := ⟨("_law_spring", none), "_law_spring", "_law_spring", defArgs (top 35), defBody (top 35), defScope (top 35), [], []⟩
def d_l_draw : He.DefD := ⟨("_law_draw", none), "_law_draw", "_law_draw", defArgs (top 36), defBody (top 36), defScope (top 36), [], []⟩
def d_l_talks : He.DefD := ⟨("_law_talks", none), "_law_talks", "_law_talks", defArgs (top 37), defBody (top 37), defScope (top 37), [], []⟩
def d_l_hall : He.DefD := ⟨("_law_hall", none), "_law_hall", "_law_hall", defArgs (top 38), defBody (top 38), defScope (top 38), [], []⟩
def d_l_nth : He.DefD := ⟨("_law_nth", none), "_law_nth", "_law_nth", defArgs (top 39), defBody (top 39), defScope (top 39), [], []⟩
def d_l_run : He.DefD := ⟨("_law_run", none), "_law_run", "_law_run", defArgs (top 40), defBody (top 40), defScope (top 40), [], []⟩
def d_l_scaled : He.DefD := ⟨("_law_scaled", none), "_law_scaled", "_law_scaled", defArgs (top 41), defBody (top 41), defScope (top 41), [], []⟩
def d_l_key : He.DefD := ⟨("_law_key", none), "_law_key", "_law_key", defArgs (top 42), defBody (top 42), defScope (top 42), [], []⟩
def d_l_period : He.DefD := ⟨("_law_period", none), "_law_period", "_law_period", defArgs (top 43), defBody (top 43), defScope (top 43), [], []⟩
def d_l_counts : He.DefD := ⟨("_law_counts", none), "_law_counts", "_law_counts", defArgs (top 44), defBody (top 44), defScope (top 44), [], []⟩
def d_l_far_counts : He.DefD := ⟨("_law_far_counts", none), "_law_far_counts", "_law_far_counts", defArgs (top 45), defBody (top 45), defScope (top 45), [], []⟩
def d_l_right_4 : He.DefD := ⟨("_law_right", none), "_law_right", "_law_right", defArgs (top 46), defBody (top 46), defScope (top 46), [], []⟩
def d_law_k12 : He.DefD := ⟨("law", none), "law", "law", defArgs (top 47), defBody (top 47), defScope (top 47), [], []⟩
def fn : List He.DefD := [d_is_integer, d_is_sequence, d_is_name, d_is_talk, d_are_talks, d_is_talker, d_is_hall, d_running_sums, d_Schedule_init, d_Schedule_sum_of_first, d_Schedule_count_ready, d_Schedule_length_ready, d_Member_init, d_checked_hall, d_check_rank, d_check_tick, d_rank_length, d_left_index, d_quiet_among, d_left_among, d_checked, d_left_before, d_quiet_before, d_l_spring, d_l_draw, d_l_talks, d_l_hall, d_l_nth, d_l_run, d_l_scaled, d_l_key, d_l_period, d_l_counts, d_l_far_counts, d_l_right_4, d_law_k12]
def fa0 : List He.Fa := [.glo "HushError", .exc "HushError", .glo "InvalidHall", .exc "InvalidHall", .glo "InvalidTick", .exc "InvalidTick", .glo "InvalidRank", .exc "InvalidRank", .str "LETTERS" "abcdefghijklmnopqrstuvwxyz", .int "MAX_NAME" (8), .int "MAX_TIME" (1000000000000000000000000000000), .int "MAX_RANK" (10), .int "MAX_TALKS" (8), .int "MAX_TALKERS" (10), .glo "is_integer", .glo "is_sequence", .glo "is_name", .glo "is_talk", .glo "are_talks", .glo "is_talker", .glo "is_hall", .glo "running_sums", .glo "Schedule", .cls "Schedule", .mkr "Schedule", .noat "Schedule" "prefix", .noat "Schedule" "cycle", .noat "Schedule" "prefix_silences", .noat "Schedule" "prefix_lengths", .noat "Schedule" "cycle_silences"]
def fa1 : List He.Fa := [.noat "Schedule" "cycle_lengths", .meth "Schedule" "sum_of_first", .meth "Schedule" "count_ready", .meth "Schedule" "length_ready", .glo "Member", .cls "Member", .mkr "Member", .noat "Member" "name", .noat "Member" "rank", .noat "Member" "schedule", .glo "checked_hall", .glo "check_rank", .glo "check_tick", .glo "rank_length", .glo "left_index", .glo "quiet_among", .glo "left_among", .glo "checked", .glo "left_before", .glo "quiet_before", .glo "_law_spring", .glo "_law_draw", .glo "_law_talks", .glo "_law_hall", .glo "_law_nth", .glo "_law_run", .glo "_law_scaled", .glo "_law_key", .glo "_law_period", .glo "_law_counts"]
def fa2 : List He.Fa := [.glo "_law_far_counts", .glo "_law_right", .glo "law", .free "ValueError", .free "abs", .free "all", .free "bool", .free "dict", .free "divmod", .free "enumerate", .free "int", .free "isinstance", .free "len", .free "list", .free "max", .free "min", .free "range", .free "set", .free "sorted", .free "str", .free "sum", .free "tuple", .free "zip"]
def fa : List He.Fa := fa0 ++ fa1 ++ fa2
theorem hu_ {A : Around} {k : Nat} (hr : Room k A) : A.units + 64 < cLine := hr.units
section
variable {P : Program} {w : World} {K : PySem.W.Frag} {mg : Str → Option Value} {base h : Heap}
theorem sc_l_spring : FnScope ["_law_script", "_law_digits", "_law_seed", "_law_cell"] ["_law_script"] (defScope (top 35)) := ⟨rfl, rfl, rfl, by decide +kernel, rfl, by decide +kernel, by decide +kernel⟩
theorem okb_l_spring (c : He.SaysD fa fn K) (X0 : K.In h) (G : h.Ns mainGlobals mg) {fd : FuncData} (F : FunD K d_l_spring.name d_l_spring.qual d_l_spring.params d_l_spring.body d_l_spring.scope (d_l_spring.dvs K) (d_l_spring.kws K) (He.ga K "_law_spring") fd) : FnOk P w K mg base CX0 1 (He.ga K "_law_spring") fd ["_law_script"] (spN K 1 Sh.l_spring) := by
  have sc := sc_l_spring
  refine fn_ok F sc (by decide) (fun cdv A outer s H E hr => ?_)
  exact (ds_cons (ds_set 1 sc.nd de_int) (ds_cons (ds_set 2 sc.nd de_int) (ds_cons (ds_for (vs := [3]) (passes_of rfl) rfl (di_any (de_cut false (de_var 0) do_none (do_some de_int))) (dg_name 3 sc.nd) (ds_cons (ds_if (dt_ge (de_abs (by rfl) (He.free_ok X0 G (c.fact 64 (f := .free "abs") (by rfl))) (de_var 3)) (de_pow de_int de_int)) (ds_one (ds_set 1 sc.nd (de_add (de_mul (de_var 1) (de_pow de_int de_int)) (de_mod (de_abs (by rfl) (He.free_ok X0 G (c.fact 64 (f := .free "abs") (by rfl))) (de_var 3)) (de_pow de_int de_int))))) ds_nil) (ds_one (ds_set 2 sc.nd (de_mod (de_add (de_add (de_mul (de_var 2) de_int) (de_mod (de_var 3) de_int)) de_int) de_int))))) (ds_one (ds_ret (de_lstO (da_cons (de_var 1) (da_cons (de_var 2) (da_cons de_int da_nil)))))))))
theorem ok_l_spring (c : He.SaysD fa fn K) (X0 : K.In h) (G : h.Ns mainGlobals mg) : Def P w K mg base CX0 1 (He.ga K "_law_spring") ["_law_script"] [] Sh.l_spring := by
  obtain ⟨fd, F⟩ := c.def_ 23 (d := d_l_spring) rfl
  exact ⟨⟨fd, [], okb_l_spring c X0 G F, F.bindsN fun _ _ _ _ _ _ us hl => match us, hl with | [_], _ => rfl, .nil⟩, F.kp⟩
theorem sc_l_draw : FnScope ["_law_spring_here", "_law_many", "_law_found", "_law_mix"] ["_law_spring_here", "_law_many"] (defScope (top 36)) := ⟨rfl, rfl, rfl, by decide +kernel, rfl, by decide +kernel, by decide +kernel⟩
theorem okb_l_draw (c : He.SaysD fa fn K) (X0 : K.In h) (G : h.Ns mainGlobals mg) {fd : FuncData} (F : FunD K d_l_draw.name d_l_draw.qual d_l_draw.params d_l_draw.body d_l_draw.scope (d_l_draw.dvs K) (d_l_draw.kws K) (He.ga K "_law_draw") fd) : FnOk P w K mg base CX0 1 (He.ga K "_law_draw") fd ["_law_spring_here", "_law_many"] (spN K 2 Sh.l_draw) := by
  have sc := sc_l_draw
  refine fn_ok F sc (by decide) (fun cdv A outer s H E hr => ?_)
  exact (ds_cons (ds_if (dt_gt (de_ix (de_var 0) de_int) de_int) (ds_cons (ds_set 2 sc.nd (de_mod (de_ix (de_var 0) de_int) (de_var 1))) (ds_cons (ds_ix (de_var 0) de_int (de_div (de_ix (de_var 0) de_int) (de_var 1)) (pg_sub (de_var 0) de_int set_list)) (ds_one (ds_ret (de_var 2))))) ds_nil) (ds_cons (ds_ix (de_var 0) de_int (de_add (de_ix (de_var 0) de_int) de_int) (pg_sub (de_var 0) de_int set_list)) (ds_cons (ds_set 3 sc.nd (de_mod (de_mul (de_ix (de_var 0) de_int) (de_ix (de_var 0) de_int)) de_int)) (ds_cons (ds_ix (de_var 0) de_int (de_mod (de_add (de_add (de_var 3) (de_mul (de_mul de_int (de_ix (de_var 0) de_int)) (de_ix (de_var 0) de_int))) de_int) de_int) (pg_sub (de_var 0) de_int set_list)) (ds_one (ds_ret (de_mod (de_div (de_ix (de_var 0) de_int) de_int) (de_var 1))))))))
theorem ok_l_draw (c : He.SaysD fa fn K) (X0 : K.In h) (G : h.Ns mainGlobals mg) : Def P w K mg base CX0 1 (He.ga K "_law_draw") ["_law_spring_here", "_law_many"] [] Sh.l_draw := by
  obtain ⟨fd, F⟩ := c.def_ 24 (d := d_l_draw) rfl
  exact ⟨⟨fd, [], okb_l_draw c X0 G F, F.bindsN fun _ _ _ _ _ _ us hl => match us, hl with | [_, _], _ => rfl, .nil⟩, F.kp⟩
theorem sc_l_talks : FnScope ["_law_spring_here", "_law_least", "_law_more", "_law_longest", "_law_many", "_law_k"] ["_law_spring_here", "_law_least", "_law_more", "_law_longest"] (defScope (top 37)) := ⟨rfl, rfl, rfl, by decide +kernel, rfl, by decide +kernel, by decide +kernel⟩
theorem okb_l_talks (c : He.SaysD fa fn K) (X0 : K.In h) (G : h.Ns mainGlobals mg) {fd : FuncData} (F : FunD K d_l_talks.name d_l_talks.qual d_l_talks.params d_l_talks.body d_l_talks.scope (d_l_talks.dvs K) (d_l_talks.kws K) (He.ga K "_law_talks") fd) : FnOk P w K mg base CX0 2 (He.ga K "_law_talks") fd ["_law_spring_here", "_law_least", "_law_more", "_law_longest"] (spN K 4 Sh.l_talks) := by
  have H_l_draw := ok_l_draw (P := P) (w := w) (base := base) c X0 G
  have sc := sc_l_talks
  refine fn_ok F sc (by decide) (fun cdv A outer s H E hr => ?_)
  exact (ds_cons (ds_set 4 sc.nd (de_add (de_var 1) (de_callF [] (H_l_draw.up (by decide)) hr (He.glo_ok X0 G (c.fact 51 (f := .glo "_law_draw") (by rfl))) (fun _ _ => .nil) (fun _ => passAt0) (da_cons (de_var 0) (da_cons (de_var 2) da_nil)) (sCons_len (sCons_len sNil_len))))) (ds_one (ds_ret (de_lc false [("_law_k", 5)] rfl sc.nd (di_rng1 (by rfl) (He.free_ok X0 G (c.fact 76 (f := .free "range") (by rfl))) (de_var 4)) (blkOk_by (by kernel_rfl)) (fun _ _ _ _ _ => (dg_name 5 sc.nd)) (fun _ _ _ _ _ => dts_nil) (fun _ _ _ _ _ => (de_tup (da_cons (de_add de_int (de_callF [] (H_l_draw.up (by decide)) hr (He.glo_ok X0 G (c.fact 51 (f := .glo "_law_draw") (by rfl))) (fun _ _ => .nil) (fun _ => passAt0) (da_cons (de_var 0) (da_cons (de_var 3) da_nil)) (sCons_len (sCons_len sNil_len)))) (da_cons (de_add de_int (de_callF [] (H_l_draw.up (by decide)) hr (He.glo_ok X0 G (c.fact 51 (f := .glo "_law_draw") (by rfl))) (fun _ _ => .nil) (fun _ => passAt0) (da_cons (de_var 0) (da_cons (de_var 3) da_nil)) (sCons_len (sCons_len sNil_len)))) da_nil))))))))
theorem ok_l_talks (c : He.SaysD fa fn K) (X0 : K.In h) (G : h.Ns mainGlobals mg) : Def P w K mg base CX0 2 (He.ga K "_law_talks") ["_law_spring_here", "_law_least", "_law_more", "_law_longest"] [] Sh.l_talks := by
  obtain ⟨fd, F⟩ := c.def_ 25 (d := d_l_talks) rfl
  exact ⟨⟨fd, [], okb_l_talks c X0 G F, F.bindsN fun _ _ _ _ _ _ us hl => match us, hl with | [_, _, _, _], _ => rfl, .nil⟩, F.kp⟩
theorem sc_l_hall : FnScope ["_law_spring_here", "_law_talkers", "_law_longest", "_law_names", "_law_ranks", "_law_found", "_law_k", "_law_name", "_law_prefix", "_law_cycle"] ["_law_spring_here", "_law_talkers", "_law_longest"] (defScope (top 38)) := ⟨rfl, rfl, rfl, by decide +kernel, rfl, by decide +kernel, by decide +kernel⟩
theorem okb_l_hall (c : He.SaysD fa fn K) (X0 : K.In h) (G : h.Ns mainGlobals mg) {fd : FuncData} (F : FunD K d_l_hall.name d_l_hall.qual d_l_hall.params d_l_hall.body d_l_hall.scope (d_l_hall.dvs K) (d_l_hall.kws K) (He.ga K "_law_hall") fd) : FnOk P w K mg base CX0 3 (He.ga K "_law_hall") fd ["_law_spring_here", "_law_talkers", "_law_longest"] (spN K 3 Sh.l_hall) := by
  have H_l_draw := ok_l_draw (P := P) (w := w) (base := base) c X0 G
  have H_l_talks := ok_l_talks (P := P) (w := w) (base := base) c X0 G
  have sc := sc_l_hall
  refine fn_ok F sc (by decide) (fun cdv A outer s H E hr => ?_)
  exact (ds_cons (ds_set 3 sc.nd (de_lstO (da_cons de_str (da_cons de_str (da_cons de_str (da_cons de_str (da_cons de_str (da_cons de_str (da_cons de_str (da_cons de_str (da_cons de_str (da_cons de_str da_nil)))))))))))) (ds_cons (ds_set 4 sc.nd (de_ix (de_lst (da_cons de_int (da_cons de_int (da_cons de_int da_nil)))) (de_callF [] (H_l_draw.up (by decide)) hr (He.glo_ok X0 G (c.fact 51 (f := .glo "_law_draw") (by rfl))) (fun _ _ => .nil) (fun _ => passAt0) (da_cons (de_var 0) (da_cons de_int da_nil)) (sCons_len (sCons_len sNil_len))))) (ds_cons (ds_set 5 sc.nd (de_lstO da_nil)) (ds_cons (ds_for (vs := [6]) (passes_of rfl) rfl (di_rng1 (by rfl) (He.free_ok X0 G (c.fact 76 (f := .free "range") (by rfl))) (de_callF [] (H_l_draw.up (by decide)) hr (He.glo_ok X0 G (c.fact 51 (f := .glo "_law_draw") (by rfl))) (fun _ _ => .nil) (fun _ => passAt0) (da_cons (de_var 0) (da_cons (de_add (de_var 1) de_int) da_nil)) (sCons_len (sCons_len sNil_len)))) (dg_name 6 sc.nd) (ds_cons (ds_set 7 sc.nd (de_popAt (de_var 3) (de_callF [] (H_l_draw.up (by decide)) hr (He.glo_ok X0 G (c.fact 51 (f := .glo "_law_draw") (by rfl))) (fun _ _ => .nil) (fun _ => passAt0) (da_cons (de_var 0) (da_cons (de_len (by rfl) (He.free_ok X0 G (c.fact 72 (f := .free "len") (by rfl))) (de_var 3)) da_nil)) (sCons_len (sCons_len sNil_len))))) (ds_cons (ds_set 8 sc.nd (de_callF [] (H_l_talks.up (by decide)) hr (He.glo_ok X0 G (c.fact 52 (f := .glo "_law_talks") (by rfl))) (fun _ _ => .nil) (fun _ => passAt0) (da_cons (de_var 0) (da_cons de_int (da_cons (de_ix (de_lst (da_cons de_int (da_cons de_int (da_cons de_int (da_cons de_int da_nil))))) (de_callF [] (H_l_draw.up (by decide)) hr (He.glo_ok X0 G (c.fact 51 (f := .glo "_law_draw") (by rfl))) (fun _ _ => .nil) (fun _ => passAt0) (da_cons (de_var 0) (da_cons de_int da_nil)) (sCons_len (sCons_len sNil_len)))) (da_cons (de_var 2) da_nil)))) (sCons_len (sCons_len (sCons_len (sCons_len sNil_len)))))) (ds_cons (ds_set 9 sc.nd (de_callF [] (H_l_talks.up (by decide)) hr (He.glo_ok X0 G (c.fact 52 (f := .glo "_law_talks") (by rfl))) (fun _ _ => .nil) (fun _ => passAt0) (da_cons (de_var 0) (da_cons de_int (da_cons (de_ix (de_lst (da_cons de_int (da_cons de_int (da_cons de_int da_nil)))) (de_callF [] (H_l_draw.up (by decide)) hr (He.glo_ok X0 G (c.fact 51 (f := .glo "_law_draw") (by rfl))) (fun _ _ => .nil) (fun _ => passAt0) (da_cons (de_var 0) (da_cons de_int da_nil)) (sCons_len (sCons_len sNil_len)))) (da_cons (de_var 2) da_nil)))) (sCons_len (sCons_len (sCons_len (sCons_len sNil_len)))))) (ds_one (ds_expr (de_append (de_var 5) (de_tup (da_cons (de_var 7) (da_cons (de_add de_int (de_callF [] (H_l_draw.up (by decide)) hr (He.glo_ok X0 G (c.fact 51 (f := .glo "_law_draw") (by rfl))) (fun _ _ => .nil) (fun _ => passAt0) (da_cons (de_var 0) (da_cons (de_var 4) da_nil)) (sCons_len (sCons_len sNil_len)))) (da_cons (de_var 8) (da_cons (de_var 9) da_nil)))))))))))) (ds_one (ds_ret (de_frz (de_var 5))))))))
theorem ok_l_hall (c : He.SaysD fa fn K) (X0 : K.In h) (G : h.Ns mainGlobals mg) : Def P w K mg base CX0 3 (He.ga K "_law_hall") ["_law_spring_here", "_law_talkers", "_law_longest"] [] Sh.l_hall := by
  obtain ⟨fd, F⟩ := c.def_ 26 (d := d_l_hall) rfl
  exact ⟨⟨fd, [], okb_l_hall c X0 G F, F.bindsN fun _ _ _ _ _ _ us hl => match us, hl with | [_, _, _], _ => rfl, .nil⟩, F.kp⟩
theorem sc_l_nth : FnScope ["_law_talker", "_law_index", "_law_prefix", "_law_cycle"] ["_law_talker", "_law_index"] (defScope (top 39)) := ⟨rfl, rfl, rfl, by decide +kernel, rfl, by decide +kernel, by decide +kernel⟩
theorem okb_l_nth (c : He.SaysD fa fn K) (X0 : K.In h) (G : h.Ns mainGlobals mg) {fd : FuncData} (F : FunD K d_l_nth.name d_l_nth.qual d_l_nth.params d_l_nth.body d_l_nth.scope (d_l_nth.dvs K) (d_l_nth.kws K) (He.ga K "_law_nth") fd) : FnOk P w K mg base CX0 1 (He.ga K "_law_nth") fd ["_law_talker", "_law_index"] (spN K 2 Sh.l_nth) := by
  have sc := sc_l_nth
  refine fn_ok F sc (by decide) (fun cdv A outer s H E hr => ?_)
  exact (ds_cons (ds_par (i := 2) (j := 3) rfl sc.nd (da_cons (de_ix (de_var 0) de_int) (da_cons (de_ix (de_var 0) de_int) da_nil))) (ds_one (ds_ret (de_if (dt_lt (de_var 1) (de_len (by rfl) (He.free_ok X0 G (c.fact 72 (f := .free "len") (by rfl))) (de_var 2))) (de_ix (de_var 2) (de_var 1)) (de_ix (de_var 3) (de_mod (de_sub (de_var 1) (de_len (by rfl) (He.free_ok X0 G (c.fact 72 (f := .free "len") (by rfl))) (de_var 2))) (de_len (by rfl) (He.free_ok X0 G (c.fact 72 (f := .free "len") (by rfl))) (de_var 3))))))))
theorem ok_l_nth (c : He.SaysD fa fn K) (X0 : K.In h) (G : h.Ns mainGlobals mg) : Def P w K mg base CX0 1 (He.ga K "_law_nth") ["_law_talker", "_law_index"] [] Sh.l_nth := by
  obtain ⟨fd, F⟩ := c.def_ 27 (d := d_l_nth) rfl
  exact ⟨⟨fd, [], okb_l_nth c X0 G F, F.bindsN fun _ _ _ _ _ _ us hl => match us, hl with | [_, _], _ => rfl, .nil⟩, F.kp⟩
theorem sc_l_run : FnScope ["_law_hall_here", "_law_count", "_law_now", "_law_talker", "_law_k", "_law_found", "_law_tick", "_law_order", "_law_best", "_law_states", "_law_part"] ["_law_hall_here", "_law_count"] (defScope (top 40)) := ⟨rfl, rfl, rfl, by decide +kernel, rfl, by decide +kernel, by decide +kernel⟩
theorem okb_l_run (c : He.SaysD fa fn K) (X0 : K.In h) (G : h.Ns mainGlobals mg) {fd : FuncData} (F : FunD K d_l_run.name d_l_run.qual d_l_run.params d_l_run.body d_l_run.scope (d_l_run.dvs K) (d_l_run.kws K) (He.ga K "_law_run") fd) : FnOk P w K mg base CX0 2 (He.ga K "_law_run") fd ["_law_hall_here", "_law_count"] (spN K 2 Sh.l_run) := by
  have H_l_nth := ok_l_nth (P := P) (w := w) (base := base) c X0 G
  have sc := sc_l_run
  refine fn_ok F sc (by decide) (fun cdv A outer s H E hr => ?_)
  exact (ds_cons (ds_set 2 sc.nd (de_lc true [("_law_talker", 3)] rfl sc.nd (di_any (de_var 0)) (blkOk_by (by kernel_rfl)) (fun _ _ _ _ _ => (dg_name 3 sc.nd)) (fun _ _ _ _ _ => dts_nil) (fun _ _ _ _ _ => (de_lstO (da_cons de_str (da_cons de_int (da_cons (de_cut false (de_var 3) (do_some de_int) (do_some de_int)) (da_cons de_int da_nil)))))))) (ds_cons (ds_for (vs := [4, 3]) (passes_of rfl) rfl (di_enum (by rfl) (He.free_ok X0 G (c.fact 69 (f := .free "enumerate") (by rfl))) (de_var 0)) (dg_tup (n := 2) rfl (dg_cons (dg_name 4 sc.nd) (dg_cons (dg_name 3 sc.nd) dg_nil)) rfl (pg_tup rfl (dg_cons (dg_name 4 sc.nd) (dg_cons (dg_name 3 sc.nd) dg_nil))) (pg_lst rfl (dg_cons (dg_name 4 sc.nd) (dg_cons (dg_name 3 sc.nd) dg_nil)))) (ds_one (ds_ix (de_ix (de_var 2) (de_var 4)) de_int (de_ix (de_callF [] ((H_l_nth.up (by decide)).pure) hr (He.glo_ok X0 G (c.fact 54 (f := .glo "_law_nth") (by rfl))) (fun _ _ => .nil) (fun _ => passAt0) (da_cons (de_var 3) (da_cons de_int da_nil)) (sCons_len (sCons_len sNil_len))) de_int) (pg_sub (de_ix (de_var 2) (de_var 4)) de_int set_list)))) (ds_cons (ds_set 5 sc.nd (de_lstO da_nil)) (ds_cons (ds_for (vs := [6]) (passes_of rfl) rfl (di_rng1 (by rfl) (He.free_ok X0 G (c.fact 76 (f := .free "range") (by rfl))) (de_var 1)) (dg_name 6 sc.nd) (ds_cons (ds_set 7 sc.nd (de_sort3 (by rfl) (He.free_ok X0 G (c.fact 78 (f := .free "sorted") (by rfl))) (de_lc false [("_law_k", 4)] rfl sc.nd (di_rng1 (by rfl) (He.free_ok X0 G (c.fact 76 (f := .free "range") (by rfl))) (de_len (by rfl) (He.free_ok X0 G (c.fact 72 (f := .free "len") (by rfl))) (de_var 0))) (blkOk_by (by kernel_rfl)) (fun _ _ _ _ _ => (dg_name 4 sc.nd)) (fun _ _ _ _ _ => (dts_one (dt_eq (hu_ hr) (de_ix (de_ix (de_var 2) (de_var 4)) de_int) de_str))) (fun _ _ _ _ _ => (de_tup (da_cons (de_ix (de_ix (de_var 0) (de_var 4)) de_int) (da_cons (de_toint (by rfl) (He.free_ok X0 G (c.fact 70 (f := .free "int") (by rfl))) (de_eq (hu_ hr) (de_ix (de_ix (de_var 2) (de_var 4)) de_int) de_int)) (da_cons (de_var 4) da_nil)))))))) (ds_cons (ds_set 8 sc.nd (de_if (dt_neN (hu_ hr) (de_var 7) (de_lst da_nil)) (de_ix (de_ix (de_var 7) de_int) de_int) de_non)) (ds_cons (ds_set 9 sc.nd (de_lstO da_nil)) (ds_cons (ds_forE (vs := [4, 10]) (passes_of rfl) rfl (by rfl) (He.free_ok X0 G (c.fact 69 (f := .free "enumerate") (by rfl))) (de_var 2) (dg_tup (n := 2) rfl (dg_cons (dg_name 4 sc.nd) (dg_cons (dg_name 10 sc.nd) dg_nil)) rfl (pg_tup rfl (dg_cons (dg_name 4 sc.nd) (dg_cons (dg_name 10 sc.nd) dg_nil))) (pg_lst rfl (dg_cons (dg_name 4 sc.nd) (dg_cons (dg_name 10 sc.nd) dg_nil)))) (ds_one (ds_expr (de_append (de_var 9) (de_tup (da_cons (de_if (dt_eq (hu_ hr) (de_var 4) (de_var 8)) de_str (de_ix (de_var 10) de_int)) (da_cons (de_ix (de_var 10) de_int) (da_cons (de_ix (de_var 10) de_int) da_nil)))))))) (ds_cons (ds_expr (de_append (de_var 5) (de_tup (da_cons (de_if (dt_is (de_var 8) de_non) de_non (de_ix (de_ix (de_var 0) (de_var 8)) de_int)) (da_cons (de_var 9) da_nil))))) (ds_one (ds_for (vs := [4, 10]) (passes_of rfl) rfl (di_enum (by rfl) (He.free_ok X0 G (c.fact 69 (f := .free "enumerate") (by rfl))) (de_list false (by rfl) (He.free_ok X0 G (c.fact 73 (f := .free "list") (by rfl))) (de_var 2))) (dg_tup (n := 2) rfl (dg_cons (dg_name 4 sc.nd) (dg_cons (dg_name 10 sc.nd) dg_nil)) rfl (pg_tup rfl (dg_cons (dg_name 4 sc.nd) (dg_cons (dg_name 10 sc.nd) dg_nil))) (pg_lst rfl (dg_cons (dg_name 4 sc.nd) (dg_cons (dg_name 10 sc.nd) dg_nil)))) (ds_one (ds_if (dt_eq (hu_ hr) (de_var 4) (de_var 8)) (ds_cons (ds_subL (de_var 10) de_int (de_var 10) de_int (de_tup (da_cons (de_sub (de_ix (de_var 10) de_int) de_int) (da_cons (de_add (de_ix (de_var 10) de_int) de_int) da_nil))) (pg_tup rfl (pgs_cons (pg_sub (de_var 10) de_int set_list) (pgs_cons (pg_sub (de_var 10) de_int set_list) pgs_nil)))) (ds_one (ds_if (dt_eq (hu_ hr) (de_ix (de_var 10) de_int) de_int) (ds_one (ds_ix (de_var 2) (de_var 4) (de_lstO (da_cons de_str (da_cons (de_add (de_ix (de_var 10) de_int) de_int) (da_cons (de_ix (de_callF [] ((H_l_nth.up (by decide)).pure) hr (He.glo_ok X0 G (c.fact 54 (f := .glo "_law_nth") (by rfl))) (fun _ _ => .nil) (fun _ => passAt0) (da_cons (de_ix (de_var 0) (de_var 4)) (da_cons (de_add (de_ix (de_var 10) de_int) de_int) da_nil)) (sCons_len (sCons_len sNil_len))) de_int) (da_cons de_int da_nil))))) (pg_sub (de_var 2) (de_var 4) set_list))) ds_nil))) (ds_one (ds_if (DW.dt (dw_and (dt_eq (hu_ hr) (de_ix (de_var 10) de_int) de_str) (dw_and1 (DW.dt (dw_or (dt_is (de_var 8) de_non) (dw_or1 (dt_gt (de_ix (de_ix (de_var 0) (de_var 8)) de_int) (de_ix (de_ix (de_var 0) (de_var 4)) de_int)))))))) (ds_cons (ds_ix (de_var 10) de_int (de_sub (de_ix (de_var 10) de_int) de_int) (pg_sub (de_var 10) de_int set_list)) (ds_one (ds_if (dt_eq (hu_ hr) (de_ix (de_var 10) de_int) de_int) (ds_one (ds_ix (de_var 2) (de_var 4) (de_lstO (da_cons de_str (da_cons (de_ix (de_var 10) de_int) (da_cons (de_ix (de_callF [] ((H_l_nth.up (by decide)).pure) hr (He.glo_ok X0 G (c.fact 54 (f := .glo "_law_nth") (by rfl))) (fun _ _ => .nil) (fun _ => passAt0) (da_cons (de_ix (de_var 0) (de_var 4)) (da_cons (de_ix (de_var 10) de_int) da_nil)) (sCons_len (sCons_len sNil_len))) de_int) (da_cons de_int da_nil))))) (pg_sub (de_var 2) (de_var 4) set_list))) ds_nil))) ds_nil)))))))))))) (ds_one (ds_ret (de_var 5)))))))
theorem ok_l_run (c : He.SaysD fa fn K) (X0 : K.In h) (G : h.Ns mainGlobals mg) : Def P w K mg base CX0 2 (He.ga K "_law_run") ["_law_hall_here", "_law_count"] [] Sh.l_run := by
  obtain ⟨fd, F⟩ := c.def_ 28 (d := d_l_run) rfl
  exact ⟨⟨fd, [], okb_l_run c X0 G F, F.bindsN fun _ _ _ _ _ _ us hl => match us, hl with | [_, _], _ => rfl, .nil⟩, F.kp⟩
theorem sc_l_key : FnScope ["_law_hall_here", "_law_states", "_law_found", "_law_talker", "_law_state", "_law_at"] ["_law_hall_here", "_law_states"] (defScope (top 42)) := ⟨rfl, rfl, rfl, by decide +kernel, rfl, by decide +kernel, by decide +kernel⟩
theorem okb_l_key (c : He.SaysD fa fn K) (X0 : K.In h) (G : h.Ns mainGlobals mg) {fd : FuncData} (F : FunD K d_l_key.name d_l_key.qual d_l_key.params d_l_key.body d_l_key.scope (d_l_key.dvs K) (d_l_key.kws K) (He.ga K "_law_key") fd) : FnOk P w K mg base CX0 1 (He.ga K "_law_key") fd ["_law_hall_here", "_law_states"] (spN K 2 Sh.l_key) := by
  have sc := sc_l_key
  refine fn_ok F sc (by decide) (fun cdv A outer s H E hr => ?_)
  exact (ds_cons (ds_set 2 sc.nd (de_lstO da_nil)) (ds_cons (ds_for (vs := [3, 4]) (passes_of rfl) rfl (di_zip (by rfl) (He.free_ok X0 G (c.fact 82 (f := .free "zip") (by rfl))) (de_var 0) (de_var 1)) (dg_tup (n := 2) rfl (dg_cons (dg_name 3 sc.nd) (dg_cons (dg_name 4 sc.nd) dg_nil)) rfl (pg_tup rfl (dg_cons (dg_name 3 sc.nd) (dg_cons (dg_name 4 sc.nd) dg_nil))) (pg_lst rfl (dg_cons (dg_name 3 sc.nd) (dg_cons (dg_name 4 sc.nd) dg_nil)))) (ds_cons (ds_set 5 sc.nd (de_sub (de_ix (de_var 4) de_int) (de_len (by rfl) (He.free_ok X0 G (c.fact 72 (f := .free "len") (by rfl))) (de_ix (de_var 3) de_int)))) (ds_one (ds_expr (de_append (de_var 2) (de_tup (da_cons (de_ix (de_var 4) de_int) (da_cons (de_if (dt_lt (de_var 5) de_int) (de_var 5) (de_mod (de_var 5) (de_len (by rfl) (He.free_ok X0 G (c.fact 72 (f := .free "len") (by rfl))) (de_ix (de_var 3) de_int)))) (da_cons (de_ix (de_var 4) de_int) da_nil))))))))) (ds_one (ds_ret (de_frz (de_var 2))))))
theorem ok_l_key (c : He.SaysD fa fn K) (X0 : K.In h) (G : h.Ns mainGlobals mg) : Def P w K mg base CX0 1 (He.ga K "_law_key") ["_law_hall_here", "_law_states"] [] Sh.l_key := by
  obtain ⟨fd, F⟩ := c.def_ 30 (d := d_l_key) rfl
  exact ⟨⟨fd, [], okb_l_key c X0 G F, F.bindsN fun _ _ _ _ _ _ us hl => match us, hl with | [_, _], _ => rfl, .nil⟩, F.kp⟩
theorem sc_l_period : FnScope ["_law_hall_here", "_law_count", "_law_run_here", "_law_start", "_law_key_here", "_law_part", "_law_later", "_law_tick"] ["_law_hall_here", "_law_count"] (defScope (top 43)) := ⟨rfl, rfl, rfl, by decide +kernel, rfl, by decide +kernel, by decide +kernel⟩
theorem okb_l_period (c : He.SaysD fa fn K) (X0 : K.In h) (G : h.Ns mainGlobals mg) {fd : FuncData} (F : FunD K d_l_period.name d_l_period.qual d_l_period.params d_l_period.body d_l_period.scope (d_l_period.dvs K) (d_l_period.kws K) (He.ga K "_law_period") fd) : FnOk P w K mg base CX0 3 (He.ga K "_law_period") fd ["_law_hall_here", "_law_count"] (spN K 2 Sh.l_period) := by
  have H_l_run := ok_l_run (P := P) (w := w) (base := base) c X0 G
  have H_l_key := ok_l_key (P := P) (w := w) (base := base) c X0 G
  have sc := sc_l_period
  refine fn_ok F sc (by decide) (fun cdv A outer s H E hr => ?_)
  exact (ds_cons (ds_set 2 sc.nd (de_callF [] ((H_l_run.up (by decide)).lendZ) hr (He.glo_ok X0 G (c.fact 55 (f := .glo "_law_run") (by rfl))) (fun _ _ => .nil) (fun _ => passAt0) (da_cons (de_var 0) (da_cons (de_var 1) da_nil)) (sCons_len (sCons_len sNil_len)))) (ds_cons (ds_for (vs := [3]) (passes_of rfl) rfl (di_rngP (by rfl) (He.free_ok X0 G (c.fact 76 (f := .free "range") (by rfl))) de_int (de_div (de_var 1) de_int) de_int) (dg_name 3 sc.nd) (ds_cons (ds_set 4 sc.nd (de_callF [] ((H_l_key.up (by decide)).pure) hr (He.glo_ok X0 G (c.fact 57 (f := .glo "_law_key") (by rfl))) (fun _ _ => .nil) (fun _ => passAt0) (da_cons (de_var 0) (da_cons (de_ix (de_ix (de_var 2) (de_var 3)) de_int) da_nil)) (sCons_len (sCons_len sNil_len)))) (ds_one (ds_if (dt_eqN (hu_ hr) (de_lc false [("_law_part", 5)] rfl sc.nd (di_any (de_var 4)) (blkOk_by (by kernel_rfl)) (fun _ _ _ _ _ => (dg_name 5 sc.nd)) (fun _ _ _ _ _ => (dts_one (dt_lt (de_ix (de_var 5) de_int) de_int))) (fun _ _ _ _ _ => de_int)) (de_lst da_nil)) (ds_cons (ds_setLc (X := _) 6 false [("_law_tick", 7)] rfl sc.nd (di_rng2 (by rfl) (He.free_ok X0 G (c.fact 76 (f := .free "range") (by rfl))) (de_add (de_var 3) de_int) (de_var 1)) (blkOk_by (by kernel_rfl)) (fun _ _ _ _ _ => (dg_name 7 sc.nd)) (fun _ _ _ _ _ => (dts_one (dt_eq (hu_ hr) (de_ix (de_ix (de_var 2) (de_var 7)) de_int) (de_ix (de_ix (de_var 2) (de_var 3)) de_int)))) (fun _ _ _ _ _ => (de_var 7)) (sw_true rfl rfl rfl (by decide +kernel))) (ds_cons (ds_setLc (X := _) 6 false [("_law_tick", 7)] rfl sc.nd (di_any (de_var 6)) (blkOk_by (by kernel_rfl)) (fun _ _ _ _ _ => (dg_name 7 sc.nd)) (fun _ _ _ _ _ => (dts_one (dt_eq (hu_ hr) (de_callF [] ((H_l_key.up (by decide)).pure) hr (He.glo_ok X0 G (c.fact 57 (f := .glo "_law_key") (by rfl))) (fun _ _ => .nil) (fun _ => passAt0) (da_cons (de_var 0) (da_cons (de_ix (de_ix (de_var 2) (de_var 7)) de_int) da_nil)) (sCons_len (sCons_len sNil_len))) (de_var 4)))) (fun _ _ _ _ _ => (de_var 7)) (sw_true rfl rfl rfl (by decide +kernel))) (ds_one (ds_ret (de_if (dt_neN (hu_ hr) (de_var 6) (de_lst da_nil)) (de_lst (da_cons (de_var 2) (da_cons (de_var 3) (da_cons (de_sub (de_ix (de_var 6) de_int) (de_var 3)) da_nil)))) de_non))))) ds_nil)))) (ds_one (ds_ret de_non))))
theorem ok_l_period (c : He.SaysD fa fn K) (X0 : K.In h) (G : h.Ns mainGlobals mg) : Def P w K mg base CX0 3 (He.ga K "_law_period") ["_law_hall_here", "_law_count"] [] Sh.l_period := by
  obtain ⟨fd, F⟩ := c.def_ 31 (d := d_l_period) rfl
  exact ⟨⟨fd, [], okb_l_period c X0 G F, F.bindsN fun _ _ _ _ _ _ us hl => match us, hl with | [_, _], _ => rfl, .nil⟩, F.kp⟩
theorem sc_l_scaled : FnScope ["_law_hall_here", "_law_times", "_law_found", "_law_name", "_law_rank", "_law_prefix", "_law_cycle", "_law_parts", "_law_silence", "_law_length", "_law_talks_here"] ["_law_hall_here", "_law_times"] (defScope (top 41)) := ⟨rfl, rfl, rfl, by decide +kernel, rfl, by decide +kernel, by decide +kernel⟩
theorem okb_l_scaled (c : He.SaysD fa fn K) (X0 : K.In h) (G : h.Ns mainGlobals mg) {fd : FuncData} (F : FunD K d_l_scaled.name d_l_scaled.qual d_l_scaled.params d_l_scaled.body d_l_scaled.scope (d_l_scaled.dvs K) (d_l_scaled.kws K) (He.ga K "_law_scaled") fd) : FnOk P w K mg base CX0 1 (He.ga K "_law_scaled") fd ["_law_hall_here", "_law_times"] (spN K 2 Sh.l_scaled) := by
  have sc := sc_l_scaled
  refine fn_ok F sc (by decide) (fun cdv A outer s H E hr => ?_)
  exact (ds_cons (ds_set 2 sc.nd (de_lstO da_nil)) (ds_cons (ds_for (vs := [3, 4, 5, 6]) (passes_of rfl) rfl (di_any (de_var 0)) (dg_tup (n := 4) rfl (dg_cons (dg_name 3 sc.nd) (dg_cons (dg_name 4 sc.nd) (dg_cons (dg_name 5 sc.nd) (dg_cons (dg_name 6 sc.nd) dg_nil)))) rfl (pg_tup rfl (dg_cons (dg_name 3 sc.nd) (dg_cons (dg_name 4 sc.nd) (dg_cons (dg_name 5 sc.nd) (dg_cons (dg_name 6 sc.nd) dg_nil))))) (pg_lst rfl (dg_cons (dg_name 3 sc.nd) (dg_cons (dg_name 4 sc.nd) (dg_cons (dg_name 5 sc.nd) (dg_cons (dg_name 6 sc.nd) dg_nil)))))) (ds_cons (ds_setLc (X := _) 7 false [("_law_talks_here", 10)] rfl sc.nd (di_any (de_lst (da_cons (de_var 5) (da_cons (de_var 6) da_nil)))) (blkOk_by (by kernel_rfl)) (fun _ _ _ _ _ => (dg_name 10 sc.nd)) (fun _ _ _ _ _ => dts_nil) (fun _ _ _ _ _ => (de_lc false [("_law_silence", 8), ("_law_length", 9)] rfl sc.nd (di_any (de_var 10)) (blkOk_by (by kernel_rfl)) (fun _ _ _ _ _ => (dg_tup (n := 2) rfl (dg_cons (dg_name 8 sc.nd) (dg_cons (dg_name 9 sc.nd) dg_nil)) rfl (pg_tup rfl (dg_cons (dg_name 8 sc.nd) (dg_cons (dg_name 9 sc.nd) dg_nil))) (pg_lst rfl (dg_cons (dg_name 8 sc.nd) (dg_cons (dg_name 9 sc.nd) dg_nil))))) (fun _ _ _ _ _ => dts_nil) (fun _ _ _ _ _ => (de_tup (da_cons (de_mul (de_var 8) (de_var 1)) (da_cons (de_mul (de_var 9) (de_var 1)) da_nil)))))) (sw_true rfl rfl rfl (by decide +kernel))) (ds_one (ds_expr (de_append (de_var 2) (de_tup (da_cons (de_var 3) (da_cons (de_var 4) (da_cons (de_ix (de_var 7) de_int) (da_cons (de_ix (de_var 7) de_int) da_nil)))))))))) (ds_one (ds_ret (de_frz (de_var 2))))))
theorem ok_l_scaled (c : He.SaysD fa fn K) (X0 : K.In h) (G : h.Ns mainGlobals mg) : Def P w K mg base CX0 1 (He.ga K "_law_scaled") ["_law_hall_here", "_law_times"] [] Sh.l_scaled := by
  obtain ⟨fd, F⟩ := c.def_ 29 (d := d_l_scaled) rfl
  exact ⟨⟨fd, [], okb_l_scaled c X0 G F, F.bindsN fun _ _ _ _ _ _ us hl => match us, hl with | [_, _], _ => rfl, .nil⟩, F.kp⟩
theorem sc_l_counts : FnScope ["_law_hall_here", "_law_rank", "_law_run_here", "_law_tick", "_law_ranks", "_law_talker", "_law_speaking", "_law_row", "_law_one"] ["_law_hall_here", "_law_rank", "_law_run_here", "_law_tick"] (defScope (top 44)) := ⟨rfl, rfl, rfl, by decide +kernel, rfl, by decide +kernel, by decide +kernel⟩
theorem okb_l_counts (c : He.SaysD fa fn K) (X0 : K.In h) (G : h.Ns mainGlobals mg) {fd : FuncData} (F : FunD K d_l_counts.name d_l_counts.qual d_l_counts.params d_l_counts.body d_l_counts.scope (d_l_counts.dvs K) (d_l_counts.kws K) (He.ga K "_law_counts") fd) : FnOk P w K mg base CX0 1 (He.ga K "_law_counts") fd ["_law_hall_here", "_law_rank", "_law_run_here", "_law_tick"] (spN K 4 Sh.l_counts) := by
  have sc := sc_l_counts
  refine fn_ok F sc (by decide) (fun cdv A outer s H E hr => ?_)
  exact (ds_cons (ds_set 4 sc.nd (de_dictP rfl (by rfl) (He.free_ok X0 G (c.fact 67 (f := .free "dict") (by rfl))) (de_lc false [("_law_talker", 5)] rfl sc.nd (di_any (de_var 0)) (blkOk_by (by kernel_rfl)) (fun _ _ _ _ _ => (dg_name 5 sc.nd)) (fun _ _ _ _ _ => dts_nil) (fun _ _ _ _ _ => (de_tup (da_cons (de_ix (de_var 5) de_int) (da_cons (de_ix (de_var 5) de_int) da_nil))))))) (ds_cons (ds_setLc (X := _) 6 false [("_law_row", 7)] rfl sc.nd (di_any (de_cut false (de_var 2) do_none (do_some (de_var 3)))) (blkOk_by (by kernel_rfl)) (fun _ _ _ _ _ => (dg_name 7 sc.nd)) (fun _ _ _ _ _ => dts_nil) (fun _ _ _ _ _ => (de_get2 (hu_ hr) (de_var 4) (de_ix (de_var 7) de_int) de_int)) (sw_true rfl rfl rfl (by decide +kernel))) (ds_one (ds_ret (de_lst (da_cons (de_len (by rfl) (He.free_ok X0 G (c.fact 72 (f := .free "len") (by rfl))) (de_lc false [("_law_one", 8)] rfl sc.nd (di_any (de_var 6)) (blkOk_by (by kernel_rfl)) (fun _ _ _ _ _ => (dg_name 8 sc.nd)) (fun _ _ _ _ _ => (dts_one (dt_ge (de_var 8) (de_var 1)))) (fun _ _ _ _ _ => (de_var 8)))) (da_cons (de_len (by rfl) (He.free_ok X0 G (c.fact 72 (f := .free "len") (by rfl))) (de_lc false [("_law_one", 8)] rfl sc.nd (di_any (de_var 6)) (blkOk_by (by kernel_rfl)) (fun _ _ _ _ _ => (dg_name 8 sc.nd)) (fun _ _ _ _ _ => (dts_one (dt_gt (de_var 8) (de_var 1)))) (fun _ _ _ _ _ => (de_var 8)))) da_nil)))))))
theorem ok_l_counts (c : He.SaysD fa fn K) (X0 : K.In h) (G : h.Ns mainGlobals mg) : Def P w K mg base CX0 1 (He.ga K "_law_counts") ["_law_hall_here", "_law_rank", "_law_run_here", "_law_tick"] [] Sh.l_counts := by
  obtain ⟨fd, F⟩ := c.def_ 32 (d := d_l_counts) rfl
  exact ⟨⟨fd, [], okb_l_counts c X0 G F, F.bindsN fun _ _ _ _ _ _ us hl => match us, hl with | [_, _, _, _], _ => rfl, .nil⟩, F.kp⟩
theorem sc_l_far_counts : FnScope ["_law_hall_here", "_law_rank", "_law_period_here", "_law_tick", "_law_run_here", "_law_start", "_law_length", "_law_rounds", "_law_here", "_law_once", "_law_first", "_law_k"] ["_law_hall_here", "_law_rank", "_law_period_here", "_law_tick"] (defScope (top 45)) := ⟨rfl, rfl, rfl, by decide +kernel, rfl, by decide +kernel, by decide +kernel⟩
theorem okb_l_far_counts (c : He.SaysD fa fn K) (X0 : K.In h) (G : h.Ns mainGlobals mg) {fd : FuncData} (F : FunD K d_l_far_counts.name d_l_far_counts.qual d_l_far_counts.params d_l_far_counts.body d_l_far_counts.scope (d_l_far_counts.dvs K) (d_l_far_counts.kws K) (He.ga K "_law_far_counts") fd) : FnOk P w K mg base CX0 2 (He.ga K "_law_far_counts") fd ["_law_hall_here", "_law_rank", "_law_period_here", "_law_tick"] (spN K 4 Sh.l_far_counts) := by
  have H_l_counts := ok_l_counts (P := P) (w := w) (base := base) c X0 G
  have sc := sc_l_far_counts
  refine fn_ok F sc (by decide) (fun cdv A outer s H E hr => ?_)
  exact (ds_cons (ds_asg (vs := [4, 5, 6]) (de_var 2) (dg_tup (n := 3) rfl (dg_cons (dg_name 4 sc.nd) (dg_cons (dg_name 5 sc.nd) (dg_cons (dg_name 6 sc.nd) dg_nil))) rfl (pg_tup rfl (dg_cons (dg_name 4 sc.nd) (dg_cons (dg_name 5 sc.nd) (dg_cons (dg_name 6 sc.nd) dg_nil)))) (pg_lst rfl (dg_cons (dg_name 4 sc.nd) (dg_cons (dg_name 5 sc.nd) (dg_cons (dg_name 6 sc.nd) dg_nil)))))) (ds_cons (ds_set 7 sc.nd (de_div (de_max2 rfl (by rfl) (He.free_ok X0 G (c.fact 74 (f := .free "max") (by rfl))) de_int (de_sub (de_var 3) (de_var 5))) (de_var 6))) (ds_cons (ds_set 8 sc.nd (de_callF [] ((H_l_counts.up (by decide)).pure) hr (He.glo_ok X0 G (c.fact 59 (f := .glo "_law_counts") (by rfl))) (fun _ _ => .nil) (fun _ => passAt0) (da_cons (de_var 0) (da_cons (de_var 1) (da_cons (de_var 4) (da_cons (de_sub (de_var 3) (de_mul (de_var 7) (de_var 6))) da_nil)))) (sCons_len (sCons_len (sCons_len (sCons_len sNil_len)))))) (ds_cons (ds_set 9 sc.nd (de_callF [] ((H_l_counts.up (by decide)).pure) hr (He.glo_ok X0 G (c.fact 59 (f := .glo "_law_counts") (by rfl))) (fun _ _ => .nil) (fun _ => passAt0) (da_cons (de_var 0) (da_cons (de_var 1) (da_cons (de_var 4) (da_cons (de_add (de_var 5) (de_var 6)) da_nil)))) (sCons_len (sCons_len (sCons_len (sCons_len sNil_len)))))) (ds_cons (ds_set 10 sc.nd (de_callF [] ((H_l_counts.up (by decide)).pure) hr (He.glo_ok X0 G (c.fact 59 (f := .glo "_law_counts") (by rfl))) (fun _ _ => .nil) (fun _ => passAt0) (da_cons (de_var 0) (da_cons (de_var 1) (da_cons (de_var 4) (da_cons (de_var 5) da_nil)))) (sCons_len (sCons_len (sCons_len (sCons_len sNil_len)))))) (ds_one (ds_ret (de_lc false [("_law_k", 11)] rfl sc.nd (di_rng1 (by rfl) (He.free_ok X0 G (c.fact 76 (f := .free "range") (by rfl))) de_int) (blkOk_by (by kernel_rfl)) (fun _ _ _ _ _ => (dg_name 11 sc.nd)) (fun _ _ _ _ _ => dts_nil) (fun _ _ _ _ _ => (de_add (de_ix (de_var 8) (de_var 11)) (de_mul (de_var 7) (de_sub (de_ix (de_var 9) (de_var 11)) (de_ix (de_var 10) (de_var 11))))))))))))))
theorem ok_l_far_counts (c : He.SaysD fa fn K) (X0 : K.In h) (G : h.Ns mainGlobals mg) : Def P w K mg base CX0 2 (He.ga K "_law_far_counts") ["_law_hall_here", "_law_rank", "_law_period_here", "_law_tick"] [] Sh.l_far_counts := by
  obtain ⟨fd, F⟩ := c.def_ 33 (d := d_l_far_counts) rfl
  exact ⟨⟨fd, [], okb_l_far_counts c X0 G F, F.bindsN fun _ _ _ _ _ _ us hl => match us, hl with | [_, _, _, _], _ => rfl, .nil⟩, F.kp⟩
theorem sc_is_sequence : FnScope ["value"] ["value"] (defScope (top 14)) := ⟨rfl, rfl, rfl, by decide +kernel, rfl, by decide +kernel, by decide +kernel⟩
theorem okb_is_sequence (c : He.SaysD fa fn K) (X0 : K.In h) (G : h.Ns mainGlobals mg) {fd : FuncData} (F : FunD K d_is_sequence.name d_is_sequence.qual d_is_sequence.params d_is_sequence.body d_is_sequence.scope (d_is_sequence.dvs K) (d_is_sequence.kws K) (He.ga K "is_sequence") fd) : FnOk P w K mg base CX0 1 (He.ga K "is_sequence") fd ["value"] (spN K 1 Sh.is_sequence) := by
  have sc := sc_is_sequence
  refine fn_ok F sc (by decide) (fun cdv A outer s H E hr => ?_)
  exact (ds_one (ds_ret (de_isi2 (T1 := "list") (T2 := "tuple") (by simp) (by simp) (by rfl) (He.free_ok X0 G (c.fact 71 (f := .free "isinstance") (by rfl))) (by rfl) (He.free_ok X0 G (c.fact 73 (f := .free "list") (by rfl))) (by decide +kernel) (by rfl) (He.free_ok X0 G (c.fact 81 (f := .free "tuple") (by rfl))) (by decide +kernel) (de_var 0))))
theorem ok_is_sequence (c : He.SaysD fa fn K) (X0 : K.In h) (G : h.Ns mainGlobals mg) : Def P w K mg base CX0 1 (He.ga K "is_sequence") ["value"] [] Sh.is_sequence := by
  obtain ⟨fd, F⟩ := c.def_ 1 (d := d_is_sequence) rfl
  exact ⟨⟨fd, [], okb_is_sequence c X0 G F, F.bindsN fun _ _ _ _ _ _ us hl => match us, hl with | [_], _ => rfl, .nil⟩, F.kp⟩
theorem sc_is_integer : FnScope ["value", "low", "high"] ["value", "low", "high"] (defScope (top 13)) := ⟨rfl, rfl, rfl, by decide +kernel, rfl, by decide +kernel, by decide +kernel⟩
theorem okb_is_integer (c : He.SaysD fa fn K) (X0 : K.In h) (G : h.Ns mainGlobals mg) {fd : FuncData} (F : FunD K d_is_integer.name d_is_integer.qual d_is_integer.params d_is_integer.body d_is_integer.scope (d_is_integer.dvs K) (d_is_integer.kws K) (He.ga K "is_integer") fd) : FnOk P w K mg base CX0 1 (He.ga K "is_integer") fd ["value", "low", "high"] (spN K 3 Sh.is_integer) := by
  have sc := sc_is_integer
  refine fn_ok F sc (by decide) (fun cdv A outer s H E hr => ?_)
  exact (ds_cons (ds_if (DW.dt (dw_or (dt_not (dt_val (de_isi (T := "int") (by simp) (by rfl) (He.free_ok X0 G (c.fact 71 (f := .free "isinstance") (by rfl))) (by rfl) (He.free_ok X0 G (c.fact 70 (f := .free "int") (by rfl))) (by decide +kernel) (de_var 0)))) (dw_or1 (dt_val (de_isi (T := "bool") (by simp) (by rfl) (He.free_ok X0 G (c.fact 71 (f := .free "isinstance") (by rfl))) (by rfl) (He.free_ok X0 G (c.fact 66 (f := .free "bool") (by rfl))) (by decide +kernel) (de_var 0)))))) (ds_one (ds_ret de_bl)) ds_nil) (ds_one (ds_ret (de_and (de_ge (de_var 0) (de_var 1)) (de_one (de_or (de_is (de_var 2) de_non) (de_one (de_le (de_var 0) (de_var 2)))))))))
theorem ok_is_integer (c : He.SaysD fa fn K) (X0 : K.In h) (G : h.Ns mainGlobals mg) : Def P w K mg base CX0 1 (He.ga K "is_integer") ["value", "low", "high"] [.non] Sh.is_integer := by
  obtain ⟨fd, F⟩ := c.def_ 0 (d := d_is_integer) rfl
  obtain ⟨dus, hd, hb⟩ := F.binds1 (ps := ["value", "low", "high"]) 2 0 (by simp [He.DefD.dvs, d_is_integer]) (by rfl) (fun T kV doc pm an cdv ct us its l1 l2 => match us, its, l1, l2 with | [_, _], [_], _, _ => ⟨_, rfl, rfl⟩)
  exact ⟨⟨fd, dus, okb_is_integer c X0 G F, hb, hd⟩, F.kp⟩
theorem ok_is_integer_all (c : He.SaysD fa fn K) (X0 : K.In h) (G : h.Ns mainGlobals mg) : Def P w K mg base CX0 1 (He.ga K "is_integer") ["value", "low", "high"] [] Sh.is_integer := by
  obtain ⟨fd, F⟩ := c.def_ 0 (d := d_is_integer) rfl
  obtain ⟨dus, hd, hb⟩ := F.binds1 (ps := ["value", "low", "high"]) 3 1 (by simp [He.DefD.dvs, d_is_integer]) (by rfl) (fun T kV doc pm an cdv ct us its l1 l2 => match us, its, l1, l2 with | [_, _, _], [_], _, _ => ⟨_, rfl, rfl⟩)
  exact ⟨⟨fd, dus, okb_is_integer c X0 G F, hb, hd⟩, F.kp⟩
theorem sc_is_talk : FnScope ["value", "part"] ["value"] (defScope (top 16)) := ⟨rfl, rfl, rfl, by decide +kernel, rfl, by decide +kernel, by decide +kernel⟩
theorem okb_is_talk (c : He.SaysD fa fn K) (X0 : K.In h) (G : h.Ns mainGlobals mg) {fd : FuncData} (F : FunD K d_is_talk.name d_is_talk.qual d_is_talk.params d_is_talk.body d_is_talk.scope (d_is_talk.dvs K) (d_is_talk.kws K) (He.ga K "is_talk") fd) : FnOk P w K mg base CX0 2 (He.ga K "is_talk") fd ["value"] (spN K 1 Sh.is_talk) := by
  have H_is_integer := ok_is_integer (P := P) (w := w) (base := base) c X0 G
  have H_is_integer_all := ok_is_integer_all (P := P) (w := w) (base := base) c X0 G
  have H_is_sequence := ok_is_sequence (P := P) (w := w) (base := base) c X0 G
  have sc := sc_is_talk
  refine fn_ok F sc (by decide) (fun cdv A outer s H E hr => ?_)
  exact (ds_one (ds_ret (de_and (de_callF [] ((H_is_sequence.up (by decide)).pure) hr (He.glo_ok X0 G (c.fact 15 (f := .glo "is_sequence") (by rfl))) (fun _ _ => .nil) (fun _ => passAt0) (da_cons (de_var 0) da_nil) (sCons_len sNil_len)) (de_and (de_eq (hu_ hr) (de_len (by rfl) (He.free_ok X0 G (c.fact 72 (f := .free "len") (by rfl))) (de_var 0)) de_int) (de_one (de_all rfl (by rfl) (He.free_ok X0 G (c.fact 65 (f := .free "all") (by rfl))) (de_lc false [("part", 1)] rfl sc.nd (di_any (de_var 0)) (blkOk_by (by kernel_rfl)) (fun _ _ _ _ _ => (dg_name 1 sc.nd)) (fun _ _ _ _ _ => dts_nil) (fun _ _ _ _ _ => (de_callF [] ((H_is_integer_all.up (by decide)).pure) hr (He.glo_ok X0 G (c.fact 14 (f := .glo "is_integer") (by rfl))) (fun _ _ => .nil) (fun _ => passAt0) (da_cons (de_var 1) (da_cons de_int (da_cons (de_globI (by rfl) (He.int_ok X0 G (c.fact 10 (f := .int "MAX_TIME" (1000000000000000000000000000000)) (by rfl)))) da_nil))) (sCons_len (sCons_len (sCons_len sNil_len))))))))))))
theorem ok_is_talk (c : He.SaysD fa fn K) (X0 : K.In h) (G : h.Ns mainGlobals mg) : Def P w K mg base CX0 2 (He.ga K "is_talk") ["value"] [] Sh.is_talk := by
  obtain ⟨fd, F⟩ := c.def_ 3 (d := d_is_talk) rfl
  exact ⟨⟨fd, [], okb_is_talk c X0 G F, F.bindsN fun _ _ _ _ _ _ us hl => match us, hl with | [_], _ => rfl, .nil⟩, F.kp⟩
theorem sc_are_talks : FnScope ["value", "least", "one"] ["value", "least"] (defScope (top 17)) := ⟨rfl, rfl, rfl, by decide +kernel, rfl, by decide +kernel, by decide +kernel⟩
theorem okb_are_talks (c : He.SaysD fa fn K) (X0 : K.In h) (G : h.Ns mainGlobals mg) {fd : FuncData} (F : FunD K d_are_talks.name d_are_talks.qual d_are_talks.params d_are_talks.body d_are_talks.scope (d_are_talks.dvs K) (d_are_talks.kws K) (He.ga K "are_talks") fd) : FnOk P w K mg base CX0 3 (He.ga K "are_talks") fd ["value", "least"] (spN K 2 Sh.are_talks) := by
  have H_is_talk := ok_is_talk (P := P) (w := w) (base := base) c X0 G
  have H_is_sequence := ok_is_sequence (P := P) (w := w) (base := base) c X0 G
  have sc := sc_are_talks
  refine fn_ok F sc (by decide) (fun cdv A outer s H E hr => ?_)
  exact (ds_one (ds_ret (de_and (de_callF [] ((H_is_sequence.up (by decide)).pure) hr (He.glo_ok X0 G (c.fact 15 (f := .glo "is_sequence") (by rfl))) (fun _ _ => .nil) (fun _ => passAt0) (da_cons (de_var 0) da_nil) (sCons_len sNil_len)) (de_and (de_lele (de_var 1) (de_len (by rfl) (He.free_ok X0 G (c.fact 72 (f := .free "len") (by rfl))) (de_var 0)) (de_globI (by rfl) (He.int_ok X0 G (c.fact 12 (f := .int "MAX_TALKS" (8)) (by rfl))))) (de_one (de_all rfl (by rfl) (He.free_ok X0 G (c.fact 65 (f := .free "all") (by rfl))) (de_lc false [("one", 2)] rfl sc.nd (di_any (de_var 0)) (blkOk_by (by kernel_rfl)) (fun _ _ _ _ _ => (dg_name 2 sc.nd)) (fun _ _ _ _ _ => dts_nil) (fun _ _ _ _ _ => (de_callF [] ((H_is_talk.up (by decide)).pure) hr (He.glo_ok X0 G (c.fact 17 (f := .glo "is_talk") (by rfl))) (fun _ _ => .nil) (fun _ => passAt0) (da_cons (de_var 2) da_nil) (sCons_len sNil_len))))))))))
theorem ok_are_talks (c : He.SaysD fa fn K) (X0 : K.In h) (G : h.Ns mainGlobals mg) : Def P w K mg base CX0 3 (He.ga K "are_talks") ["value", "least"] [] Sh.are_talks := by
  obtain ⟨fd, F⟩ := c.def_ 4 (d := d_are_talks) rfl
  exact ⟨⟨fd, [], okb_are_talks c X0 G F, F.bindsN fun _ _ _ _ _ _ us hl => match us, hl with | [_, _], _ => rfl, .nil⟩, F.kp⟩
theorem sc_is_name : FnScope ["value", "sign"] ["value"] (defScope (top 15)) := ⟨rfl, rfl, rfl, by decide +kernel, rfl, by decide +kernel, by decide +kernel⟩
theorem okb_is_name (c : He.SaysD fa fn K) (X0 : K.In h) (G : h.Ns mainGlobals mg) {fd : FuncData} (F : FunD K d_is_name.name d_is_name.qual d_is_name.params d_is_name.body d_is_name.scope (d_is_name.dvs K) (d_is_name.kws K) (He.ga K "is_name") fd) : FnOk P w K mg base CX0 1 (He.ga K "is_name") fd ["value"] (spN K 1 Sh.is_name) := by
  have sc := sc_is_name
  refine fn_ok F sc (by decide) (fun cdv A outer s H E hr => ?_)
  exact (ds_one (ds_ret (de_and (de_isi (T := "str") (by simp) (by rfl) (He.free_ok X0 G (c.fact 71 (f := .free "isinstance") (by rfl))) (by rfl) (He.free_ok X0 G (c.fact 79 (f := .free "str") (by rfl))) (by decide +kernel) (de_var 0)) (de_and (de_lele de_int (de_len (by rfl) (He.free_ok X0 G (c.fact 72 (f := .free "len") (by rfl))) (de_var 0)) (de_globI (by rfl) (He.int_ok X0 G (c.fact 9 (f := .int "MAX_NAME" (8)) (by rfl))))) (de_one (de_all rfl (by rfl) (He.free_ok X0 G (c.fact 65 (f := .free "all") (by rfl))) (de_lc false [("sign", 1)] rfl sc.nd (di_any (de_var 0)) (blkOk_by (by kernel_rfl)) (fun _ _ _ _ _ => (dg_name 1 sc.nd)) (fun _ _ _ _ _ => dts_nil) (fun _ _ _ _ _ => (de_inS (de_var 1) (de_globS (by rfl) (He.str_ok X0 G (c.fact 8 (f := .str "LETTERS" "abcdefghijklmnopqrstuvwxyz") (by rfl)))))))))))))
theorem ok_is_name (c : He.SaysD fa fn K) (X0 : K.In h) (G : h.Ns mainGlobals mg) : Def P w K mg base CX0 1 (He.ga K "is_name") ["value"] [] Sh.is_name := by
  obtain ⟨fd, F⟩ := c.def_ 2 (d := d_is_name) rfl
  exact ⟨⟨fd, [], okb_is_name c X0 G F, F.bindsN fun _ _ _ _ _ _ us hl => match us, hl with | [_], _ => rfl, .nil⟩, F.kp⟩
theorem sc_is_talker : FnScope ["value"] ["value"] (defScope (top 18)) := ⟨rfl, rfl, rfl, by decide +kernel, rfl, by decide +kernel, by decide +kernel⟩
theorem okb_is_talker (c : He.SaysD fa fn K) (X0 : K.In h) (G : h.Ns mainGlobals mg) {fd : FuncData} (F : FunD K d_is_talker.name d_is_talker.qual d_is_talker.params d_is_talker.body d_is_talker.scope (d_is_talker.dvs K) (d_is_talker.kws K) (He.ga K "is_talker") fd) : FnOk P w K mg base CX0 4 (He.ga K "is_talker") fd ["value"] (spN K 1 Sh.is_talker) := by
  have H_is_name := ok_is_name (P := P) (w := w) (base := base) c X0 G
  have H_is_sequence := ok_is_sequence (P := P) (w := w) (base := base) c X0 G
  have H_are_talks := ok_are_talks (P := P) (w := w) (base := base) c X0 G
  have H_is_integer := ok_is_integer (P := P) (w := w) (base := base) c X0 G
  have H_is_integer_all := ok_is_integer_all (P := P) (w := w) (base := base) c X0 G
  have sc := sc_is_talker
  refine fn_ok F sc (by decide) (fun cdv A outer s H E hr => ?_)
  exact (ds_cons (ds_if (DW.dt (dw_or (dt_not (dt_val (de_callF [] ((H_is_sequence.up (by decide)).pure) hr (He.glo_ok X0 G (c.fact 15 (f := .glo "is_sequence") (by rfl))) (fun _ _ => .nil) (fun _ => passAt0) (da_cons (de_var 0) da_nil) (sCons_len sNil_len)))) (dw_or (dt_ne (hu_ hr) (de_len (by rfl) (He.free_ok X0 G (c.fact 72 (f := .free "len") (by rfl))) (de_var 0)) de_int) (dw_or1 (dt_not (dt_val (de_callF [] ((H_is_name.up (by decide)).pure) hr (He.glo_ok X0 G (c.fact 16 (f := .glo "is_name") (by rfl))) (fun _ _ => .nil) (fun _ => passAt0) (da_cons (de_ix (de_var 0) de_int) da_nil) (sCons_len sNil_len)))))))) (ds_one (ds_ret de_bl)) ds_nil) (ds_one (ds_ret (de_and (de_callF [] ((H_is_integer_all.up (by decide)).pure) hr (He.glo_ok X0 G (c.fact 14 (f := .glo "is_integer") (by rfl))) (fun _ _ => .nil) (fun _ => passAt0) (da_cons (de_ix (de_var 0) de_int) (da_cons de_int (da_cons (de_globI (by rfl) (He.int_ok X0 G (c.fact 11 (f := .int "MAX_RANK" (10)) (by rfl)))) da_nil))) (sCons_len (sCons_len (sCons_len sNil_len)))) (de_and (de_callF [] ((H_are_talks.up (by decide)).pure) hr (He.glo_ok X0 G (c.fact 18 (f := .glo "are_talks") (by rfl))) (fun _ _ => .nil) (fun _ => passAt0) (da_cons (de_ix (de_var 0) de_int) (da_cons de_int da_nil)) (sCons_len (sCons_len sNil_len))) (de_one (de_callF [] ((H_are_talks.up (by decide)).pure) hr (He.glo_ok X0 G (c.fact 18 (f := .glo "are_talks") (by rfl))) (fun _ _ => .nil) (fun _ => passAt0) (da_cons (de_ix (de_var 0) de_int) (da_cons de_int da_nil)) (sCons_len (sCons_len sNil_len)))))))))
theorem ok_is_talker (c : He.SaysD fa fn K) (X0 : K.In h) (G : h.Ns mainGlobals mg) : Def P w K mg base CX0 4 (He.ga K "is_talker") ["value"] [] Sh.is_talker := by
  obtain ⟨fd, F⟩ := c.def_ 5 (d := d_is_talker) rfl
  exact ⟨⟨fd, [], okb_is_talker c X0 G F, F.bindsN fun _ _ _ _ _ _ us hl => match us, hl with | [_], _ => rfl, .nil⟩, F.kp⟩
theorem sc_is_hall : FnScope ["value", "one"] ["value"] (defScope (top 19)) := ⟨rfl, rfl, rfl, by decide +kernel, rfl, by decide +kernel, by decide +kernel⟩
theorem okb_is_hall (c : He.SaysD fa fn K) (X0 : K.In h) (G : h.Ns mainGlobals mg) {fd : FuncData} (F : FunD K d_is_hall.name d_is_hall.qual d_is_hall.params d_is_hall.body d_is_hall.scope (d_is_hall.dvs K) (d_is_hall.kws K) (He.ga K "is_hall") fd) : FnOk P w K mg base CX0 5 (He.ga K "is_hall") fd ["value"] (spN K 1 Sh.is_hall) := by
  have H_is_talker := ok_is_talker (P := P) (w := w) (base := base) c X0 G
  have H_is_sequence := ok_is_sequence (P := P) (w := w) (base := base) c X0 G
  have sc := sc_is_hall
  refine fn_ok F sc (by decide) (fun cdv A outer s H E hr => ?_)
  exact (ds_cons (ds_if (DW.dt (dw_or (dt_not (dt_val (de_callF [] ((H_is_sequence.up (by decide)).pure) hr (He.glo_ok X0 G (c.fact 15 (f := .glo "is_sequence") (by rfl))) (fun _ _ => .nil) (fun _ => passAt0) (da_cons (de_var 0) da_nil) (sCons_len sNil_len)))) (dw_or (dt_gt (de_len (by rfl) (He.free_ok X0 G (c.fact 72 (f := .free "len") (by rfl))) (de_var 0)) (de_globI (by rfl) (He.int_ok X0 G (c.fact 13 (f := .int "MAX_TALKERS" (10)) (by rfl))))) (dw_or1 (dt_not (dt_val (de_all rfl (by rfl) (He.free_ok X0 G (c.fact 65 (f := .free "all") (by rfl))) (de_lc false [("one", 1)] rfl sc.nd (di_any (de_var 0)) (blkOk_by (by kernel_rfl)) (fun _ _ _ _ _ => (dg_name 1 sc.nd)) (fun _ _ _ _ _ => dts_nil) (fun _ _ _ _ _ => (de_callF [] ((H_is_talker.up (by decide)).pure) hr (He.glo_ok X0 G (c.fact 19 (f := .glo "is_talker") (by rfl))) (fun _ _ => .nil) (fun _ => passAt0) (da_cons (de_var 1) da_nil) (sCons_len sNil_len))))))))))) (ds_one (ds_ret de_bl)) ds_nil) (ds_one (ds_ret (de_eq (hu_ hr) (de_lenset rfl (by rfl) (He.free_ok X0 G (c.fact 72 (f := .free "len") (by rfl))) (by rfl) (He.free_ok X0 G (c.fact 77 (f := .free "set") (by rfl))) (de_lc false [("one", 1)] rfl sc.nd (di_any (de_var 0)) (blkOk_by (by kernel_rfl)) (fun _ _ _ _ _ => (dg_name 1 sc.nd)) (fun _ _ _ _ _ => dts_nil) (fun _ _ _ _ _ => (de_ix (de_var 1) de_int)))) (de_len (by rfl) (He.free_ok X0 G (c.fact 72 (f := .free "len") (by rfl))) (de_var 0))))))
theorem ok_is_hall (c : He.SaysD fa fn K) (X0 : K.In h) (G : h.Ns mainGlobals mg) : Def P w K mg base CX0 5 (He.ga K "is_hall") ["value"] [] Sh.is_hall := by
  obtain ⟨fd, F⟩ := c.def_ 6 (d := d_is_hall) rfl
  exact ⟨⟨fd, [], okb_is_hall c X0 G F, F.bindsN fun _ _ _ _ _ _ us hl => match us, hl with | [_], _ => rfl, .nil⟩, F.kp⟩
theorem sc_running_sums : FnScope ["numbers", "found", "number"] ["numbers"] (defScope (top 20)) := ⟨rfl, rfl, rfl, by decide +kernel, rfl, by decide +kernel, by decide +kernel⟩
theorem okb_running_sums (c : He.SaysD fa fn K) (X0 : K.In h) (G : h.Ns mainGlobals mg) {fd : FuncData} (F : FunD K d_running_sums.name d_running_sums.qual d_running_sums.params d_running_sums.body d_running_sums.scope (d_running_sums.dvs K) (d_running_sums.kws K) (He.ga K "running_sums") fd) : FnOk P w K mg base CX0 1 (He.ga K "running_sums") fd ["numbers"] (spN K 1 Sh.running_sums) := by
  have sc := sc_running_sums
  refine fn_ok F sc (by decide) (fun cdv A outer s H E hr => ?_)
  exact (ds_cons (ds_set 1 sc.nd (de_lstO (da_cons de_int da_nil))) (ds_cons (ds_for (vs := [2]) (passes_of rfl) rfl (di_any (de_var 0)) (dg_name 2 sc.nd) (ds_one (ds_expr (de_append (de_var 1) (de_add (de_ix (de_var 1) (de_neg de_int)) (de_var 2)))))) (ds_one (ds_ret (de_frz (de_var 1))))))
theorem ok_running_sums (c : He.SaysD fa fn K) (X0 : K.In h) (G : h.Ns mainGlobals mg) : Def P w K mg base CX0 1 (He.ga K "running_sums") ["numbers"] [] Sh.running_sums := by
  obtain ⟨fd, F⟩ := c.def_ 7 (d := d_running_sums) rfl
  exact ⟨⟨fd, [], okb_running_sums c X0 G F, F.bindsN fun _ _ _ _ _ _ us hl => match us, hl with | [_], _ => rfl, .nil⟩, F.kp⟩
theorem sc_Schedule_init : FnScope ["self", "prefix", "cycle", "one"] ["self", "prefix", "cycle"] (defScope (inClass (top 21) 0)) := ⟨rfl, rfl, rfl, by decide +kernel, rfl, by decide +kernel, by decide +kernel⟩
theorem okb_Schedule_init (c : He.SaysD fa fn K) (X0 : K.In h) (G : h.Ns mainGlobals mg) {fd : FuncData} (F : FunD K d_Schedule_init.name d_Schedule_init.qual d_Schedule_init.params d_Schedule_init.body d_Schedule_init.scope (d_Schedule_init.dvs K) (d_Schedule_init.kws K) (He.ma K (He.ga K "Schedule") "__init__") fd) : FnOk P w K mg base CX0 2 (He.ma K (He.ga K "Schedule") "__init__") fd ["self", "prefix", "cycle"] (spN K 3 Sh.Schedule_init) := by
  have H_running_sums := ok_running_sums (P := P) (w := w) (base := base) c X0 G
  have sc := sc_Schedule_init
  refine fn_ok F sc (by decide) (fun cdv A outer s H E hr => ?_)
  exact (ds_cons (ds_fld (C := "Schedule") (f := "prefix") (He.noat_ok (c.fact 25 (f := .noat "Schedule" "prefix") (by rfl))) (de_var 0) (de_lc false [("one", 3)] rfl sc.nd (di_any (de_var 1)) (blkOk_by (by kernel_rfl)) (fun _ _ _ _ _ => (dg_name 3 sc.nd)) (fun _ _ _ _ _ => dts_nil) (fun _ _ _ _ _ => (de_tuple (by rfl) (He.free_ok X0 G (c.fact 81 (f := .free "tuple") (by rfl))) (de_var 3))))) (ds_cons (ds_fld (C := "Schedule") (f := "cycle") (He.noat_ok (c.fact 26 (f := .noat "Schedule" "cycle") (by rfl))) (de_var 0) (de_lc false [("one", 3)] rfl sc.nd (di_any (de_var 2)) (blkOk_by (by kernel_rfl)) (fun _ _ _ _ _ => (dg_name 3 sc.nd)) (fun _ _ _ _ _ => dts_nil) (fun _ _ _ _ _ => (de_tuple (by rfl) (He.free_ok X0 G (c.fact 81 (f := .free "tuple") (by rfl))) (de_var 3))))) (ds_cons (ds_fld (C := "Schedule") (f := "prefix_silences") (He.noat_ok (c.fact 27 (f := .noat "Schedule" "prefix_silences") (by rfl))) (de_var 0) (de_callF [] ((H_running_sums.up (by decide)).pure) hr (He.glo_ok X0 G (c.fact 21 (f := .glo "running_sums") (by rfl))) (fun _ _ => .nil) (fun _ => passAt0) (da_cons (de_lc false [("one", 3)] rfl sc.nd (di_any (de_fld (f := "prefix") (de_var 0))) (blkOk_by (by kernel_rfl)) (fun _ _ _ _ _ => (dg_name 3 sc.nd)) (fun _ _ _ _ _ => dts_nil) (fun _ _ _ _ _ => (de_ix (de_var 3) de_int))) da_nil) (sCons_len sNil_len))) (ds_cons (ds_fld (C := "Schedule") (f := "prefix_lengths") (He.noat_ok (c.fact 28 (f := .noat "Schedule" "prefix_lengths") (by rfl))) (de_var 0) (de_callF [] ((H_running_sums.up (by decide)).pure) hr (He.glo_ok X0 G (c.fact 21 (f := .glo "running_sums") (by rfl))) (fun _ _ => .nil) (fun _ => passAt0) (da_cons (de_lc false [("one", 3)] rfl sc.nd (di_any (de_fld (f := "prefix") (de_var 0))) (blkOk_by (by kernel_rfl)) (fun _ _ _ _ _ => (dg_name 3 sc.nd)) (fun _ _ _ _ _ => dts_nil) (fun _ _ _ _ _ => (de_ix (de_var 3) de_int))) da_nil) (sCons_len sNil_len))) (ds_cons (ds_fld (C := "Schedule") (f := "cycle_silences") (He.noat_ok (c.fact 29 (f := .noat "Schedule" "cycle_silences") (by rfl))) (de_var 0) (de_callF [] ((H_running_sums.up (by decide)).pure) hr (He.glo_ok X0 G (c.fact 21 (f := .glo "running_sums") (by rfl))) (fun _ _ => .nil) (fun _ => passAt0) (da_cons (de_lc false [("one", 3)] rfl sc.nd (di_any (de_fld (f := "cycle") (de_var 0))) (blkOk_by (by kernel_rfl)) (fun _ _ _ _ _ => (dg_name 3 sc.nd)) (fun _ _ _ _ _ => dts_nil) (fun _ _ _ _ _ => (de_ix (de_var 3) de_int))) da_nil) (sCons_len sNil_len))) (ds_one (ds_fld (C := "Schedule") (f := "cycle_lengths") (He.noat_ok (c.fact 30 (f := .noat "Schedule" "cycle_lengths") (by rfl))) (de_var 0) (de_callF [] ((H_running_sums.up (by decide)).pure) hr (He.glo_ok X0 G (c.fact 21 (f := .glo "running_sums") (by rfl))) (fun _ _ => .nil) (fun _ => passAt0) (da_cons (de_lc false [("one", 3)] rfl sc.nd (di_any (de_fld (f := "cycle") (de_var 0))) (blkOk_by (by kernel_rfl)) (fun _ _ _ _ _ => (dg_name 3 sc.nd)) (fun _ _ _ _ _ => dts_nil) (fun _ _ _ _ _ => (de_ix (de_var 3) de_int))) da_nil) (sCons_len sNil_len)))))))))
theorem ok_Schedule_init (c : He.SaysD fa fn K) (X0 : K.In h) (G : h.Ns mainGlobals mg) : Def P w K mg base CX0 2 (He.ma K (He.ga K "Schedule") "__init__") ["self", "prefix", "cycle"] [] Sh.Schedule_init := by
  obtain ⟨fd, F⟩ := c.def_ 8 (d := d_Schedule_init) rfl
  exact ⟨⟨fd, [], okb_Schedule_init c X0 G F, F.bindsN fun _ _ _ _ _ _ us hl => match us, hl with | [_, _, _], _ => rfl, .nil⟩, F.kp⟩
theorem sc_Member_init : FnScope ["self", "talker"] ["self", "talker"] (defScope (inClass (top 22) 0)) := ⟨rfl, rfl, rfl, by decide +kernel, rfl, by decide +kernel, by decide +kernel⟩
theorem okb_Member_init (c : He.SaysD fa fn K) (X0 : K.In h) (G : h.Ns mainGlobals mg) {fd : FuncData} (F : FunD K d_Member_init.name d_Member_init.qual d_Member_init.params d_Member_init.body d_Member_init.scope (d_Member_init.dvs K) (d_Member_init.kws K) (He.ma K (He.ga K "Member") "__init__") fd) : FnOk P w K mg base CX0 4 (He.ma K (He.ga K "Member") "__init__") fd ["self", "talker"] (spN K 2 Sh.Member_init) := by
  have H_Schedule_init := ok_Schedule_init (P := P) (w := w) (base := base) c X0 G
  have sc := sc_Member_init
  refine fn_ok F sc (by decide) (fun cdv A outer s H E hr => ?_)
  exact (ds_cons (ds_fld (C := "Member") (f := "name") (He.noat_ok (c.fact 37 (f := .noat "Member" "name") (by rfl))) (de_var 0) (de_ix (de_var 1) de_int)) (ds_cons (ds_fld (C := "Member") (f := "rank") (He.noat_ok (c.fact 38 (f := .noat "Member" "rank") (by rfl))) (de_var 0) (de_ix (de_var 1) de_int)) (ds_one (ds_fld (C := "Member") (f := "schedule") (He.noat_ok (c.fact 39 (f := .noat "Member" "schedule") (by rfl))) (de_var 0) (de_makeF (C := "Schedule") (He.mkr_ok (c.fact 24 (f := .mkr "Schedule") (by rfl))) (He.cls_ok (c.fact 23 (f := .cls "Schedule") (by rfl))) H_Schedule_init (hr.mono (by decide)) (He.glo_ok X0 G (c.fact 22 (f := .glo "Schedule") (by rfl))) (da_cons (de_ix (de_var 1) de_int) (da_cons (de_ix (de_var 1) de_int) da_nil)) (sCons_len (sCons_len sNil_len)))))))
theorem ok_Member_init (c : He.SaysD fa fn K) (X0 : K.In h) (G : h.Ns mainGlobals mg) : Def P w K mg base CX0 4 (He.ma K (He.ga K "Member") "__init__") ["self", "talker"] [] Sh.Member_init := by
  obtain ⟨fd, F⟩ := c.def_ 12 (d := d_Member_init) rfl
  exact ⟨⟨fd, [], okb_Member_init c X0 G F, F.bindsN fun _ _ _ _ _ _ us hl => match us, hl with | [_, _], _ => rfl, .nil⟩, F.kp⟩
theorem sc_checked_hall : FnScope ["hall", "talker"] ["hall"] (defScope (top 23)) := ⟨rfl, rfl, rfl, by decide +kernel, rfl, by decide +kernel, by decide +kernel⟩
theorem okb_checked_hall (c : He.SaysD fa fn K) (X0 : K.In h) (G : h.Ns mainGlobals mg) {fd : FuncData} (F : FunD K d_checked_hall.name d_checked_hall.qual d_checked_hall.params d_checked_hall.body d_checked_hall.scope (d_checked_hall.dvs K) (d_checked_hall.kws K) (He.ga K "checked_hall") fd) : FnOk P w K mg base (L2.CX P w) 6 (He.ga K "checked_hall") fd ["hall"] (spN K 1 Sh.checked_hall) := by
  have H_is_hall := ok_is_hall (P := P) (w := w) (base := base) c X0 G
  have H_Member_init := ok_Member_init (P := P) (w := w) (base := base) c X0 G
  have sc := sc_checked_hall
  refine fn_ok F sc (by decide) (fun cdv A outer s H E hr => ?_)
  exact (ds_cons (ds_if (dt_not (dt_val (de_callF [] ((H_is_hall.up (by decide)).pure) hr (He.glo_ok X0 G (c.fact 20 (f := .glo "is_hall") (by rfl))) (fun _ _ => .nil) (fun _ => passAt0) (da_cons (de_var 0) da_nil) (sCons_len sNil_len)))) (ds_one (ds_raise (C := "InvalidHall") (takes_of rfl rfl rfl rfl) rfl (He.exc_ok (c.fact 3 (f := .exc "InvalidHall") (by rfl))).1 (He.exc_ok (c.fact 3 (f := .exc "InvalidHall") (by rfl))).2.1 (He.exc_ok (c.fact 3 (f := .exc "InvalidHall") (by rfl))).2.2.1 (He.exc_ok (c.fact 3 (f := .exc "InvalidHall") (by rfl))).2.2.2 (He.glo_ok X0 G (c.fact 2 (f := .glo "InvalidHall") (by rfl))) (by rfl))) ds_nil) (ds_one (ds_ret (de_lc false [("talker", 1)] rfl sc.nd (di_any (de_var 0)) (blkOk_by (by kernel_rfl)) (fun _ _ _ _ _ => (dg_name 1 sc.nd)) (fun _ _ _ _ _ => dts_nil) (fun _ _ _ _ _ => (de_makeF (C := "Member") (He.mkr_ok (c.fact 36 (f := .mkr "Member") (by rfl))) (He.cls_ok (c.fact 35 (f := .cls "Member") (by rfl))) H_Member_init (hr.mono (by decide)) (He.glo_ok X0 G (c.fact 34 (f := .glo "Member") (by rfl))) (da_cons (de_var 1) da_nil) (sCons_len sNil_len)))))))
theorem ok_checked_hall (c : He.SaysD fa fn K) (X0 : K.In h) (G : h.Ns mainGlobals mg) : Def P w K mg base (L2.CX P w) 6 (He.ga K "checked_hall") ["hall"] [] Sh.checked_hall := by
  obtain ⟨fd, F⟩ := c.def_ 13 (d := d_checked_hall) rfl
  exact ⟨⟨fd, [], okb_checked_hall c X0 G F, F.bindsN fun _ _ _ _ _ _ us hl => match us, hl with | [_], _ => rfl, .nil⟩, F.kp⟩
theorem sc_check_rank : FnScope ["value"] ["value"] (defScope (top 25)) := ⟨rfl, rfl, rfl, by decide +kernel, rfl, by decide +kernel, by decide +kernel⟩
theorem okb_check_rank (c : He.SaysD fa fn K) (X0 : K.In h) (G : h.Ns mainGlobals mg) {fd : FuncData} (F : FunD K d_check_rank.name d_check_rank.qual d_check_rank.params d_check_rank.body d_check_rank.scope (d_check_rank.dvs K) (d_check_rank.kws K) (He.ga K "check_rank") fd) : FnOk P w K mg base (L2.CX P w) 2 (He.ga K "check_rank") fd ["value"] (spN K 1 Sh.check_rank) := by
  have H_is_integer := ok_is_integer (P := P) (w := w) (base := base) c X0 G
  have H_is_integer_all := ok_is_integer_all (P := P) (w := w) (base := base) c X0 G
  have sc := sc_check_rank
  refine fn_ok F sc (by decide) (fun cdv A outer s H E hr => ?_)
  exact (ds_one (ds_if (dt_not (dt_val (de_callF [] ((H_is_integer_all.up (by decide)).pure) hr (He.glo_ok X0 G (c.fact 14 (f := .glo "is_integer") (by rfl))) (fun _ _ => .nil) (fun _ => passAt0) (da_cons (de_var 0) (da_cons de_int (da_cons (de_globI (by rfl) (He.int_ok X0 G (c.fact 11 (f := .int "MAX_RANK" (10)) (by rfl)))) da_nil))) (sCons_len (sCons_len (sCons_len sNil_len)))))) (ds_one (ds_raise (C := "InvalidRank") (takes_of rfl rfl rfl rfl) rfl (He.exc_ok (c.fact 7 (f := .exc "InvalidRank") (by rfl))).1 (He.exc_ok (c.fact 7 (f := .exc "InvalidRank") (by rfl))).2.1 (He.exc_ok (c.fact 7 (f := .exc "InvalidRank") (by rfl))).2.2.1 (He.exc_ok (c.fact 7 (f := .exc "InvalidRank") (by rfl))).2.2.2 (He.glo_ok X0 G (c.fact 6 (f := .glo "InvalidRank") (by rfl))) (by rfl))) ds_nil))
theorem ok_check_rank (c : He.SaysD fa fn K) (X0 : K.In h) (G : h.Ns mainGlobals mg) : Def P w K mg base (L2.CX P w) 2 (He.ga K "check_rank") ["value"] [] Sh.check_rank := by
  obtain ⟨fd, F⟩ := c.def_ 14 (d := d_check_rank) rfl
  exact ⟨⟨fd, [], okb_check_rank c X0 G F, F.bindsN fun _ _ _ _ _ _ us hl => match us, hl with | [_], _ => rfl, .nil⟩, F.kp⟩
theorem sc_checked : FnScope ["hall", "rank", "members"] ["hall", "rank"] (defScope (top 31)) := ⟨rfl, rfl, rfl, by decide +kernel, rfl, by decide +kernel, by decide +kernel⟩
theorem okb_checked (c : He.SaysD fa fn K) (X0 : K.In h) (G : h.Ns mainGlobals mg) {fd : FuncData} (F : FunD K d_checked.name d_checked.qual d_checked.params d_checked.body d_checked.scope (d_checked.dvs K) (d_checked.kws K) (He.ga K "checked") fd) : FnOk P w K mg base (L2.CX P w) 7 (He.ga K "checked") fd ["hall", "rank"] (spN K 2 Sh.checked) := by
  have H_checked_hall := ok_checked_hall (P := P) (w := w) (base := base) c X0 G
  have H_check_rank := ok_check_rank (P := P) (w := w) (base := base) c X0 G
  have sc := sc_checked
  refine fn_ok F sc (by decide) (fun cdv A outer s H E hr => ?_)
  exact (ds_cons (ds_set 2 sc.nd (de_callF [] ((H_checked_hall.up (by decide)).pure) hr (He.glo_ok X0 G (c.fact 40 (f := .glo "checked_hall") (by rfl))) (fun _ _ => .nil) (fun s_ => passAt (takes_of rfl rfl rfl rfl) s_) (da_cons (de_var 0) da_nil) (sCons_len sNil_len))) (ds_cons (ds_expr (de_callF [] ((H_check_rank.up (by decide)).pure) hr (He.glo_ok X0 G (c.fact 41 (f := .glo "check_rank") (by rfl))) (fun _ _ => .nil) (fun s_ => passAt (takes_of rfl rfl rfl rfl) s_) (da_cons (de_var 1) da_nil) (sCons_len sNil_len))) (ds_one (ds_ret (de_var 2)))))
theorem ok_checked (c : He.SaysD fa fn K) (X0 : K.In h) (G : h.Ns mainGlobals mg) : Def P w K mg base (L2.CX P w) 7 (He.ga K "checked") ["hall", "rank"] [] Sh.checked := by
  obtain ⟨fd, F⟩ := c.def_ 20 (d := d_checked) rfl
  exact ⟨⟨fd, [], okb_checked c X0 G F, F.bindsN fun _ _ _ _ _ _ us hl => match us, hl with | [_, _], _ => rfl, .nil⟩, F.kp⟩
theorem sc_check_tick : FnScope ["value"] ["value"] (defScope (top 26)) := ⟨rfl, rfl, rfl, by decide +kernel, rfl, by decide +kernel, by decide +kernel⟩
theorem okb_check_tick (c : He.SaysD fa fn K) (X0 : K.In h) (G : h.Ns mainGlobals mg) {fd : FuncData} (F : FunD K d_check_tick.name d_check_tick.qual d_check_tick.params d_check_tick.body d_check_tick.scope (d_check_tick.dvs K) (d_check_tick.kws K) (He.ga K "check_tick") fd) : FnOk P w K mg base (L2.CX P w) 2 (He.ga K "check_tick") fd ["value"] (spN K 1 Sh.check_tick) := by
  have H_is_integer := ok_is_integer (P := P) (w := w) (base := base) c X0 G
  have H_is_integer_all := ok_is_integer_all (P := P) (w := w) (base := base) c X0 G
  have sc := sc_check_tick
  refine fn_ok F sc (by decide) (fun cdv A outer s H E hr => ?_)
  exact (ds_one (ds_if (dt_not (dt_val (de_callF [.non] ((H_is_integer.up (by decide)).pure) hr (He.glo_ok X0 G (c.fact 14 (f := .glo "is_integer") (by rfl))) (fun _ _ => .cons .non (.nil)) (fun _ => passAt0) (da_cons (de_var 0) (da_cons de_int da_nil)) (sCons_len (sCons_len sNil_len))))) (ds_one (ds_raise (C := "InvalidTick") (takes_of rfl rfl rfl rfl) rfl (He.exc_ok (c.fact 5 (f := .exc "InvalidTick") (by rfl))).1 (He.exc_ok (c.fact 5 (f := .exc "InvalidTick") (by rfl))).2.1 (He.exc_ok (c.fact 5 (f := .exc "InvalidTick") (by rfl))).2.2.1 (He.exc_ok (c.fact 5 (f := .exc "InvalidTick") (by rfl))).2.2.2 (He.glo_ok X0 G (c.fact 4 (f := .glo "InvalidTick") (by rfl))) (by rfl))) ds_nil))
theorem ok_check_tick (c : He.SaysD fa fn K) (X0 : K.In h) (G : h.Ns mainGlobals mg) : Def P w K mg base (L2.CX P w) 2 (He.ga K "check_tick") ["value"] [] Sh.check_tick := by
  obtain ⟨fd, F⟩ := c.def_ 15 (d := d_check_tick) rfl
  exact ⟨⟨fd, [], okb_check_tick c X0 G F, F.bindsN fun _ _ _ _ _ _ us hl => match us, hl with | [_], _ => rfl, .nil⟩, F.kp⟩
theorem sc_Schedule_sum_of_first : FnScope ["self", "many", "prefix_sums", "cycle_sums", "rounds", "rest"] ["self", "many", "prefix_sums", "cycle_sums"] (defScope (inClass (top 21) 2)) := ⟨rfl, rfl, rfl, by decide +kernel, rfl, by decide +kernel, by decide +kernel⟩
theorem okb_Schedule_sum_of_first (c : He.SaysD fa fn K) (X0 : K.In h) (G : h.Ns mainGlobals mg) {fd : FuncData} (F : FunD K d_Schedule_sum_of_first.name d_Schedule_sum_of_first.qual d_Schedule_sum_of_first.params d_Schedule_sum_of_first.body d_Schedule_sum_of_first.scope (d_Schedule_sum_of_first.dvs K) (d_Schedule_sum_of_first.kws K) (He.ma K (He.ga K "Schedule") "sum_of_first") fd) : FnOk P w K mg base CX0 1 (He.ma K (He.ga K "Schedule") "sum_of_first") fd ["self", "many", "prefix_sums", "cycle_sums"] (spN K 4 Sh.Schedule_sum_of_first) := by
  have sc := sc_Schedule_sum_of_first
  refine fn_ok F sc (by decide) (fun cdv A outer s H E hr => ?_)
  exact (ds_cons (ds_if (dt_le (de_var 1) (de_len (by rfl) (He.free_ok X0 G (c.fact 72 (f := .free "len") (by rfl))) (de_fld (f := "prefix") (de_var 0)))) (ds_one (ds_ret (de_ix (de_var 2) (de_var 1)))) ds_nil) (ds_cons (ds_asg (vs := [4, 5]) (de_divmod (by rfl) (He.free_ok X0 G (c.fact 68 (f := .free "divmod") (by rfl))) (de_sub (de_var 1) (de_len (by rfl) (He.free_ok X0 G (c.fact 72 (f := .free "len") (by rfl))) (de_fld (f := "prefix") (de_var 0)))) (de_len (by rfl) (He.free_ok X0 G (c.fact 72 (f := .free "len") (by rfl))) (de_fld (f := "cycle") (de_var 0)))) (dg_tup (n := 2) rfl (dg_cons (dg_name 4 sc.nd) (dg_cons (dg_name 5 sc.nd) dg_nil)) rfl (pg_tup rfl (dg_cons (dg_name 4 sc.nd) (dg_cons (dg_name 5 sc.nd) dg_nil))) (pg_lst rfl (dg_cons (dg_name 4 sc.nd) (dg_cons (dg_name 5 sc.nd) dg_nil))))) (ds_one (ds_ret (de_add (de_add (de_ix (de_var 2) (de_neg de_int)) (de_mul (de_var 4) (de_ix (de_var 3) (de_neg de_int)))) (de_ix (de_var 3) (de_var 5)))))))
theorem ok_Schedule_sum_of_first (c : He.SaysD fa fn K) (X0 : K.In h) (G : h.Ns mainGlobals mg) : Def P w K mg base CX0 1 (He.ma K (He.ga K "Schedule") "sum_of_first") ["self", "many", "prefix_sums", "cycle_sums"] [] Sh.Schedule_sum_of_first := by
  obtain ⟨fd, F⟩ := c.def_ 9 (d := d_Schedule_sum_of_first) rfl
  exact ⟨⟨fd, [], okb_Schedule_sum_of_first c X0 G F, F.bindsN fun _ _ _ _ _ _ us hl => match us, hl with | [_, _, _, _], _ => rfl, .nil⟩, F.kp⟩
theorem sc_Schedule_count_ready : FnScope ["self", "quiet", "total", "rounds", "rest", "found"] ["self", "quiet"] (defScope (inClass (top 21) 4)) := ⟨rfl, rfl, rfl, by decide +kernel, rfl, by decide +kernel, by decide +kernel⟩
theorem okb_Schedule_count_ready (c : He.SaysD fa fn K) (X0 : K.In h) (G : h.Ns mainGlobals mg) {fd : FuncData} (F : FunD K d_Schedule_count_ready.name d_Schedule_count_ready.qual d_Schedule_count_ready.params d_Schedule_count_ready.body d_Schedule_count_ready.scope (d_Schedule_count_ready.dvs K) (d_Schedule_count_ready.kws K) (He.ma K (He.ga K "Schedule") "count_ready") fd) : FnOk P w K mg base CX0 1 (He.ma K (He.ga K "Schedule") "count_ready") fd ["self", "quiet"] (spN K 2 Sh.Schedule_count_ready) := by
  have sc := sc_Schedule_count_ready
  refine fn_ok F sc (by decide) (fun cdv A outer s H E hr => ?_)
  exact (ds_cons (ds_if (dt_lt (de_var 1) (de_ix (de_fld (f := "prefix_silences") (de_var 0)) (de_neg de_int))) (ds_one (ds_ret (de_len (by rfl) (He.free_ok X0 G (c.fact 72 (f := .free "len") (by rfl))) (de_lc false [("total", 2)] rfl sc.nd (di_any (de_cut false (de_fld (f := "prefix_silences") (de_var 0)) (do_some de_int) do_none)) (blkOk_by (by kernel_rfl)) (fun _ _ _ _ _ => (dg_name 2 sc.nd)) (fun _ _ _ _ _ => (dts_one (dt_le (de_var 2) (de_var 1)))) (fun _ _ _ _ _ => (de_var 2)))))) ds_nil) (ds_cons (ds_asg (vs := [3, 4]) (de_divmod (by rfl) (He.free_ok X0 G (c.fact 68 (f := .free "divmod") (by rfl))) (de_sub (de_var 1) (de_ix (de_fld (f := "prefix_silences") (de_var 0)) (de_neg de_int))) (de_ix (de_fld (f := "cycle_silences") (de_var 0)) (de_neg de_int))) (dg_tup (n := 2) rfl (dg_cons (dg_name 3 sc.nd) (dg_cons (dg_name 4 sc.nd) dg_nil)) rfl (pg_tup rfl (dg_cons (dg_name 3 sc.nd) (dg_cons (dg_name 4 sc.nd) dg_nil))) (pg_lst rfl (dg_cons (dg_name 3 sc.nd) (dg_cons (dg_name 4 sc.nd) dg_nil))))) (ds_cons (ds_set 5 sc.nd (de_add (de_len (by rfl) (He.free_ok X0 G (c.fact 72 (f := .free "len") (by rfl))) (de_fld (f := "prefix") (de_var 0))) (de_mul (de_var 3) (de_len (by rfl) (He.free_ok X0 G (c.fact 72 (f := .free "len") (by rfl))) (de_fld (f := "cycle") (de_var 0)))))) (ds_one (ds_ret (de_add (de_var 5) (de_len (by rfl) (He.free_ok X0 G (c.fact 72 (f := .free "len") (by rfl))) (de_lc false [("total", 2)] rfl sc.nd (di_any (de_cut false (de_fld (f := "cycle_silences") (de_var 0)) (do_some de_int) do_none)) (blkOk_by (by kernel_rfl)) (fun _ _ _ _ _ => (dg_name 2 sc.nd)) (fun _ _ _ _ _ => (dts_one (dt_le (de_var 2) (de_var 4)))) (fun _ _ _ _ _ => (de_var 2))))))))))
theorem ok_Schedule_count_ready (c : He.SaysD fa fn K) (X0 : K.In h) (G : h.Ns mainGlobals mg) : Def P w K mg base CX0 1 (He.ma K (He.ga K "Schedule") "count_ready") ["self", "quiet"] [] Sh.Schedule_count_ready := by
  obtain ⟨fd, F⟩ := c.def_ 10 (d := d_Schedule_count_ready) rfl
  exact ⟨⟨fd, [], okb_Schedule_count_ready c X0 G F, F.bindsN fun _ _ _ _ _ _ us hl => match us, hl with | [_, _], _ => rfl, .nil⟩, F.kp⟩
theorem sc_Schedule_length_ready : FnScope ["self", "quiet"] ["self", "quiet"] (defScope (inClass (top 21) 5)) := ⟨rfl, rfl, rfl, by decide +kernel, rfl, by decide +kernel, by decide +kernel⟩
theorem okb_Schedule_length_ready (c : He.SaysD fa fn K) (X0 : K.In h) (G : h.Ns mainGlobals mg) {fd : FuncData} (F : FunD K d_Schedule_length_ready.name d_Schedule_length_ready.qual d_Schedule_length_ready.params d_Schedule_length_ready.body d_Schedule_length_ready.scope (d_Schedule_length_ready.dvs K) (d_Schedule_length_ready.kws K) (He.ma K (He.ga K "Schedule") "length_ready") fd) : FnOk P w K mg base CX0 2 (He.ma K (He.ga K "Schedule") "length_ready") fd ["self", "quiet"] (spN K 2 Sh.Schedule_length_ready) := by
  have H_Schedule_sum_of_first := ok_Schedule_sum_of_first (P := P) (w := w) (base := base) c X0 G
  have H_Schedule_count_ready := ok_Schedule_count_ready (P := P) (w := w) (base := base) c X0 G
  have sc := sc_Schedule_length_ready
  refine fn_ok F sc (by decide) (fun cdv A outer s H E hr => ?_)
  exact (ds_one (ds_ret (de_methF (C := "Schedule") (mt := "sum_of_first") _ (He.cls_ok (c.fact 23 (f := .cls "Schedule") (by rfl))) (He.meth_ok (c.fact 31 (f := .meth "Schedule" "sum_of_first") (by rfl))) ((H_Schedule_sum_of_first.up (by decide)).pure) hr (de_var 0) (da_cons (de_methF (C := "Schedule") (mt := "count_ready") _ (He.cls_ok (c.fact 23 (f := .cls "Schedule") (by rfl))) (He.meth_ok (c.fact 32 (f := .meth "Schedule" "count_ready") (by rfl))) ((H_Schedule_count_ready.up (by decide)).pure) hr (de_var 0) (da_cons (de_var 1) da_nil) (sCons_len sNil_len)) (da_cons (de_fld (f := "prefix_lengths") (de_var 0)) (da_cons (de_fld (f := "cycle_lengths") (de_var 0)) da_nil))) (sCons_len (sCons_len (sCons_len sNil_len))))))
theorem ok_Schedule_length_ready (c : He.SaysD fa fn K) (X0 : K.In h) (G : h.Ns mainGlobals mg) : Def P w K mg base CX0 2 (He.ma K (He.ga K "Schedule") "length_ready") ["self", "quiet"] [] Sh.Schedule_length_ready := by
  obtain ⟨fd, F⟩ := c.def_ 11 (d := d_Schedule_length_ready) rfl
  exact ⟨⟨fd, [], okb_Schedule_length_ready c X0 G F, F.bindsN fun _ _ _ _ _ _ us hl => match us, hl with | [_, _], _ => rfl, .nil⟩, F.kp⟩
theorem sc_rank_length : FnScope ["members", "rank", "quiet", "member"] ["members", "rank", "quiet"] (defScope (top 27)) := ⟨rfl, rfl, rfl, by decide +kernel, rfl, by decide +kernel, by decide +kernel⟩
theorem okb_rank_length (c : He.SaysD fa fn K) (X0 : K.In h) (G : h.Ns mainGlobals mg) {fd : FuncData} (F : FunD K d_rank_length.name d_rank_length.qual d_rank_length.params d_rank_length.body d_rank_length.scope (d_rank_length.dvs K) (d_rank_length.kws K) (He.ga K "rank_length") fd) : FnOk P w K mg base CX0 3 (He.ga K "rank_length") fd ["members", "rank", "quiet"] (spN K 3 Sh.rank_length) := by
  have H_Schedule_length_ready := ok_Schedule_length_ready (P := P) (w := w) (base := base) c X0 G
  have sc := sc_rank_length
  refine fn_ok F sc (by decide) (fun cdv A outer s H E hr => ?_)
  exact (ds_one (ds_ret (de_sum rfl (by rfl) (He.free_ok X0 G (c.fact 80 (f := .free "sum") (by rfl))) (de_lc false [("member", 3)] rfl sc.nd (di_any (de_var 0)) (blkOk_by (by kernel_rfl)) (fun _ _ _ _ _ => (dg_name 3 sc.nd)) (fun _ _ _ _ _ => (dts_one (dt_eq (hu_ hr) (de_fld (f := "rank") (de_var 3)) (de_var 1)))) (fun _ _ _ _ _ => (de_methF (C := "Schedule") (mt := "length_ready") _ (He.cls_ok (c.fact 23 (f := .cls "Schedule") (by rfl))) (He.meth_ok (c.fact 33 (f := .meth "Schedule" "length_ready") (by rfl))) ((H_Schedule_length_ready.up (by decide)).pure) hr (de_fld (f := "schedule") (de_var 3)) (da_cons (de_var 2) da_nil) (sCons_len sNil_len)))))))
theorem ok_rank_length (c : He.SaysD fa fn K) (X0 : K.In h) (G : h.Ns mainGlobals mg) : Def P w K mg base CX0 3 (He.ga K "rank_length") ["members", "rank", "quiet"] [] Sh.rank_length := by
  obtain ⟨fd, F⟩ := c.def_ 16 (d := d_rank_length) rfl
  exact ⟨⟨fd, [], okb_rank_length c X0 G F, F.bindsN fun _ _ _ _ _ _ us hl => match us, hl with | [_, _, _], _ => rfl, .nil⟩, F.kp⟩
theorem sc_left_index : FnScope ["members", "rank", "quiet"] ["members", "rank", "quiet"] (defScope (top 28)) := ⟨rfl, rfl, rfl, by decide +kernel, rfl, by decide +kernel, by decide +kernel⟩
theorem okb_left_index (c : He.SaysD fa fn K) (X0 : K.In h) (G : h.Ns mainGlobals mg) {fd : FuncData} (F : FunD K d_left_index.name d_left_index.qual d_left_index.params d_left_index.body d_left_index.scope (d_left_index.dvs K) (d_left_index.kws K) (He.ga K "left_index") fd) : FnOk P w K mg base CX0 4 (He.ga K "left_index") fd ["members", "rank", "quiet"] (spN K 3 Sh.left_index) := by
  have H_rank_length := ok_rank_length (P := P) (w := w) (base := base) c X0 G
  have sc := sc_left_index
  refine fn_ok F sc (by decide) (fun cdv A outer s H E hr => ?_)
  exact (ds_one (ds_ret (de_add (de_var 2) (de_callF [] ((H_rank_length.up (by decide)).pure) hr (He.glo_ok X0 G (c.fact 43 (f := .glo "rank_length") (by rfl))) (fun _ _ => .nil) (fun _ => passAt0) (da_cons (de_var 0) (da_cons (de_var 1) (da_cons (de_var 2) da_nil))) (sCons_len (sCons_len (sCons_len sNil_len)))))))
theorem ok_left_index (c : He.SaysD fa fn K) (X0 : K.In h) (G : h.Ns mainGlobals mg) : Def P w K mg base CX0 4 (He.ga K "left_index") ["members", "rank", "quiet"] [] Sh.left_index := by
  obtain ⟨fd, F⟩ := c.def_ 17 (d := d_left_index) rfl
  exact ⟨⟨fd, [], okb_left_index c X0 G F, F.bindsN fun _ _ _ _ _ _ us hl => match us, hl with | [_, _, _], _ => rfl, .nil⟩, F.kp⟩
theorem sc_quiet_among : FnScope ["members", "rank", "left", "low", "high", "middle"] ["members", "rank", "left"] (defScope (top 29)) := ⟨rfl, rfl, rfl, by decide +kernel, rfl, by decide +kernel, by decide +kernel⟩
theorem okb_quiet_among (c : He.SaysD fa fn K) (X0 : K.In h) (G : h.Ns mainGlobals mg) {fd : FuncData} (F : FunD K d_quiet_among.name d_quiet_among.qual d_quiet_among.params d_quiet_among.body d_quiet_among.scope (d_quiet_among.dvs K) (d_quiet_among.kws K) (He.ga K "quiet_among") fd) : FnOk P w K mg base CX0 5 (He.ga K "quiet_among") fd ["members", "rank", "left"] (spN K 3 Sh.quiet_among) := by
  have H_left_index := ok_left_index (P := P) (w := w) (base := base) c X0 G
  have sc := sc_quiet_among
  refine fn_ok F sc (by decide) (fun cdv A outer s H E hr => ?_)
  exact (ds_cons (ds_par (i := 3) (j := 4) rfl sc.nd (da_cons de_int (da_cons (de_var 2) da_nil))) (ds_cons (ds_whileA (passes_of rfl) (dt_lt (de_var 3) (de_var 4)) (ds_cons (ds_set 5 sc.nd (de_div (de_add (de_var 3) (de_var 4)) de_int)) (ds_one (ds_if (dt_lt (de_callF [] ((H_left_index.up (by decide)).pure) hr (He.glo_ok X0 G (c.fact 44 (f := .glo "left_index") (by rfl))) (fun _ _ => .nil) (fun _ => passAt0) (da_cons (de_var 0) (da_cons (de_var 1) (da_cons (de_var 5) da_nil))) (sCons_len (sCons_len (sCons_len sNil_len)))) (de_var 2)) (ds_one (ds_set 3 sc.nd (de_add (de_var 5) de_int))) (ds_one (ds_set 4 sc.nd (de_var 5))))))) (ds_one (ds_ret (de_var 3)))))
theorem ok_quiet_among (c : He.SaysD fa fn K) (X0 : K.In h) (G : h.Ns mainGlobals mg) : Def P w K mg base CX0 5 (He.ga K "quiet_among") ["members", "rank", "left"] [] Sh.quiet_among := by
  obtain ⟨fd, F⟩ := c.def_ 18 (d := d_quiet_among) rfl
  exact ⟨⟨fd, [], okb_quiet_among c X0 G F, F.bindsN fun _ _ _ _ _ _ us hl => match us, hl with | [_, _, _], _ => rfl, .nil⟩, F.kp⟩
theorem sc_left_among : FnScope ["members", "rank", "tick", "left", "higher"] ["members", "rank", "tick"] (defScope (top 30)) := ⟨rfl, rfl, rfl, by decide +kernel, rfl, by decide +kernel, by decide +kernel⟩
theorem okb_left_among (c : He.SaysD fa fn K) (X0 : K.In h) (G : h.Ns mainGlobals mg) {fd : FuncData} (F : FunD K d_left_among.name d_left_among.qual d_left_among.params d_left_among.body d_left_among.scope (d_left_among.dvs K) (d_left_among.kws K) (He.ga K "left_among") fd) : FnOk P w K mg base CX0 6 (He.ga K "left_among") fd ["members", "rank", "tick"] (spN K 3 Sh.left_among) := by
  have H_quiet_among := ok_quiet_among (P := P) (w := w) (base := base) c X0 G
  have sc := sc_left_among
  refine fn_ok F sc (by decide) (fun cdv A outer s H E hr => ?_)
  exact (ds_cons (ds_set 3 sc.nd (de_var 2)) (ds_cons (ds_for (vs := [4]) (passes_of rfl) rfl (di_rng2 (by rfl) (He.free_ok X0 G (c.fact 76 (f := .free "range") (by rfl))) de_int (de_var 1)) (dg_name 4 sc.nd) (ds_one (ds_set 3 sc.nd (de_callF [] ((H_quiet_among.up (by decide)).pure) hr (He.glo_ok X0 G (c.fact 45 (f := .glo "quiet_among") (by rfl))) (fun _ _ => .nil) (fun _ => passAt0) (da_cons (de_var 0) (da_cons (de_var 4) (da_cons (de_var 3) da_nil))) (sCons_len (sCons_len (sCons_len sNil_len))))))) (ds_one (ds_ret (de_var 3)))))
theorem ok_left_among (c : He.SaysD fa fn K) (X0 : K.In h) (G : h.Ns mainGlobals mg) : Def P w K mg base CX0 6 (He.ga K "left_among") ["members", "rank", "tick"] [] Sh.left_among := by
  obtain ⟨fd, F⟩ := c.def_ 19 (d := d_left_among) rfl
  exact ⟨⟨fd, [], okb_left_among c X0 G F, F.bindsN fun _ _ _ _ _ _ us hl => match us, hl with | [_, _, _], _ => rfl, .nil⟩, F.kp⟩
theorem sc_left_before : FnScope ["hall", "rank", "tick", "members"] ["hall", "rank", "tick"] (defScope (top 32)) := ⟨rfl, rfl, rfl, by decide +kernel, rfl, by decide +kernel, by decide +kernel⟩
theorem okb_left_before (c : He.SaysD fa fn K) (X0 : K.In h) (G : h.Ns mainGlobals mg) {fd : FuncData} (F : FunD K d_left_before.name d_left_before.qual d_left_before.params d_left_before.body d_left_before.scope (d_left_before.dvs K) (d_left_before.kws K) (He.ga K "left_before") fd) : FnOk P w K mg base (L2.CX P w) 8 (He.ga K "left_before") fd ["hall", "rank", "tick"] (spN K 3 Sh.left_before) := by
  have H_checked := ok_checked (P := P) (w := w) (base := base) c X0 G
  have H_check_tick := ok_check_tick (P := P) (w := w) (base := base) c X0 G
  have H_left_among := ok_left_among (P := P) (w := w) (base := base) c X0 G
  have sc := sc_left_before
  refine fn_ok F sc (by decide) (fun cdv A outer s H E hr => ?_)
  exact (ds_cons (ds_set 3 sc.nd (de_callF [] ((H_checked.up (by decide)).pure) hr (He.glo_ok X0 G (c.fact 47 (f := .glo "checked") (by rfl))) (fun _ _ => .nil) (fun s_ => passAt (takes_of rfl rfl rfl rfl) s_) (da_cons (de_var 0) (da_cons (de_var 1) da_nil)) (sCons_len (sCons_len sNil_len)))) (ds_cons (ds_expr (de_callF [] ((H_check_tick.up (by decide)).pure) hr (He.glo_ok X0 G (c.fact 42 (f := .glo "check_tick") (by rfl))) (fun _ _ => .nil) (fun s_ => passAt (takes_of rfl rfl rfl rfl) s_) (da_cons (de_var 2) da_nil) (sCons_len sNil_len))) (ds_one (ds_ret (de_callF [] ((H_left_among.up (by decide)).pure) hr (He.glo_ok X0 G (c.fact 46 (f := .glo "left_among") (by rfl))) (fun _ _ => .nil) (fun _ => passAt0) (da_cons (de_var 3) (da_cons (de_var 1) (da_cons (de_var 2) da_nil))) (sCons_len (sCons_len (sCons_len sNil_len))))))))
theorem ok_left_before (c : He.SaysD fa fn K) (X0 : K.In h) (G : h.Ns mainGlobals mg) : Def P w K mg base (L2.CX P w) 8 (He.ga K "left_before") ["hall", "rank", "tick"] [] Sh.left_before := by
  obtain ⟨fd, F⟩ := c.def_ 21 (d := d_left_before) rfl
  exact ⟨⟨fd, [], okb_left_before c X0 G F, F.bindsN fun _ _ _ _ _ _ us hl => match us, hl with | [_, _, _], _ => rfl, .nil⟩, F.kp⟩
theorem sc_quiet_before : FnScope ["hall", "rank", "tick", "members"] ["hall", "rank", "tick"] (defScope (top 33)) := ⟨rfl, rfl, rfl, by decide +kernel, rfl, by decide +kernel, by decide +kernel⟩
theorem okb_quiet_before (c : He.SaysD fa fn K) (X0 : K.In h) (G : h.Ns mainGlobals mg) {fd : FuncData} (F : FunD K d_quiet_before.name d_quiet_before.qual d_quiet_before.params d_quiet_before.body d_quiet_before.scope (d_quiet_before.dvs K) (d_quiet_before.kws K) (He.ga K "quiet_before") fd) : FnOk P w K mg base (L2.CX P w) 8 (He.ga K "quiet_before") fd ["hall", "rank", "tick"] (spN K 3 Sh.quiet_before) := by
  have H_checked := ok_checked (P := P) (w := w) (base := base) c X0 G
  have H_check_tick := ok_check_tick (P := P) (w := w) (base := base) c X0 G
  have H_quiet_among := ok_quiet_among (P := P) (w := w) (base := base) c X0 G
  have H_left_among := ok_left_among (P := P) (w := w) (base := base) c X0 G
  have sc := sc_quiet_before
  refine fn_ok F sc (by decide) (fun cdv A outer s H E hr => ?_)
  exact (ds_cons (ds_set 3 sc.nd (de_callF [] ((H_checked.up (by decide)).pure) hr (He.glo_ok X0 G (c.fact 47 (f := .glo "checked") (by rfl))) (fun _ _ => .nil) (fun s_ => passAt (takes_of rfl rfl rfl rfl) s_) (da_cons (de_var 0) (da_cons (de_var 1) da_nil)) (sCons_len (sCons_len sNil_len)))) (ds_cons (ds_expr (de_callF [] ((H_check_tick.up (by decide)).pure) hr (He.glo_ok X0 G (c.fact 42 (f := .glo "check_tick") (by rfl))) (fun _ _ => .nil) (fun s_ => passAt (takes_of rfl rfl rfl rfl) s_) (da_cons (de_var 2) da_nil) (sCons_len sNil_len))) (ds_one (ds_ret (de_callF [] ((H_quiet_among.up (by decide)).pure) hr (He.glo_ok X0 G (c.fact 45 (f := .glo "quiet_among") (by rfl))) (fun _ _ => .nil) (fun _ => passAt0) (da_cons (de_var 3) (da_cons (de_var 1) (da_cons (de_callF [] ((H_left_among.up (by decide)).pure) hr (He.glo_ok X0 G (c.fact 46 (f := .glo "left_among") (by rfl))) (fun _ _ => .nil) (fun _ => passAt0) (da_cons (de_var 3) (da_cons (de_var 1) (da_cons (de_var 2) da_nil))) (sCons_len (sCons_len (sCons_len sNil_len)))) da_nil))) (sCons_len (sCons_len (sCons_len sNil_len))))))))
theorem ok_quiet_before (c : He.SaysD fa fn K) (X0 : K.In h) (G : h.Ns mainGlobals mg) : Def P w K mg base (L2.CX P w) 8 (He.ga K "quiet_before") ["hall", "rank", "tick"] [] Sh.quiet_before := by
  obtain ⟨fd, F⟩ := c.def_ 22 (d := d_quiet_before) rfl
  exact ⟨⟨fd, [], okb_quiet_before c X0 G F, F.bindsN fun _ _ _ _ _ _ us hl => match us, hl with | [_, _, _], _ => rfl, .nil⟩, F.kp⟩
theorem sc_l_right_4 : FnScope ["_law_spring_here", "_law_hall_here", "_law_rank", "_law_period_here", "_law_tick", "_law_times", "_law_rest", "_law_here", "_law_after", "_law_due", "_law_k", "_law_other", "_law_place"] ["_law_spring_here", "_law_hall_here", "_law_rank", "_law_period_here"] (defScope (top 46)) := ⟨rfl, rfl, rfl, by decide +kernel, rfl, by decide +kernel, by decide +kernel⟩
theorem okb_l_right_4 (c : He.SaysD fa fn K) (X0 : K.In h) (G : h.Ns mainGlobals mg) {fd : FuncData} (F : FunD K d_l_right_4.name d_l_right_4.qual d_l_right_4.params d_l_right_4.body d_l_right_4.scope (d_l_right_4.dvs K) (d_l_right_4.kws K) (He.ga K "_law_right") fd) : FnOk P w K mg base CX0 9 (He.ga K "_law_right") fd ["_law_spring_here", "_law_hall_here", "_law_rank", "_law_period_here"] (spN K 4 Sh.l_right_4) := by
  have H_l_draw := ok_l_draw (P := P) (w := w) (base := base) c X0 G
  have H_left_before := ok_left_before (P := P) (w := w) (base := base) c X0 G
  have H_quiet_before := ok_quiet_before (P := P) (w := w) (base := base) c X0 G
  have H_l_far_counts := ok_l_far_counts (P := P) (w := w) (base := base) c X0 G
  have H_l_scaled := ok_l_scaled (P := P) (w := w) (base := base) c X0 G
  have sc := sc_l_right_4
  refine fn_ok F sc (by decide) (fun cdv A outer s H E hr => ?_)
  exact (ds_cons (ds_set 4 sc.nd (de_callF [] (H_l_draw.up (by decide)) hr (He.glo_ok X0 G (c.fact 51 (f := .glo "_law_draw") (by rfl))) (fun _ _ => .nil) (fun _ => passAt0) (da_cons (de_var 0) (da_cons (de_ix (de_lst (da_cons de_int (da_cons (de_pow de_int de_int) (da_cons (de_pow de_int de_int) da_nil)))) (de_callF [] (H_l_draw.up (by decide)) hr (He.glo_ok X0 G (c.fact 51 (f := .glo "_law_draw") (by rfl))) (fun _ _ => .nil) (fun _ => passAt0) (da_cons (de_var 0) (da_cons de_int da_nil)) (sCons_len (sCons_len sNil_len)))) da_nil)) (sCons_len (sCons_len sNil_len)))) (ds_cons (ds_if (dt_ne (hu_ hr) (de_lst (da_cons (de_callF [] (((H_left_before.up (by decide)).pure).shut) hr (He.glo_ok X0 G (c.fact 48 (f := .glo "left_before") (by rfl))) (fun _ _ => .nil) (fun _ => passAt0) (da_cons (de_var 1) (da_cons (de_var 2) (da_cons (de_var 4) da_nil))) (sCons_len (sCons_len (sCons_len sNil_len)))) (da_cons (de_callF [] (((H_quiet_before.up (by decide)).pure).shut) hr (He.glo_ok X0 G (c.fact 49 (f := .glo "quiet_before") (by rfl))) (fun _ _ => .nil) (fun _ => passAt0) (da_cons (de_var 1) (da_cons (de_var 2) (da_cons (de_var 4) da_nil))) (sCons_len (sCons_len (sCons_len sNil_len)))) da_nil))) (de_callF [] ((H_l_far_counts.up (by decide)).pure) hr (He.glo_ok X0 G (c.fact 60 (f := .glo "_law_far_counts") (by rfl))) (fun _ _ => .nil) (fun _ => passAt0) (da_cons (de_var 1) (da_cons (de_var 2) (da_cons (de_var 3) (da_cons (de_var 4) da_nil)))) (sCons_len (sCons_len (sCons_len (sCons_len sNil_len)))))) (ds_one (ds_ret de_bl)) ds_nil) (ds_cons (ds_set 5 sc.nd (de_add de_int (de_callF [] (H_l_draw.up (by decide)) hr (He.glo_ok X0 G (c.fact 51 (f := .glo "_law_draw") (by rfl))) (fun _ _ => .nil) (fun _ => passAt0) (da_cons (de_var 0) (da_cons (de_pow de_int de_int) da_nil)) (sCons_len (sCons_len sNil_len))))) (ds_cons (ds_set 6 sc.nd (de_callF [] (H_l_draw.up (by decide)) hr (He.glo_ok X0 G (c.fact 51 (f := .glo "_law_draw") (by rfl))) (fun _ _ => .nil) (fun _ => passAt0) (da_cons (de_var 0) (da_cons (de_var 5) da_nil)) (sCons_len (sCons_len sNil_len)))) (ds_cons (ds_set 4 sc.nd (de_mod (de_var 4) (de_pow de_int de_int))) (ds_cons (ds_asg (vs := [7, 8]) (de_tup (da_cons (de_callF [] ((H_l_far_counts.up (by decide)).pure) hr (He.glo_ok X0 G (c.fact 60 (f := .glo "_law_far_counts") (by rfl))) (fun _ _ => .nil) (fun _ => passAt0) (da_cons (de_var 1) (da_cons (de_var 2) (da_cons (de_var 3) (da_cons (de_var 4) da_nil)))) (sCons_len (sCons_len (sCons_len (sCons_len sNil_len))))) (da_cons (de_callF [] ((H_l_far_counts.up (by decide)).pure) hr (He.glo_ok X0 G (c.fact 60 (f := .glo "_law_far_counts") (by rfl))) (fun _ _ => .nil) (fun _ => passAt0) (da_cons (de_var 1) (da_cons (de_var 2) (da_cons (de_var 3) (da_cons (de_add (de_var 4) de_int) da_nil)))) (sCons_len (sCons_len (sCons_len (sCons_len sNil_len))))) da_nil))) (dg_tup (n := 2) rfl (dg_cons (dg_name 7 sc.nd) (dg_cons (dg_name 8 sc.nd) dg_nil)) rfl (pg_tup rfl (dg_cons (dg_name 7 sc.nd) (dg_cons (dg_name 8 sc.nd) dg_nil))) (pg_lst rfl (dg_cons (dg_name 7 sc.nd) (dg_cons (dg_name 8 sc.nd) dg_nil))))) (ds_cons (ds_setLc (X := _) 9 false [("_law_k", 10)] rfl sc.nd (di_rng1 (by rfl) (He.free_ok X0 G (c.fact 76 (f := .free "range") (by rfl))) de_int) (blkOk_by (by kernel_rfl)) (fun _ _ _ _ _ => (dg_name 10 sc.nd)) (fun _ _ _ _ _ => dts_nil) (fun _ _ _ _ _ => (de_add (de_mul (de_ix (de_var 7) (de_var 10)) (de_var 5)) (de_mul (de_var 6) (de_sub (de_ix (de_var 8) (de_var 10)) (de_ix (de_var 7) (de_var 10)))))) (sw_true rfl rfl rfl (by decide +kernel))) (ds_cons (ds_set 11 sc.nd (de_callF [] ((H_l_scaled.up (by decide)).pure) hr (He.glo_ok X0 G (c.fact 56 (f := .glo "_law_scaled") (by rfl))) (fun _ _ => .nil) (fun _ => passAt0) (da_cons (de_var 1) (da_cons (de_var 5) da_nil)) (sCons_len (sCons_len sNil_len)))) (ds_cons (ds_set 12 sc.nd (de_add (de_mul (de_var 4) (de_var 5)) (de_var 6))) (ds_one (ds_ret (de_eq (hu_ hr) (de_lst (da_cons (de_callF [] (((H_left_before.up (by decide)).pure).shut) hr (He.glo_ok X0 G (c.fact 48 (f := .glo "left_before") (by rfl))) (fun _ _ => .nil) (fun _ => passAt0) (da_cons (de_var 11) (da_cons (de_var 2) (da_cons (de_var 12) da_nil))) (sCons_len (sCons_len (sCons_len sNil_len)))) (da_cons (de_callF [] (((H_quiet_before.up (by decide)).pure).shut) hr (He.glo_ok X0 G (c.fact 49 (f := .glo "quiet_before") (by rfl))) (fun _ _ => .nil) (fun _ => passAt0) (da_cons (de_var 11) (da_cons (de_var 2) (da_cons (de_var 12) da_nil))) (sCons_len (sCons_len (sCons_len sNil_len)))) da_nil))) (de_var 9)))))))))))))
theorem ok_l_right_4 (c : He.SaysD fa fn K) (X0 : K.In h) (G : h.Ns mainGlobals mg) : Def P w K mg base CX0 9 (He.ga K "_law_right") ["_law_spring_here", "_law_hall_here", "_law_rank", "_law_period_here"] [] Sh.l_right_4 := by
  obtain ⟨fd, F⟩ := c.def_ 34 (d := d_l_right_4) rfl
  exact ⟨⟨fd, [], okb_l_right_4 c X0 G F, F.bindsN fun _ _ _ _ _ _ us hl => match us, hl with | [_, _, _, _], _ => rfl, .nil⟩, F.kp⟩
theorem sc_law_k12 : FnScope ["_law_script", "_law_spring_here", "_law_turn", "_law_hall_here", "_law_period_here", "_law_rank", "_law_talker"] ["_law_script"] (defScope (top 47)) := ⟨rfl, rfl, rfl, by decide +kernel, rfl, by decide +kernel, by decide +kernel⟩
theorem okb_law_k12 (c : He.SaysD fa fn K) (X0 : K.In h) (G : h.Ns mainGlobals mg) {fd : FuncData} (F : FunD K d_law_k12.name d_law_k12.qual d_law_k12.params d_law_k12.body d_law_k12.scope (d_law_k12.dvs K) (d_law_k12.kws K) (He.ga K "law") fd) : FnOk P w K mg base CX0 10 (He.ga K "law") fd ["_law_script"] (spN K 1 Sh.law_k12) := by
  have H_l_spring := ok_l_spring (P := P) (w := w) (base := base) c X0 G
  have H_l_hall := ok_l_hall (P := P) (w := w) (base := base) c X0 G
  have H_l_draw := ok_l_draw (P := P) (w := w) (base := base) c X0 G
  have H_l_period := ok_l_period (P := P) (w := w) (base := base) c X0 G
  have H_l_right_4 := ok_l_right_4 (P := P) (w := w) (base := base) c X0 G
  have sc := sc_law_k12
  refine fn_ok F sc (by decide) (fun cdv A outer s H E hr => ?_)
  exact (ds_cons (ds_set 1 sc.nd (de_callF [] (H_l_spring.up (by decide)) hr (He.glo_ok X0 G (c.fact 50 (f := .glo "_law_spring") (by rfl))) (fun _ _ => .nil) (fun _ => passAt0) (da_cons (de_var 0) da_nil) (sCons_len sNil_len))) (ds_cons (ds_for (vs := [2]) (passes_of rfl) rfl (di_rng1 (by rfl) (He.free_ok X0 G (c.fact 76 (f := .free "range") (by rfl))) (de_add de_int (de_min2 rfl (by rfl) (He.free_ok X0 G (c.fact 75 (f := .free "min") (by rfl))) (de_len (by rfl) (He.free_ok X0 G (c.fact 72 (f := .free "len") (by rfl))) (de_var 0)) de_int))) (dg_name 2 sc.nd) (ds_cons (ds_set 3 sc.nd (de_callF [] (H_l_hall.up (by decide)) hr (He.glo_ok X0 G (c.fact 53 (f := .glo "_law_hall") (by rfl))) (fun _ _ => .nil) (fun _ => passAt0) (da_cons (de_var 1) (da_cons de_int (da_cons (de_ix (de_lst (da_cons de_int (da_cons de_int da_nil))) (de_callF [] (H_l_draw.up (by decide)) hr (He.glo_ok X0 G (c.fact 51 (f := .glo "_law_draw") (by rfl))) (fun _ _ => .nil) (fun _ => passAt0) (da_cons (de_var 1) (da_cons de_int da_nil)) (sCons_len (sCons_len sNil_len)))) da_nil))) (sCons_len (sCons_len (sCons_len sNil_len))))) (ds_cons (ds_set 4 sc.nd (de_callF [] ((H_l_period.up (by decide)).pure) hr (He.glo_ok X0 G (c.fact 58 (f := .glo "_law_period") (by rfl))) (fun _ _ => .nil) (fun _ => passAt0) (da_cons (de_var 3) (da_cons de_int da_nil)) (sCons_len (sCons_len sNil_len)))) (ds_one (ds_if (dt_isnot (de_var 4) de_non) (ds_one (ds_for (vs := [5]) (passes_of rfl) rfl (di_any (de_add (de_lst (da_cons de_int (da_cons de_int (da_cons (de_add de_int (de_callF [] (H_l_draw.up (by decide)) hr (He.glo_ok X0 G (c.fact 51 (f := .glo "_law_draw") (by rfl))) (fun _ _ => .nil) (fun _ => passAt0) (da_cons (de_var 1) (da_cons de_int da_nil)) (sCons_len (sCons_len sNil_len)))) da_nil)))) (de_lc false [("_law_talker", 6)] rfl sc.nd (di_any (de_var 3)) (blkOk_by (by kernel_rfl)) (fun _ _ _ _ _ => (dg_name 6 sc.nd)) (fun _ _ _ _ _ => dts_nil) (fun _ _ _ _ _ => (de_ix (de_var 6) de_int))))) (dg_name 5 sc.nd) (ds_one (ds_if (dt_not (dt_val (de_callF [] (H_l_right_4.up (by decide)) hr (He.glo_ok X0 G (c.fact 61 (f := .glo "_law_right") (by rfl))) (fun _ _ => .nil) (fun _ => passAt0) (da_cons (de_var 1) (da_cons (de_var 3) (da_cons (de_var 5) (da_cons (de_var 4) da_nil)))) (sCons_len (sCons_len (sCons_len (sCons_len sNil_len))))))) (ds_one (ds_ret de_bl)) ds_nil)))) ds_nil))))) (ds_one (ds_ret de_bl))))
end
def nm0 : List Str := ["_wall", "HushError", "InvalidHall", "InvalidTick", "InvalidRank", "LETTERS", "MAX_NAME", "MAX_TIME", "MAX_RANK", "MAX_TALKS", "MAX_TALKERS", "is_integer", "is_sequence", "is_name", "is_talk", "are_talks", "is_talker", "is_hall", "running_sums", "Schedule", "Member", "checked_hall", "check_rank", "check_tick", "rank_length", "left_index", "quiet_among", "left_among", "checked", "left_before"]
def nm1 : List Str := ["quiet_before", "_law_spring", "_law_draw", "_law_talks", "_law_hall", "_law_nth", "_law_run", "_law_scaled", "_law_key", "_law_period", "_law_counts", "_law_far_counts", "_law_right"]
def nm : List Str := nm0 ++ nm1
abbrev R : PySem.W.OpenRow := PySem.W.OpenLaw.row PySem.Challenge.rw_hushranks_k12_distant_clocks
abbrev hk : PySem.W.Hook := He.hookD 5 fa fn
def ob (s : PySem.W.SharedT) : He.AlD := He.obsDG 5 fa fn (HandSHeadRun.getT s)
theorem ob_eq (s : PySem.W.SharedT) : ob s = hk.obs s.abs := He.obsDG_eq (HandSHeadRun.getT_eq s)
set_option maxHeartbeats 0 in
theorem run (w : World) : HandSHeadRun.RunEq R (PySem.W.view R.prog [47]) hk ob 9000 nm w := by
  intro os
  kernel_rfl
theorem facts {P : Program} {w : World} {K : PySem.W.Frag} {h : Heap} {mg : Str → Option Value} {f : Addr} (X : K.In h) (G : h.Ns mainGlobals mg) (hfa : mg ("law" : Str) = some (.ref f)) (c : He.SaysD fa fn K) :
    ∃ fd : FuncData, (∀ (s : Shared) (v : Value), BindsTo s fd ⟨[v], []⟩ [("_law_script", v)]) ∧ ∀ base : Heap, K.In base → base.Ns mainGlobals mg → FnOk P w K mg base CX0 10 f fd ["_law_script"] (spN K 1 Sh.law_k12) := by
  obtain ⟨fd, F⟩ := c.def_ 35 (d := d_law_k12) rfl
  have e := hfa.symm.trans (He.glo_ok X G (c.fact 62 (f := .glo "law") (by rfl)))
  cases e
  have b := FunD.bindsA (ps := ["_law_script"]) F (fun _ _ _ _ _ _ us hl => (match us, hl with | [_], _ => rfl))
  exact ⟨fd, (fun s v => b s [v] rfl), fun base KB GB => okb_law_k12 c KB GB F⟩
theorem holds_of (hg : ∀ ns : List Int, ns.length ≤ 63 → ∃ h', Sh.law_k12 [.scr (ns.map D.int)] [] = .ok (.bl true) h') : PySem.Challenge.rw_hushranks_k12_distant_clocks.Holds := by
  open PySem PySem.W PySem.Calls PyProof.Rows in
  w_on; o_law
  refine HandSHeadRun.head_any (r := R) (q := PySem.W.view R.prog [47]) (H := hk) (ob := ob) (M := 9000) (loose := nm) (d := HandSHeadRun.topDef R.prog 47) (kwd := []) ob_eq
    (by kernel_rfl) (fun s => by kernel_rfl) run (by kernel_rfl) (by kernel_rfl) (by kernel_rfl) (by rfl) (by first | assumption | decide +kernel) (by decide +kernel) ⟨rfl, rfl, rfl, rfl, rfl, by decide +kernel⟩ ?hw ?hc
  case hw => w_witness2
  case hc =>
    refine L2.walk_ofE (l := PySem.Challenge.rw_hushranks_k12_distant_clocks) (n := 63) (k := 10) (x := "_law_script") (CX := CX0) rfl (by decide) (by kernel_rfl) ⟨rfl, by decide, by decide⟩ ?F (fun _ _ _ _ z => z)
    intro w mg fa h Y G hmg0
    obtain ⟨K, KX, c⟩ := Y
    have hmg : mg ("law" : PySem.Str) = some (.ref fa) := by
      have e : (HandSHeadRun.topDef R.prog 47).name = ("law" : PySem.Str) := by kernel_rfl
      rw [← e]
      exact hmg0
    obtain ⟨fd, hb, hF⟩ := facts (P := (PySem.Challenge.rw_hushranks_k12_distant_clocks).prog) (w := w) KX G hmg c
    exact ⟨K, fd, spN K 1 Sh.law_k12, KX, hb, (fun H a ns hl hO hS => law_sp hg H a ns hl hO hS), hF⟩
end Tk12
end HR
theorem PySem.Challenge.cw_hushranks_k12_distant_clocks_holds : PySem.Challenge.rw_hushranks_k12_distant_clocks.Holds := by
  exact HR.Tk12.holds_of HR.law12
